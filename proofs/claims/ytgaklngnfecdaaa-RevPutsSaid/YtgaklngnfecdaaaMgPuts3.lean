import Derived.Test.YtgaklngnfecdaaaMgPuts2

/-
  Number.
-/
namespace Go.Proofs.Ytgaklngnfecdaaa.Rev
open Go.RowKit Zk Zx
open Oid (idf hexL)
open Tre (nmOk)
set_option linter.unusedVariables false
set_option linter.unusedSimpArgs false

def numR (l : List UInt8) : Value := if numOk l then .tuple #[.int .i64 (numV l : Int), .int .i64 0] else .tuple #[.int .i64 0, .int .i64 12]
theorem g8_48 (l : List UInt8) : g8 l 0 = 48 ↔ l.getD 0 0 = 48 := by
  unfold g8
  constructor
  · intro h
    have h1 : (l.getD 0 0).toNat = 48 := by omega
    exact UInt8.toNat_inj.1 h1
  · intro h
    rw [h]
    rfl
theorem numR_no {l : List UInt8} (h : l.length < 1 ∨ 15 < l.length ∨ (g8 l 0 = 48 ∧ 1 < l.length)) : numR l = .tuple #[.int .i64 0, .int .i64 12] := by
  rw [g8_48] at h
  have : numOk l = false := by
    unfold numOk
    rw [decide_eq_false (fun ⟨h1, h2, h3⟩ => by rcases h with h | h | h; omega; omega; exact h3 h), Bool.false_and]
  rw [numR, this]
  rfl
theorem numR_bad {l : List UInt8} {k : Nat} (hk : k < l.length) (h : g8 l k < 48 ∨ 57 < g8 l k) : numR l = .tuple #[.int .i64 0, .int .i64 12] := by
  have h1 : isD l[k] = false := by
    have e : g8 l k = ((l[k]).toNat : Int) := by simp [g8, List.getD_eq_getElem?_getD, List.getElem?_eq_getElem hk]
    rw [e] at h
    cases hd : isD l[k] with
    | false => rfl
    | true => have := isD_lo hd; omega
  have h2 : l.all isD = false := by
    cases ha : l.all isD with
    | false => rfl
    | true => rw [List.all_eq_true] at ha; rw [ha _ (List.getElem_mem hk)] at h1; cases h1
  have : numOk l = false := by
    unfold numOk
    rw [h2, Bool.and_false]
  rw [numR, this]
  rfl
theorem numR_yes {l : List UInt8} (h1 : 1 ≤ l.length) (h2 : l.length ≤ 15) (h3 : ¬ (g8 l 0 = 48 ∧ 1 < l.length)) (h4 : l.all isD = true) : numR l = .tuple #[.int .i64 (numV l : Int), .int .i64 0] := by
  rw [g8_48] at h3
  have : numOk l = true := by
    unfold numOk
    rw [decide_eq_true ⟨h1, h2, h3⟩, h4]
    rfl
  rw [numR, this]
  rfl
theorem num_step {l : List UInt8} {k : Nat} (hk : k < l.length) (h1 : 48 ≤ g8 l k) (h2 : g8 l k ≤ 57) (ha : (l.take k).all isD = true) : (l.take (k + 1)).all isD = true ∧ (numV (l.take (k + 1)) : Int) = (numV (l.take k) : Int) * 10 + (g8 l k - 48) := by
  have e : g8 l k = ((l[k]).toNat : Int) := by simp [g8, List.getD_eq_getElem?_getD, List.getElem?_eq_getElem hk]
  have e2 : l.take (k + 1) = l.take k ++ [l[k]] := by rw [List.take_add_one, List.getElem?_eq_getElem hk]; rfl
  rw [e] at h1 h2 ⊢
  rw [e2, numV_snoc]
  refine ⟨?_, by omega⟩
  rw [List.all_append, ha]
  have : isD l[k] = true := by
    unfold isD
    rw [decide_eq_true (by omega), decide_eq_true (by omega)]
    rfl
  simp [this]
theorem num_lt {l : List UInt8} {k : Nat} (hl : l.length ≤ 15) (ha : (l.take k).all isD = true) : numV (l.take k) < 1000000000000000 := by
  have h1 := numV_lt _ ha
  have h2 : 10 ^ (l.take k).length ≤ 10 ^ 15 := Nat.pow_le_pow_right (by omega) (by rw [List.length_take]; omega)
  have h3 : (10 : Nat) ^ 15 = 1000000000000000 := by decide
  omega


set_option maxRecDepth 100000 in
theorem number (s : ByteArray) (w0 : World)  :
    Calls Try.prog 16 #[.string s] w0 fun e w' => ∃ u, e = .returned u ∧ Like w0 w' ∧ u = numR s.data.toList := by
  refine enter1 (env := [(0, .string s)]) [.string s] Try.func16 rfl Try.ntmps16 rfl rfl ?_
  have hsz : s.data.toList.length = s.size := by simp
  have S0 := St.start w0 noM
  refine T_seq fun K1 hK1 => ?_
  refine T_region ?_
  refine L_y (y_assign rfl) rfl ?_
  refine L_y (y_assign rfl) rfl ?_
  refine L_nil ?_
  refine hK1 _ _ ?_
  refine T_seq fun K2 hK2 => ?_
  refine T_seq fun K3 hK3 => ?_
  refine T_region ?_
  refine L_y (y_move rfl) rfl ?_
  refine L_y (y_lens Try.underlying9 rfl) rfl ?_
  refine L_y (y_eql rfl rfl) rfl ?_
  refine L_y (y_move rfl) rfl ?_
  refine L_split 9 rfl (fun h9 => ?_) (fun h9 => ?_)
  ·
    refine L_gno rfl rfl rfl ?_
    refine L_gno rfl rfl rfl ?_
    refine L_gno rfl rfl rfl ?_
    refine L_y ((by first | exact y_pickT rfl rfl | exact y_pickF rfl rfl)) rfl ?_
    refine L_y (y_move rfl) rfl ?_
    refine L_gno rfl rfl rfl ?_
    refine L_gno rfl rfl rfl ?_
    refine L_gno rfl rfl rfl ?_
    refine L_gno rfl rfl rfl ?_
    refine L_gnu rfl rfl rfl ?_
    refine L_gnu rfl rfl rfl ?_
    refine L_gnu rfl rfl rfl ?_
    refine L_gno rfl rfl rfl ?_
    refine L_y ((by first | exact y_pickT rfl rfl | exact y_pickF rfl rfl)) rfl ?_
    refine L_nil ?_
    refine hK3 _ _ ?_
    refine T_true rfl ?_
    refine T_seq fun K4 hK4 => ?_
    refine T_region ?_
    refine L_y (y_assign rfl) rfl ?_
    refine L_y (y_assign rfl) rfl ?_
    refine L_nil ?_
    refine hK4 _ _ ?_
    refine T_ret ?_
    repeat (first | with_reducible refine up_then ?_ | with_reducible refine up_in ?_)
    refine ret2 rfl rfl rfl ?_
    exact ⟨_, rfl, S0.like0, (numR_no (by omega)).symm⟩
  ·
    refine L_gyes rfl rfl ?_
    refine L_y (y_move rfl) rfl ?_
    refine L_gyes rfl rfl ?_
    refine L_y (y_lens Try.underlying9 rfl) rfl ?_
    refine L_gyes rfl rfl ?_
    refine L_y (y_gtr rfl rfl) rfl ?_
    refine L_y ((by first | exact y_pickT rfl rfl | exact y_pickF rfl rfl)) rfl ?_
    refine L_y (y_move rfl) rfl ?_
    refine L_split 14 rfl (fun h14 => ?_) (fun h14 => ?_)
    ·
      refine L_gno rfl rfl rfl ?_
      refine L_gno rfl rfl rfl ?_
      refine L_gno rfl rfl rfl ?_
      refine L_gno rfl rfl rfl ?_
      refine L_gnu rfl rfl rfl ?_
      refine L_gnu rfl rfl rfl ?_
      refine L_gnu rfl rfl rfl ?_
      refine L_gno rfl rfl rfl ?_
      refine L_y ((by first | exact y_pickT rfl rfl | exact y_pickF rfl rfl)) rfl ?_
      refine L_nil ?_
      refine hK3 _ _ ?_
      refine T_true rfl ?_
      refine T_seq fun K5 hK5 => ?_
      refine T_region ?_
      refine L_y (y_assign rfl) rfl ?_
      refine L_y (y_assign rfl) rfl ?_
      refine L_nil ?_
      refine hK5 _ _ ?_
      refine T_ret ?_
      repeat (first | with_reducible refine up_then ?_ | with_reducible refine up_in ?_)
      refine ret2 rfl rfl rfl ?_
      exact ⟨_, rfl, S0.like0, (numR_no (by omega)).symm⟩
    ·
      refine L_gyes rfl rfl ?_
      refine L_y (y_move rfl) rfl ?_
      refine L_gyes rfl rfl ?_
      refine L_y (y_idxS Try.underlying9 rfl rfl inferInstance (by omega)) rfl ?_
      refine L_gyes rfl rfl ?_
      refine L_y (y_eql rfl rfl) rfl ?_
      refine L_gyes rfl rfl ?_
      refine L_y (y_move rfl) rfl ?_
      refine L_split 18 rfl (fun h18 => ?_) (fun h18 => ?_)
      ·
        refine L_gyes rfl rfl ?_
        refine L_y (y_move rfl) rfl ?_
        refine L_gyes rfl rfl ?_
        refine L_y (y_lens Try.underlying9 rfl) rfl ?_
        refine L_gyes rfl rfl ?_
        refine L_y (y_gtr rfl rfl) rfl ?_
        refine L_gyes rfl rfl ?_
        refine L_y ((by first | exact y_pickT rfl rfl | exact y_pickF rfl rfl)) rfl ?_
        refine L_y ((by first | exact y_pickT rfl rfl | exact y_pickF rfl rfl)) rfl ?_
        refine L_nil ?_
        refine hK3 _ _ ?_
        refine T_cond rfl (fun h23 => ?_) (fun h23 => ?_)
        ·
          refine T_seq fun K6 hK6 => ?_
          refine T_region ?_
          refine L_y (y_assign rfl) rfl ?_
          refine L_y (y_assign rfl) rfl ?_
          refine L_nil ?_
          refine hK6 _ _ ?_
          refine T_ret ?_
          repeat (first | with_reducible refine up_then ?_ | with_reducible refine up_in ?_)
          refine ret2 rfl rfl rfl ?_
          exact ⟨_, rfl, S0.like0, (numR_no (by omega)).symm⟩
        ·
          refine T_skip ?_
          refine hK2 _ _ ?_
          refine T_seq fun K7 hK7 => ?_
          refine T_region ?_
          refine L_y (y_assign rfl) rfl ?_
          refine L_nil ?_
          refine hK7 _ _ ?_
          refine T_seq fun K8 hK8 => ?_
          refine T_seq fun K9 hK9 => ?_
          refine T_region ?_
          refine L_y (y_move rfl) rfl ?_
          refine L_y (y_lens Try.underlying9 rfl) rfl ?_
          refine L_y (y_move rfl) rfl ?_
          refine L_nil ?_
          refine hK9 _ _ ?_
          refine T_block ?_
          refine T_loop1 [(0, _), (25, _)] (fun (k : Nat) => [(4, .int .i64 (numV (s.data.toList.take k) : Int)), (26, .int .i64 (k : Int))]) (fun (k : Nat) => s.size - k) (fun (k : Nat) (w : World) => (k ≤ s.size ∧ (s.data.toList.take k).all isD = true) ∧ St w0 noM [] w) 0 (Sub.cons rfl (by first | rfl | exact congrArg (Value.int _) (by omega)) (Sub.cons rfl (by first | rfl | exact congrArg (Value.int _) (by omega)) (Sub.nil _))) (Sub.cons rfl rfl (Sub.cons rfl rfl (Sub.nil _))) ?_ ?_
          ·
            exact ⟨⟨by omega, by simp⟩, S0⟩
          ·
            intro k w4 hrel
            obtain ⟨⟨hk, hall⟩, S4⟩ := hrel
            have hnv := num_lt (k := k) (by omega) hall
            refine T_seq fun K10 hK10 => ?_
            refine T_region ?_
            refine L_y (y_lss rfl rfl) rfl ?_
            refine L_nil ?_
            refine hK10 _ _ ?_
            refine T_seq fun K11 hK11 => ?_
            refine T_cond rfl (fun h27 => ?_) (fun h27 => ?_)
            ·
              refine T_skip ?_
              refine hK11 _ _ ?_
              refine T_seq fun K12 hK12 => ?_
              refine T_block ?_
              refine T_seq fun K13 hK13 => ?_
              refine T_region ?_
              refine L_y (y_move rfl) rfl ?_
              refine L_y (y_assign rfl) rfl ?_
              refine L_nil ?_
              refine hK13 _ _ ?_
              refine T_seq fun K14 hK14 => ?_
              refine T_seq fun K15 hK15 => ?_
              refine T_region ?_
              refine L_y (y_move rfl) rfl ?_
              refine L_y (y_move rfl) rfl ?_
              refine L_y (y_idxS Try.underlying9 rfl rfl inferInstance (by omega)) rfl ?_
              refine L_y (y_lss rfl rfl) rfl ?_
              refine L_y (y_move rfl) rfl ?_
              refine L_split 33 rfl (fun h33 => ?_) (fun h33 => ?_)
              ·
                refine L_gno rfl rfl rfl ?_
                refine L_gno rfl rfl rfl ?_
                refine L_gno rfl rfl rfl ?_
                refine L_gno rfl rfl rfl ?_
                refine L_y ((by first | exact y_pickT rfl rfl | exact y_pickF rfl rfl)) rfl ?_
                refine L_nil ?_
                refine hK15 _ _ ?_
                refine T_true rfl ?_
                refine T_seq fun K16 hK16 => ?_
                refine T_region ?_
                refine L_y (y_assign rfl) rfl ?_
                refine L_y (y_assign rfl) rfl ?_
                refine L_nil ?_
                refine hK16 _ _ ?_
                refine T_ret ?_
                repeat (first | with_reducible refine up_then ?_ | with_reducible refine up_in ?_)
                refine ret2 rfl rfl rfl ?_
                exact ⟨_, rfl, S4.like0, (numR_bad (k := k) (by omega) (by omega)).symm⟩
              ·
                refine L_gyes rfl rfl ?_
                refine L_y (y_move rfl) rfl ?_
                refine L_gyes rfl rfl ?_
                refine L_y (y_move rfl) rfl ?_
                refine L_gyes rfl rfl ?_
                refine L_y (y_idxS Try.underlying9 rfl rfl inferInstance (by omega)) rfl ?_
                refine L_gyes rfl rfl ?_
                refine L_y (y_gtr rfl rfl) rfl ?_
                refine L_y ((by first | exact y_pickT rfl rfl | exact y_pickF rfl rfl)) rfl ?_
                refine L_nil ?_
                refine hK15 _ _ ?_
                refine T_cond rfl (fun h38 => ?_) (fun h38 => ?_)
                ·
                  refine T_seq fun K17 hK17 => ?_
                  refine T_region ?_
                  refine L_y (y_assign rfl) rfl ?_
                  refine L_y (y_assign rfl) rfl ?_
                  refine L_nil ?_
                  refine hK17 _ _ ?_
                  refine T_ret ?_
                  repeat (first | with_reducible refine up_then ?_ | with_reducible refine up_in ?_)
                  refine ret2 rfl rfl rfl ?_
                  exact ⟨_, rfl, S4.like0, (numR_bad (k := k) (by omega) (by omega)).symm⟩
                ·
                  refine T_skip ?_
                  refine hK14 _ _ ?_
                  refine T_region ?_
                  refine L_y (y_move rfl) rfl ?_
                  refine L_y (y_mul rfl rfl (i64w (by omega))) rfl ?_
                  refine L_y (y_move rfl) rfl ?_
                  refine L_y (y_move rfl) rfl ?_
                  refine L_y (y_idxS Try.underlying9 rfl rfl inferInstance (by omega)) rfl ?_
                  refine L_y (y_sub rfl rfl (u8w (by omega))) rfl ?_
                  refine L_y (y_conv is5 Try.underlying3 rfl (i64w (by omega))) rfl ?_
                  refine L_y (y_add rfl rfl (i64w (by omega))) rfl ?_
                  refine L_y (y_assign rfl) rfl ?_
                  refine L_nil ?_
                  refine hK12 _ _ ?_
                  refine T_region ?_
                  refine L_y (y_add rfl rfl (i64w (by omega))) rfl ?_
                  refine L_y (y_move rfl) rfl ?_
                  refine L_nil ?_
                  have hst := num_step (l := s.data.toList) (k := k) (by omega) (by omega) (by omega) hall
                  refine ⟨k + 1, by omega, ⟨⟨by omega, hst.1⟩, S4⟩, ?_⟩
                  exact (Sub.cons rfl (congrArg (Value.int _) (by first | (rw [hst.2]; done) | (rw [hst.2]; omega))) (Sub.cons rfl (by first | rfl | exact congrArg (Value.int _) (by omega)) (Sub.cons rfl rfl (Sub.cons rfl rfl (Sub.nil _)))))
            ·
              refine T_exit ?_
              refine hK8 _ _ ?_
              refine T_seq fun K18 hK18 => ?_
              refine T_region ?_
              refine L_y (y_move rfl) rfl ?_
              refine L_y (y_assign rfl) rfl ?_
              refine L_y (y_assign rfl) rfl ?_
              refine L_nil ?_
              refine hK18 _ _ ?_
              refine T_ret ?_
              repeat (first | with_reducible refine up_then ?_ | with_reducible refine up_in ?_)
              refine ret2 rfl rfl rfl ?_
              have hke : k = s.data.toList.length := by omega
              rw [hke, List.take_length] at hall hnv
              exact ⟨_, rfl, S4.like0, by rw [numR_yes (by omega) (by omega) (by omega) hall, hke, List.take_length]⟩
      ·
        refine L_gno rfl rfl rfl ?_
        refine L_gno rfl rfl rfl ?_
        refine L_gno rfl rfl rfl ?_
        refine L_gyes rfl rfl ?_
        refine L_y ((by first | exact y_pickT rfl rfl | exact y_pickF rfl rfl)) rfl ?_
        refine L_y ((by first | exact y_pickT rfl rfl | exact y_pickF rfl rfl)) rfl ?_
        refine L_nil ?_
        refine hK3 _ _ ?_
        refine T_false rfl ?_
        refine T_skip ?_
        refine hK2 _ _ ?_
        refine T_seq fun K19 hK19 => ?_
        refine T_region ?_
        refine L_y (y_assign rfl) rfl ?_
        refine L_nil ?_
        refine hK19 _ _ ?_
        refine T_seq fun K20 hK20 => ?_
        refine T_seq fun K21 hK21 => ?_
        refine T_region ?_
        refine L_y (y_move rfl) rfl ?_
        refine L_y (y_lens Try.underlying9 rfl) rfl ?_
        refine L_y (y_move rfl) rfl ?_
        refine L_nil ?_
        refine hK21 _ _ ?_
        refine T_block ?_
        refine T_loop1 [(0, _), (25, _)] (fun (k : Nat) => [(4, .int .i64 (numV (s.data.toList.take k) : Int)), (26, .int .i64 (k : Int))]) (fun (k : Nat) => s.size - k) (fun (k : Nat) (w : World) => (k ≤ s.size ∧ (s.data.toList.take k).all isD = true) ∧ St w0 noM [] w) 0 (Sub.cons rfl (by first | rfl | exact congrArg (Value.int _) (by omega)) (Sub.cons rfl (by first | rfl | exact congrArg (Value.int _) (by omega)) (Sub.nil _))) (Sub.cons rfl rfl (Sub.cons rfl rfl (Sub.nil _))) ?_ ?_
        ·
          exact ⟨⟨by omega, by simp⟩, S0⟩
        ·
          intro k w6 hrel
          obtain ⟨⟨hk, hall⟩, S6⟩ := hrel
          have hnv := num_lt (k := k) (by omega) hall
          refine T_seq fun K22 hK22 => ?_
          refine T_region ?_
          refine L_y (y_lss rfl rfl) rfl ?_
          refine L_nil ?_
          refine hK22 _ _ ?_
          refine T_seq fun K23 hK23 => ?_
          refine T_cond rfl (fun h27 => ?_) (fun h27 => ?_)
          ·
            refine T_skip ?_
            refine hK23 _ _ ?_
            refine T_seq fun K24 hK24 => ?_
            refine T_block ?_
            refine T_seq fun K25 hK25 => ?_
            refine T_region ?_
            refine L_y (y_move rfl) rfl ?_
            refine L_y (y_assign rfl) rfl ?_
            refine L_nil ?_
            refine hK25 _ _ ?_
            refine T_seq fun K26 hK26 => ?_
            refine T_seq fun K27 hK27 => ?_
            refine T_region ?_
            refine L_y (y_move rfl) rfl ?_
            refine L_y (y_move rfl) rfl ?_
            refine L_y (y_idxS Try.underlying9 rfl rfl inferInstance (by omega)) rfl ?_
            refine L_y (y_lss rfl rfl) rfl ?_
            refine L_y (y_move rfl) rfl ?_
            refine L_split 33 rfl (fun h33 => ?_) (fun h33 => ?_)
            ·
              refine L_gno rfl rfl rfl ?_
              refine L_gno rfl rfl rfl ?_
              refine L_gno rfl rfl rfl ?_
              refine L_gno rfl rfl rfl ?_
              refine L_y ((by first | exact y_pickT rfl rfl | exact y_pickF rfl rfl)) rfl ?_
              refine L_nil ?_
              refine hK27 _ _ ?_
              refine T_true rfl ?_
              refine T_seq fun K28 hK28 => ?_
              refine T_region ?_
              refine L_y (y_assign rfl) rfl ?_
              refine L_y (y_assign rfl) rfl ?_
              refine L_nil ?_
              refine hK28 _ _ ?_
              refine T_ret ?_
              repeat (first | with_reducible refine up_then ?_ | with_reducible refine up_in ?_)
              refine ret2 rfl rfl rfl ?_
              exact ⟨_, rfl, S6.like0, (numR_bad (k := k) (by omega) (by omega)).symm⟩
            ·
              refine L_gyes rfl rfl ?_
              refine L_y (y_move rfl) rfl ?_
              refine L_gyes rfl rfl ?_
              refine L_y (y_move rfl) rfl ?_
              refine L_gyes rfl rfl ?_
              refine L_y (y_idxS Try.underlying9 rfl rfl inferInstance (by omega)) rfl ?_
              refine L_gyes rfl rfl ?_
              refine L_y (y_gtr rfl rfl) rfl ?_
              refine L_y ((by first | exact y_pickT rfl rfl | exact y_pickF rfl rfl)) rfl ?_
              refine L_nil ?_
              refine hK27 _ _ ?_
              refine T_cond rfl (fun h38 => ?_) (fun h38 => ?_)
              ·
                refine T_seq fun K29 hK29 => ?_
                refine T_region ?_
                refine L_y (y_assign rfl) rfl ?_
                refine L_y (y_assign rfl) rfl ?_
                refine L_nil ?_
                refine hK29 _ _ ?_
                refine T_ret ?_
                repeat (first | with_reducible refine up_then ?_ | with_reducible refine up_in ?_)
                refine ret2 rfl rfl rfl ?_
                exact ⟨_, rfl, S6.like0, (numR_bad (k := k) (by omega) (by omega)).symm⟩
              ·
                refine T_skip ?_
                refine hK26 _ _ ?_
                refine T_region ?_
                refine L_y (y_move rfl) rfl ?_
                refine L_y (y_mul rfl rfl (i64w (by omega))) rfl ?_
                refine L_y (y_move rfl) rfl ?_
                refine L_y (y_move rfl) rfl ?_
                refine L_y (y_idxS Try.underlying9 rfl rfl inferInstance (by omega)) rfl ?_
                refine L_y (y_sub rfl rfl (u8w (by omega))) rfl ?_
                refine L_y (y_conv is5 Try.underlying3 rfl (i64w (by omega))) rfl ?_
                refine L_y (y_add rfl rfl (i64w (by omega))) rfl ?_
                refine L_y (y_assign rfl) rfl ?_
                refine L_nil ?_
                refine hK24 _ _ ?_
                refine T_region ?_
                refine L_y (y_add rfl rfl (i64w (by omega))) rfl ?_
                refine L_y (y_move rfl) rfl ?_
                refine L_nil ?_
                have hst := num_step (l := s.data.toList) (k := k) (by omega) (by omega) (by omega) hall
                refine ⟨k + 1, by omega, ⟨⟨by omega, hst.1⟩, S6⟩, ?_⟩
                exact (Sub.cons rfl (congrArg (Value.int _) (by first | (rw [hst.2]; done) | (rw [hst.2]; omega))) (Sub.cons rfl (by first | rfl | exact congrArg (Value.int _) (by omega)) (Sub.cons rfl rfl (Sub.cons rfl rfl (Sub.nil _)))))
          ·
            refine T_exit ?_
            refine hK20 _ _ ?_
            refine T_seq fun K30 hK30 => ?_
            refine T_region ?_
            refine L_y (y_move rfl) rfl ?_
            refine L_y (y_assign rfl) rfl ?_
            refine L_y (y_assign rfl) rfl ?_
            refine L_nil ?_
            refine hK30 _ _ ?_
            refine T_ret ?_
            repeat (first | with_reducible refine up_then ?_ | with_reducible refine up_in ?_)
            refine ret2 rfl rfl rfl ?_
            have hke : k = s.data.toList.length := by omega
            rw [hke, List.take_length] at hall hnv
            exact ⟨_, rfl, S6.like0, by rw [numR_yes (by omega) (by omega) (by omega) hall, hke, List.take_length]⟩


set_option maxRecDepth 100000 in
theorem rnumber (s : ByteArray) (w0 : World)  :
    Calls Try.prog 17 #[.string s] w0 fun e w' => ∃ u, e = .returned u ∧ Like w0 w' ∧ u = numR s.data.toList := by
  refine enter1 (env := [(0, .string s)]) [.string s] Try.func17 rfl Try.ntmps17 rfl rfl ?_
  have hsz : s.data.toList.length = s.size := by simp
  have S0 := St.start w0 noM
  refine T_seq fun K1 hK1 => ?_
  refine T_region ?_
  refine L_y (y_assign rfl) rfl ?_
  refine L_y (y_assign rfl) rfl ?_
  refine L_nil ?_
  refine hK1 _ _ ?_
  refine T_seq fun K2 hK2 => ?_
  refine T_seq fun K3 hK3 => ?_
  refine T_region ?_
  refine L_y (y_move rfl) rfl ?_
  refine L_y (y_lens Try.underlying9 rfl) rfl ?_
  refine L_y (y_lss rfl rfl) rfl ?_
  refine L_y (y_move rfl) rfl ?_
  refine L_split 9 rfl (fun h9 => ?_) (fun h9 => ?_)
  ·
    refine L_gno rfl rfl rfl ?_
    refine L_gno rfl rfl rfl ?_
    refine L_gno rfl rfl rfl ?_
    refine L_y ((by first | exact y_pickT rfl rfl | exact y_pickF rfl rfl)) rfl ?_
    refine L_y (y_move rfl) rfl ?_
    refine L_gno rfl rfl rfl ?_
    refine L_gno rfl rfl rfl ?_
    refine L_gno rfl rfl rfl ?_
    refine L_gno rfl rfl rfl ?_
    refine L_gnu rfl rfl rfl ?_
    refine L_gnu rfl rfl rfl ?_
    refine L_gnu rfl rfl rfl ?_
    refine L_gno rfl rfl rfl ?_
    refine L_y ((by first | exact y_pickT rfl rfl | exact y_pickF rfl rfl)) rfl ?_
    refine L_nil ?_
    refine hK3 _ _ ?_
    refine T_true rfl ?_
    refine T_seq fun K4 hK4 => ?_
    refine T_region ?_
    refine L_y (y_assign rfl) rfl ?_
    refine L_y (y_assign rfl) rfl ?_
    refine L_nil ?_
    refine hK4 _ _ ?_
    refine T_ret ?_
    repeat (first | with_reducible refine up_then ?_ | with_reducible refine up_in ?_)
    refine ret2 rfl rfl rfl ?_
    exact ⟨_, rfl, S0.like0, (numR_no (by omega)).symm⟩
  ·
    refine L_gyes rfl rfl ?_
    refine L_y (y_move rfl) rfl ?_
    refine L_gyes rfl rfl ?_
    refine L_y (y_lens Try.underlying9 rfl) rfl ?_
    refine L_gyes rfl rfl ?_
    refine L_y (y_gtr rfl rfl) rfl ?_
    refine L_y ((by first | exact y_pickT rfl rfl | exact y_pickF rfl rfl)) rfl ?_
    refine L_y (y_move rfl) rfl ?_
    refine L_split 14 rfl (fun h14 => ?_) (fun h14 => ?_)
    ·
      refine L_gno rfl rfl rfl ?_
      refine L_gno rfl rfl rfl ?_
      refine L_gno rfl rfl rfl ?_
      refine L_gno rfl rfl rfl ?_
      refine L_gnu rfl rfl rfl ?_
      refine L_gnu rfl rfl rfl ?_
      refine L_gnu rfl rfl rfl ?_
      refine L_gno rfl rfl rfl ?_
      refine L_y ((by first | exact y_pickT rfl rfl | exact y_pickF rfl rfl)) rfl ?_
      refine L_nil ?_
      refine hK3 _ _ ?_
      refine T_true rfl ?_
      refine T_seq fun K5 hK5 => ?_
      refine T_region ?_
      refine L_y (y_assign rfl) rfl ?_
      refine L_y (y_assign rfl) rfl ?_
      refine L_nil ?_
      refine hK5 _ _ ?_
      refine T_ret ?_
      repeat (first | with_reducible refine up_then ?_ | with_reducible refine up_in ?_)
      refine ret2 rfl rfl rfl ?_
      exact ⟨_, rfl, S0.like0, (numR_no (by omega)).symm⟩
    ·
      refine L_gyes rfl rfl ?_
      refine L_y (y_move rfl) rfl ?_
      refine L_gyes rfl rfl ?_
      refine L_y (y_idxS Try.underlying9 rfl rfl inferInstance (by omega)) rfl ?_
      refine L_gyes rfl rfl ?_
      refine L_y (y_eql rfl rfl) rfl ?_
      refine L_gyes rfl rfl ?_
      refine L_y (y_move rfl) rfl ?_
      refine L_split 18 rfl (fun h18 => ?_) (fun h18 => ?_)
      ·
        refine L_gyes rfl rfl ?_
        refine L_y (y_move rfl) rfl ?_
        refine L_gyes rfl rfl ?_
        refine L_y (y_lens Try.underlying9 rfl) rfl ?_
        refine L_gyes rfl rfl ?_
        refine L_y (y_gtr rfl rfl) rfl ?_
        refine L_gyes rfl rfl ?_
        refine L_y ((by first | exact y_pickT rfl rfl | exact y_pickF rfl rfl)) rfl ?_
        refine L_y ((by first | exact y_pickT rfl rfl | exact y_pickF rfl rfl)) rfl ?_
        refine L_nil ?_
        refine hK3 _ _ ?_
        refine T_cond rfl (fun h23 => ?_) (fun h23 => ?_)
        ·
          refine T_seq fun K6 hK6 => ?_
          refine T_region ?_
          refine L_y (y_assign rfl) rfl ?_
          refine L_y (y_assign rfl) rfl ?_
          refine L_nil ?_
          refine hK6 _ _ ?_
          refine T_ret ?_
          repeat (first | with_reducible refine up_then ?_ | with_reducible refine up_in ?_)
          refine ret2 rfl rfl rfl ?_
          exact ⟨_, rfl, S0.like0, (numR_no (by omega)).symm⟩
        ·
          refine T_skip ?_
          refine hK2 _ _ ?_
          refine T_seq fun K7 hK7 => ?_
          refine T_region ?_
          refine L_y (y_assign rfl) rfl ?_
          refine L_nil ?_
          refine hK7 _ _ ?_
          refine T_seq fun K8 hK8 => ?_
          refine T_seq fun K9 hK9 => ?_
          refine T_region ?_
          refine L_y (y_assign rfl) rfl ?_
          refine L_nil ?_
          refine hK9 _ _ ?_
          refine T_block ?_
          refine T_loop1 [(0, _)] (fun (k : Nat) => [(4, .int .i64 (numV (s.data.toList.take k) : Int)), (5, .int .i64 (k : Int))]) (fun (k : Nat) => s.size - k) (fun (k : Nat) (w : World) => (k ≤ s.size ∧ (s.data.toList.take k).all isD = true) ∧ St w0 noM [] w) 0 (Sub.cons rfl (by first | rfl | exact congrArg (Value.int _) (by omega)) (Sub.cons rfl (by first | rfl | exact congrArg (Value.int _) (by omega)) (Sub.nil _))) (Sub.cons rfl rfl (Sub.nil _)) ?_ ?_
          ·
            exact ⟨⟨by omega, by simp⟩, S0⟩
          ·
            intro k w4 hrel
            obtain ⟨⟨hk, hall⟩, S4⟩ := hrel
            have hnv := num_lt (k := k) (by omega) hall
            refine T_seq fun K10 hK10 => ?_
            refine T_seq fun K11 hK11 => ?_
            refine T_region ?_
            refine L_y (y_move rfl) rfl ?_
            refine L_y (y_move rfl) rfl ?_
            refine L_y (y_lens Try.underlying9 rfl) rfl ?_
            refine L_y (y_lss rfl rfl) rfl ?_
            refine L_nil ?_
            refine hK11 _ _ ?_
            refine T_cond rfl (fun h27 => ?_) (fun h27 => ?_)
            ·
              refine T_skip ?_
              refine hK10 _ _ ?_
              refine T_seq fun K12 hK12 => ?_
              refine T_block ?_
              refine T_seq fun K13 hK13 => ?_
              refine T_seq fun K14 hK14 => ?_
              refine T_region ?_
              refine L_y (y_move rfl) rfl ?_
              refine L_y (y_move rfl) rfl ?_
              refine L_y (y_idxS Try.underlying9 rfl rfl inferInstance (by omega)) rfl ?_
              refine L_y (y_lss rfl rfl) rfl ?_
              refine L_y (y_move rfl) rfl ?_
              refine L_split 34 rfl (fun h34 => ?_) (fun h34 => ?_)
              ·
                refine L_gno rfl rfl rfl ?_
                refine L_gno rfl rfl rfl ?_
                refine L_gno rfl rfl rfl ?_
                refine L_gno rfl rfl rfl ?_
                refine L_y ((by first | exact y_pickT rfl rfl | exact y_pickF rfl rfl)) rfl ?_
                refine L_nil ?_
                refine hK14 _ _ ?_
                refine T_true rfl ?_
                refine T_seq fun K15 hK15 => ?_
                refine T_region ?_
                refine L_y (y_assign rfl) rfl ?_
                refine L_y (y_assign rfl) rfl ?_
                refine L_nil ?_
                refine hK15 _ _ ?_
                refine T_ret ?_
                repeat (first | with_reducible refine up_then ?_ | with_reducible refine up_in ?_)
                refine ret2 rfl rfl rfl ?_
                exact ⟨_, rfl, S4.like0, (numR_bad (k := k) (by omega) (by omega)).symm⟩
              ·
                refine L_gyes rfl rfl ?_
                refine L_y (y_move rfl) rfl ?_
                refine L_gyes rfl rfl ?_
                refine L_y (y_move rfl) rfl ?_
                refine L_gyes rfl rfl ?_
                refine L_y (y_idxS Try.underlying9 rfl rfl inferInstance (by omega)) rfl ?_
                refine L_gyes rfl rfl ?_
                refine L_y (y_gtr rfl rfl) rfl ?_
                refine L_y ((by first | exact y_pickT rfl rfl | exact y_pickF rfl rfl)) rfl ?_
                refine L_nil ?_
                refine hK14 _ _ ?_
                refine T_cond rfl (fun h39 => ?_) (fun h39 => ?_)
                ·
                  refine T_seq fun K16 hK16 => ?_
                  refine T_region ?_
                  refine L_y (y_assign rfl) rfl ?_
                  refine L_y (y_assign rfl) rfl ?_
                  refine L_nil ?_
                  refine hK16 _ _ ?_
                  refine T_ret ?_
                  repeat (first | with_reducible refine up_then ?_ | with_reducible refine up_in ?_)
                  refine ret2 rfl rfl rfl ?_
                  exact ⟨_, rfl, S4.like0, (numR_bad (k := k) (by omega) (by omega)).symm⟩
                ·
                  refine T_skip ?_
                  refine hK13 _ _ ?_
                  refine T_region ?_
                  refine L_y (y_move rfl) rfl ?_
                  refine L_y (y_mul rfl rfl (i64w (by omega))) rfl ?_
                  refine L_y (y_move rfl) rfl ?_
                  refine L_y (y_move rfl) rfl ?_
                  refine L_y (y_idxS Try.underlying9 rfl rfl inferInstance (by omega)) rfl ?_
                  refine L_y (y_conv is5 Try.underlying3 rfl (i64w (by omega))) rfl ?_
                  refine L_y (y_add rfl rfl (i64w (by omega))) rfl ?_
                  refine L_y (y_sub rfl rfl (i64w (by omega))) rfl ?_
                  refine L_y (y_assign rfl) rfl ?_
                  refine L_nil ?_
                  refine hK12 _ _ ?_
                  refine T_region ?_
                  refine L_y (y_move rfl) rfl ?_
                  refine L_y (y_add rfl rfl (i64w (by omega))) rfl ?_
                  refine L_y (y_assign rfl) rfl ?_
                  refine L_nil ?_
                  have hst := num_step (l := s.data.toList) (k := k) (by omega) (by omega) (by omega) hall
                  refine ⟨k + 1, by omega, ⟨⟨by omega, hst.1⟩, S4⟩, ?_⟩
                  exact (Sub.cons rfl (congrArg (Value.int _) (by first | (rw [hst.2]; done) | (rw [hst.2]; omega))) (Sub.cons rfl (by first | rfl | exact congrArg (Value.int _) (by omega)) (Sub.cons rfl rfl (Sub.nil _))))
            ·
              refine T_exit ?_
              refine hK8 _ _ ?_
              refine T_seq fun K17 hK17 => ?_
              refine T_region ?_
              refine L_y (y_move rfl) rfl ?_
              refine L_y (y_assign rfl) rfl ?_
              refine L_y (y_assign rfl) rfl ?_
              refine L_nil ?_
              refine hK17 _ _ ?_
              refine T_ret ?_
              repeat (first | with_reducible refine up_then ?_ | with_reducible refine up_in ?_)
              refine ret2 rfl rfl rfl ?_
              have hke : k = s.data.toList.length := by omega
              rw [hke, List.take_length] at hall hnv
              exact ⟨_, rfl, S4.like0, by rw [numR_yes (by omega) (by omega) (by omega) hall, hke, List.take_length]⟩
      ·
        refine L_gno rfl rfl rfl ?_
        refine L_gno rfl rfl rfl ?_
        refine L_gno rfl rfl rfl ?_
        refine L_gyes rfl rfl ?_
        refine L_y ((by first | exact y_pickT rfl rfl | exact y_pickF rfl rfl)) rfl ?_
        refine L_y ((by first | exact y_pickT rfl rfl | exact y_pickF rfl rfl)) rfl ?_
        refine L_nil ?_
        refine hK3 _ _ ?_
        refine T_false rfl ?_
        refine T_skip ?_
        refine hK2 _ _ ?_
        refine T_seq fun K18 hK18 => ?_
        refine T_region ?_
        refine L_y (y_assign rfl) rfl ?_
        refine L_nil ?_
        refine hK18 _ _ ?_
        refine T_seq fun K19 hK19 => ?_
        refine T_seq fun K20 hK20 => ?_
        refine T_region ?_
        refine L_y (y_assign rfl) rfl ?_
        refine L_nil ?_
        refine hK20 _ _ ?_
        refine T_block ?_
        refine T_loop1 [(0, _)] (fun (k : Nat) => [(4, .int .i64 (numV (s.data.toList.take k) : Int)), (5, .int .i64 (k : Int))]) (fun (k : Nat) => s.size - k) (fun (k : Nat) (w : World) => (k ≤ s.size ∧ (s.data.toList.take k).all isD = true) ∧ St w0 noM [] w) 0 (Sub.cons rfl (by first | rfl | exact congrArg (Value.int _) (by omega)) (Sub.cons rfl (by first | rfl | exact congrArg (Value.int _) (by omega)) (Sub.nil _))) (Sub.cons rfl rfl (Sub.nil _)) ?_ ?_
        ·
          exact ⟨⟨by omega, by simp⟩, S0⟩
        ·
          intro k w6 hrel
          obtain ⟨⟨hk, hall⟩, S6⟩ := hrel
          have hnv := num_lt (k := k) (by omega) hall
          refine T_seq fun K21 hK21 => ?_
          refine T_seq fun K22 hK22 => ?_
          refine T_region ?_
          refine L_y (y_move rfl) rfl ?_
          refine L_y (y_move rfl) rfl ?_
          refine L_y (y_lens Try.underlying9 rfl) rfl ?_
          refine L_y (y_lss rfl rfl) rfl ?_
          refine L_nil ?_
          refine hK22 _ _ ?_
          refine T_cond rfl (fun h27 => ?_) (fun h27 => ?_)
          ·
            refine T_skip ?_
            refine hK21 _ _ ?_
            refine T_seq fun K23 hK23 => ?_
            refine T_block ?_
            refine T_seq fun K24 hK24 => ?_
            refine T_seq fun K25 hK25 => ?_
            refine T_region ?_
            refine L_y (y_move rfl) rfl ?_
            refine L_y (y_move rfl) rfl ?_
            refine L_y (y_idxS Try.underlying9 rfl rfl inferInstance (by omega)) rfl ?_
            refine L_y (y_lss rfl rfl) rfl ?_
            refine L_y (y_move rfl) rfl ?_
            refine L_split 34 rfl (fun h34 => ?_) (fun h34 => ?_)
            ·
              refine L_gno rfl rfl rfl ?_
              refine L_gno rfl rfl rfl ?_
              refine L_gno rfl rfl rfl ?_
              refine L_gno rfl rfl rfl ?_
              refine L_y ((by first | exact y_pickT rfl rfl | exact y_pickF rfl rfl)) rfl ?_
              refine L_nil ?_
              refine hK25 _ _ ?_
              refine T_true rfl ?_
              refine T_seq fun K26 hK26 => ?_
              refine T_region ?_
              refine L_y (y_assign rfl) rfl ?_
              refine L_y (y_assign rfl) rfl ?_
              refine L_nil ?_
              refine hK26 _ _ ?_
              refine T_ret ?_
              repeat (first | with_reducible refine up_then ?_ | with_reducible refine up_in ?_)
              refine ret2 rfl rfl rfl ?_
              exact ⟨_, rfl, S6.like0, (numR_bad (k := k) (by omega) (by omega)).symm⟩
            ·
              refine L_gyes rfl rfl ?_
              refine L_y (y_move rfl) rfl ?_
              refine L_gyes rfl rfl ?_
              refine L_y (y_move rfl) rfl ?_
              refine L_gyes rfl rfl ?_
              refine L_y (y_idxS Try.underlying9 rfl rfl inferInstance (by omega)) rfl ?_
              refine L_gyes rfl rfl ?_
              refine L_y (y_gtr rfl rfl) rfl ?_
              refine L_y ((by first | exact y_pickT rfl rfl | exact y_pickF rfl rfl)) rfl ?_
              refine L_nil ?_
              refine hK25 _ _ ?_
              refine T_cond rfl (fun h39 => ?_) (fun h39 => ?_)
              ·
                refine T_seq fun K27 hK27 => ?_
                refine T_region ?_
                refine L_y (y_assign rfl) rfl ?_
                refine L_y (y_assign rfl) rfl ?_
                refine L_nil ?_
                refine hK27 _ _ ?_
                refine T_ret ?_
                repeat (first | with_reducible refine up_then ?_ | with_reducible refine up_in ?_)
                refine ret2 rfl rfl rfl ?_
                exact ⟨_, rfl, S6.like0, (numR_bad (k := k) (by omega) (by omega)).symm⟩
              ·
                refine T_skip ?_
                refine hK24 _ _ ?_
                refine T_region ?_
                refine L_y (y_move rfl) rfl ?_
                refine L_y (y_mul rfl rfl (i64w (by omega))) rfl ?_
                refine L_y (y_move rfl) rfl ?_
                refine L_y (y_move rfl) rfl ?_
                refine L_y (y_idxS Try.underlying9 rfl rfl inferInstance (by omega)) rfl ?_
                refine L_y (y_conv is5 Try.underlying3 rfl (i64w (by omega))) rfl ?_
                refine L_y (y_add rfl rfl (i64w (by omega))) rfl ?_
                refine L_y (y_sub rfl rfl (i64w (by omega))) rfl ?_
                refine L_y (y_assign rfl) rfl ?_
                refine L_nil ?_
                refine hK23 _ _ ?_
                refine T_region ?_
                refine L_y (y_move rfl) rfl ?_
                refine L_y (y_add rfl rfl (i64w (by omega))) rfl ?_
                refine L_y (y_assign rfl) rfl ?_
                refine L_nil ?_
                have hst := num_step (l := s.data.toList) (k := k) (by omega) (by omega) (by omega) hall
                refine ⟨k + 1, by omega, ⟨⟨by omega, hst.1⟩, S6⟩, ?_⟩
                exact (Sub.cons rfl (congrArg (Value.int _) (by first | (rw [hst.2]; done) | (rw [hst.2]; omega))) (Sub.cons rfl (by first | rfl | exact congrArg (Value.int _) (by omega)) (Sub.cons rfl rfl (Sub.nil _))))
          ·
            refine T_exit ?_
            refine hK19 _ _ ?_
            refine T_seq fun K28 hK28 => ?_
            refine T_region ?_
            refine L_y (y_move rfl) rfl ?_
            refine L_y (y_assign rfl) rfl ?_
            refine L_y (y_assign rfl) rfl ?_
            refine L_nil ?_
            refine hK28 _ _ ?_
            refine T_ret ?_
            repeat (first | with_reducible refine up_then ?_ | with_reducible refine up_in ?_)
            refine ret2 rfl rfl rfl ?_
            have hke : k = s.data.toList.length := by omega
            rw [hke, List.take_length] at hall hnv
            exact ⟨_, rfl, S6.like0, by rw [numR_yes (by omega) (by omega) (by omega) hall, hke, List.take_length]⟩


set_option maxRecDepth 100000 in
theorem time_ (n : Int) (w0 : World)  :
    Calls Try.prog 60 #[.int .i64 n] w0 fun e w' => ∃ u, e = .returned u ∧ Like w0 w' ∧ u = .bool (decide (0 ≤ n ∧ n ≤ 1099511627776)) := by
  refine enter1 (env := [(0, .int .i64 n)]) [.int .i64 n] Try.func60 rfl Try.ntmps60 rfl rfl ?_
  have S0 := St.start w0 noM
  refine T_seq fun K1 hK1 => ?_
  refine T_region ?_
  refine L_y (y_assign rfl) rfl ?_
  refine L_nil ?_
  refine hK1 _ _ ?_
  refine T_seq fun K2 hK2 => ?_
  refine T_region ?_
  refine L_y (y_move rfl) rfl ?_
  refine L_y (y_geq rfl rfl) rfl ?_
  refine L_y (y_move rfl) rfl ?_
  refine L_split 5 rfl (fun h5 => ?_) (fun h5 => ?_)
  ·
    refine L_gyes rfl rfl ?_
    refine L_y (y_move rfl) rfl ?_
    refine L_gyes rfl rfl ?_
    refine L_y (y_leq rfl rfl) rfl ?_
    refine L_y ((by first | exact y_pickT rfl rfl | exact y_pickF rfl rfl)) rfl ?_
    refine L_y (y_assign rfl) rfl ?_
    refine L_nil ?_
    refine hK2 _ _ ?_
    refine T_ret ?_
    repeat (first | with_reducible refine up_then ?_ | with_reducible refine up_in ?_)
    refine ret1 rfl rfl ?_
    exact ⟨_, rfl, S0.like0, by first | exact congrArg Value.bool (decide_eq_decide.2 (by omega)) | exact congrArg Value.bool (decide_eq_false (by omega)).symm⟩
  ·
    refine L_gno rfl rfl rfl ?_
    refine L_gno rfl rfl rfl ?_
    refine L_y ((by first | exact y_pickT rfl rfl | exact y_pickF rfl rfl)) rfl ?_
    refine L_y (y_assign rfl) rfl ?_
    refine L_nil ?_
    refine hK2 _ _ ?_
    refine T_ret ?_
    repeat (first | with_reducible refine up_then ?_ | with_reducible refine up_in ?_)
    refine ret1 rfl rfl ?_
    exact ⟨_, rfl, S0.like0, by first | exact congrArg Value.bool (decide_eq_decide.2 (by omega)) | exact congrArg Value.bool (decide_eq_false (by omega)).symm⟩
end Go.Proofs.Ytgaklngnfecdaaa.Rev


/-
  Check.
-/
namespace Go.Proofs.Ytgaklngnfecdaaa.Rev
open Go.RowKit Zk Zx
open Oid (idf hexL ris ris_ne idf_len)
open Tre (nmOk)
set_option linter.unusedVariables false
set_option linter.unusedSimpArgs false

/-- A commit. -/
structure Cm where
  tr : Oid.Id
  A : Option Addr
  n : Nat
  c : Nat
  ps : List Oid.Id
  au : ByteArray
  tm : Int
  tx : ByteArray
def cmf (x : Cm) : List Value := idf x.tr ++ [.slice x.A x.n x.c, .string x.au, .int .i64 x.tm, .string x.tx]
theorem cmf_len (x : Cm) : (cmf x).length = 36 := by simp [cmf, idf_len]
theorem cm_tr (x : Cm) : ((cmf x).toArray.toList.drop 0).take 32 = idf x.tr ∧ (idf x.tr).length = 32 := ⟨by rw [List.drop_zero]; simp [cmf, List.take_append, idf_len], idf_len _⟩
theorem cm_at (x : Cm) (k : Nat) : (cmf x).toArray[32 + k]? = [Value.slice x.A x.n x.c, .string x.au, .int .i64 x.tm, .string x.tx][k]? := by
  rw [List.getElem?_toArray, cmf, List.getElem?_append_right (by rw [idf_len]; omega), idf_len]
  congr 1
  omega
theorem cm32 (x : Cm) : (cmf x).toArray[32]? = some (.slice x.A x.n x.c) := cm_at x 0
theorem cm33 (x : Cm) : (cmf x).toArray[33]? = some (.string x.au) := cm_at x 1
theorem cm34 (x : Cm) : (cmf x).toArray[34]? = some (.int .i64 x.tm) := cm_at x 2
theorem cm35 (x : Cm) : (cmf x).toArray[35]? = some (.string x.tx) := cm_at x 3
theorem cm_whole (x : Cm) : ((cmf x).toArray.toList.drop 0).take 36 = cmf x ∧ (cmf x).length = 36 := ⟨by rw [List.drop_zero]; exact List.take_of_length_le (by have := cmf_len x; simp only [] at this ⊢; omega), cmf_len x⟩
/-- What Check answers. -/
def chk (x : Cm) : Int := if 6 < x.n ∨ 400 < x.tx.size then 3 else if ¬ x.ps.Nodup then 17 else if nmOk x.au = false then 15 else if x.tm < 0 ∨ 1099511627776 < x.tm then 2 else 0
theorem nodup_le {α : Type} [DecidableEq α] : ∀ (a b : List α), a.Nodup → (∀ x ∈ a, x ∈ b) → a.length ≤ b.length
  | [], b, _, _ => Nat.zero_le _
  | x :: a, b, hn, h => by
    rw [List.nodup_cons] at hn
    have hx := h x List.mem_cons_self
    have ih := nodup_le a (b.erase x) hn.2 fun y hy => (List.mem_erase_of_ne (fun e => by subst e; exact hn.1 hy)).2 (h y (List.mem_cons_of_mem _ hy))
    rw [List.length_erase_of_mem hx] at ih
    have := List.length_pos_of_mem hx
    rw [List.length_cons]
    omega
theorem shorter {α : Type} [DecidableEq α] : ∀ (l : List α), ¬ l.Nodup → ∃ m : List α, m.length < l.length ∧ ∀ z ∈ l, z ∈ m
  | [], h => absurd List.nodup_nil h
  | x :: l, h => by
    by_cases hx : x ∈ l
    · exact ⟨l, by simp, fun z hz => by rcases List.mem_cons.1 hz with rfl | hz; exact hx; exact hz⟩
    · obtain ⟨m, h1, h2⟩ := shorter l (fun hn => h (List.nodup_cons.2 ⟨hx, hn⟩))
      exact ⟨x :: m, by simp; exact h1, fun z hz => by rcases List.mem_cons.1 hz with rfl | hz; exact List.mem_cons_self; exact List.mem_cons_of_mem _ (h2 z hz)⟩
theorem ris_nodup {s : List Oid.Id} (h : ris s = true) : s.Nodup := by
  unfold List.Nodup
  rw [List.pairwise_iff_getElem]
  exact fun i j hi hj hij => ris_ne h (List.getElem?_eq_getElem hi) (List.getElem?_eq_getElem hj) (by omega)
theorem twice_iff {s l : List Oid.Id} (hr : ris s = true) (hm : ∀ z, z ∈ s ↔ z ∈ l) : s.length < l.length ↔ ¬ l.Nodup := by
  have hs := ris_nodup hr
  constructor
  · intro h hn
    have := nodup_le l s hn fun z hz => (hm z).2 hz
    omega
  · intro h
    obtain ⟨m, h1, h2⟩ := shorter l h
    have := nodup_le s m hs fun z hz => h2 z ((hm z).1 hz)
    omega
theorem take_nodup {l : List Oid.Id} {k : Nat} {x : Oid.Id} (hx : l[k]? = some x) (h : (l.take k).Nodup) (hn : ∀ i y, i < k → l[i]? = some y → y ≠ x) : (l.take (k + 1)).Nodup := by
  rw [List.take_add_one, hx]
  show (l.take k ++ [x]).Nodup
  rw [List.nodup_append]
  refine ⟨h, by simp, fun a ha b hb e => ?_⟩
  obtain rfl := List.mem_singleton.1 hb
  obtain ⟨i, hi, he⟩ := List.getElem_of_mem ha
  rw [List.length_take] at hi
  exact hn i a (by omega) (by rw [← he, List.getElem_take]; exact List.getElem?_eq_getElem (by omega)) e
theorem not_nodup {l : List Oid.Id} {i k : Nat} {x : Oid.Id} (hi : l[i]? = some x) (hk : l[k]? = some x) (h : i < k) : ¬ l.Nodup := fun hn => by
  unfold List.Nodup at hn
  rw [List.pairwise_iff_getElem] at hn
  obtain ⟨h1, h2⟩ := List.getElem?_eq_some_iff.1 hi
  obtain ⟨h3, h4⟩ := List.getElem?_eq_some_iff.1 hk
  exact hn i k h1 h3 h (by rw [h2, h4])


set_option maxRecDepth 100000 in
theorem check (x : Cm) (w0 : World) (hps : Rs w0 32 x.A x.n x.c (x.ps.flatMap idf)) :
    Calls Try.prog 19 #[.agg (cmf x).toArray] w0 fun e w' => ∃ u, e = .returned u ∧ Like w0 w' ∧ u = .int .i64 (chk x) := by
  refine enter1 (env := [(0, .agg (cmf x).toArray)]) [.agg (cmf x).toArray] Try.func19 rfl Try.ntmps19 rfl rfl ?_
  have hpn : x.n = x.ps.length := Oid.ids_n hps
  have S0 := St.start w0 noM
  refine T_seq fun K1 hK1 => ?_
  refine T_region ?_
  refine L_o (o_box rfl S0 rfl fun b1 w1 hb1 S1 => ?_)
  refine L_y (y_assign rfl) rfl ?_
  refine L_nil ?_
  refine hK1 _ _ ?_
  refine T_seq fun K2 hK2 => ?_
  refine T_block ?_
  refine T_seq fun K3 hK3 => ?_
  refine T_region ?_
  refine L_y (y_fieldA 32 Try.underlying26 rfl sz24 rfl rfl rfl) rfl ?_
  refine L_y (y_ldc Try.underlying24 rfl rfl (((S1.blk 0 rfl).cell _).trans (cm32 x))) rfl ?_
  refine L_y (y_len Try.underlying24 rfl) rfl ?_
  refine L_y (y_gtr rfl rfl) rfl ?_
  refine L_y (y_move rfl) rfl ?_
  refine L_split 8 rfl (fun h8 => ?_) (fun h8 => ?_)
  ·
    refine L_gno rfl rfl rfl ?_
    refine L_gno rfl rfl rfl ?_
    refine L_gno rfl rfl rfl ?_
    refine L_gno rfl rfl rfl ?_
    refine L_y ((by first | exact y_pickT rfl rfl | exact y_pickF rfl rfl)) rfl ?_
    refine L_y (y_assign rfl) rfl ?_
    refine L_nil ?_
    refine hK3 _ _ ?_
    refine T_true rfl ?_
    refine T_seq fun K4 hK4 => ?_
    refine T_region ?_
    refine L_y (y_assign rfl) rfl ?_
    refine L_nil ?_
    refine hK4 _ _ ?_
    refine T_ret ?_
    repeat (first | with_reducible refine up_then ?_ | with_reducible refine up_in ?_)
    refine ret1 rfl rfl ?_
    exact ⟨_, rfl, S1.like0, by unfold chk; first | rw [if_pos (by omega)] | rw [if_neg (by omega), if_pos (by assumption)] | rw [if_neg (by omega), if_neg hnd, if_pos hnm] | rw [if_neg (by omega), if_neg hnd, if_neg hnm, if_pos htm] | rw [if_neg (by omega), if_neg hnd, if_neg hnm, if_neg htm]⟩
  ·
    refine L_gyes rfl rfl ?_
    refine L_y (y_fieldA 35 Try.underlying26 rfl sz9 rfl rfl rfl) rfl ?_
    refine L_gyes rfl rfl ?_
    refine L_y (y_ldc Try.underlying9 rfl rfl (((S1.blk 0 rfl).cell _).trans (cm35 x))) rfl ?_
    refine L_gyes rfl rfl ?_
    refine L_y (y_lens Try.underlying9 rfl) rfl ?_
    refine L_gyes rfl rfl ?_
    refine L_y (y_gtr rfl rfl) rfl ?_
    refine L_y ((by first | exact y_pickT rfl rfl | exact y_pickF rfl rfl)) rfl ?_
    refine L_y (y_assign rfl) rfl ?_
    refine L_nil ?_
    refine hK3 _ _ ?_
    refine T_cond rfl (fun h3 => ?_) (fun h3 => ?_)
    ·
      refine T_seq fun K5 hK5 => ?_
      refine T_region ?_
      refine L_y (y_assign rfl) rfl ?_
      refine L_nil ?_
      refine hK5 _ _ ?_
      refine T_ret ?_
      repeat (first | with_reducible refine up_then ?_ | with_reducible refine up_in ?_)
      refine ret1 rfl rfl ?_
      exact ⟨_, rfl, S1.like0, by unfold chk; first | rw [if_pos (by omega)] | rw [if_neg (by omega), if_pos (by assumption)] | rw [if_neg (by omega), if_neg hnd, if_pos hnm] | rw [if_neg (by omega), if_neg hnd, if_neg hnm, if_pos htm] | rw [if_neg (by omega), if_neg hnd, if_neg hnm, if_neg htm]⟩
    ·
      refine T_seq fun K6 hK6 => ?_
      refine T_drawnL [(0, true), (1, true), (4, true), (5, true), (6, true), (2, false), (3, true), (7, true), (8, true)] hmix (by kernel_rfl) fun w3 l3 => ?_
      have S3 := S1.like l3
      refine DL_y rfl (y_fieldA 32 Try.underlying26 rfl sz24 rfl rfl rfl) rfl ?_
      refine DL_y rfl (y_ldc Try.underlying24 rfl rfl (((S3.blk 0 rfl).cell _).trans (cm32 x))) rfl ?_
      refine DL_y rfl (y_fieldA 32 Try.underlying26 rfl sz24 rfl rfl rfl) rfl ?_
      refine DL_y rfl (y_ldc Try.underlying24 rfl rfl (((S3.blk 0 rfl).cell _).trans (cm32 x))) rfl ?_
      refine DL_y rfl (y_len Try.underlying24 rfl) rfl ?_
      refine DL_o rfl (o_call Try.func58 rfl rfl (Oid.psorted x.A x.n x.c x.ps w3 (S3.rd hps) (by omega)) rfl rfl ?_)
      rintro e4 w4 ⟨v4, rfl, l4, A', m', c', s, rfl, hs, hri, hmem⟩
      refine ⟨_, rfl, l4, ?_⟩
      have S4 := S3.like l4
      have hti := twice_iff hri hmem
      have hsn : m' = s.length := Oid.ids_n hs
      have q4 := l4
      refine DL_y rfl (y_len Try.underlying24 rfl) rfl ?_
      refine DL_y rfl (y_lss rfl rfl) rfl ?_
      refine DL_y rfl (y_assign rfl) rfl ?_
      refine DL_nil ?_
      refine hK6 _ _ ?_
      refine T_cond rfl (fun h14 => ?_) (fun h14 => ?_)
      ·
        have hnd : ¬ x.ps.Nodup := hti.1 (by omega)
        refine T_seq fun K7 hK7 => ?_
        refine T_region ?_
        refine L_y (y_assign rfl) rfl ?_
        refine L_nil ?_
        refine hK7 _ _ ?_
        refine T_ret ?_
        repeat (first | with_reducible refine up_then ?_ | with_reducible refine up_in ?_)
        refine ret1 rfl rfl ?_
        exact ⟨_, rfl, S4.like0, by unfold chk; first | rw [if_pos (by omega)] | rw [if_neg (by omega), if_pos (by assumption)] | rw [if_neg (by omega), if_neg hnd, if_pos hnm] | rw [if_neg (by omega), if_neg hnd, if_neg hnm, if_pos htm] | rw [if_neg (by omega), if_neg hnd, if_neg hnm, if_neg htm]⟩
      ·
        have hnd : ¬ ¬ x.ps.Nodup := fun h => by have := hti.2 h; omega
        refine T_seq fun K8 hK8 => ?_
        refine T_region ?_
        refine L_y (y_fieldA 33 Try.underlying26 rfl sz9 rfl rfl rfl) rfl ?_
        refine L_y (y_ldc Try.underlying9 rfl rfl (((S4.blk 0 rfl).cell _).trans (cm33 x))) rfl ?_
        refine L_o (o_call Try.func59 rfl rfl (Tre.pname x.au w4) rfl rfl ?_)
        rintro e5 w5 ⟨v5, rfl, l5, rfl⟩
        refine ⟨_, rfl, ?_⟩
        have S5 := S4.like l5
        refine L_y ((by first | exact y_notD rfl | exact y_not rfl)) rfl ?_
        refine L_y (y_assign rfl) rfl ?_
        refine L_nil ?_
        refine hK8 _ _ ?_
        refine T_condB rfl (fun h23 => ?_) (fun h23 => ?_)
        ·
          have hnm : nmOk x.au = false := by simpa using h23
          refine T_seq fun K9 hK9 => ?_
          refine T_region ?_
          refine L_y (y_assign rfl) rfl ?_
          refine L_nil ?_
          refine hK9 _ _ ?_
          refine T_ret ?_
          repeat (first | with_reducible refine up_then ?_ | with_reducible refine up_in ?_)
          refine ret1 rfl rfl ?_
          exact ⟨_, rfl, S5.like0, by unfold chk; first | rw [if_pos (by omega)] | rw [if_neg (by omega), if_pos (by assumption)] | rw [if_neg (by omega), if_neg hnd, if_pos hnm] | rw [if_neg (by omega), if_neg hnd, if_neg hnm, if_pos htm] | rw [if_neg (by omega), if_neg hnd, if_neg hnm, if_neg htm]⟩
        ·
          have hnm : ¬ nmOk x.au = false := by simpa using h23
          refine T_seq fun K10 hK10 => ?_
          refine T_region ?_
          refine L_y (y_fieldA 34 Try.underlying26 rfl sz3 rfl rfl rfl) rfl ?_
          refine L_y (y_ldc Try.underlying3 rfl rfl (((S5.blk 0 rfl).cell _).trans (cm34 x))) rfl ?_
          refine L_o (o_call Try.func60 rfl rfl (time_ x.tm w5) rfl rfl ?_)
          rintro e6 w6 ⟨v6, rfl, l6, rfl⟩
          refine ⟨_, rfl, ?_⟩
          have S6 := S5.like l6
          refine L_y ((by first | exact y_notD rfl | exact y_not rfl)) rfl ?_
          refine L_y (y_assign rfl) rfl ?_
          refine L_nil ?_
          refine hK10 _ _ ?_
          refine T_condB rfl (fun h28 => ?_) (fun h28 => ?_)
          ·
            have htm : x.tm < 0 ∨ 1099511627776 < x.tm := by simpa using h28
            refine T_seq fun K11 hK11 => ?_
            refine T_region ?_
            refine L_y (y_assign rfl) rfl ?_
            refine L_nil ?_
            refine hK11 _ _ ?_
            refine T_ret ?_
            repeat (first | with_reducible refine up_then ?_ | with_reducible refine up_in ?_)
            refine ret1 rfl rfl ?_
            exact ⟨_, rfl, S6.like0, by unfold chk; first | rw [if_pos (by omega)] | rw [if_neg (by omega), if_pos (by assumption)] | rw [if_neg (by omega), if_neg hnd, if_pos hnm] | rw [if_neg (by omega), if_neg hnd, if_neg hnm, if_pos htm] | rw [if_neg (by omega), if_neg hnd, if_neg hnm, if_neg htm]⟩
          ·
            have htm : ¬ (x.tm < 0 ∨ 1099511627776 < x.tm) := by simpa using h28
            refine T_skip ?_
            refine hK2 _ _ ?_
            refine T_seq fun K12 hK12 => ?_
            refine T_region ?_
            refine L_y (y_assign rfl) rfl ?_
            refine L_nil ?_
            refine hK12 _ _ ?_
            refine T_ret ?_
            repeat (first | with_reducible refine up_then ?_ | with_reducible refine up_in ?_)
            refine ret1 rfl rfl ?_
            exact ⟨_, rfl, S6.like0, by unfold chk; first | rw [if_pos (by omega)] | rw [if_neg (by omega), if_pos (by assumption)] | rw [if_neg (by omega), if_neg hnd, if_pos hnm] | rw [if_neg (by omega), if_neg hnd, if_neg hnm, if_pos htm] | rw [if_neg (by omega), if_neg hnd, if_neg hnm, if_neg htm]⟩
end Go.Proofs.Ytgaklngnfecdaaa.Rev


/-
  The document: Check.
-/
namespace Go.Proofs.Ytgaklngnfecdaaa.Rev
open Go.RowKit Zk Zx
open Oid (idf hexL ris ris_ne idf_len)
open Tre (nmOk)
set_option linter.unusedVariables false
set_option linter.unusedSimpArgs false

set_option maxRecDepth 100000 in
theorem rcheck (x : Cm) (w0 : World) (hps : Rs w0 32 x.A x.n x.c (x.ps.flatMap idf)) :
    Calls Try.prog 20 #[.agg (cmf x).toArray] w0 fun e w' => ∃ u, e = .returned u ∧ Like w0 w' ∧ u = .int .i64 (chk x) := by
  refine enter1 (env := [(0, .agg (cmf x).toArray)]) [.agg (cmf x).toArray] Try.func20 rfl Try.ntmps20 rfl rfl ?_
  have hpn : x.n = x.ps.length := Oid.ids_n hps
  have S0 := St.start w0 noM
  refine T_seq fun K1 hK1 => ?_
  refine T_region ?_
  refine L_o (o_box rfl S0 rfl fun b1 w1 hb1 S1 => ?_)
  refine L_y (y_assign rfl) rfl ?_
  refine L_nil ?_
  refine hK1 _ _ ?_
  refine T_seq fun K2 hK2 => ?_
  refine T_seq fun K3 hK3 => ?_
  refine T_region ?_
  refine L_y (y_fieldA 32 Try.underlying26 rfl sz24 rfl rfl rfl) rfl ?_
  refine L_y (y_ldc Try.underlying24 rfl rfl (((S1.blk 0 rfl).cell _).trans (cm32 x))) rfl ?_
  refine L_y (y_len Try.underlying24 rfl) rfl ?_
  refine L_y (y_gtr rfl rfl) rfl ?_
  refine L_y (y_move rfl) rfl ?_
  refine L_split 9 rfl (fun h9 => ?_) (fun h9 => ?_)
  ·
    refine L_gno rfl rfl rfl ?_
    refine L_gno rfl rfl rfl ?_
    refine L_gno rfl rfl rfl ?_
    refine L_gno rfl rfl rfl ?_
    refine L_y ((by first | exact y_pickT rfl rfl | exact y_pickF rfl rfl)) rfl ?_
    refine L_nil ?_
    refine hK3 _ _ ?_
    refine T_true rfl ?_
    refine T_seq fun K4 hK4 => ?_
    refine T_region ?_
    refine L_y (y_assign rfl) rfl ?_
    refine L_nil ?_
    refine hK4 _ _ ?_
    refine T_ret ?_
    repeat (first | with_reducible refine up_then ?_ | with_reducible refine up_in ?_)
    refine ret1 rfl rfl ?_
    exact ⟨_, rfl, S1.like0, by unfold chk; first | rw [if_pos (by omega)] | rw [if_neg (by omega), if_pos (by assumption)] | rw [if_neg (by omega), if_neg hnd, if_pos hnm] | rw [if_neg (by omega), if_neg hnd, if_neg hnm, if_pos htm] | rw [if_neg (by omega), if_neg hnd, if_neg hnm, if_neg htm]⟩
  ·
    refine L_gyes rfl rfl ?_
    refine L_y (y_fieldA 35 Try.underlying26 rfl sz9 rfl rfl rfl) rfl ?_
    refine L_gyes rfl rfl ?_
    refine L_y (y_ldc Try.underlying9 rfl rfl (((S1.blk 0 rfl).cell _).trans (cm35 x))) rfl ?_
    refine L_gyes rfl rfl ?_
    refine L_y (y_lens Try.underlying9 rfl) rfl ?_
    refine L_gyes rfl rfl ?_
    refine L_y (y_gtr rfl rfl) rfl ?_
    refine L_y ((by first | exact y_pickT rfl rfl | exact y_pickF rfl rfl)) rfl ?_
    refine L_nil ?_
    refine hK3 _ _ ?_
    refine T_cond rfl (fun h14 => ?_) (fun h14 => ?_)
    ·
      refine T_seq fun K5 hK5 => ?_
      refine T_region ?_
      refine L_y (y_assign rfl) rfl ?_
      refine L_nil ?_
      refine hK5 _ _ ?_
      refine T_ret ?_
      repeat (first | with_reducible refine up_then ?_ | with_reducible refine up_in ?_)
      refine ret1 rfl rfl ?_
      exact ⟨_, rfl, S1.like0, by unfold chk; first | rw [if_pos (by omega)] | rw [if_neg (by omega), if_pos (by assumption)] | rw [if_neg (by omega), if_neg hnd, if_pos hnm] | rw [if_neg (by omega), if_neg hnd, if_neg hnm, if_pos htm] | rw [if_neg (by omega), if_neg hnd, if_neg hnm, if_neg htm]⟩
    ·
      refine T_skip ?_
      refine hK2 _ _ ?_
      refine T_seq fun K6 hK6 => ?_
      refine T_seq fun K7 hK7 => ?_
      refine T_region ?_
      refine L_y (y_assign rfl) rfl ?_
      refine L_nil ?_
      refine hK7 _ _ ?_
      refine T_block ?_
      refine T_loop1 [(1, _)] (fun (k : Nat) => [(3, .int .i64 (k : Int))]) (fun (k : Nat) => x.ps.length - k) (fun (k : Nat) (w : World) => (k ≤ x.ps.length ∧ (x.ps.take k).Nodup) ∧ St w0 noM [blk b1 26 (cmf x).toArray] w) 0 (Sub.cons rfl (by first | rfl | exact congrArg (Value.int _) (by omega)) (Sub.nil _)) (Sub.cons rfl rfl (Sub.nil _)) ?_ ?_
      ·
        exact ⟨⟨by omega, by simp⟩, S1⟩
      ·
        intro k w3 hrel
        obtain ⟨⟨hk, hnk⟩, S3⟩ := hrel
        refine T_seq fun K8 hK8 => ?_
        refine T_seq fun K9 hK9 => ?_
        refine T_region ?_
        refine L_y (y_move rfl) rfl ?_
        refine L_y (y_fieldA 32 Try.underlying26 rfl sz24 rfl rfl rfl) rfl ?_
        refine L_y (y_ldc Try.underlying24 rfl rfl (((S3.blk 0 rfl).cell _).trans (cm32 x))) rfl ?_
        refine L_y (y_len Try.underlying24 rfl) rfl ?_
        refine L_y (y_lss rfl rfl) rfl ?_
        refine L_nil ?_
        refine hK9 _ _ ?_
        refine T_cond rfl (fun h19 => ?_) (fun h19 => ?_)
        ·
          obtain ⟨px, hpx⟩ : ∃ px, x.ps[k]? = some px := ⟨_, List.getElem?_eq_getElem (by omega)⟩
          refine T_skip ?_
          refine hK8 _ _ ?_
          refine T_seq fun K10 hK10 => ?_
          refine T_block ?_
          refine T_seq fun K11 hK11 => ?_
          refine T_region ?_
          refine L_y (y_assign rfl) rfl ?_
          refine L_nil ?_
          refine hK11 _ _ ?_
          refine T_block ?_
          refine T_loop1 [(1, _), (3, _)] (fun (j : Nat) => [(4, .int .i64 (j : Int))]) (fun (j : Nat) => k - j) (fun (j : Nat) (w : World) => (j ≤ k ∧ ∀ i y, i < j → x.ps[i]? = some y → y ≠ px) ∧ St w0 noM [blk b1 26 (cmf x).toArray] w) 0 (Sub.cons rfl (by first | rfl | exact congrArg (Value.int _) (by omega)) (Sub.nil _)) (Sub.cons rfl rfl (Sub.cons rfl rfl (Sub.nil _))) ?_ ?_
          ·
            exact ⟨⟨by omega, fun i y hi => by omega⟩, S3⟩
          ·
            intro j w4 hrel
            obtain ⟨⟨hj, hne⟩, S4⟩ := hrel
            refine T_seq fun K12 hK12 => ?_
            refine T_seq fun K13 hK13 => ?_
            refine T_region ?_
            refine L_y (y_move rfl) rfl ?_
            refine L_y (y_move rfl) rfl ?_
            refine L_y (y_lss rfl rfl) rfl ?_
            refine L_nil ?_
            refine hK13 _ _ ?_
            refine T_cond rfl (fun h24 => ?_) (fun h24 => ?_)
            ·
              obtain ⟨y, hy⟩ : ∃ y, x.ps[j]? = some y := ⟨_, List.getElem?_eq_getElem (by omega)⟩
              refine T_skip ?_
              refine hK12 _ _ ?_
              refine T_seq fun K14 hK14 => ?_
              refine T_block ?_
              refine T_seq fun K15 hK15 => ?_
              refine T_drawnL [(0, true), (1, true), (2, true), (3, true), (4, true), (5, true), (6, true), (7, true), (8, true), (9, true), (10, true)] hmix (by kernel_rfl) fun w5 l5 => ?_
              have S5 := S4.like l5
              refine DL_y rfl (y_fieldA 32 Try.underlying26 rfl sz24 rfl rfl rfl) rfl ?_
              refine DL_y rfl (y_ldc Try.underlying24 rfl rfl (((S5.blk 0 rfl).cell _).trans (cm32 x))) rfl ?_
              refine DL_y rfl (y_move rfl) rfl ?_
              refine DL_y rfl (y_idx Try.underlying24 sz23 rfl rfl (S5.rd hps) inferInstance (by omega)) rfl ?_
              refine DL_y rfl (y_ldp (f := idf) idf_len Try.underlying23 rfl sz23 rfl (S5.rd hps) (by omega) hy) rfl ?_
              refine DL_y rfl (y_fieldA 32 Try.underlying26 rfl sz24 rfl rfl rfl) rfl ?_
              refine DL_y rfl (y_ldc Try.underlying24 rfl rfl (((S5.blk 0 rfl).cell _).trans (cm32 x))) rfl ?_
              refine DL_y rfl (y_move rfl) rfl ?_
              refine DL_y rfl (y_idx Try.underlying24 sz23 rfl rfl (S5.rd hps) inferInstance (by omega)) rfl ?_
              refine DL_y rfl (y_ldp (f := idf) idf_len Try.underlying23 rfl sz23 rfl (S5.rd hps) (by omega) hpx) rfl ?_
              refine DL_y rfl (y_eqB Try.underlying23 Try.underlying5 sz5 (by kernel_rfl) rfl rfl (Oid.Id.h _) (Oid.Id.h _)) rfl ?_
              refine DL_nil ?_
              refine hK15 _ _ ?_
              refine T_cond rfl (fun h37 => ?_) (fun h37 => ?_)
              ·
                have hnd : ¬ x.ps.Nodup := by have e : y = px := Oid.Id.ext h37; subst e; exact not_nodup hy hpx (by omega)
                refine T_seq fun K16 hK16 => ?_
                refine T_region ?_
                refine L_y (y_assign rfl) rfl ?_
                refine L_nil ?_
                refine hK16 _ _ ?_
                refine T_ret ?_
                repeat (first | with_reducible refine up_then ?_ | with_reducible refine up_in ?_)
                refine ret1 rfl rfl ?_
                exact ⟨_, rfl, S5.like0, by unfold chk; first | rw [if_pos (by omega)] | rw [if_neg (by omega), if_pos (by assumption)] | rw [if_neg (by omega), if_neg hnd, if_pos hnm] | rw [if_neg (by omega), if_neg hnd, if_neg hnm, if_pos htm] | rw [if_neg (by omega), if_neg hnd, if_neg hnm, if_neg htm]⟩
              ·
                refine T_skip ?_
                refine hK14 _ _ ?_
                refine T_region ?_
                refine L_y (y_move rfl) rfl ?_
                refine L_y (y_add rfl rfl (i64w (by omega))) rfl ?_
                refine L_y (y_assign rfl) rfl ?_
                refine L_nil ?_
                refine ⟨j + 1, by omega, ⟨⟨by omega, fun i z hi hz => by rcases Nat.lt_or_eq_of_le (Nat.le_of_lt_succ hi) with h | h; exact hne i z h hz; subst h; rw [hy] at hz; cases hz; exact fun e => h37 (by rw [e])⟩, S5⟩, ?_⟩
                exact (Sub.cons rfl (by first | rfl | exact congrArg (Value.int _) (by omega)) (Sub.cons rfl rfl (Sub.cons rfl rfl (Sub.nil _))))
            ·
              refine T_exit ?_
              refine hK10 _ _ ?_
              refine T_region ?_
              refine L_y (y_move rfl) rfl ?_
              refine L_y (y_add rfl rfl (i64w (by omega))) rfl ?_
              refine L_y (y_assign rfl) rfl ?_
              refine L_nil ?_
              refine ⟨k + 1, by omega, ⟨⟨by omega, take_nodup hpx hnk (fun i y hi hy => hne i y (by omega) hy)⟩, S4⟩, ?_⟩
              exact (Sub.cons rfl (by first | rfl | exact congrArg (Value.int _) (by omega)) (Sub.cons rfl rfl (Sub.nil _)))
        ·
          have hke : k = x.ps.length := by omega
          rw [hke, List.take_length] at hnk
          have hnd : ¬ ¬ x.ps.Nodup := fun h => h hnk
          refine T_exit ?_
          refine hK6 _ _ ?_
          refine T_seq fun K17 hK17 => ?_
          refine T_seq fun K18 hK18 => ?_
          refine T_region ?_
          refine L_y (y_fieldA 33 Try.underlying26 rfl sz9 rfl rfl rfl) rfl ?_
          refine L_y (y_ldc Try.underlying9 rfl rfl (((S3.blk 0 rfl).cell _).trans (cm33 x))) rfl ?_
          refine L_o (o_call Try.func61 rfl rfl (Tre.rname x.au w3) rfl rfl ?_)
          rintro e6 w6 ⟨v6, rfl, l6, rfl⟩
          refine ⟨_, rfl, ?_⟩
          have S6 := S3.like l6
          refine L_y ((by first | exact y_notD rfl | exact y_not rfl)) rfl ?_
          refine L_nil ?_
          refine hK18 _ _ ?_
          refine T_condB rfl (fun h41 => ?_) (fun h41 => ?_)
          ·
            have hnm : nmOk x.au = false := by simpa using h41
            refine T_seq fun K19 hK19 => ?_
            refine T_region ?_
            refine L_y (y_assign rfl) rfl ?_
            refine L_nil ?_
            refine hK19 _ _ ?_
            refine T_ret ?_
            repeat (first | with_reducible refine up_then ?_ | with_reducible refine up_in ?_)
            refine ret1 rfl rfl ?_
            exact ⟨_, rfl, S6.like0, by unfold chk; first | rw [if_pos (by omega)] | rw [if_neg (by omega), if_pos (by assumption)] | rw [if_neg (by omega), if_neg hnd, if_pos hnm] | rw [if_neg (by omega), if_neg hnd, if_neg hnm, if_pos htm] | rw [if_neg (by omega), if_neg hnd, if_neg hnm, if_neg htm]⟩
          ·
            have hnm : ¬ nmOk x.au = false := by simpa using h41
            refine T_skip ?_
            refine hK17 _ _ ?_
            refine T_seq fun K20 hK20 => ?_
            refine T_seq fun K21 hK21 => ?_
            refine T_region ?_
            refine L_y (y_fieldA 34 Try.underlying26 rfl sz3 rfl rfl rfl) rfl ?_
            refine L_y (y_ldc Try.underlying3 rfl rfl (((S6.blk 0 rfl).cell _).trans (cm34 x))) rfl ?_
            refine L_y (y_lss rfl rfl) rfl ?_
            refine L_y (y_move rfl) rfl ?_
            refine L_split 45 rfl (fun h45 => ?_) (fun h45 => ?_)
            ·
              refine L_gno rfl rfl rfl ?_
              refine L_gno rfl rfl rfl ?_
              refine L_gno rfl rfl rfl ?_
              refine L_y ((by first | exact y_pickT rfl rfl | exact y_pickF rfl rfl)) rfl ?_
              refine L_nil ?_
              refine hK21 _ _ ?_
              refine T_true rfl ?_
              refine T_seq fun K22 hK22 => ?_
              have htm : x.tm < 0 ∨ 1099511627776 < x.tm := by omega
              refine T_region ?_
              refine L_y (y_assign rfl) rfl ?_
              refine L_nil ?_
              refine hK22 _ _ ?_
              refine T_ret ?_
              repeat (first | with_reducible refine up_then ?_ | with_reducible refine up_in ?_)
              refine ret1 rfl rfl ?_
              exact ⟨_, rfl, S6.like0, by unfold chk; first | rw [if_pos (by omega)] | rw [if_neg (by omega), if_pos (by assumption)] | rw [if_neg (by omega), if_neg hnd, if_pos hnm] | rw [if_neg (by omega), if_neg hnd, if_neg hnm, if_pos htm] | rw [if_neg (by omega), if_neg hnd, if_neg hnm, if_neg htm]⟩
            ·
              refine L_gyes rfl rfl ?_
              refine L_y (y_fieldA 34 Try.underlying26 rfl sz3 rfl rfl rfl) rfl ?_
              refine L_gyes rfl rfl ?_
              refine L_y (y_ldc Try.underlying3 rfl rfl (((S6.blk 0 rfl).cell _).trans (cm34 x))) rfl ?_
              refine L_gyes rfl rfl ?_
              refine L_y (y_gtr rfl rfl) rfl ?_
              refine L_y ((by first | exact y_pickT rfl rfl | exact y_pickF rfl rfl)) rfl ?_
              refine L_nil ?_
              refine hK21 _ _ ?_
              refine T_cond rfl (fun h49 => ?_) (fun h49 => ?_)
              ·
                refine T_seq fun K23 hK23 => ?_
                have htm : x.tm < 0 ∨ 1099511627776 < x.tm := by omega
                refine T_region ?_
                refine L_y (y_assign rfl) rfl ?_
                refine L_nil ?_
                refine hK23 _ _ ?_
                refine T_ret ?_
                repeat (first | with_reducible refine up_then ?_ | with_reducible refine up_in ?_)
                refine ret1 rfl rfl ?_
                exact ⟨_, rfl, S6.like0, by unfold chk; first | rw [if_pos (by omega)] | rw [if_neg (by omega), if_pos (by assumption)] | rw [if_neg (by omega), if_neg hnd, if_pos hnm] | rw [if_neg (by omega), if_neg hnd, if_neg hnm, if_pos htm] | rw [if_neg (by omega), if_neg hnd, if_neg hnm, if_neg htm]⟩
              ·
                refine T_skip ?_
                refine hK20 _ _ ?_
                refine T_seq fun K24 hK24 => ?_
                have htm : ¬ (x.tm < 0 ∨ 1099511627776 < x.tm) := by omega
                refine T_region ?_
                refine L_y (y_assign rfl) rfl ?_
                refine L_nil ?_
                refine hK24 _ _ ?_
                refine T_ret ?_
                repeat (first | with_reducible refine up_then ?_ | with_reducible refine up_in ?_)
                refine ret1 rfl rfl ?_
                exact ⟨_, rfl, S6.like0, by unfold chk; first | rw [if_pos (by omega)] | rw [if_neg (by omega), if_pos (by assumption)] | rw [if_neg (by omega), if_neg hnd, if_pos hnm] | rw [if_neg (by omega), if_neg hnd, if_neg hnm, if_pos htm] | rw [if_neg (by omega), if_neg hnd, if_neg hnm, if_neg htm]⟩
end Go.Proofs.Ytgaklngnfecdaaa.Rev


/-
  Put.
-/
namespace Go.Proofs.Ytgaklngnfecdaaa.Rev
open Go.RowKit Zk Zx
open Oid (idf hexL ris ris_ne idf_len length_hexL)
open Tre (nmOk)
set_option linter.unusedVariables false
set_option linter.unusedSimpArgs false

theorem hexN (x : Oid.Id) (w : World) : Calls Try.prog 55 #[.agg (idf x).toArray] w fun e w' => ∃ u, e = .returned u ∧ Like w w' ∧ u = .string ⟨(hexL x.l).toArray⟩ := (Oid.hex_any x.l w x.h).mono fun e w' ⟨h1, h2⟩ => ⟨_, h1, h2, rfl⟩
theorem hexI_len (x : Oid.Id) : (hexL x.l).length = 64 := by rw [length_hexL, x.h]
/-- WriteString, the lengths told by the text. -/
theorem wstr (b : Nat) (p A : Option Addr) (n c : Nat) (l s : List UInt8) (w0 : World) (hp : p = none ∨ p = some ⟨b, 0, none⟩) (hw : (bld b p A n c l).holds w0) (hn : l.length + s.length ≤ 140737488355328) :
    Calls Try.prog 53 #[.pointer (some ⟨b, 0, none⟩), .string ⟨s.toArray⟩] w0 fun e w' => ∃ u, e = .returned u ∧ ∃ A' n' c', Turned w0 w' (bld b p A n c l) (bld b (some ⟨b, 0, none⟩) A' n' c' (l ++ s)) :=
  (wstr0 b p A n c l ⟨s.toArray⟩ w0 hp hw (by rw [bsz, ← bld_len hw]; exact hn)).mono fun e w' ⟨u, h1, A', c', h2, _⟩ => ⟨u, h1, A', _, c', h2⟩
theorem ge_turn {w w' : World} {r r' : Res} {b : Nat} (T : Turned w w' r r') (h : ∀ i, r.dom i → b ≤ i) (hb : b < w.heap.size) : ∀ i, r'.dom i → b ≤ i := fun i hi => (T.dom i hi).elim (h i) (fun k => by omega)
theorem ge_zero (b : Nat) : ∀ i, (bld b none none 0 0 []).dom i → b ≤ i := fun i hi => by
  rcases hi with hi | hi
  · have hi' : i = b := hi
    omega
  · cases hi
theorem bld_in {w : World} {b n c : Nat} {p A : Option Addr} {l : List UInt8} (h : (bld b p A n c l).holds w) : b < w.heap.size := Blk.lt h.1
def wTree : List UInt8 := [116, 114, 101, 101]
def wParent : List UInt8 := [112, 97, 114, 101, 110, 116]
def wAuthor : List UInt8 := [97, 117, 116, 104, 111, 114]
def wTime : List UInt8 := [116, 105, 109, 101]
def parL (ps : List Oid.Id) : List UInt8 := ps.flatMap fun p => lineL wParent (hexL p.l)
/-- A commit's bytes. -/
def revB (x : Cm) : List UInt8 := lineL wTree (hexL x.tr.l) ++ parL x.ps ++ lineL wAuthor x.au.data.toList ++ lineL wTime (digS x.tm) ++ [10] ++ x.tx.data.toList
theorem lineL_len (a s : List UInt8) : (lineL a s).length = a.length + s.length + 2 := by simp [lineL]; omega
theorem parL_step {ps : List Oid.Id} {k : Nat} {p : Oid.Id} (h : ps[k]? = some p) : parL (ps.take (k + 1)) = parL (ps.take k) ++ lineL wParent (hexL p.l) := by
  unfold parL
  rw [List.take_add_one, h, List.flatMap_append]
  simp
theorem parL_len (ps : List Oid.Id) : (parL ps).length = ps.length * 72 := by
  unfold parL
  rw [List.length_flatMap]
  induction ps with
  | nil => rfl
  | cons p ps ih => rw [List.map_cons, List.sum_cons, ih, lineL_len, hexI_len]; simp [wParent]; omega
/-- What Check lets through. -/
theorem chk_ok {x : Cm} (h : chk x = 0) : x.n ≤ 6 ∧ x.tx.size ≤ 400 ∧ x.ps.Nodup ∧ nmOk x.au = true ∧ 0 ≤ x.tm ∧ x.tm ≤ 1099511627776 := by
  unfold chk at h
  split at h
  · cases h
  · split at h
    · cases h
    · split at h
      · cases h
      · split at h
        · cases h
        · rename_i h1 h2 h3 h4
          exact ⟨by omega, by omega, Classical.not_not.1 h2, by simpa using h3, by omega, by omega⟩
theorem nm_len {s : ByteArray} (h : nmOk s = true) : s.data.toList.length ≤ 32 := by
  unfold nmOk at h
  simp only [Bool.and_eq_true, decide_eq_true_eq] at h
  have := h.2.1
  simpa using this
set_option maxRecDepth 100000 in
theorem put (x : Cm) (w0 : World) (hps : Rs w0 32 x.A x.n x.c (x.ps.flatMap idf)) :
    Calls Try.prog 14 #[.agg (cmf x).toArray] w0 fun e w' => ∃ u, e = .returned u ∧ Like w0 w' ∧ ∃ B m d l e, u = .tuple #[.slice B m d, .int .i64 e] ∧ e = chk x ∧ l = (if chk x = 0 then revB x else []) ∧ Fr w0 w' 1 B m d (bL l) := by
  refine enter1 (env := [(0, .agg (cmf x).toArray)]) [.agg (cmf x).toArray] Try.func14 rfl Try.ntmps14 rfl rfl ?_
  have hpn : x.n = x.ps.length := Oid.ids_n hps
  have S0 := St.start w0 noM
  refine T_seq fun K1 hK1 => ?_
  refine T_region ?_
  refine L_o (o_box rfl S0 rfl fun b1 w1 hb1 S1 => ?_)
  refine L_y (y_assign rfl) rfl ?_
  refine L_y (y_assign rfl) rfl ?_
  refine L_nil ?_
  refine hK1 _ _ ?_
  refine T_seq fun K2 hK2 => ?_
  refine T_seq fun K3 hK3 => ?_
  refine T_region ?_
  refine L_y (y_ldW Try.underlying26 rfl sz26 rfl (S1.blk 0 rfl) (cm_whole x)) rfl ?_
  refine L_o (o_call Try.func19 rfl rfl (check x w1 (S1.rd hps)) rfl rfl ?_)
  rintro e2 w2 ⟨v2, rfl, l2, rfl⟩
  refine ⟨_, rfl, ?_⟩
  have S2 := S1.like l2
  refine L_y (y_assign rfl) rfl ?_
  refine L_nil ?_
  refine hK3 _ _ ?_
  refine T_seq fun K4 hK4 => ?_
  refine T_region ?_
  refine L_y (y_move rfl) rfl ?_
  refine L_y (y_neq rfl rfl) rfl ?_
  refine L_nil ?_
  refine hK4 _ _ ?_
  refine T_cond rfl (fun h11 => ?_) (fun h11 => ?_)
  ·
    refine T_seq fun K5 hK5 => ?_
    refine T_region ?_
    refine L_y (y_move rfl) rfl ?_
    refine L_y (y_assign rfl) rfl ?_
    refine L_y (y_assign rfl) rfl ?_
    refine L_nil ?_
    refine hK5 _ _ ?_
    refine T_ret ?_
    repeat (first | with_reducible refine up_then ?_ | with_reducible refine up_in ?_)
    refine ret2 rfl rfl rfl ?_
    exact ⟨_, rfl, S2.like0, none, 0, 0, [], chk x, rfl, rfl, by rw [if_neg (fun e => h11 e)], ⟨Rs.nil _ 1, fun ad h => absurd h (by omega)⟩⟩
  ·
    have h0 : chk x = 0 := Classical.not_not.1 h11
    obtain ⟨hn6, ht4, hnd, hnm, htm0, htm1⟩ := chk_ok h0
    have haul := nm_len hnm
    have htl : x.tx.data.toList.length ≤ 400 := by have h9 : x.tx.data.toList.length = x.tx.size := (by simp); omega
    refine T_skip ?_
    refine hK2 _ _ ?_
    refine T_seq fun K6 hK6 => ?_
    refine T_region ?_
    refine L_o (o_alloc zz106 S2 rfl fun b3 w3 hb3 S3 => ?_)
    have S4 := S3.nilrow 5 1
    have S5 : Zx.St w0 noM [_, bld b3 none none 0 0 []] w3 := St.join2 (rs := [_]) S4
    have hge := ge_zero b3
    obtain ⟨l0, hl0⟩ : ∃ l0 : List UInt8, l0 = [] := ⟨_, rfl⟩
    have hlb : l0.length ≤ 0 := by rw [hl0]; exact Nat.le_refl 0
    rw [← hl0] at S5 hge
    refine L_nil ?_
    refine hK6 _ _ ?_
    refine T_seq fun K7 hK7 => ?_
    refine T_region ?_
    refine L_y (y_fieldA 0 Try.underlying26 rfl sz23 rfl rfl rfl) rfl ?_
    refine L_y (y_ldW Try.underlying23 rfl sz23 rfl (S5.blk 0 rfl) (cm_tr x)) rfl ?_
    refine L_o (o_call Try.func55 rfl rfl (hexN x.tr w3) rfl rfl ?_)
    rintro e6 w6 ⟨v6, rfl, l6, rfl⟩
    refine ⟨_, rfl, ?_⟩
    have S6 := S5.like l6
    refine L_o (o_call Try.func54 rfl rfl (linec wTree (hexL x.tr.l) w6 (by decide) (by have hq := hexI_len x.tr; omega)) rfl rfl ?_)
    rintro e7 w7 ⟨v7, rfl, l7, rfl⟩
    refine ⟨_, rfl, ?_⟩
    have S7 := S6.like l7
    refine L_o (o_call Try.func53 rfl rfl (wstr b3 none none 0 0 l0 (lineL wTree (hexL x.tr.l)) w7 (.inl rfl) (S7.get 1 rfl) (by have hq : ((lineL wTree (hexL x.tr.l)) : List UInt8).length ≤ 72 := (by rw [lineL_len]; have hq := hexI_len x.tr; have hw : wTree.length ≤ 6 := (by decide); omega); omega)) rfl rfl ?_)
    rintro e8 w8 ⟨v8, rfl, A8, n8, c8, T8⟩
    refine ⟨_, rfl, ?_⟩
    have S8 := S7.turn 1 rfl T8
    have hge8 := ge_turn T8 hge (bld_in (S7.get 1 rfl))
    clear hge
    have hge := hge8
    obtain ⟨l8, hl8⟩ : ∃ l : List UInt8, l = l0 ++ (lineL wTree (hexL x.tr.l)) := ⟨_, rfl⟩
    have hlb8 : l8.length ≤ 72 := by rw [hl8, List.length_append]; have hq : ((lineL wTree (hexL x.tr.l)) : List UInt8).length ≤ 72 := (by rw [lineL_len]; have hq := hexI_len x.tr; have hw : wTree.length ≤ 6 := (by decide); omega); omega
    clear hlb
    have hlb := hlb8
    rw [← hl8] at S8 hge
    refine L_nil ?_
    refine hK7 _ _ ?_
    refine T_seq fun K8 hK8 => ?_
    refine T_seq fun K9 hK9 => ?_
    refine T_region ?_
    refine L_y (y_fieldA 32 Try.underlying26 rfl sz24 rfl rfl rfl) rfl ?_
    refine L_y (y_ldc Try.underlying24 rfl rfl (((S8.blk 0 rfl).cell _).trans (cm32 x))) rfl ?_
    refine L_y (y_len Try.underlying24 rfl) rfl ?_
    refine L_y (y_move rfl) rfl ?_
    refine L_nil ?_
    refine hK9 _ _ ?_
    refine T_block ?_
    refine T_loop4 [(1, _), (5, _), (19, _), (20, _)] (fun (k : Nat) (A : Option Addr) (n : Nat) (c : Nat) => [(21, .int .i64 (k : Int))]) (fun (k : Nat) (A : Option Addr) (n : Nat) (c : Nat) => x.ps.length - k) (fun (k : Nat) (A : Option Addr) (n : Nat) (c : Nat) (w : World) => (k ≤ x.ps.length ∧ ∀ i, (bld b3 (some ⟨b3, 0, none⟩) A n c (l8 ++ parL (x.ps.take k))).dom i → b3 ≤ i) ∧ Zx.St w0 noM [blk b1 26 (cmf x).toArray, bld b3 (some ⟨b3, 0, none⟩) A n c (l8 ++ parL (x.ps.take k))] w) 0 A8 n8 c8 (Sub.cons rfl (by first | rfl | exact congrArg (Value.int _) (by omega)) (Sub.nil _)) (Sub.cons rfl rfl (Sub.cons rfl rfl (Sub.cons rfl rfl (Sub.cons rfl rfl (Sub.nil _))))) ?_ ?_
    ·
      exact ⟨⟨by omega, by simpa [parL] using hge⟩, by simpa [parL] using S8⟩
    ·
      intro k A n c w9 hrel
      obtain ⟨⟨hk, hge⟩, S9⟩ := hrel
      refine T_seq fun K10 hK10 => ?_
      refine T_region ?_
      refine L_y (y_lss rfl rfl) rfl ?_
      refine L_nil ?_
      refine hK10 _ _ ?_
      refine T_seq fun K11 hK11 => ?_
      refine T_cond rfl (fun h22 => ?_) (fun h22 => ?_)
      ·
        obtain ⟨px, hpx⟩ : ∃ px, x.ps[k]? = some px := ⟨_, List.getElem?_eq_getElem (by omega)⟩
        obtain ⟨l0, hl0⟩ : ∃ l0 : List UInt8, l0 = l8 ++ parL (x.ps.take k) := ⟨_, rfl⟩
        have hlb0 : l0.length ≤ 600 := by rw [hl0, List.length_append, parL_len, List.length_take]; omega
        clear hlb
        have hlb := hlb0
        rw [← hl0] at S9 hge
        refine T_skip ?_
        refine hK11 _ _ ?_
        refine T_seq fun K12 hK12 => ?_
        refine T_block ?_
        refine T_seq fun K13 hK13 => ?_
        refine T_region ?_
        refine L_y (y_idx Try.underlying24 sz23 rfl rfl (S9.rd hps) inferInstance (by omega)) rfl ?_
        refine L_y (y_ldp (f := idf) idf_len Try.underlying23 rfl sz23 rfl (S9.rd hps) (by omega) hpx) rfl ?_
        refine L_o (o_alloc zz23 S9 rfl fun b10 w10 hb10 S10 => ?_)
        refine L_o (o_stW S10 2 rfl rfl rfl (by rw [List.size_toArray, idf_len]; exact sz23) (by rw [List.size_toArray, idf_len]; simp [Value.cells]) (fun u hu => bL_one px.l u (by rw [List.toList_toArray] at hu; exact hu)) fun w11 S11 => ?_)
        refine L_nil ?_
        refine hK13 _ _ ?_
        refine T_region ?_
        refine L_y (y_ldW Try.underlying23 rfl sz23 rfl (S11.blk 2 rfl) (⟨by rw [List.drop_zero]; exact List.take_of_length_le (by simp [idf_len]), idf_len px⟩ : _ = idf px ∧ _)) rfl ?_
        have S12d := S11.drop (rs' := [_, _]) (.cons_cons _ (.cons_cons _ (.cons _ (.refl _))))
        refine L_o (o_call Try.func55 rfl rfl (hexN px w11) rfl rfl ?_)
        rintro e13 w13 ⟨v13, rfl, l13, rfl⟩
        refine ⟨_, rfl, ?_⟩
        have S13 := S12d.like l13
        refine L_o (o_call Try.func54 rfl rfl (linec wParent (hexL px.l) w13 (by decide) (by have hq := hexI_len px; omega)) rfl rfl ?_)
        rintro e14 w14 ⟨v14, rfl, l14, rfl⟩
        refine ⟨_, rfl, ?_⟩
        have S14 := S13.like l14
        refine L_o (o_call Try.func53 rfl rfl (wstr b3 (some ⟨b3, 0, none⟩) A n c l0 (lineL wParent (hexL px.l)) w14 (.inr rfl) (S14.get 1 rfl) (by have hq : ((lineL wParent (hexL px.l)) : List UInt8).length ≤ 72 := (by rw [lineL_len]; have hq := hexI_len px; have hw : wParent.length ≤ 6 := (by decide); omega); omega)) rfl rfl ?_)
        rintro e15 w15 ⟨v15, rfl, A15, n15, c15, T15⟩
        refine ⟨_, rfl, ?_⟩
        have S15 := S14.turn 1 rfl T15
        have hge15 := ge_turn T15 hge (bld_in (S14.get 1 rfl))
        clear hge
        have hge := hge15
        obtain ⟨l15, hl15⟩ : ∃ l : List UInt8, l = l0 ++ (lineL wParent (hexL px.l)) := ⟨_, rfl⟩
        have hlb15 : l15.length ≤ 672 := by rw [hl15, List.length_append]; have hq : ((lineL wParent (hexL px.l)) : List UInt8).length ≤ 72 := (by rw [lineL_len]; have hq := hexI_len px; have hw : wParent.length ≤ 6 := (by decide); omega); omega
        clear hlb
        have hlb := hlb15
        rw [← hl15] at S15 hge
        refine L_nil ?_
        refine hK12 _ _ ?_
        refine T_region ?_
        refine L_y (y_add rfl rfl (i64w (by omega))) rfl ?_
        refine L_y (y_move rfl) rfl ?_
        refine L_nil ?_
        rw [hl15, hl0, List.append_assoc, ← parL_step hpx] at S15 hge
        refine ⟨k + 1, _, _, _, by omega, ⟨⟨by omega, hge⟩, S15⟩, ?_⟩
        exact (Sub.cons rfl (by first | rfl | exact congrArg (Value.int _) (by omega)) (Sub.cons rfl rfl (Sub.cons rfl rfl (Sub.cons rfl rfl (Sub.cons rfl rfl (Sub.nil _))))))
      ·
        have hke : x.ps.take k = x.ps := List.take_of_length_le (by omega)
        obtain ⟨l0, hl0⟩ : ∃ l0 : List UInt8, l0 = l8 ++ parL (x.ps.take k) := ⟨_, rfl⟩
        have hlb0 : l0.length ≤ 600 := by rw [hl0, List.length_append, parL_len, List.length_take]; omega
        clear hlb
        have hlb := hlb0
        rw [← hl0] at S9 hge
        refine T_exit ?_
        refine hK8 _ _ ?_
        refine T_seq fun K14 hK14 => ?_
        refine T_region ?_
        refine L_y (y_fieldA 33 Try.underlying26 rfl sz9 rfl rfl rfl) rfl ?_
        skip
        refine L_y (y_ldc Try.underlying9 rfl rfl (((S9.blk 0 rfl).cell _).trans (cm33 x))) rfl ?_
        refine L_o (o_call Try.func54 rfl rfl (linec wAuthor x.au.data.toList w9 (by decide) (by omega)) rfl rfl ?_)
        rintro e16 w16 ⟨v16, rfl, l16, rfl⟩
        refine ⟨_, rfl, ?_⟩
        have S16 := S9.like l16
        refine L_o (o_call Try.func53 rfl rfl (wstr b3 (some ⟨b3, 0, none⟩) A n c l0 (lineL wAuthor x.au.data.toList) w16 (.inr rfl) (S16.get 1 rfl) (by have hq : ((lineL wAuthor x.au.data.toList) : List UInt8).length ≤ 40 := (by rw [lineL_len]; have hw : wAuthor.length ≤ 6 := (by decide); omega); omega)) rfl rfl ?_)
        rintro e17 w17 ⟨v17, rfl, A17, n17, c17, T17⟩
        refine ⟨_, rfl, ?_⟩
        have S17 := S16.turn 1 rfl T17
        have hge17 := ge_turn T17 hge (bld_in (S16.get 1 rfl))
        clear hge
        have hge := hge17
        obtain ⟨l17, hl17⟩ : ∃ l : List UInt8, l = l0 ++ (lineL wAuthor x.au.data.toList) := ⟨_, rfl⟩
        have hlb17 : l17.length ≤ 640 := by rw [hl17, List.length_append]; have hq : ((lineL wAuthor x.au.data.toList) : List UInt8).length ≤ 40 := (by rw [lineL_len]; have hw : wAuthor.length ≤ 6 := (by decide); omega); omega
        clear hlb
        have hlb := hlb17
        rw [← hl17] at S17 hge
        refine L_nil ?_
        refine hK14 _ _ ?_
        refine T_seq fun K15 hK15 => ?_
        refine T_region ?_
        refine L_y (y_fieldA 34 Try.underlying26 rfl sz3 rfl rfl rfl) rfl ?_
        refine L_y (y_ldc Try.underlying3 rfl rfl (((S17.blk 0 rfl).cell _).trans (cm34 x))) rfl ?_
        refine L_o (o_call Try.func21 rfl rfl (digits x.tm w17 (by omega)) rfl rfl ?_)
        rintro e18 w18 ⟨v18, rfl, l18, rfl⟩
        refine ⟨_, rfl, ?_⟩
        have S18 := S17.like l18
        refine L_o (o_call Try.func54 rfl rfl (linec wTime (digS x.tm) w18 (by decide) (by have hq := digS_len (n := x.tm) (by omega); omega)) rfl rfl ?_)
        rintro e19 w19 ⟨v19, rfl, l19, rfl⟩
        refine ⟨_, rfl, ?_⟩
        have S19 := S18.like l19
        refine L_o (o_call Try.func53 rfl rfl (wstr b3 (some ⟨b3, 0, none⟩) A17 n17 c17 l17 (lineL wTime (digS x.tm)) w19 (.inr rfl) (S19.get 1 rfl) (by have hq : ((lineL wTime (digS x.tm)) : List UInt8).length ≤ 30 := (by rw [lineL_len]; have hq := digS_len (n := x.tm) (by omega); have hw : wTime.length ≤ 6 := (by decide); omega); omega)) rfl rfl ?_)
        rintro e20 w20 ⟨v20, rfl, A20, n20, c20, T20⟩
        refine ⟨_, rfl, ?_⟩
        have S20 := S19.turn 1 rfl T20
        have hge20 := ge_turn T20 hge (bld_in (S19.get 1 rfl))
        clear hge
        have hge := hge20
        obtain ⟨l20, hl20⟩ : ∃ l : List UInt8, l = l17 ++ (lineL wTime (digS x.tm)) := ⟨_, rfl⟩
        have hlb20 : l20.length ≤ 670 := by rw [hl20, List.length_append]; have hq : ((lineL wTime (digS x.tm)) : List UInt8).length ≤ 30 := (by rw [lineL_len]; have hq := digS_len (n := x.tm) (by omega); have hw : wTime.length ≤ 6 := (by decide); omega); omega
        clear hlb
        have hlb := hlb20
        rw [← hl20] at S20 hge
        refine L_nil ?_
        refine hK15 _ _ ?_
        refine T_seq fun K16 hK16 => ?_
        refine T_region ?_
        refine L_o (o_call Try.func53 rfl rfl (wstr b3 (some ⟨b3, 0, none⟩) A20 n20 c20 l20 [10] w20 (.inr rfl) (S20.get 1 rfl) (by have hq : ([10] : List UInt8).length ≤ 1 := (by decide); omega)) rfl rfl ?_)
        rintro e21 w21 ⟨v21, rfl, A21, n21, c21, T21⟩
        refine ⟨_, rfl, ?_⟩
        have S21 := S20.turn 1 rfl T21
        have hge21 := ge_turn T21 hge (bld_in (S20.get 1 rfl))
        clear hge
        have hge := hge21
        obtain ⟨l21, hl21⟩ : ∃ l : List UInt8, l = l20 ++ [10] := ⟨_, rfl⟩
        have hlb21 : l21.length ≤ 671 := by rw [hl21, List.length_append]; have hq : ([10] : List UInt8).length ≤ 1 := (by decide); omega
        clear hlb
        have hlb := hlb21
        rw [← hl21] at S21 hge
        refine L_nil ?_
        refine hK16 _ _ ?_
        refine T_seq fun K17 hK17 => ?_
        refine T_region ?_
        refine L_y (y_fieldA 35 Try.underlying26 rfl sz9 rfl rfl rfl) rfl ?_
        refine L_y (y_ldc Try.underlying9 rfl rfl (((S21.blk 0 rfl).cell _).trans (cm35 x))) rfl ?_
        refine L_o (o_call Try.func53 rfl rfl (wstr b3 (some ⟨b3, 0, none⟩) A21 n21 c21 l21 x.tx.data.toList w21 (.inr rfl) (S21.get 1 rfl) (by have hq : (x.tx.data.toList : List UInt8).length ≤ 400 := htl; omega)) rfl rfl ?_)
        rintro e22 w22 ⟨v22, rfl, A22, n22, c22, T22⟩
        refine ⟨_, rfl, ?_⟩
        have S22 := S21.turn 1 rfl T22
        have hge22 := ge_turn T22 hge (bld_in (S21.get 1 rfl))
        clear hge
        have hge := hge22
        obtain ⟨l22, hl22⟩ : ∃ l : List UInt8, l = l21 ++ x.tx.data.toList := ⟨_, rfl⟩
        have hlb22 : l22.length ≤ 1071 := by rw [hl22, List.length_append]; have hq : (x.tx.data.toList : List UInt8).length ≤ 400 := htl; omega
        clear hlb
        have hlb := hlb22
        rw [← hl22] at S22 hge
        refine L_nil ?_
        refine hK17 _ _ ?_
        refine T_seq fun K18 hK18 => ?_
        refine T_region ?_
        refine L_o (o_call Try.func56 rfl rfl (strB b3 _ _ _ _ l22 w22 (.inr rfl) (S22.get 1 rfl) hge) rfl rfl ?_)
        rintro e23 w23 ⟨v23, rfl, bel23, rfl⟩
        refine ⟨_, rfl, ?_⟩
        have S23 := past S22 bel23 hb3
        refine L_o (o_sbytes Try.underlying9 Try.underlying27 Try.underlying5 rfl (by rw [bsz]; omega) S23 rfl fun b24 c24 w24 l24 S24 => ?_)
        refine L_y (y_assign rfl) rfl ?_
        refine L_y (y_assign rfl) rfl ?_
        refine L_nil ?_
        refine hK18 _ _ ?_
        refine T_ret ?_
        repeat (first | with_reducible refine up_then ?_ | with_reducible refine up_in ?_)
        refine ret2 rfl rfl rfl ?_
        have hfin : l22 = revB x := by subst_vars; unfold revB; simp [hke]
        exact ⟨_, rfl, S24.like0, _, _, _, l22, 0, rfl, h0.symm, by rw [if_pos h0]; exact hfin, S24.fr 0 rfl⟩
end Go.Proofs.Ytgaklngnfecdaaa.Rev


/-
  The document: Put.
-/
namespace Go.Proofs.Ytgaklngnfecdaaa.Rev
open Go.RowKit Zk Zx
open Oid (idf hexL ris ris_ne idf_len length_hexL)
open Tre (nmOk)
set_option linter.unusedVariables false
set_option linter.unusedSimpArgs false

theorem strs_app2 (l : List UInt8) (b : ByteArray) : (⟨l.toArray⟩ : ByteArray) ++ b = ⟨(l ++ b.data.toList).toArray⟩ := by
  symm
  apply ByteArray.ext
  simp
theorem nm_size {s : ByteArray} (h : nmOk s = true) : s.size ≤ 32 := by
  have h1 := nm_len h
  have h2 : s.data.toList.length = s.size := by simp
  omega
theorem wTree_len : wTree.length = 4 := rfl
set_option maxRecDepth 100000 in
theorem rput (x : Cm) (w0 : World) (hps : Rs w0 32 x.A x.n x.c (x.ps.flatMap idf)) :
    Calls Try.prog 15 #[.agg (cmf x).toArray] w0 fun e w' => ∃ u, e = .returned u ∧ Like w0 w' ∧ ∃ B m d l e, u = .tuple #[.slice B m d, .int .i64 e] ∧ e = chk x ∧ l = (if chk x = 0 then revB x else []) ∧ Fr w0 w' 1 B m d (bL l) := by
  refine enter1 (env := [(0, .agg (cmf x).toArray)]) [.agg (cmf x).toArray] Try.func15 rfl Try.ntmps15 rfl rfl ?_
  have hpn : x.n = x.ps.length := Oid.ids_n hps
  have S0 := St.start w0 noM
  refine T_seq fun K1 hK1 => ?_
  refine T_region ?_
  refine L_o (o_box rfl S0 rfl fun b1 w1 hb1 S1 => ?_)
  refine L_y (y_assign rfl) rfl ?_
  refine L_y (y_assign rfl) rfl ?_
  refine L_nil ?_
  refine hK1 _ _ ?_
  refine T_seq fun K2 hK2 => ?_
  refine T_region ?_
  refine L_y (y_ldW Try.underlying26 rfl sz26 rfl (S1.blk 0 rfl) (cm_whole x)) rfl ?_
  refine L_o (o_call Try.func20 rfl rfl (rcheck x w1 (S1.rd hps)) rfl rfl ?_)
  rintro e2 w2 ⟨v2, rfl, l2, rfl⟩
  refine ⟨_, rfl, ?_⟩
  have S2 := S1.like l2
  refine L_y (y_assign rfl) rfl ?_
  refine L_nil ?_
  refine hK2 _ _ ?_
  refine T_seq fun K3 hK3 => ?_
  refine T_seq fun K4 hK4 => ?_
  refine T_region ?_
  refine L_y (y_move rfl) rfl ?_
  refine L_y (y_neq rfl rfl) rfl ?_
  refine L_nil ?_
  refine hK4 _ _ ?_
  refine T_cond rfl (fun h10 => ?_) (fun h10 => ?_)
  ·
    refine T_seq fun K5 hK5 => ?_
    refine T_region ?_
    refine L_y (y_move rfl) rfl ?_
    refine L_y (y_assign rfl) rfl ?_
    refine L_y (y_assign rfl) rfl ?_
    refine L_nil ?_
    refine hK5 _ _ ?_
    refine T_ret ?_
    repeat (first | with_reducible refine up_then ?_ | with_reducible refine up_in ?_)
    refine ret2 rfl rfl rfl ?_
    exact ⟨_, rfl, S2.like0, none, 0, 0, [], chk x, rfl, rfl, by rw [if_neg (fun e => h10 e)], ⟨Rs.nil _ 1, fun ad h => absurd h (by omega)⟩⟩
  ·
    have h0 : chk x = 0 := Classical.not_not.1 h10
    obtain ⟨hn6, ht4, hnd, hnm, htm0, htm1⟩ := chk_ok h0
    have haul := nm_size hnm
    have haul2 := nm_len hnm
    have hdl := digS_len (n := x.tm) (by omega)
    have htl : x.tx.data.toList.length ≤ 400 := by have h9 : x.tx.data.toList.length = x.tx.size := (by simp); omega
    refine T_skip ?_
    refine hK3 _ _ ?_
    refine T_seq fun K6 hK6 => ?_
    refine T_region ?_
    refine L_y (y_fieldA 0 Try.underlying26 rfl sz23 rfl rfl rfl) rfl ?_
    refine L_y (y_ldW Try.underlying23 rfl sz23 rfl (S2.blk 0 rfl) (cm_tr x)) rfl ?_
    refine L_o (o_call Try.func57 rfl rfl (Oid.cRHex x.tr w2) rfl rfl ?_)
    rintro e3 w3 ⟨v3, rfl, l3, rfl⟩
    refine ⟨_, rfl, ?_⟩
    have S3 := S2.like l3
    refine L_y (y_cat rfl rfl (by simp only [bsz, List.length_append, List.length_cons, List.length_nil, lineL_len, parL_len, hexI_len, List.length_take, wTree_len]; omega)) rfl ?_
    rw [strs_app]
    refine L_y (y_cat rfl rfl (by simp only [bsz, List.length_append, List.length_cons, List.length_nil, lineL_len, parL_len, hexI_len, List.length_take, wTree_len]; omega)) rfl ?_
    rw [strs_app]
    refine L_y (y_assign rfl) rfl ?_
    refine L_nil ?_
    refine hK6 _ _ ?_
    refine T_seq fun K7 hK7 => ?_
    refine T_seq fun K8 hK8 => ?_
    refine T_region ?_
    refine L_y (y_assign rfl) rfl ?_
    refine L_nil ?_
    refine hK8 _ _ ?_
    refine T_block ?_
    refine T_loop1 [(1, _)] (fun (k : Nat) => [(5, .string ⟨(lineL wTree (hexL x.tr.l) ++ parL (x.ps.take k)).toArray⟩), (6, .int .i64 (k : Int))]) (fun (k : Nat) => x.ps.length - k) (fun (k : Nat) (w : World) => k ≤ x.ps.length ∧ St w0 noM [blk b1 26 (cmf x).toArray] w) 0 (Sub.cons rfl (by first | rfl | simp [parL, lineL, wTree]) (Sub.cons rfl (by first | rfl | simp [parL, lineL, wTree]) (Sub.nil _))) (Sub.cons rfl rfl (Sub.nil _)) ?_ ?_
    ·
      exact ⟨by omega, S3⟩
    ·
      intro k w4 hrel
      obtain ⟨hk, S4⟩ := hrel
      refine T_seq fun K9 hK9 => ?_
      refine T_seq fun K10 hK10 => ?_
      refine T_region ?_
      refine L_y (y_move rfl) rfl ?_
      refine L_y (y_fieldA 32 Try.underlying26 rfl sz24 rfl rfl rfl) rfl ?_
      refine L_y (y_ldc Try.underlying24 rfl rfl (((S4.blk 0 rfl).cell _).trans (cm32 x))) rfl ?_
      refine L_y (y_len Try.underlying24 rfl) rfl ?_
      refine L_y (y_lss rfl rfl) rfl ?_
      refine L_nil ?_
      refine hK10 _ _ ?_
      refine T_cond rfl (fun h21 => ?_) (fun h21 => ?_)
      ·
        obtain ⟨px, hpx⟩ : ∃ px, x.ps[k]? = some px := ⟨_, List.getElem?_eq_getElem (by omega)⟩
        refine T_skip ?_
        refine hK9 _ _ ?_
        refine T_seq fun K11 hK11 => ?_
        refine T_block ?_
        refine T_region ?_
        refine L_y (y_move rfl) rfl ?_
        refine L_y (y_cat rfl rfl (by simp only [bsz, List.length_append, List.length_cons, List.length_nil, lineL_len, parL_len, hexI_len, List.length_take, wTree_len]; omega)) rfl ?_
        rw [strs_app]
        refine L_y (y_fieldA 32 Try.underlying26 rfl sz24 rfl rfl rfl) rfl ?_
        refine L_y (y_ldc Try.underlying24 rfl rfl (((S4.blk 0 rfl).cell _).trans (cm32 x))) rfl ?_
        refine L_y (y_move rfl) rfl ?_
        refine L_y (y_idx Try.underlying24 sz23 rfl rfl (S4.rd hps) inferInstance (by omega)) rfl ?_
        refine L_y (y_ldp (f := idf) idf_len Try.underlying23 rfl sz23 rfl (S4.rd hps) (by omega) hpx) rfl ?_
        refine L_o (o_call Try.func57 rfl rfl (Oid.cRHex px w4) rfl rfl ?_)
        rintro e5 w5 ⟨v5, rfl, l5, rfl⟩
        refine ⟨_, rfl, ?_⟩
        have S5 := S4.like l5
        refine L_y (y_cat rfl rfl (by simp only [bsz, List.length_append, List.length_cons, List.length_nil, lineL_len, parL_len, hexI_len, List.length_take, wTree_len]; omega)) rfl ?_
        rw [strs_app]
        refine L_y (y_cat rfl rfl (by simp only [bsz, List.length_append, List.length_cons, List.length_nil, lineL_len, parL_len, hexI_len, List.length_take, wTree_len]; omega)) rfl ?_
        rw [strs_app]
        refine L_y (y_assign rfl) rfl ?_
        refine L_nil ?_
        refine hK11 _ _ ?_
        refine T_region ?_
        refine L_y (y_move rfl) rfl ?_
        refine L_y (y_add rfl rfl (i64w (by omega))) rfl ?_
        refine L_y (y_assign rfl) rfl ?_
        refine L_nil ?_
        refine ⟨k + 1, by omega, ⟨by omega, S5⟩, ?_⟩
        exact (Sub.cons rfl (by rw [parL_step hpx]; simp [lineL, wParent]) (Sub.cons rfl (by first | rfl | exact congrArg (Value.int _) (by omega)) (Sub.cons rfl rfl (Sub.nil _))))
      ·
        have hke : x.ps.take k = x.ps := List.take_of_length_le (by omega)
        refine T_exit ?_
        refine hK7 _ _ ?_
        refine T_seq fun K12 hK12 => ?_
        refine T_drawnL [(0, true), (1, true), (2, true), (3, true), (4, true), (5, true), (6, true), (7, true), (11, true), (12, true), (8, false), (9, true), (10, true), (13, true), (14, true)] hmix (by kernel_rfl) fun w6 l6 => ?_
        have S6 := S4.like l6
        refine DL_y rfl (y_move rfl) rfl ?_
        refine DL_y rfl (y_cat rfl rfl (by simp only [bsz, List.length_append, List.length_cons, List.length_nil, lineL_len, parL_len, hexI_len, List.length_take, wTree_len]; omega)) rfl ?_
        rw [strs_app]
        refine DL_y rfl (y_fieldA 33 Try.underlying26 rfl sz9 rfl rfl rfl) rfl ?_
        refine DL_y rfl (y_ldc Try.underlying9 rfl rfl (((S6.blk 0 rfl).cell _).trans (cm33 x))) rfl ?_
        refine DL_y rfl (y_cat rfl rfl (by simp only [bsz, List.length_append, List.length_cons, List.length_nil, lineL_len, parL_len, hexI_len, List.length_take, wTree_len]; omega)) rfl ?_
        rw [strs_app2]
        refine DL_y rfl (y_cat rfl rfl (by simp only [bsz, List.length_append, List.length_cons, List.length_nil, lineL_len, parL_len, hexI_len, List.length_take, wTree_len]; omega)) rfl ?_
        rw [strs_app]
        refine DL_y rfl (y_fieldA 34 Try.underlying26 rfl sz3 rfl rfl rfl) rfl ?_
        refine DL_y rfl (y_ldc Try.underlying3 rfl rfl (((S6.blk 0 rfl).cell _).trans (cm34 x))) rfl ?_
        refine DL_y rfl (y_fieldA 35 Try.underlying26 rfl sz9 rfl rfl rfl) rfl ?_
        refine DL_y rfl (y_ldc Try.underlying9 rfl rfl (((S6.blk 0 rfl).cell _).trans (cm35 x))) rfl ?_
        refine DL_o rfl (o_call Try.func22 rfl rfl (rdigits x.tm w6 (by omega)) rfl rfl ?_)
        rintro e7 w7 ⟨v7, rfl, l7, rfl⟩
        refine ⟨_, rfl, l7, ?_⟩
        have S7 := S6.like l7
        have q7 := l7
        refine DL_y rfl (y_cat rfl rfl (by simp only [bsz, List.length_append, List.length_cons, List.length_nil, lineL_len, parL_len, hexI_len, List.length_take, wTree_len]; omega)) rfl ?_
        rw [strs_app]
        refine DL_y rfl (y_cat rfl rfl (by simp only [bsz, List.length_append, List.length_cons, List.length_nil, lineL_len, parL_len, hexI_len, List.length_take, wTree_len]; omega)) rfl ?_
        rw [strs_app]
        refine DL_y rfl (y_cat rfl rfl (by simp only [bsz, List.length_append, List.length_cons, List.length_nil, lineL_len, parL_len, hexI_len, List.length_take, wTree_len]; omega)) rfl ?_
        rw [strs_app2]
        refine DL_y rfl (y_assign rfl) rfl ?_
        refine DL_nil ?_
        refine hK12 _ _ ?_
        refine T_seq fun K13 hK13 => ?_
        refine T_region ?_
        refine L_y (y_move rfl) rfl ?_
        refine L_o (o_sbytes Try.underlying9 Try.underlying27 Try.underlying5 rfl (by simp only [bsz, List.length_append, List.length_cons, List.length_nil, lineL_len, parL_len, hexI_len, List.length_take, wTree_len]; omega) S7 rfl fun b8 c8 w8 l8 S8 => ?_)
        refine L_y (y_assign rfl) rfl ?_
        refine L_y (y_assign rfl) rfl ?_
        refine L_nil ?_
        refine hK13 _ _ ?_
        refine T_ret ?_
        repeat (first | with_reducible refine up_then ?_ | with_reducible refine up_in ?_)
        refine ret2 rfl rfl rfl ?_
        exact ⟨_, rfl, S8.like0, _, _, _, _, 0, rfl, h0.symm, by rw [if_pos h0]; unfold revB; simp [hke, lineL, wTree, wAuthor, wTime], S8.fr 1 rfl⟩
end Go.Proofs.Ytgaklngnfecdaaa.Rev


/-
  The law RevPuts.
-/
namespace Go.Proofs.Ytgaklngnfecdaaa.Rev
open Go.RowKit Zk Zx
open Oid (idf hexL ris ris_ne idf_len length_hexL)
open Tre (nmOk)
set_option linter.unusedVariables false
set_option linter.unusedSimpArgs false

def wCm : Cm := ⟨⟨List.replicate 32 0, rfl⟩, none, 0, 0, [], ⟨#[97, 110, 110]⟩, 5, ⟨#[120]⟩⟩
theorem wCm_chk : chk wCm = 0 := by decide +kernel
theorem dig5 : digS 5 = [53] := by
  rw [show (5 : Int) = ((5 : Nat) : Int) from rfl, digS_nat, dgt_eq, show 5 / 10 = 0 from rfl, dg0_zero]
  rfl
theorem wCm_rev : revB wCm = lineL wTree (hexL (List.replicate 32 0)) ++ lineL wAuthor [97, 110, 110] ++ lineL wTime [53] ++ [10] ++ [120] := by
  unfold revB
  rw [show wCm.tm = 5 from rfl, dig5]
  rfl
theorem wCm_len : (revB wCm).length = 90 := by rw [wCm_rev]; decide +kernel
theorem wCm_end : ((revB wCm).drop 70).take (90 - 70) = [97, 117, 116, 104, 111, 114, 32, 97, 110, 110, 10, 116, 105, 109, 101, 32, 53, 10, 10, 120] := by rw [wCm_rev]; decide +kernel
theorem numR_form (l : List UInt8) : ∃ a b : Int, numR l = .tuple #[.int .i64 a, .int .i64 b] := by
  unfold numR
  split
  · exact ⟨_, _, rfl⟩
  · exact ⟨_, _, rfl⟩


set_option maxRecDepth 100000 in
theorem works  (w0 : World)  :
    Calls Try.prog 23 #[] w0 fun e w' => ∃ u, e = .returned u ∧ Like w0 w' ∧ u = .bool true := by
  refine enter1 (env := []) [] Try.func23 rfl Try.ntmps23 rfl rfl ?_
  have S0 := St.start w0 noM
  refine T_seq fun K1 hK1 => ?_
  refine T_region ?_
  refine L_y (y_assign rfl) rfl ?_
  refine L_nil ?_
  refine hK1 _ _ ?_
  refine T_seq fun K2 hK2 => ?_
  refine T_region ?_
  refine L_y (y_build rfl (show _ = some (cmf wCm).toArray by kernel_rfl)) rfl ?_
  refine L_o (o_call Try.func14 rfl rfl (put wCm w0 (Rs.nil _ 32)) rfl rfl ?_)
  rintro e1 w1 ⟨v1, rfl, l1, B, m, d, l, e, rfl, he, hl, F1⟩
  refine ⟨_, rfl, ?_⟩
  have S1 := S0.adoptF l1 F1
  rw [wCm_chk] at he
  subst he
  rw [if_pos wCm_chk] at hl
  subst hl
  have hm : m = 90 := by rw [← F1.1.lenb]; exact wCm_len
  subst hm
  have hcp := F1.1.cap
  refine L_y (y_move rfl) rfl ?_
  refine L_y (y_extract rfl rfl) rfl ?_
  refine L_y (y_extract rfl rfl) rfl ?_
  refine L_y (y_assign rfl) rfl ?_
  refine L_y (y_assign rfl) rfl ?_
  refine L_nil ?_
  refine hK2 _ _ ?_
  refine T_seq fun K3 hK3 => ?_
  refine T_region ?_
  refine L_y (y_move rfl) rfl ?_
  refine L_y (y_eql rfl rfl) rfl ?_
  refine L_y (y_move rfl) rfl ?_
  refine L_split 10 rfl (fun h10 => ?_) (fun h10 => ?_)
  ·
    refine L_gyes rfl rfl ?_
    refine L_y (y_move rfl) rfl ?_
    refine L_gyes rfl rfl ?_
    refine L_y (y_len Try.underlying27 rfl) rfl ?_
    refine L_gyes rfl rfl ?_
    refine L_y (y_eql rfl rfl) rfl ?_
    refine L_y ((by first | exact y_pickT rfl rfl | exact y_pickF rfl rfl)) rfl ?_
    refine L_y (y_move rfl) rfl ?_
    refine L_split 15 rfl (fun h15 => ?_) (fun h15 => ?_)
    ·
      refine L_gyes rfl rfl ?_
      refine L_y (y_move rfl) rfl ?_
      refine L_gyes rfl rfl ?_
      refine L_y (y_sliceL Try.underlying27 sz5 rfl rfl inferInstance (by omega)) rfl ?_
      refine L_gyes rfl rfl ?_
      refine L_y (y_bstr Try.underlying27 Try.underlying5 Try.underlying9 rfl ((S1.get 0 rfl).cutb (l := 70) (u := 90) (by omega) (by omega))) rfl ?_
      rw [wCm_end]
      refine L_gyes rfl rfl ?_
      refine L_y (y_seql rfl rfl) rfl ?_
      refine L_y ((by first | exact y_pickT rfl rfl | exact y_pickF rfl rfl)) rfl ?_
      refine L_y (y_assign rfl) rfl ?_
      refine L_nil ?_
      refine hK3 _ _ ?_
      refine T_ret ?_
      repeat (first | with_reducible refine up_then ?_ | with_reducible refine up_in ?_)
      refine ret1 rfl rfl ?_
      exact ⟨_, rfl, S1.like0, rfl⟩
    ·
      exact absurd rfl h15
  ·
    exact absurd rfl h10


set_option maxRecDepth 100000 in
theorem puts (x : Cm) (n : Int) (s : ByteArray) (w0 : World) (hps : Rs w0 32 x.A x.n x.c (x.ps.flatMap idf)) (hn : n ≤ 9223372036854775807) :
    Calls Try.prog 3 #[.agg (cmf x).toArray, .int .i64 n, .string s] w0 fun e w' => ∃ u, e = .returned u ∧ Like w0 w' ∧ u = .bool true := by
  refine enter1 (env := [(0, .agg (cmf x).toArray), (1, .int .i64 n), (2, .string s)]) [.agg (cmf x).toArray, .int .i64 n, .string s] Try.func3 rfl Try.ntmps3 rfl rfl ?_
  obtain ⟨na, nb, hnum⟩ := numR_form s.data.toList
  have S0 := St.start w0 noM
  refine T_seq fun K1 hK1 => ?_
  refine T_region ?_
  refine L_o (o_box rfl S0 rfl fun b1 w1 hb1 S1 => ?_)
  refine L_y (y_assign rfl) rfl ?_
  refine L_nil ?_
  refine hK1 _ _ ?_
  refine T_seq fun K2 hK2 => ?_
  refine T_region ?_
  refine L_y (y_ldW Try.underlying26 rfl sz26 rfl (S1.blk 0 rfl) (cm_whole x)) rfl ?_
  refine L_o (o_call Try.func14 rfl rfl (put x w1 (S1.rd hps)) rfl rfl ?_)
  rintro e2 w2 ⟨v2, rfl, l2, B2, m2, d2, l2, e2, rfl, rfl, rfl, F2⟩
  refine ⟨_, rfl, ?_⟩
  have S2 := S1.adoptF l2 F2
  refine L_y (y_move rfl) rfl ?_
  refine L_y (y_extract rfl rfl) rfl ?_
  refine L_y (y_extract rfl rfl) rfl ?_
  refine L_y (y_assign rfl) rfl ?_
  refine L_y (y_assign rfl) rfl ?_
  refine L_nil ?_
  refine hK2 _ _ ?_
  refine T_seq fun K3 hK3 => ?_
  refine T_region ?_
  refine L_y (y_ldW Try.underlying26 rfl sz26 rfl (S2.blk 0 rfl) (cm_whole x)) rfl ?_
  refine L_o (o_call Try.func15 rfl rfl (rput x w2 (S2.rd hps)) rfl rfl ?_)
  rintro e3 w3 ⟨v3, rfl, l3, B3, m3, d3, l3, e3, rfl, rfl, rfl, F3⟩
  refine ⟨_, rfl, ?_⟩
  have S3 := S2.adoptF l3 F3
  refine L_y (y_move rfl) rfl ?_
  refine L_y (y_extract rfl rfl) rfl ?_
  refine L_y (y_extract rfl rfl) rfl ?_
  refine L_y (y_assign rfl) rfl ?_
  refine L_y (y_assign rfl) rfl ?_
  refine L_nil ?_
  refine hK3 _ _ ?_
  refine T_seq fun K4 hK4 => ?_
  refine T_region ?_
  refine L_y (y_move rfl) rfl ?_
  refine L_o (o_call Try.func16 rfl rfl (number s w3) rfl rfl ?_)
  rintro e4 w4 ⟨v4, rfl, l4, hu4⟩
  refine ⟨_, rfl, ?_⟩
  have S4 := S3.like l4
  rw [hnum] at hu4
  subst hu4
  refine L_y (y_move rfl) rfl ?_
  refine L_y (y_extract rfl rfl) rfl ?_
  refine L_y (y_extract rfl rfl) rfl ?_
  refine L_y (y_assign rfl) rfl ?_
  refine L_y (y_assign rfl) rfl ?_
  refine L_nil ?_
  refine hK4 _ _ ?_
  refine T_seq fun K5 hK5 => ?_
  refine T_region ?_
  refine L_y (y_move rfl) rfl ?_
  refine L_o (o_call Try.func17 rfl rfl (rnumber s w4) rfl rfl ?_)
  rintro e5 w5 ⟨v5, rfl, l5, hu5⟩
  refine ⟨_, rfl, ?_⟩
  have S5 := S4.like l5
  rw [hnum] at hu5
  subst hu5
  refine L_y (y_move rfl) rfl ?_
  refine L_y (y_extract rfl rfl) rfl ?_
  refine L_y (y_extract rfl rfl) rfl ?_
  refine L_y (y_assign rfl) rfl ?_
  refine L_y (y_assign rfl) rfl ?_
  refine L_nil ?_
  refine hK5 _ _ ?_
  refine T_seq fun K6 hK6 => ?_
  refine T_drawnL [(0, true), (1, true), (2, false), (3, true), (4, true), (5, true), (6, true), (7, true), (8, true), (9, true), (11, true), (10, false), (12, false), (13, true), (14, true), (15, true), (16, true), (17, true), (18, true), (19, true), (20, true), (21, true), (22, true), (23, true), (24, true), (25, true), (26, true), (28, true), (27, false), (29, false), (30, true), (31, true), (32, true), (33, false), (34, true), (35, true)] hmix (by kernel_rfl) fun w6 l6 => ?_
  have S6 := S5.like l6
  refine DL_y rfl (y_move rfl) rfl ?_
  refine DL_y rfl (y_move rfl) rfl ?_
  refine DL_o rfl (o_call Try.func18 rfl rfl (Oct.same _ _ _ _ _ _ _ _ w6 (S6.get 1 rfl) (S6.get 2 rfl)) rfl rfl ?_)
  rintro e7 w7 ⟨v7, rfl, l7, rfl⟩
  refine ⟨_, rfl, l7, ?_⟩
  have S7 := S6.like l7
  have q7 := l7
  refine DL_y rfl (y_move rfl) rfl ?_
  refine DL_split 38 rfl (fun h38 => ?_) (fun h38 => ?_)
  ·
    refine DL_gyes rfl rfl rfl (y_move rfl) rfl ?_
    refine DL_gyes rfl rfl rfl (y_move rfl) rfl ?_
    refine DL_gyes rfl rfl rfl (y_eql rfl rfl) rfl ?_
    refine DL_y rfl ((by first | exact y_pickT rfl rfl | exact y_pickF rfl rfl)) rfl ?_
    refine DL_y rfl (y_move rfl) rfl ?_
    refine DL_split 43 rfl (fun h43 => ?_) (fun h43 => ?_)
    ·
      refine DL_gyes rfl rfl rfl (y_ldW Try.underlying26 rfl sz26 rfl (S6.blk 0 rfl) (cm_whole x)) rfl ?_
      refine DL_gyes rfl rfl rfl (y_ldW Try.underlying26 rfl sz26 rfl (S6.blk 0 rfl) (cm_whole x)) rfl ?_
      refine DL_ogyes rfl rfl rfl (o_call Try.func19 rfl rfl (check x w7 (S7.rd hps)) rfl rfl ?_)
      rintro e8 w8 ⟨v8, rfl, l8, rfl⟩
      refine ⟨_, rfl, (Like.trans q7 l8), ?_⟩
      have S8 := S7.like l8
      have q8 := (Like.trans q7 l8)
      refine DL_ogyes rfl rfl rfl (o_call Try.func20 rfl rfl (rcheck x w8 (S8.rd hps)) rfl rfl ?_)
      rintro e9 w9 ⟨v9, rfl, l9, rfl⟩
      refine ⟨_, rfl, (Like.trans q8 l9), ?_⟩
      have S9 := S8.like l9
      have q9 := (Like.trans q8 l9)
      refine DL_gyes rfl rfl rfl (y_eql rfl rfl) rfl ?_
      refine DL_y rfl ((by first | exact y_pickT rfl rfl | exact y_pickF rfl rfl)) rfl ?_
      refine DL_y rfl (y_move rfl) rfl ?_
      refine DL_split 50 rfl (fun h50 => ?_) (fun h50 => ?_)
      ·
        refine DL_gyes rfl rfl rfl (y_move rfl) rfl ?_
        refine DL_gyes rfl rfl rfl (y_move rfl) rfl ?_
        refine DL_gyes rfl rfl rfl (y_eql rfl rfl) rfl ?_
        refine DL_y rfl ((by first | exact y_pickT rfl rfl | exact y_pickF rfl rfl)) rfl ?_
        refine DL_y rfl (y_move rfl) rfl ?_
        refine DL_split 55 rfl (fun h55 => ?_) (fun h55 => ?_)
        ·
          refine DL_gyes rfl rfl rfl (y_move rfl) rfl ?_
          refine DL_gyes rfl rfl rfl (y_move rfl) rfl ?_
          refine DL_gyes rfl rfl rfl (y_eql rfl rfl) rfl ?_
          refine DL_y rfl ((by first | exact y_pickT rfl rfl | exact y_pickF rfl rfl)) rfl ?_
          refine DL_y rfl (y_move rfl) rfl ?_
          refine DL_split 60 rfl (fun h60 => ?_) (fun h60 => ?_)
          ·
            refine DL_gyes rfl rfl rfl (y_move rfl) rfl ?_
            refine DL_gyes rfl rfl rfl (y_move rfl) rfl ?_
            refine DL_ogyes rfl rfl rfl (o_call Try.func21 rfl rfl (digits n w9 (by omega)) rfl rfl ?_)
            rintro e10 w10 ⟨v10, rfl, l10, rfl⟩
            refine ⟨_, rfl, (Like.trans q9 l10), ?_⟩
            have S10 := S9.like l10
            have q10 := (Like.trans q9 l10)
            refine DL_ogyes rfl rfl rfl (o_call Try.func22 rfl rfl (rdigits n w10 (by omega)) rfl rfl ?_)
            rintro e11 w11 ⟨v11, rfl, l11, rfl⟩
            refine ⟨_, rfl, (Like.trans q10 l11), ?_⟩
            have S11 := S10.like l11
            have q11 := (Like.trans q10 l11)
            refine DL_gyes rfl rfl rfl (y_seql rfl rfl) rfl ?_
            refine DL_y rfl ((by first | exact y_pickT rfl rfl | exact y_pickF rfl rfl)) rfl ?_
            refine DL_y rfl (y_move rfl) rfl ?_
            refine DL_split 67 rfl (fun h67 => ?_) (fun h67 => ?_)
            ·
              refine DL_ogyes rfl rfl rfl (o_call Try.func23 rfl rfl (works w11) rfl rfl ?_)
              rintro e12 w12 ⟨v12, rfl, l12, rfl⟩
              refine ⟨_, rfl, (Like.trans q11 l12), ?_⟩
              have S12 := S11.like l12
              have q12 := (Like.trans q11 l12)
              refine DL_y rfl ((by first | exact y_pickT rfl rfl | exact y_pickF rfl rfl)) rfl ?_
              refine DL_y rfl (y_assign rfl) rfl ?_
              refine DL_nil ?_
              refine hK6 _ _ ?_
              refine T_ret ?_
              repeat (first | with_reducible refine up_then ?_ | with_reducible refine up_in ?_)
              refine ret1 rfl rfl ?_
              exact ⟨_, rfl, S12.like0, rfl⟩
            ·
              exact absurd rfl h67
          ·
            exact absurd rfl h60
        ·
          exact absurd rfl h55
      ·
        exact absurd rfl h50
    ·
      exact absurd rfl h43
  ·
    exact absurd rfl h38


theorem wfle {n : Int} (h : (Lit.int .i64 n).wf = true) : n ≤ 9223372036854775807 := by
  have hx : -9223372036854775808 ≤ n ∧ n ≤ 9223372036854775807 := by simpa [Lit.wf, IntKind.min, IntKind.max, IntKind.signed, IntKind.bits] using h
  omega
theorem puts_law (x : Cm) (n : Int) (s : ByteArray) (w0 : World) (hps : Rs w0 32 x.A x.n x.c (x.ps.flatMap idf)) (hn : (Lit.int .i64 n).wf = true) :
    Calls Try.prog 3 #[.agg (cmf x).toArray, .int .i64 n, .string s] w0 fun e w' => e = .returned (.bool true) ∧ Below w0.heap.size w0 w' :=
  (puts x n s w0 hps (wfle hn)).mono fun e w' ⟨u, h1, h2, h3⟩ => by subst h3; exact ⟨h1, h2⟩
end Go.Proofs.Ytgaklngnfecdaaa.Rev


/-
  Commits and tags as a law's arguments.
-/
namespace Go.Proofs.Ytgaklngnfecdaaa.Rev
open Go.ChangeShapes Go.WideShapes Go.ChangeAt Go.RowKit Go.Deep Zk Zx
open Oid (idf idf_len)
set_option linter.unusedVariables false
set_option linter.unusedSimpArgs false
set_option maxRecDepth 100000
section
variable {H : Type} {enc : TypeId × Value → H} {w : World} {base : Nat} {spare : Nat → Bool} {held : Bool}
theorem c9 : Try.prog.cellsOf 9 = 1 := by kernel_rfl
theorem c3 : Try.prog.cellsOf 3 = 1 := by kernel_rfl
theorem c23 : Try.prog.cellsOf 23 = 32 := by kernel_rfl
theorem c24 : Try.prog.cellsOf 24 = 1 := by kernel_rfl
theorem c26 : Try.prog.cellsOf 26 = 36 := by kernel_rfl
theorem read_cm {fuel : Nat} {cs : List Value} {x : DataW H × List MemPlace} (hlen : cs.length = 36) (h : DataW.trod enc Try.prog w base spare held fuel 26 cs = some x) : ∃ y : Cm, cs = cmf y ∧ Rs w 32 y.A y.n y.c (y.ps.flatMap idf) := by
  obtain ⟨xs, n, _, hx, hl, hlen2, hg⟩ := DataW.trod_struct Try.underlying26 h
  have e0 := hg 0 _ rfl
  have e1 := hg 1 _ rfl
  have e2 := hg 2 _ rfl
  have e3 := hg 3 _ rfl
  have e4 := hg 4 _ rfl
  change DataW.trod enc Try.prog w base spare held n 23 ((cs.drop 0).take (Try.prog.cellsOf 23)) = _ at e0
  change DataW.trod enc Try.prog w base spare held n 24 ((cs.drop 32).take (Try.prog.cellsOf 24)) = _ at e1
  change DataW.trod enc Try.prog w base spare held n 9 ((cs.drop 33).take (Try.prog.cellsOf 9)) = _ at e2
  change DataW.trod enc Try.prog w base spare held n 3 ((cs.drop 34).take (Try.prog.cellsOf 3)) = _ at e3
  change DataW.trod enc Try.prog w base spare held n 9 ((cs.drop 35).take (Try.prog.cellsOf 9)) = _ at e4
  rw [c23] at e0
  rw [c24] at e1
  rw [c9] at e2 e4
  rw [c3] at e3
  have hxl : xs.length = 5 := hlen2
  match xs, hxl with
  | [y0, y1, y2, y3, y4], _ =>
    have e0 : DataW.trod enc Try.prog w base spare held n 23 ((cs.drop 0).take 32) = some y0 := e0
    have e1 : DataW.trod enc Try.prog w base spare held n 24 ((cs.drop 32).take 1) = some y1 := e1
    have e2 : DataW.trod enc Try.prog w base spare held n 9 ((cs.drop 33).take 1) = some y2 := e2
    have e3 : DataW.trod enc Try.prog w base spare held n 3 ((cs.drop 34).take 1) = some y3 := e3
    have e4 : DataW.trod enc Try.prog w base spare held n 9 ((cs.drop 35).take 1) = some y4 := e4
    obtain ⟨z, hz⟩ := Oid.read_id e0
    obtain ⟨A, m, c, l, ha, hr⟩ := Oid.read_ids e1
    obtain ⟨s, hs, _, _⟩ := DataW.trod_string Try.underlying9 e2
    obtain ⟨i, hi, _, _⟩ := DataW.trod_int Try.underlying3 e3
    obtain ⟨t, ht, _, _⟩ := DataW.trod_string Try.underlying9 e4
    refine ⟨⟨z, A, m, c, l, s, i, t⟩, ?_, hr⟩
    rw [List.drop_zero] at hz
    have q : cs = cs.take 32 ++ ((cs.drop 32).take 1 ++ ((cs.drop 33).take 1 ++ ((cs.drop 34).take 1 ++ (cs.drop 35).take 1))) := by
      have g : ∀ k, k < cs.length → cs.drop k = (cs.drop k).take 1 ++ cs.drop (k + 1) := fun k hk => by rw [List.drop_eq_getElem_cons hk]; rfl
      have g4 : (cs.drop 35).take 1 = cs.drop 35 := List.take_of_length_le (by rw [List.length_drop]; omega)
      rw [g4, ← g 34 (by omega), ← g 33 (by omega), ← g 32 (by omega), List.take_append_drop]
    rw [q, hz, ha, hs, hi, ht]
    rfl
theorem open_cm {r : Reach} {b0 : Nat} {v : Value} {d : DataW H} {p : List MemPlace} (hv : Value.okWide Try.prog w r b0 26 v) (h : DataW.Trod enc Try.prog w base spare held 26 v d p) : ∃ y : Cm, v = .agg (cmf y).toArray ∧ Rs w 32 y.A y.n y.c (y.ps.flatMap idf) := by
  obtain ⟨cs, rfl, hsz⟩ := okWide_struct Try.underlying26 hv
  obtain ⟨fuel, hf⟩ := h
  have c36 := c26
  obtain ⟨y, hy, hr⟩ := read_cm (by show cs.toList.length = 36; rw [Array.length_toList]; omega) hf
  refine ⟨y, ?_, hr⟩
  have hy' : cs.toList = cmf y := hy
  rw [← hy']
end
end Go.Proofs.Ytgaklngnfecdaaa.Rev
