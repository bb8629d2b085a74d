import Derived.Test.YtgaklngnfecdaaaMgINone5
import Derived.Test.YtgaklngnfecdaaaMgINone2
import Derived.Laws.Small
import Derived.Test.YtgaklngnfecdaaaMgINone4

/-
  Open.
-/
namespace Go.Proofs.Ytgaklngnfecdaaa.Idx
open Go.RowKit Zk Zx
open Oid (idf idf_len cmpL)
set_option linter.unusedVariables false
set_option linter.unusedSimpArgs false

open Oct (rdr)
def INDX : List UInt8 := [73, 78, 68, 88]
theorem indx_ne (l : List UInt8) : ((⟨l.toArray⟩ : ByteArray) ≠ ⟨#[73, 78, 68, 88]⟩) ↔ l ≠ INDX := by
  constructor
  · intro h e; exact h (by rw [e]; rfl)
  · intro h e
    have e2 : l.toArray = #[73, 78, 68, 88] := congrArg ByteArray.data e
    exact h (by have := congrArg Array.toList e2; simpa [INDX] using this)
/-- What bytes say: how many rows, the rows, the trailer, the fan-out. -/
def lastN (b : List UInt8) : Nat := b4 b 1028
def rowsB (b : List UInt8) : List Row := rowsP (b.drop 8) (lastN b) (lastN b) (lastN b) (lastN b)
def ofB (b : List UInt8) : Oid.Id := idAt (b.drop 8) (1024 + 40 * lastN b)
def FanOk (b : List UInt8) (l : List Row) : Prop := ∀ c, c < 256 → (cl l (c + 1) : Int) = (b4 (b.drop 8) (4 * c) : Int)
instance (b : List UInt8) (l : List Row) : Decidable (FanOk b l) := by unfold FanOk; infer_instance
instance (l : List Row) : Decidable (StR l) := by unfold StR; infer_instance
def openE (b : List UInt8) : Int :=
  if b.length < 1096 then 10 else if b.take 4 ≠ INDX ∨ b4 b 4 ≠ 1 then 12 else if 600 < lastN b then 5 else if b.length < 1096 + 40 * lastN b then 10 else if 1096 + 40 * lastN b < b.length then 11
  else if Sha.ofL (b.take (b.length - 32)) ≠ b.drop (b.length - 32) then 13 else if ¬ StR (rowsB b) then 18 else if ¬ FanOk b (rowsB b) then 18 else if (rowsB b).any (fun x => decide (1048576 < x.at_)) then 2 else 0
section
variable {b : List UInt8}
theorem openE_10 (h : b.length < 1096) : openE b = 10 := by unfold openE; rw [if_pos h]
theorem openE_12 (h : ¬ b.length < 1096) (h2 : b.take 4 ≠ INDX ∨ b4 b 4 ≠ 1) : openE b = 12 := by unfold openE; rw [if_neg h, if_pos h2]
theorem openE_5 (h : ¬ b.length < 1096) (h2 : ¬ (b.take 4 ≠ INDX ∨ b4 b 4 ≠ 1)) (h3 : 600 < lastN b) : openE b = 5 := by unfold openE; rw [if_neg h, if_neg h2, if_pos h3]
theorem openE_10b (h : ¬ b.length < 1096) (h2 : ¬ (b.take 4 ≠ INDX ∨ b4 b 4 ≠ 1)) (h3 : ¬ 600 < lastN b) (h4 : b.length < 1096 + 40 * lastN b) : openE b = 10 := by unfold openE; rw [if_neg h, if_neg h2, if_neg h3, if_pos h4]
theorem openE_11 (h : ¬ b.length < 1096) (h2 : ¬ (b.take 4 ≠ INDX ∨ b4 b 4 ≠ 1)) (h3 : ¬ 600 < lastN b) (h4 : ¬ b.length < 1096 + 40 * lastN b) (h5 : 1096 + 40 * lastN b < b.length) : openE b = 11 := by unfold openE; rw [if_neg h, if_neg h2, if_neg h3, if_neg h4, if_pos h5]
/-- All that is asked ahead of the sum. -/
structure Pre (b : List UInt8) : Prop where
  h1 : ¬ b.length < 1096
  h2 : ¬ (b.take 4 ≠ INDX ∨ b4 b 4 ≠ 1)
  h3 : ¬ 600 < lastN b
  h4 : ¬ b.length < 1096 + 40 * lastN b
  h5 : ¬ 1096 + 40 * lastN b < b.length
theorem openE_pre (h : Pre b) : openE b = if Sha.ofL (b.take (b.length - 32)) ≠ b.drop (b.length - 32) then 13 else if ¬ StR (rowsB b) then 18 else if ¬ FanOk b (rowsB b) then 18 else if (rowsB b).any (fun x => decide (1048576 < x.at_)) then 2 else 0 := by
  unfold openE; rw [if_neg h.h1, if_neg h.h2, if_neg h.h3, if_neg h.h4, if_neg h.h5]
theorem openE_13 (h : Pre b) (h6 : Sha.ofL (b.take (b.length - 32)) ≠ b.drop (b.length - 32)) : openE b = 13 := by rw [openE_pre h, if_pos h6]
theorem openE_18 (h : Pre b) (h6 : ¬ Sha.ofL (b.take (b.length - 32)) ≠ b.drop (b.length - 32)) (h7 : ¬ StR (rowsB b)) : openE b = 18 := by rw [openE_pre h, if_neg h6, if_pos h7]
theorem openE_18b (h : Pre b) (h6 : ¬ Sha.ofL (b.take (b.length - 32)) ≠ b.drop (b.length - 32)) (h7 : StR (rowsB b)) (h8 : ¬ FanOk b (rowsB b)) : openE b = 18 := by rw [openE_pre h, if_neg h6, if_neg (fun q => q h7), if_pos h8]
theorem openE_2 (h : Pre b) (h6 : ¬ Sha.ofL (b.take (b.length - 32)) ≠ b.drop (b.length - 32)) (h7 : StR (rowsB b)) (h8 : FanOk b (rowsB b)) (h9 : (rowsB b).any (fun x => decide (1048576 < x.at_)) = true) : openE b = 2 := by rw [openE_pre h, if_neg h6, if_neg (fun q => q h7), if_neg (fun q => q h8), if_pos h9]
theorem openE_0 (h : Pre b) (h6 : ¬ Sha.ofL (b.take (b.length - 32)) ≠ b.drop (b.length - 32)) (h7 : StR (rowsB b)) (h8 : FanOk b (rowsB b)) (h9 : ¬ (rowsB b).any (fun x => decide (1048576 < x.at_)) = true) : openE b = 0 := by rw [openE_pre h, if_neg h6, if_neg (fun q => q h7), if_neg (fun q => q h8), if_neg h9]
end
/-- What Open answers. -/
def Opened (w0 w' : World) (b : List UInt8) (u : Value) : Prop := (openE b ≠ 0 ∧ Like w0 w' ∧ u = .tuple #[.pointer none, .int .i64 (openE b)]) ∨ (openE b = 0 ∧ ∃ g A, u = .tuple #[.pointer (some ⟨g, 0, none⟩), .int .i64 0] ∧ Zx.St w0 noM [Zx.row 119 34 A (rowsB b).length (rowsB b).length ((rowsB b).flatMap rowf), blk g 97 (idxf A (rowsB b).length (rowsB b).length (rowsB b) (ofB b)).toArray] w')
theorem said_at (b : List UInt8) {i : Nat} (h : i < 256) : (said (b.drop 8)).toArray[i]? = some (.int .i64 (b4 (b.drop 8) (4 * i) : Int)) := by
  rw [List.getElem?_toArray]
  unfold said arrG
  rw [List.getElem?_append_left (by simpa using h)]
  simp [h]
theorem said_len (t : List UInt8) : (said t).length = 256 := arrG_len _ (Nat.le_refl _)
theorem said_one (t : List UInt8) : ∀ u ∈ said t, u.oneCell' = true := arrG_one _ _
theorem idxG_fan {A : Option Addr} {n c : Nat} {fs : List Value} {l : List Row} {of : Oid.Id} (h : fs.length = 256) : ((idxG A n c fs of).toArray.toList.take 1 ++ (fanF l).toArray.toList ++ (idxG A n c fs of).toArray.toList.drop (1 + (fanF l).toArray.size)).toArray = (idxf A n c l of).toArray := by
  refine congrArg List.toArray ?_
  unfold idxG idxf
  rw [List.size_toArray, fanF_len, List.toList_toArray, List.toList_toArray]
  have e1 : ([Value.slice A n c] ++ fs ++ idf of).take 1 = [.slice A n c] := rfl
  have e2 : ([Value.slice A n c] ++ fs ++ idf of).drop (1 + 256) = idf of := by
    rw [List.append_assoc, ← List.drop_drop, show ([Value.slice A n c] ++ (fs ++ idf of)).drop 1 = fs ++ idf of from rfl, List.drop_append_of_le_length (by omega), List.drop_of_length_le (by omega), List.nil_append]
  rw [e1, e2]
theorem idxf_fan (A : Option Addr) (n c : Nat) (l : List Row) (of : Oid.Id) : ((idxf A n c l of).toArray.toList.drop 1).take 256 = fanF l ∧ (fanF l).length = 256 := by
  refine ⟨?_, fanF_len l⟩
  unfold idxf
  rw [List.toList_toArray, show ([Value.slice A n c] ++ fanF l ++ idf of).drop 1 = fanF l ++ idf of from rfl, List.take_append_of_le_length (by rw [fanF_len]; omega), List.take_of_length_le (by rw [fanF_len]; omega)]
theorem fan_at (l : List Row) {i : Nat} (h : i < 256) : (fanF l).toArray[i]? = some (.int .i64 (cl l (i + 1) : Int)) := fan_cell l i h
theorem str_of_adj {l : List Row} (h : ∀ i x y, i + 1 < l.length → l[i]? = some x → l[i + 1]? = some y → Oid.lt x.id y.id = true) : StR l := by
  unfold StR
  rw [List.pairwise_iff_getElem]
  intro i j hi hj hij
  obtain ⟨d, rfl⟩ : ∃ d, j = i + 1 + d := ⟨j - (i + 1), by omega⟩
  clear hij
  induction d with
  | zero => exact h i _ _ hj (List.getElem?_eq_getElem hi) (List.getElem?_eq_getElem hj)
  | succ d ih =>
    have h1 := ih (by omega)
    have h2 := h (i + 1 + d) l[i + 1 + d] l[i + 1 + (d + 1)] (by omega) (List.getElem?_eq_getElem (by omega)) (by rw [show i + 1 + d + 1 = i + 1 + (d + 1) by omega]; exact List.getElem?_eq_getElem (by omega))
    exact Oid.lt_trans _ _ _ h1 h2
theorem not_str {l : List Row} {i : Nat} {x y : Row} (hx : l[i]? = some x) (hy : l[i + 1]? = some y) (h : Oid.lt x.id y.id = false) : ¬ StR l := fun hs => by
  unfold StR at hs
  rw [List.pairwise_iff_getElem] at hs
  obtain ⟨h1, h2⟩ := List.getElem?_eq_some_iff.1 hx
  obtain ⟨h3, h4⟩ := List.getElem?_eq_some_iff.1 hy
  have := hs i (i + 1) h1 h3 (by omega)
  rw [h2, h4, h] at this
  cases this
theorem head4 (b : List UInt8) : ((b.take 1032).drop 0).take 4 = b.take 4 := by rw [List.drop_zero, List.take_take]; rfl
theorem b4_take (b : List UInt8) : Oct.be (((b.take 1032).drop (0 + 4)).take 4) = b4 b 4 := by
  unfold b4
  rw [List.drop_take, List.take_take]
  rfl
theorem b4_last (b : List UInt8) : Oct.be (((((b.drop 1028).take (1032 - 1028)).drop 0)).take 4) = lastN b := by
  unfold lastN b4
  rw [List.drop_zero, List.take_take]
  rfl
theorem any_far {l : List Row} {k : Nat} {x : Row} (hx : l[k]? = some x) (h : 1048576 < x.at_) : l.any (fun x => decide (1048576 < x.at_)) = true := by
  rw [List.any_eq_true]
  exact ⟨x, List.mem_of_getElem? hx, decide_eq_true h⟩
theorem no_far {l : List Row} (h : ∀ i x, i < l.length → l[i]? = some x → ¬ 1048576 < x.at_) : ¬ l.any (fun x => decide (1048576 < x.at_)) = true := fun q => by
  rw [List.any_eq_true] at q
  obtain ⟨x, hx, q⟩ := q
  obtain ⟨i, hi⟩ := List.mem_iff_getElem?.1 hx
  exact h i x (List.getElem?_eq_some_iff.1 hi).1 hi (of_decide_eq_true q)


set_option maxRecDepth 100000 in
theorem open_ (B : Option Addr) (m d : Nat) (b : List UInt8) (w0 : World) (hb : Rs w0 1 B m d (bL b)) :
    Calls Try.prog 28 #[.slice B m d] w0 fun e w' => ∃ u, e = .returned u ∧ Opened w0 w' b u := by
  refine enter1 (env := [(0, .slice B m d)]) [.slice B m d] Try.func28 rfl Try.ntmps28 rfl rfl ?_
  have hm := hb.lenb; have hcap := hb.cap; have hmax := hb.max
  have S0 := St.start w0 noM
  refine T_seq fun K1 hK1 => ?_
  refine T_region ?_
  refine L_y (y_assign rfl) rfl ?_
  refine L_y (y_assign rfl) rfl ?_
  refine L_nil ?_
  refine hK1 _ _ ?_
  refine T_seq fun K2 hK2 => ?_
  refine T_seq fun K3 hK3 => ?_
  refine T_region ?_
  refine L_y (y_move rfl) rfl ?_
  refine L_y (y_len Try.underlying27 rfl) rfl ?_
  refine L_y (y_lss rfl rfl) rfl ?_
  refine L_nil ?_
  refine hK3 _ _ ?_
  refine T_cond rfl (fun h15 => ?_) (fun h15 => ?_)
  ·
    refine T_seq fun K4 hK4 => ?_
    refine T_region ?_
    refine L_y (y_assign rfl) rfl ?_
    refine L_y (y_assign rfl) rfl ?_
    refine L_nil ?_
    refine hK4 _ _ ?_
    refine T_ret ?_
    repeat (first | with_reducible refine up_then ?_ | with_reducible refine up_in ?_)
    refine ret2 rfl rfl rfl ?_
    have he : openE b = 10 := openE_10 (by omega)
    exact ⟨_, rfl, .inl ⟨by rw [he]; decide, S0.like0, by rw [he]⟩⟩
  ·
    refine T_skip ?_
    refine hK2 _ _ ?_
    refine T_seq fun K5 hK5 => ?_
    refine T_region ?_
    refine L_y (y_move rfl) rfl ?_
    refine L_y (y_sliceH Try.underlying27 sz5 rfl rfl inferInstance (by omega)) rfl ?_
    refine L_o (o_call Try.func71 rfl rfl (Oct.rnew _ _ _ (b.take 1032) w0 ((S0.rd hb).cutb (l := 0) (u := 1032) (by omega) (by omega)) (by omega)) rfl rfl ?_)
    rintro e1 w1 ⟨v1, rfl, l1, g1, A1, c1, rfl, hh1, dd1⟩
    refine ⟨_, rfl, ?_⟩
    have S1 := S0.new l1 _ hh1 dd1
    refine L_y (y_assign rfl) rfl ?_
    refine L_nil ?_
    refine hK5 _ _ ?_
    refine T_seq fun K6 hK6 => ?_
    refine T_seq fun K7 hK7 => ?_
    refine T_region ?_
    refine L_y (y_move rfl) rfl ?_
    refine L_o (o_call Try.func72 rfl rfl (Oct.rraw g1 A1 (1032 - 0) c1 (b.take 1032) 0 0 (4 : Nat) w1 (S1.get 0 rfl) (by omega) (by omega) (by omega)) rfl rfl ?_)
    rintro e2 w2 ⟨v2, rfl, T2, B7, d7, rfl, hr2, hd2⟩
    refine ⟨_, rfl, ?_⟩
    have S2 := S1.turn 0 rfl T2
    obtain ⟨e1, e2, e3⟩ := Oct.rn_ok (l := b.take 1032) (p := 0) (k := 4) (by rw [List.length_take]; omega)
    rw [e1, head4] at hr2 hd2
    rw [e2, e3] at S2
    rw [e1, head4]
    refine L_y (y_bstr Try.underlying27 Try.underlying5 Try.underlying9 rfl (by first | exact S2.rd hb | exact rs_of_row hr2 | exact S2.row 0 rfl)) rfl ?_
    refine L_y (y_sneq rfl rfl) rfl ?_
    refine L_y (y_move rfl) rfl ?_
    refine L_split 23 rfl (fun h23 => ?_) (fun h23 => ?_)
    ·
      refine L_gno rfl rfl rfl ?_
      refine L_gno rfl rfl rfl ?_
      refine L_gno rfl rfl rfl ?_
      refine L_y ((by first | exact y_pickT rfl rfl | exact y_pickF rfl rfl)) rfl ?_
      refine L_nil ?_
      refine hK7 _ _ ?_
      refine T_true rfl ?_
      refine T_seq fun K8 hK8 => ?_
      refine T_region ?_
      refine L_y (y_assign rfl) rfl ?_
      refine L_y (y_assign rfl) rfl ?_
      refine L_nil ?_
      refine hK8 _ _ ?_
      refine T_ret ?_
      repeat (first | with_reducible refine up_then ?_ | with_reducible refine up_in ?_)
      refine ret2 rfl rfl rfl ?_
      have he : openE b = 12 := openE_12 (by omega) (by first | exact .inl ((indx_ne _).1 h23) | exact .inr (fun q => h27 (by have h9 := b4_take b; omega)))
      exact ⟨_, rfl, .inl ⟨by rw [he]; decide, S2.like0, by rw [he]⟩⟩
    ·
      have hx0 : b.take 4 = INDX := by by_cases q : b.take 4 = INDX; exact q; exact absurd ((indx_ne _).2 q) h23
      refine L_gyes rfl rfl ?_
      refine L_y (y_move rfl) rfl ?_
      refine L_gyes rfl rfl ?_
      refine L_o (o_call Try.func73 rfl rfl (Oct.ru32 g1 A1 (1032 - 0) c1 (b.take 1032) (0 + 4) 0 w2 (S2.get 0 rfl) (by rw [List.length_take]; omega) (by omega)) rfl rfl ?_)
      rintro e4 w4 ⟨v4, rfl, rfl, T4⟩
      refine ⟨_, rfl, ?_⟩
      have S4 := S2.turn 0 rfl T4
      obtain ⟨e1, e2, e3⟩ := rw_ok (l := b.take 1032) (p := 0 + 4) (k := 4) (by rw [List.length_take]; omega)
      rw [e1]
      refine L_gyes rfl rfl ?_
      refine L_y (y_neq rfl rfl) rfl ?_
      refine L_y ((by first | exact y_pickT rfl rfl | exact y_pickF rfl rfl)) rfl ?_
      refine L_nil ?_
      refine hK7 _ _ ?_
      refine T_cond rfl (fun h27 => ?_) (fun h27 => ?_)
      ·
        refine T_seq fun K9 hK9 => ?_
        refine T_region ?_
        refine L_y (y_assign rfl) rfl ?_
        refine L_y (y_assign rfl) rfl ?_
        refine L_nil ?_
        refine hK9 _ _ ?_
        refine T_ret ?_
        repeat (first | with_reducible refine up_then ?_ | with_reducible refine up_in ?_)
        refine ret2 rfl rfl rfl ?_
        have he : openE b = 12 := openE_12 (by omega) (by first | exact .inl ((indx_ne _).1 h23) | exact .inr (fun q => h27 (by have h9 := b4_take b; omega)))
        exact ⟨_, rfl, .inl ⟨by rw [he]; decide, S4.like0, by rw [he]⟩⟩
      ·
        have hform : ¬ (b.take 4 ≠ INDX ∨ b4 b 4 ≠ 1) := fun q => by rcases q with q | q; exact q hx0; exact q (by have h9 := b4_take b; omega)
        refine T_skip ?_
        refine hK6 _ _ ?_
        refine T_seq fun K10 hK10 => ?_
        refine T_region ?_
        refine L_y (y_move rfl) rfl ?_
        refine L_y (y_slice Try.underlying27 sz5 rfl rfl rfl inferInstance inferInstance (by omega) (by omega)) rfl ?_
        refine L_o (o_call Try.func71 rfl rfl (Oct.rnew _ _ _ ((b.drop 1028).take (1032 - 1028)) w4 ((S4.rd hb).cutb (l := 1028) (u := 1032) (by omega) (by omega)) (by omega)) rfl rfl ?_)
        rintro e5 w5 ⟨v5, rfl, l5, g3, A3, c3, rfl, hh5, dd5⟩
        refine ⟨_, rfl, ?_⟩
        have S5 := S4.new l5 _ hh5 dd5
        refine L_o (o_call Try.func73 rfl rfl (Oct.ru32 g3 A3 (1032 - 1028) c3 ((b.drop 1028).take (1032 - 1028)) 0 0 w5 (S5.get 1 rfl) (by omega) (by omega)) rfl rfl ?_)
        rintro e6 w6 ⟨v6, rfl, rfl, T6⟩
        refine ⟨_, rfl, ?_⟩
        have S6 := S5.turn 1 rfl T6
        obtain ⟨e1, e2, e3⟩ := rw_ok (l := (b.drop 1028).take (1032 - 1028)) (p := 0) (k := 4) (by rw [List.length_take, List.length_drop]; omega)
        rw [e1, b4_last]
        have hlast : lastN b < 4294967296 := b4_lt _ _
        refine L_y (y_assign rfl) rfl ?_
        refine L_nil ?_
        refine hK10 _ _ ?_
        refine T_seq fun K11 hK11 => ?_
        refine T_seq fun K12 hK12 => ?_
        refine T_region ?_
        refine L_y (y_move rfl) rfl ?_
        refine L_y (y_gtr rfl rfl) rfl ?_
        refine L_nil ?_
        refine hK12 _ _ ?_
        refine T_cond rfl (fun h33 => ?_) (fun h33 => ?_)
        ·
          refine T_seq fun K13 hK13 => ?_
          refine T_region ?_
          refine L_y (y_assign rfl) rfl ?_
          refine L_y (y_assign rfl) rfl ?_
          refine L_nil ?_
          refine hK13 _ _ ?_
          refine T_ret ?_
          repeat (first | with_reducible refine up_then ?_ | with_reducible refine up_in ?_)
          refine ret2 rfl rfl rfl ?_
          have he : openE b = 5 := openE_5 (by omega) hform (by omega)
          exact ⟨_, rfl, .inl ⟨by rw [he]; decide, S6.like0, by rw [he]⟩⟩
        ·
          refine T_skip ?_
          refine hK11 _ _ ?_
          refine T_seq fun K14 hK14 => ?_
          refine T_region ?_
          refine L_y (y_move rfl) rfl ?_
          refine L_y (y_conv is60 Try.underlying3 rfl (i64w (by omega))) rfl ?_
          refine L_y (y_assign rfl) rfl ?_
          refine L_nil ?_
          refine hK14 _ _ ?_
          refine T_seq fun K15 hK15 => ?_
          refine T_seq fun K16 hK16 => ?_
          refine T_region ?_
          refine L_y (y_move rfl) rfl ?_
          refine L_y (y_mul rfl rfl (i64w (by omega))) rfl ?_
          refine L_y (y_add rfl rfl (i64w (by omega))) rfl ?_
          refine L_y (y_add rfl rfl (i64w (by omega))) rfl ?_
          refine L_y (y_assign rfl) rfl ?_
          refine L_nil ?_
          refine hK16 _ _ ?_
          refine T_block ?_
          refine T_seq fun K17 hK17 => ?_
          refine T_region ?_
          refine L_y (y_move rfl) rfl ?_
          refine L_y (y_len Try.underlying27 rfl) rfl ?_
          refine L_y (y_move rfl) rfl ?_
          refine L_y (y_lss rfl rfl) rfl ?_
          refine L_y (y_assign rfl) rfl ?_
          refine L_nil ?_
          refine hK17 _ _ ?_
          refine T_cond rfl (fun h40 => ?_) (fun h40 => ?_)
          ·
            refine T_seq fun K18 hK18 => ?_
            refine T_region ?_
            refine L_y (y_assign rfl) rfl ?_
            refine L_y (y_assign rfl) rfl ?_
            refine L_nil ?_
            refine hK18 _ _ ?_
            refine T_ret ?_
            repeat (first | with_reducible refine up_then ?_ | with_reducible refine up_in ?_)
            refine ret2 rfl rfl rfl ?_
            have he : openE b = 10 := openE_10b (by omega) hform (by omega) (by omega)
            exact ⟨_, rfl, .inl ⟨by rw [he]; decide, S6.like0, by rw [he]⟩⟩
          ·
            refine T_seq fun K19 hK19 => ?_
            refine T_region ?_
            refine L_y (y_move rfl) rfl ?_
            refine L_y (y_len Try.underlying27 rfl) rfl ?_
            refine L_y (y_move rfl) rfl ?_
            refine L_y (y_gtr rfl rfl) rfl ?_
            refine L_y (y_assign rfl) rfl ?_
            refine L_nil ?_
            refine hK19 _ _ ?_
            refine T_cond rfl (fun h45 => ?_) (fun h45 => ?_)
            ·
              refine T_seq fun K20 hK20 => ?_
              refine T_region ?_
              refine L_y (y_assign rfl) rfl ?_
              refine L_y (y_assign rfl) rfl ?_
              refine L_nil ?_
              refine hK20 _ _ ?_
              refine T_ret ?_
              repeat (first | with_reducible refine up_then ?_ | with_reducible refine up_in ?_)
              refine ret2 rfl rfl rfl ?_
              have he : openE b = 11 := openE_11 (by omega) hform (by omega) (by omega) (by omega)
              exact ⟨_, rfl, .inl ⟨by rw [he]; decide, S6.like0, by rw [he]⟩⟩
            ·
              have hpre : Pre b := ⟨by omega, hform, by omega, by omega, by omega⟩
              have hbl : b.length = 1096 + 40 * lastN b := by omega
              refine T_skip ?_
              refine hK15 _ _ ?_
              refine T_seq fun K21 hK21 => ?_
              refine T_seq fun K22 hK22 => ?_
              have e32 : (b.drop (b.length - 32)).take 32 = b.drop (b.length - 32) := List.take_of_length_le (by rw [List.length_drop]; omega)
              refine T_drawnL [(0, true), (1, true), (2, true), (3, true), (4, true), (7, true), (8, true), (9, true), (10, true), (11, true), (12, true), (13, true), (5, false), (6, false), (14, true)] hmix (by kernel_rfl) fun w7 l7 => ?_
              have S7 := S6.like l7
              refine DL_y rfl (y_move rfl) rfl ?_
              refine DL_y rfl (y_move rfl) rfl ?_
              refine DL_y rfl (y_len Try.underlying27 rfl) rfl ?_
              refine DL_y rfl (y_sub rfl rfl (i64w (by omega))) rfl ?_
              refine DL_y rfl (y_sliceH Try.underlying27 sz5 rfl rfl (Nt.mk (by omega) : Nt _ (b.length - 32)) (by omega)) rfl ?_
              refine DL_y rfl (y_move rfl) rfl ?_
              refine DL_y rfl (y_move rfl) rfl ?_
              refine DL_y rfl (y_len Try.underlying27 rfl) rfl ?_
              refine DL_y rfl (y_sub rfl rfl (i64w (by omega))) rfl ?_
              refine DL_y rfl (y_sliceL Try.underlying27 sz5 rfl rfl (Nt.mk (by omega) : Nt _ (b.length - 32)) (by omega)) rfl ?_
              refine DL_y rfl (y_arrAt Try.underlying23 rfl (by omega)) rfl ?_
              refine DL_y rfl (y_ldArr Try.underlying23 sz23 rfl (rs_tail (b.length - 32) (S7.rd hb) (by omega)) (by omega) (by omega)) rfl ?_
              refine DL_o rfl (o_bslL [_] te177 zz27 S7 rfl rfl rfl rfl rfl rfl rfl rfl fun b8 w8 l8 S8 => ?_)
              have q8 := l8
              refine ⟨q8, ?_⟩
              refine DL_o rfl (o_call Try.func74 rfl rfl (Sha.shaof [⟨_, _, _, b.take (b.length - 32)⟩] _ _ _ w8 (S8.row 2 rfl) (fun p hp => by obtain rfl := List.mem_singleton.1 hp; exact (S8.rd hb).cutb (l := 0) (u := b.length - 32) (by omega) (by omega)) (by rw [cat1, List.length_take]; omega) (by simp)) rfl rfl ?_)
              rintro e9 w9 ⟨v9, rfl, l9, hu9⟩
              refine ⟨_, rfl, (Like.trans q8 l9), ?_⟩
              have S9 := S8.like l9
              rw [cat1] at hu9
              subst hu9
              have q9 := (Like.trans q8 l9)
              refine DL_y rfl (y_neB Try.underlying23 Try.underlying5 sz5 (by kernel_rfl) rfl rfl (Sha.length_ofL _) (by rw [List.length_take, List.length_drop]; omega)) rfl ?_
              refine DL_nil ?_
              refine hK22 _ _ ?_
              refine T_cond rfl (fun h64 => ?_) (fun h64 => ?_)
              ·
                rw [e32] at h64
                refine T_seq fun K23 hK23 => ?_
                refine T_region ?_
                refine L_y (y_assign rfl) rfl ?_
                refine L_y (y_assign rfl) rfl ?_
                refine L_nil ?_
                refine hK23 _ _ ?_
                refine T_ret ?_
                repeat (first | with_reducible refine up_then ?_ | with_reducible refine up_in ?_)
                refine ret2 rfl rfl rfl ?_
                have he : openE b = 13 := openE_13 hpre h64
                exact ⟨_, rfl, .inl ⟨by rw [he]; decide, S9.like0, by rw [he]⟩⟩
              ·
                rw [e32] at h64
                refine T_skip ?_
                refine hK21 _ _ ?_
                refine T_seq fun K24 hK24 => ?_
                refine T_region ?_
                refine L_y (y_move rfl) rfl ?_
                refine L_y (y_move rfl) rfl ?_
                refine L_o (o_call Try.func75 rfl rfl (read B m d b (lastN b) w9 (S9.rd hb) hbl (by omega)) rfl rfl ?_)
                rintro e10 w10 ⟨v10, rfl, l10, g5, A5, rfl, T10⟩
                refine ⟨_, rfl, ?_⟩
                have S10 := S9.adoptS T10
                have hlen : (rowsB b).length = lastN b := rowsP_len _ _ _ _ _
                refine L_y (y_move rfl) rfl ?_
                refine L_y (y_extract rfl rfl) rfl ?_
                refine L_y (y_extract rfl rfl) rfl ?_
                refine L_o (o_alloc zz95 S10 rfl fun b11 w11 hb11 S11 => ?_)
                refine L_y (y_assign rfl) rfl ?_
                refine L_o (o_stW S11 5 rfl rfl rfl (by rw [List.size_toArray, said_len]; exact sz95) (by rw [List.size_toArray, said_len]; rfl) (fun u hu => said_one _ u (by rw [List.toList_toArray] at hu; exact hu)) fun w12 S12 => ?_)
                refine L_nil ?_
                refine hK24 _ _ ?_
                refine T_seq fun K25 hK25 => ?_
                refine T_seq fun K26 hK26 => ?_
                refine T_region ?_
                refine L_y (y_assign rfl) rfl ?_
                refine L_nil ?_
                refine hK26 _ _ ?_
                refine T_block ?_
                refine T_loop1 [(6, _), (8, _), (9, _)] (fun (j : Nat) => [(10, .int .i64 (j : Int))]) (fun (j : Nat) => (lastN b) - j) (fun (j : Nat) (w : World) => (1 ≤ j ∧ ∀ i x y, i + 1 < j → (rowsB b)[i]? = some x → (rowsB b)[i + 1]? = some y → Oid.lt x.id y.id = true) ∧ Zx.St w0 noM [Zx.row 119 34 A5 (lastN b) (lastN b) ((rowsB b).flatMap rowf), blk g5 97 (idxG A5 (lastN b) (lastN b) (List.replicate 256 (.int .i64 0)) (ofB b)).toArray, blk b11 95 (said (b.drop 8)).toArray] w) 1 (Sub.cons rfl (by first | rfl | exact congrArg (Value.int _) (by omega)) (Sub.nil _)) (Sub.cons rfl rfl (Sub.cons rfl rfl (Sub.cons rfl rfl (Sub.nil _)))) ?_ ?_
                ·
                  have S71 : Zx.St w0 noM [Zx.row 119 34 A5 (lastN b) (lastN b) ((rowsB b).flatMap rowf), blk g5 97 (idxG A5 (lastN b) (lastN b) (List.replicate 256 (.int .i64 0)) (ofB b)).toArray, blk b11 95 (said (b.drop 8)).toArray] w12 := S12.sel [3, 4, 5] (by decide)
                  exact ⟨⟨by omega, fun i x y hi => by omega⟩, S71⟩
                ·
                  intro j w13 hrel
                  obtain ⟨⟨hj, hasc⟩, S13⟩ := hrel
                  refine T_seq fun K27 hK27 => ?_
                  refine T_seq fun K28 hK28 => ?_
                  refine T_region ?_
                  refine L_y (y_move rfl) rfl ?_
                  refine L_y (y_move rfl) rfl ?_
                  refine L_y (y_lss rfl rfl) rfl ?_
                  refine L_nil ?_
                  refine hK28 _ _ ?_
                  refine T_cond rfl (fun h73 => ?_) (fun h73 => ?_)
                  ·
                    obtain ⟨p, hx1⟩ : ∃ x, (rowsB b)[j - 1]? = some x := ⟨_, List.getElem?_eq_getElem (by omega)⟩
                    obtain ⟨q, hx2⟩ : ∃ x, (rowsB b)[j]? = some x := ⟨_, List.getElem?_eq_getElem (by omega)⟩
                    refine T_skip ?_
                    refine hK27 _ _ ?_
                    refine T_seq fun K29 hK29 => ?_
                    refine T_block ?_
                    refine T_seq fun K30 hK30 => ?_
                    refine T_tail 15 hmix (by kernel_rfl) fun w14 l14 K31 hK31 => ?_
                    have S14 := S13.like l14
                    refine HL_y (y_move rfl) rfl ?_
                    refine HL_y (y_nilp rfl) rfl ?_
                    refine HL_y (y_fieldA 0 Try.underlying97 rfl sz94 rfl rfl rfl) rfl ?_
                    refine HL_y (y_ldc Try.underlying94 rfl rfl (((S14.blk 1 rfl).cell _).trans (idxG_row _ _ _ _ _))) rfl ?_
                    refine HL_y (y_move rfl) rfl ?_
                    refine HL_y (y_sub rfl rfl (i64w (by omega))) rfl ?_
                    refine HL_y (y_idx Try.underlying94 sz119 rfl rfl (S14.row 0 rfl) (Nt.mk (by omega) : Nt _ (j - 1)) (by omega)) rfl ?_
                    refine HL_y (y_ldp (f := rowf) rowf_len Try.underlying119 rfl sz119 rfl (S14.row 0 rfl) (by omega) hx1) rfl ?_
                    refine HL_y (y_move rfl) rfl ?_
                    refine HL_y (y_nilp rfl) rfl ?_
                    refine HL_y (y_fieldA 0 Try.underlying97 rfl sz94 rfl rfl rfl) rfl ?_
                    refine HL_y (y_ldc Try.underlying94 rfl rfl (((S14.blk 1 rfl).cell _).trans (idxG_row _ _ _ _ _))) rfl ?_
                    refine HL_y (y_move rfl) rfl ?_
                    refine HL_y (y_idx Try.underlying94 sz119 rfl rfl (S14.row 0 rfl) inferInstance (by omega)) rfl ?_
                    refine HL_y (y_ldp (f := rowf) rowf_len Try.underlying119 rfl sz119 rfl (S14.row 0 rfl) (by omega) hx2) rfl ?_
                    refine HL_nil ?_
                    refine hK31 _ ?_
                    refine L_o (o_call Try.func64 rfl rfl (cmpR p q w14) rfl rfl ?_)
                    rintro e15 w15 ⟨v15, rfl, l15, rfl⟩
                    refine ⟨_, rfl, ?_⟩
                    have S15 := S14.like l15
                    refine L_y (y_geq rfl rfl) rfl ?_
                    refine L_nil ?_
                    refine hK30 _ _ ?_
                    refine T_cond rfl (fun h92 => ?_) (fun h92 => ?_)
                    ·
                      refine T_seq fun K32 hK32 => ?_
                      refine T_region ?_
                      refine L_y (y_assign rfl) rfl ?_
                      refine L_y (y_assign rfl) rfl ?_
                      refine L_nil ?_
                      refine hK32 _ _ ?_
                      refine T_ret ?_
                      repeat (first | with_reducible refine up_then ?_ | with_reducible refine up_in ?_)
                      refine ret2 rfl rfl rfl ?_
                      have he : openE b = 18 := openE_18 hpre h64 (not_str hx1 (by rw [show j - 1 + 1 = j by omega]; exact hx2) ((Oid.cmp_ge _ _).1 (by omega)))
                      exact ⟨_, rfl, .inl ⟨by rw [he]; decide, S15.like0, by rw [he]⟩⟩
                    ·
                      refine T_skip ?_
                      refine hK29 _ _ ?_
                      refine T_region ?_
                      refine L_y (y_move rfl) rfl ?_
                      refine L_y (y_add rfl rfl (i64w (by omega))) rfl ?_
                      refine L_y (y_assign rfl) rfl ?_
                      refine L_nil ?_
                      refine ⟨j + 1, by omega, ⟨⟨by omega, fun i x y hi hx hy => by rcases Nat.lt_or_ge (i + 1) j with q | q; exact hasc i x y q hx hy; (have e9 : i = j - 1 := by omega); subst e9; rw [hx1] at hx; cases hx; rw [show j - 1 + 1 = j by omega, hx2] at hy; cases hy; exact (Oid.cmp_lt _ _).1 (by omega)⟩, S15⟩, ?_⟩
                      exact (Sub.cons rfl (by first | rfl | exact congrArg (Value.int _) (by omega)) (Sub.cons rfl rfl (Sub.cons rfl rfl (Sub.cons rfl rfl (Sub.nil _)))))
                  ·
                    have hst : StR (rowsB b) := str_of_adj (fun i x y hi hx hy => hasc i x y (by omega) hx hy)
                    refine T_exit ?_
                    refine hK25 _ _ ?_
                    refine T_seq fun K33 hK33 => ?_
                    refine T_region ?_
                    refine L_y (y_move rfl) rfl ?_
                    refine L_y (y_move rfl) rfl ?_
                    refine L_y (y_nilp rfl) rfl ?_
                    refine L_y (y_fieldA 0 Try.underlying97 rfl sz94 rfl rfl rfl) rfl ?_
                    refine L_y (y_ldc Try.underlying94 rfl rfl (((S13.blk 1 rfl).cell _).trans (idxG_row _ _ _ _ _))) rfl ?_
                    refine L_o (o_call Try.func76 rfl rfl (fanC A5 (lastN b) (lastN b) (rowsB b) w13 (S13.row 0 rfl) (StR.fs hst)) rfl rfl ?_)
                    rintro e16 w16 ⟨v16, rfl, l16, rfl⟩
                    refine ⟨_, rfl, ?_⟩
                    have S16 := S13.like l16
                    refine L_y (y_nilp rfl) rfl ?_
                    refine L_y (y_fieldA 1 Try.underlying97 rfl sz95 rfl rfl rfl) rfl ?_
                    refine L_o (o_stR S16 1 rfl rfl rfl (by rw [List.size_toArray, fanF_len]; exact sz95) (by rw [idxG_len (by simp), List.size_toArray, fanF_len]; omega) (fun u hu => fanA_one _ _ u (by rw [List.toList_toArray] at hu; exact hu)) fun w17 S17 => ?_)
                    have S90 := S17.blkc 1 rfl (idxG_fan (by simp))
                    refine L_nil ?_
                    refine hK33 _ _ ?_
                    refine T_seq fun K34 hK34 => ?_
                    refine T_seq fun K35 hK35 => ?_
                    refine T_drawnL [(0, true), (1, true), (2, true), (3, true), (4, true), (5, true)] hmix (by kernel_rfl) fun w18 l18 => ?_
                    have S18 := S90.like l18
                    refine DL_y rfl (y_move rfl) rfl ?_
                    refine DL_y rfl (y_nilp rfl) rfl ?_
                    refine DL_y rfl (y_fieldA 1 Try.underlying97 rfl sz95 rfl rfl rfl) rfl ?_
                    refine DL_y rfl (y_ldW Try.underlying95 rfl sz95 rfl (S18.blk 1 rfl) (idxf_fan _ _ _ _ _)) rfl ?_
                    refine DL_y rfl (y_ldW Try.underlying95 rfl sz95 rfl (S18.blk 2 rfl) (said_whole _ 256 (Nat.le_refl _))) rfl ?_
                    refine DL_y rfl (y_neA (fun i => (cl (rowsB b) (i + 1) : Int)) (fun i => (b4 (b.drop 8) (4 * i) : Int)) Try.underlying95 Try.underlying3 sz3 (by kernel_rfl) rfl rfl (fun i hi => fan_at _ hi) (fun i hi => said_at b hi)) rfl ?_
                    refine DL_nil ?_
                    refine hK35 _ _ ?_
                    refine T_condB rfl (fun h106 => ?_) (fun h106 => ?_)
                    ·
                      refine T_seq fun K36 hK36 => ?_
                      refine T_region ?_
                      refine L_y (y_assign rfl) rfl ?_
                      refine L_y (y_assign rfl) rfl ?_
                      refine L_nil ?_
                      refine hK36 _ _ ?_
                      refine T_ret ?_
                      repeat (first | with_reducible refine up_then ?_ | with_reducible refine up_in ?_)
                      refine ret2 rfl rfl rfl ?_
                      have he : openE b = 18 := openE_18b hpre h64 hst (all_ne.1 h106)
                      exact ⟨_, rfl, .inl ⟨by rw [he]; decide, S18.like0, by rw [he]⟩⟩
                    ·
                      have hfan : FanOk b (rowsB b) := by by_cases q : FanOk b (rowsB b); exact q; exact absurd (all_ne.2 q) (by rw [h106]; decide)
                      refine T_skip ?_
                      refine hK34 _ _ ?_
                      refine T_seq fun K37 hK37 => ?_
                      refine T_seq fun K38 hK38 => ?_
                      refine T_region ?_
                      refine L_y (y_move rfl) rfl ?_
                      refine L_y (y_nilp rfl) rfl ?_
                      refine L_y (y_fieldA 0 Try.underlying97 rfl sz94 rfl rfl rfl) rfl ?_
                      refine L_y (y_ldc Try.underlying94 rfl rfl (((S18.blk 1 rfl).cell _).trans (idx_row _ _ _ _ _))) rfl ?_
                      refine L_y (y_len Try.underlying94 rfl) rfl ?_
                      refine L_y (y_move rfl) rfl ?_
                      refine L_nil ?_
                      refine hK38 _ _ ?_
                      refine T_block ?_
                      refine T_loop1 [(8, _), (110, _), (111, _)] (fun (k : Nat) => [(112, .int .i64 (k : Int))]) (fun (k : Nat) => (lastN b) - k) (fun (k : Nat) (w : World) => (k ≤ lastN b ∧ ∀ i x, i < k → (rowsB b)[i]? = some x → ¬ 1048576 < x.at_) ∧ Zx.St w0 noM [Zx.row 119 34 A5 (lastN b) (lastN b) ((rowsB b).flatMap rowf), blk g5 97 (idxf A5 (lastN b) (lastN b) (rowsB b) (ofB b)).toArray, blk b11 95 (said (b.drop 8)).toArray] w) 0 (Sub.cons rfl (by first | rfl | exact congrArg (Value.int _) (by omega)) (Sub.nil _)) (Sub.cons rfl rfl (Sub.cons rfl rfl (Sub.cons rfl rfl (Sub.nil _)))) ?_ ?_
                      ·
                        exact ⟨⟨by omega, fun i x hi => by omega⟩, S18⟩
                      ·
                        intro k w19 hrel
                        obtain ⟨⟨hk, hno⟩, S19⟩ := hrel
                        refine T_seq fun K39 hK39 => ?_
                        refine T_region ?_
                        refine L_y (y_lss rfl rfl) rfl ?_
                        refine L_nil ?_
                        refine hK39 _ _ ?_
                        refine T_seq fun K40 hK40 => ?_
                        refine T_cond rfl (fun h113 => ?_) (fun h113 => ?_)
                        ·
                          obtain ⟨x, hx⟩ : ∃ x, (rowsB b)[k]? = some x := ⟨_, List.getElem?_eq_getElem (by omega)⟩
                          refine T_skip ?_
                          refine hK40 _ _ ?_
                          refine T_seq fun K41 hK41 => ?_
                          refine T_block ?_
                          refine T_seq fun K42 hK42 => ?_
                          refine T_region ?_
                          refine L_y (y_idx Try.underlying94 sz119 rfl rfl (S19.row 0 rfl) inferInstance (by omega)) rfl ?_
                          refine L_y (y_ldp (f := rowf) rowf_len Try.underlying119 rfl sz119 rfl (S19.row 0 rfl) (by omega) hx) rfl ?_
                          refine L_o (o_alloc zz119 S19 rfl fun b20 w20 hb20 S20 => ?_)
                          refine L_o (o_stW S20 3 rfl rfl rfl (by rw [rowf_sz]; exact sz119) (by rw [rowf_sz]; rfl) (fun u hu => rowf_one _ u (by rw [List.toList_toArray] at hu; exact hu)) fun w21 S21 => ?_)
                          refine L_nil ?_
                          refine hK42 _ _ ?_
                          refine T_seq fun K43 hK43 => ?_
                          refine T_region ?_
                          refine L_y (y_fieldA 33 Try.underlying119 rfl sz3 rfl rfl rfl) rfl ?_
                          refine L_y (y_ldc Try.underlying3 rfl rfl (((S21.blk 3 rfl).cell _).trans (row33 x))) rfl ?_
                          refine L_y (y_gtr rfl rfl) rfl ?_
                          refine L_nil ?_
                          refine hK43 _ _ ?_
                          refine T_cond rfl (fun h118 => ?_) (fun h118 => ?_)
                          ·
                            refine T_seq fun K44 hK44 => ?_
                            refine T_region ?_
                            refine L_y (y_assign rfl) rfl ?_
                            refine L_y (y_assign rfl) rfl ?_
                            refine L_nil ?_
                            refine hK44 _ _ ?_
                            refine T_ret ?_
                            repeat (first | with_reducible refine up_then ?_ | with_reducible refine up_in ?_)
                            refine ret2 rfl rfl rfl ?_
                            have he : openE b = 2 := openE_2 hpre h64 hst hfan (any_far hx (by omega))
                            exact ⟨_, rfl, .inl ⟨by rw [he]; decide, S21.like0, by rw [he]⟩⟩
                          ·
                            refine T_skip ?_
                            refine hK41 _ _ ?_
                            refine T_region ?_
                            refine L_y (y_add rfl rfl (i64w (by omega))) rfl ?_
                            refine L_y (y_move rfl) rfl ?_
                            refine L_nil ?_
                            have S91 := S21.sel [0, 1, 2] (by decide)
                            refine ⟨k + 1, by omega, ⟨⟨by omega, fun i y hi hy => by rcases Nat.lt_or_ge i k with q | q; exact hno i y q hy; (have e9 : i = k := by omega); subst e9; rw [hx] at hy; cases hy; omega⟩, S91⟩, ?_⟩
                            exact (Sub.cons rfl (by first | rfl | exact congrArg (Value.int _) (by omega)) (Sub.cons rfl rfl (Sub.cons rfl rfl (Sub.cons rfl rfl (Sub.nil _)))))
                        ·
                          refine T_exit ?_
                          refine hK37 _ _ ?_
                          refine T_seq fun K45 hK45 => ?_
                          refine T_region ?_
                          refine L_y (y_move rfl) rfl ?_
                          refine L_y (y_assign rfl) rfl ?_
                          refine L_y (y_assign rfl) rfl ?_
                          refine L_nil ?_
                          refine hK45 _ _ ?_
                          refine T_ret ?_
                          repeat (first | with_reducible refine up_then ?_ | with_reducible refine up_in ?_)
                          refine ret2 rfl rfl rfl ?_
                          have he : openE b = 0 := openE_0 hpre h64 hst hfan (no_far fun i x hi hx => hno i x (by omega) hx)
                          rw [← hlen] at S19
                          exact ⟨_, rfl, .inr ⟨he, g5, A5, rfl, S19.sel [0, 1] (by decide)⟩⟩
end Go.Proofs.Ytgaklngnfecdaaa.Idx


/-
  Of the document: Join, bytes, Closed.
-/
namespace Go.Proofs.Ytgaklngnfecdaaa.Idx
open Go.RowKit Zk Zx
open Oid (idf idf_len cmpL)
set_option linter.unusedVariables false
set_option linter.unusedSimpArgs false

theorem take1L {α : Type} {l : List α} {k : Nat} {x : α} (hx : l[k]? = some x) : l.take (k + 1) = l.take k ++ [x] := by
  rw [List.take_add_one, hx]
  rfl
def okP (w : World) (B : Nat) (ps : List Part) : Prop := ∀ p ∈ ps, p.ok w ∧ p.n ≤ B
theorem okP.nil (w : World) (B : Nat) : okP w B [] := fun p hp => by cases hp
theorem okP.cons {w : World} {B : Nat} {p : Part} {ps : List Part} (h1 : p.ok w) (h2 : p.n ≤ B) (h : okP w B ps) : okP w B (p :: ps) := fun q hq => by
  rcases List.mem_cons.1 hq with rfl | hq
  · exact ⟨h1, h2⟩
  · exact h q hq
end Go.Proofs.Ytgaklngnfecdaaa.Idx


/-
  Places sorted by the document.
-/
namespace Go.Proofs.Ytgaklngnfecdaaa.Idx
open Go.RowKit Zk Zx
open Oid (idf idf_len cmpL)
set_option linter.unusedVariables false
set_option linter.unusedSimpArgs false

end Go.Proofs.Ytgaklngnfecdaaa.Idx


/-
  Make of the document.
-/
namespace Go.Proofs.Ytgaklngnfecdaaa.Idx
open Go.RowKit Zk Zx
open Oid (idf idf_len cmpL)
set_option linter.unusedVariables false
set_option linter.unusedSimpArgs false

end Go.Proofs.Ytgaklngnfecdaaa.Idx


/-
  What is laid is opened.
-/
namespace Go.Proofs.Ytgaklngnfecdaaa.Idx
open Go.RowKit Zk Zx
open Oid (idf idf_len cmpL)
set_option linter.unusedVariables false
set_option linter.unusedSimpArgs false

theorem be_all : ∀ (l : List UInt8) (a : Nat), l.foldl (fun n c => n * 256 + c.toNat) a = a * 256 ^ l.length + Oct.be l
  | [], a => by simp [Oct.be]
  | c :: l, a => by
    have e : Oct.be (c :: l) = c.toNat * 256 ^ l.length + Oct.be l := by
      rw [Oct.be, List.foldl_cons, be_all l]
      simp
    rw [List.foldl_cons, be_all l, e, List.length_cons, Nat.pow_succ, Nat.add_mul, Nat.mul_assoc a, Nat.mul_comm 256, Nat.add_assoc]
theorem be_cons (c : UInt8) (l : List UInt8) : Oct.be (c :: l) = c.toNat * 256 ^ l.length + Oct.be l := by
  rw [Oct.be, List.foldl_cons, be_all l]
  simp
theorem be_tl (v : Nat) : ∀ j, Oct.be (Oct.tl v j) = v % 256 ^ j
  | 0 => by simp [Oct.tl, Oct.be, Nat.mod_one]
  | j + 1 => by
    rw [Oct.tl, be_cons, Oct.length_tl, be_tl v j, UInt8.toNat_ofNat', Nat.mod_mod, Nat.pow_succ, Nat.mod_mul, Nat.add_comm, Nat.mul_comm]
theorem be_tl4 {v : Nat} (h : v < 4294967296) : Oct.be (Oct.tl v 4) = v := by
  rw [be_tl, Nat.mod_eq_of_lt (by simpa using h)]
/-- A chunk of many of one size. -/
theorem cutC {α : Type} (f : α → List UInt8) (s : Nat) (hf : ∀ x, (f x).length = s) : ∀ (l : List α) (k : Nat) (x : α), l[k]? = some x → ((l.flatMap f).drop (k * s)).take s = f x
  | [], k, x, h => by cases h
  | y :: l, 0, x, h => by
    cases h
    rw [List.flatMap_cons, Nat.zero_mul, List.drop_zero, List.take_append_of_le_length (by rw [hf]; omega), List.take_of_length_le (by rw [hf]; omega)]
  | y :: l, k + 1, x, h => by
    rw [List.flatMap_cons, show (k + 1) * s = (f y).length + k * s by rw [hf, Nat.succ_mul]; omega, ← List.drop_drop, List.drop_append_of_le_length (Nat.le_refl _), List.drop_of_length_le (Nat.le_refl _), List.nil_append]
    exact cutC f s hf l k x (by simpa using h)
/-- A part in the midst. -/
theorem midC {p q r : List UInt8} {a j s : Nat} (ha : a = p.length + j) (h : j + s ≤ q.length) : ((p ++ q ++ r).drop a).take s = (q.drop j).take s := by
  subst ha
  rw [List.append_assoc, ← List.drop_drop, List.drop_append_of_le_length (Nat.le_refl _), List.drop_of_length_le (Nat.le_refl _), List.nil_append, List.drop_append_of_le_length (by omega), List.take_append_of_le_length (by rw [List.length_drop]; omega)]
theorem idAt_of {t : List UInt8} {p : Nat} {z : Oid.Id} (h : (t.drop p).take 32 = z.l) : idAt t p = z := by
  unfold idAt
  rw [dif_pos (by rw [h]; exact z.h)]
  exact Oid.Id.ext h
theorem cl_all (l : List Row) : cl l 256 = l.length := by
  unfold cl
  rw [List.countP_eq_length]
  intro x _
  simpa using fb_lt x
section
variable {zs : List Row} {of : Oid.Id}
theorem layB_len : (layB zs of).length = 1096 + 40 * zs.length := by
  unfold layB
  rw [List.length_append, bodyB_len, Sha.length_ofL]
  omega
theorem lay_head : (layB zs of).take 4 = INDX := by
  unfold layB
  rw [bodyB_eq]
  unfold headB
  simp only [List.append_assoc]
  rfl
theorem lay_ver : b4 (layB zs of) 4 = 1 := by
  unfold b4 layB
  have h := midC (p := [73, 78, 68, 88]) (q := Oct.tl 1 4) (r := fanB zs 256 ++ idsB zs ++ smsB zs ++ atsB zs ++ of.l ++ Sha.ofL (bodyB zs of)) (a := 4) (j := 0) (s := 4) rfl (by rw [Oct.length_tl]; omega)
  have e : bodyB zs of ++ Sha.ofL (bodyB zs of) = [73, 78, 68, 88] ++ Oct.tl 1 4 ++ (fanB zs 256 ++ idsB zs ++ smsB zs ++ atsB zs ++ of.l ++ Sha.ofL (bodyB zs of)) := by
    rw [bodyB_eq]; unfold headB; simp only [List.append_assoc]
  rw [e, h, List.drop_zero, List.take_of_length_le (by rw [Oct.length_tl]; omega)]
  exact be_tl4 (by omega)
theorem lay_fan {c : Nat} (hc : c < 256) (hn : zs.length ≤ 600) : b4 (layB zs of) (8 + 4 * c) = cl zs (c + 1) := by
  unfold b4 layB
  have e : bodyB zs of ++ Sha.ofL (bodyB zs of) = headB ++ fanB zs 256 ++ (idsB zs ++ smsB zs ++ atsB zs ++ of.l ++ Sha.ofL (bodyB zs of)) := by
    rw [bodyB_eq]; simp only [List.append_assoc]
  have h := midC (p := headB) (q := fanB zs 256) (r := idsB zs ++ smsB zs ++ atsB zs ++ of.l ++ Sha.ofL (bodyB zs of)) (a := 8 + 4 * c) (j := 4 * c) (s := 4) (by rw [headB_len]) (by rw [fanB_len]; omega)
  rw [e, h, Nat.mul_comm 4 c]
  have h2 := cutC (fun c => Oct.tl (cl zs (c + 1)) 4) 4 (fun c => Oct.length_tl _ 4) (List.range 256) c c (by simp [hc])
  unfold fanB
  rw [h2]
  have := cl_le zs (c + 1)
  exact be_tl4 (by omega)
theorem lay_last (hn : zs.length ≤ 600) : lastN (layB zs of) = zs.length := by
  unfold lastN
  rw [show 1028 = 8 + 4 * 255 by omega, lay_fan (by omega) hn, show 255 + 1 = 256 by omega, cl_all]
theorem lay_id {i : Nat} {x : Row} (hx : zs[i]? = some x) : idAt ((layB zs of).drop 8) (1024 + 32 * i) = x.id := by
  refine idAt_of ?_
  have hi := (List.getElem?_eq_some_iff.1 hx).1
  rw [List.drop_drop]
  unfold layB
  have e : bodyB zs of ++ Sha.ofL (bodyB zs of) = (headB ++ fanB zs 256) ++ idsB zs ++ (smsB zs ++ atsB zs ++ of.l ++ Sha.ofL (bodyB zs of)) := by
    rw [bodyB_eq]; simp only [List.append_assoc]
  have h := midC (p := headB ++ fanB zs 256) (q := idsB zs) (r := smsB zs ++ atsB zs ++ of.l ++ Sha.ofL (bodyB zs of)) (a := 8 + (1024 + 32 * i)) (j := 32 * i) (s := 32) (by rw [List.length_append, headB_len, fanB_len]; omega) (by rw [idsB_len]; omega)
  rw [e, h, Nat.mul_comm 32 i]
  exact cutC (fun x : Row => x.id.l) 32 (fun x => x.id.h) zs i x hx
theorem lay_sm {i : Nat} {x : Row} (hx : zs[i]? = some x) (h0 : 0 ≤ x.sm) (h1 : x.sm ≤ 4294967295) : (b4 ((layB zs of).drop 8) (1024 + 32 * zs.length + 4 * i) : Int) = x.sm := by
  have hi := (List.getElem?_eq_some_iff.1 hx).1
  unfold b4
  rw [List.drop_drop]
  unfold layB
  have e : bodyB zs of ++ Sha.ofL (bodyB zs of) = (headB ++ fanB zs 256 ++ idsB zs) ++ smsB zs ++ (atsB zs ++ of.l ++ Sha.ofL (bodyB zs of)) := by
    rw [bodyB_eq]; simp only [List.append_assoc]
  have h := midC (p := headB ++ fanB zs 256 ++ idsB zs) (q := smsB zs) (r := atsB zs ++ of.l ++ Sha.ofL (bodyB zs of)) (a := 8 + (1024 + 32 * zs.length + 4 * i)) (j := 4 * i) (s := 4) (by rw [List.length_append, List.length_append, headB_len, fanB_len, idsB_len]; omega) (by rw [smsB_len]; omega)
  rw [e, h, Nat.mul_comm 4 i]
  have h2 := cutC (fun x : Row => Oct.tl x.sm.toNat 4) 4 (fun x => Oct.length_tl _ 4) zs i x hx
  unfold smsB
  rw [h2, be_tl4 (by omega)]
  omega
theorem lay_at {i : Nat} {x : Row} (hx : zs[i]? = some x) (h0 : 0 ≤ x.at_) (h1 : x.at_ ≤ 1048576) : (b4 ((layB zs of).drop 8) (1024 + 36 * zs.length + 4 * i) : Int) = x.at_ := by
  have hi := (List.getElem?_eq_some_iff.1 hx).1
  unfold b4
  rw [List.drop_drop]
  unfold layB
  have e : bodyB zs of ++ Sha.ofL (bodyB zs of) = (headB ++ fanB zs 256 ++ idsB zs ++ smsB zs) ++ atsB zs ++ (of.l ++ Sha.ofL (bodyB zs of)) := by
    rw [bodyB_eq]; simp only [List.append_assoc]
  have h := midC (p := headB ++ fanB zs 256 ++ idsB zs ++ smsB zs) (q := atsB zs) (r := of.l ++ Sha.ofL (bodyB zs of)) (a := 8 + (1024 + 36 * zs.length + 4 * i)) (j := 4 * i) (s := 4) (by rw [List.length_append, List.length_append, List.length_append, headB_len, fanB_len, idsB_len, smsB_len]; omega) (by rw [atsB_len]; omega)
  rw [e, h, Nat.mul_comm 4 i]
  have h2 := cutC (fun x : Row => Oct.tl x.at_.toNat 4) 4 (fun x => Oct.length_tl _ 4) zs i x hx
  unfold atsB
  rw [h2, be_tl4 (by omega)]
  omega
theorem lay_of (hn : zs.length ≤ 600) : ofB (layB zs of) = of := by
  unfold ofB
  rw [lay_last hn]
  refine idAt_of ?_
  rw [List.drop_drop]
  unfold layB
  have e : bodyB zs of ++ Sha.ofL (bodyB zs of) = (headB ++ fanB zs 256 ++ idsB zs ++ smsB zs ++ atsB zs) ++ of.l ++ Sha.ofL (bodyB zs of) := by
    rw [bodyB_eq]
  have h := midC (p := headB ++ fanB zs 256 ++ idsB zs ++ smsB zs ++ atsB zs) (q := of.l) (r := Sha.ofL (bodyB zs of)) (a := 8 + (1024 + 40 * zs.length)) (j := 0) (s := 32) (by rw [List.length_append, List.length_append, List.length_append, List.length_append, headB_len, fanB_len, idsB_len, smsB_len, atsB_len]; omega) (by rw [of.h]; omega)
  rw [e, h, List.drop_zero, List.take_of_length_le (by rw [of.h]; omega)]
theorem lay_rows (hn : zs.length ≤ 600) (hok : ∀ x ∈ zs, RowOk x) : rowsB (layB zs of) = zs := by
  unfold rowsB
  rw [lay_last hn]
  apply List.ext_getElem?
  intro i
  by_cases hi : i < zs.length
  · obtain ⟨x, hx⟩ : ∃ x, zs[i]? = some x := ⟨_, List.getElem?_eq_getElem hi⟩
    have hr := hok x (List.mem_of_getElem? hx)
    rw [rowsP_get hi, hx, if_pos hi, if_pos hi, if_pos hi, lay_id hx, lay_sm hx hr.s0 hr.s1, lay_at hx hr.a0 hr.a1]
  · rw [List.getElem?_eq_none (by rw [rowsP_len]; omega), List.getElem?_eq_none (by omega)]
/-- What is laid is opened. -/
theorem open_lay (hn : zs.length ≤ 600) (hok : ∀ x ∈ zs, RowOk x) (hs : StR zs) : openE (layB zs of) = 0 := by
  have hl := layB_len (zs := zs) (of := of)
  have hpre : Pre (layB zs of) := ⟨by omega, fun q => by rcases q with q | q; exact q lay_head; exact q lay_ver, by rw [lay_last hn]; omega, by rw [lay_last hn]; omega, by rw [lay_last hn]; omega⟩
  refine openE_0 hpre ?_ (by rw [lay_rows hn hok]; exact hs) (fun c hc => by rw [lay_rows hn hok]; have := lay_fan (of := of) hc hn; unfold b4 at this ⊢; rw [List.drop_drop, this]) ?_
  · have hb : (bodyB zs of).length = (layB zs of).length - 32 := by rw [bodyB_len]; omega
    unfold layB at hb ⊢
    rw [← hb, List.take_append_of_le_length (Nat.le_refl _), List.take_of_length_le (Nat.le_refl _), List.drop_append_of_le_length (Nat.le_refl _), List.drop_of_length_le (Nat.le_refl _), List.nil_append]
    exact fun q => q rfl
  · rw [lay_rows hn hok]
    exact no_far fun i x _ hx => by have := (hok x (List.mem_of_getElem? hx)).a1; omega
end
end Go.Proofs.Ytgaklngnfecdaaa.Idx


/-
  The law IndexMakes.
-/
namespace Go.Proofs.Ytgaklngnfecdaaa.Idx
open Go.RowKit Zk Zx
open Oid (idf idf_len cmpL)
set_option linter.unusedVariables false
set_option linter.unusedSimpArgs false

theorem openLay (B : Option Addr) (m d : Nat) (zs : List Row) (of : Oid.Id) (w0 : World) (hb : Rs w0 1 B m d (bL (layB zs of))) (hn : zs.length ≤ 600) (hok : ∀ x ∈ zs, RowOk x) (hs : StR zs) :
    Calls Try.prog 28 #[.slice B m d] w0 fun e w' => ∃ u, e = .returned u ∧ Like w0 w' ∧ ∃ g A, u = .tuple #[.pointer (some ⟨g, 0, none⟩), .int .i64 0] ∧ Zx.St w0 noM [Zx.row 119 34 A zs.length zs.length (zs.flatMap rowf), blk g 97 (idxf A zs.length zs.length zs of).toArray] w' :=
  (open_ B m d _ w0 hb).mono fun e w' ⟨u, h1, h2⟩ => by
    rcases h2 with ⟨h2, _⟩ | ⟨_, g, A, h3, h4⟩
    · exact absurd (open_lay hn hok hs) h2
    · rw [lay_rows hn hok, lay_of hn] at h4
      exact ⟨u, h1, h4.like0, g, A, h3, h4⟩
theorem found_yes {l : List Row} {k : Nat} {x : Row} {z : Oid.Id} {u : Value} (hs : StR l) (hx : l[k]? = some x) (hz : x.id = z) (h : Found l z u) : u = .tuple #[.agg (plf x).toArray, .bool true] := by
  rcases h with ⟨j, y, hy, e, rfl⟩ | ⟨h, _⟩
  · have e2 : x = y := by
      rcases Nat.lt_trichotomy k j with q | q | q
      · have := hs.at hx hy q
        rw [hz, ← e, Oid.lt_irr] at this
        cases this
      · subst q; rw [hx] at hy; cases hy; rfl
      · have := hs.at hy hx q
        rw [hz, ← e, Oid.lt_irr] at this
        cases this
    rw [e2]
  · exact absurd hz (h x (List.mem_of_getElem? hx))
def wI : Oid.Id := ⟨7 :: List.replicate 31 0, rfl⟩
def wO : Oid.Id := ⟨1 :: List.replicate 31 0, rfl⟩
def wR : Row := ⟨wI, 5, 12⟩
theorem made_w {bs : List UInt8} (h : Made [wR] wO bs) : mkE [wR] = 0 ∧ bs = layB [wR] wO := by
  have h0 : mkE [wR] = 0 := by decide +kernel
  rcases h with ⟨e, _⟩ | ⟨e, zs, hp, _, rfl⟩
  · exact absurd h0 e
  · exact ⟨h0, by rw [List.perm_singleton.1 hp]⟩
theorem w_ok : ∀ x ∈ [wR], RowOk x := fun x hx => by
  obtain rfl := List.mem_singleton.1 hx
  exact ⟨by decide, by decide, by decide, by decide⟩
theorem w_st : StR [wR] := List.pairwise_singleton _ _


set_option maxRecDepth 100000 in
theorem works  (w0 : World)  :
    Calls Try.prog 24 #[] w0 fun e w' => ∃ u, e = .returned u ∧ Like w0 w' ∧ u = .bool true := by
  refine enter1 (env := []) [] Try.func24 rfl Try.ntmps24 rfl rfl ?_
  have S0 := St.start w0 noM
  refine T_seq fun K1 hK1 => ?_
  refine T_region ?_
  refine L_y (y_assign rfl) rfl ?_
  refine L_nil ?_
  refine hK1 _ _ ?_
  refine T_seq fun K2 hK2 => ?_
  refine T_region ?_
  refine L_y (y_build rfl (show _ = some (idf wI).toArray by kernel_rfl)) rfl ?_
  refine L_y (y_build rfl (show _ = some (plf wR).toArray by kernel_rfl)) rfl ?_
  refine L_o (o_bsl (plf wR) te43 zz62 S0 rfl rfl rfl (by simp [Value.cells, plf_len]) (by simp [Value.cells]) rfl rfl rfl fun b1 w1 S1 => ?_)
  refine L_y (y_build rfl (show _ = some (idf wO).toArray by kernel_rfl)) rfl ?_
  refine L_o (o_call Try.func25 rfl rfl (make _ _ _ [wR] wO w1 (by have h := S1.row 0 rfl; simpa using h) (fun x hx => ⟨(w_ok x hx).s0, (w_ok x hx).s1⟩)) rfl rfl ?_)
  rintro e2 w2 ⟨v2, rfl, l2, A1, m1, c1, bs, rfl, hM, O2⟩
  refine ⟨_, rfl, ?_⟩
  have S2 := S1.adopt l2 O2
  obtain ⟨he, rfl⟩ := made_w hM
  rw [he]
  have hm1 := (S2.row 1 rfl).lenb; rw [layB_len] at hm1
  have hwl : [wR].length = 1 := rfl
  rw [hwl] at hm1
  refine L_y (y_move rfl) rfl ?_
  refine L_y (y_extract rfl rfl) rfl ?_
  refine L_y (y_extract rfl rfl) rfl ?_
  refine L_y (y_assign rfl) rfl ?_
  refine L_y (y_assign rfl) rfl ?_
  refine L_nil ?_
  refine hK2 _ _ ?_
  refine T_seq fun K3 hK3 => ?_
  refine T_region ?_
  refine L_y (y_move rfl) rfl ?_
  refine L_o (o_call Try.func28 rfl rfl (openLay _ _ _ [wR] wO w2 (S2.row 1 rfl) (by rw [hwl]; omega) w_ok w_st) rfl rfl ?_)
  rintro e3 w3 ⟨v3, rfl, l3, g2, A2, rfl, T3⟩
  refine ⟨_, rfl, ?_⟩
  have S3 := S2.adoptS T3
  refine L_y (y_move rfl) rfl ?_
  refine L_y (y_extract rfl rfl) rfl ?_
  refine L_y (y_extract rfl rfl) rfl ?_
  refine L_y (y_assign rfl) rfl ?_
  refine L_y (y_assign rfl) rfl ?_
  refine L_nil ?_
  refine hK3 _ _ ?_
  refine T_seq fun K4 hK4 => ?_
  refine T_region ?_
  refine L_y (y_move rfl) rfl ?_
  refine L_y (y_build rfl (show _ = some (idf wI).toArray by kernel_rfl)) rfl ?_
  refine L_o (o_call Try.func33 rfl rfl (find g2 A2 1 1 [wR] wO wI w3 (S3.blk 3 rfl) (S3.row 2 rfl) (S3.row_ne 2 3 rfl rfl rfl) w_st (by rw [hwl]; omega)) rfl rfl ?_)
  rintro e4 w4 ⟨v4, rfl, l4, hF4⟩
  refine ⟨_, rfl, ?_⟩
  have S4 := S3.like l4
  have hF := found_yes (k := 0) (x := wR) w_st rfl rfl hF4
  subst hF
  refine L_y (y_move rfl) rfl ?_
  refine L_y (y_extract rfl rfl) rfl ?_
  refine L_y (y_extract rfl rfl) rfl ?_
  refine L_o (o_alloc zz62 S4 rfl fun b5 w5 hb5 S5 => ?_)
  refine L_o (o_stW S5 4 rfl rfl rfl (by rw [plf_sz]; exact sz62) (by first | (rw [plf_sz, plf_sz]; done) | (rw [plf_sz]; rfl)) (fun u hu => plf_one _ u (by rw [List.toList_toArray] at hu; exact hu)) fun w6 S6 => ?_)
  refine L_y (y_assign rfl) rfl ?_
  refine L_nil ?_
  refine hK4 _ _ ?_
  refine T_seq fun K5 hK5 => ?_
  refine T_region ?_
  refine L_y (y_move rfl) rfl ?_
  refine L_y (y_eql rfl rfl) rfl ?_
  refine L_y (y_move rfl) rfl ?_
  refine L_split 28 rfl (fun h28 => ?_) (fun h28 => ?_)
  ·
    refine L_gyes rfl rfl ?_
    refine L_y (y_move rfl) rfl ?_
    refine L_gyes rfl rfl ?_
    refine L_y (y_eql rfl rfl) rfl ?_
    refine L_y ((by first | exact y_pickT rfl rfl | exact y_pickF rfl rfl)) rfl ?_
    refine L_y (y_move rfl) rfl ?_
    refine L_split 32 rfl (fun h32 => ?_) (fun h32 => ?_)
    ·
      refine L_gyes rfl rfl ?_
      refine L_y (y_move rfl) rfl ?_
      refine L_gyes rfl rfl ?_
      refine L_y (y_len Try.underlying27 rfl) rfl ?_
      refine L_gyes rfl rfl ?_
      refine L_y (y_eql rfl rfl) rfl ?_
      refine L_y ((by first | exact y_pickT rfl rfl | exact y_pickF rfl rfl)) rfl ?_
      refine L_y (y_move rfl) rfl ?_
      refine L_split 37 rfl (fun h37 => ?_) (fun h37 => ?_)
      ·
        refine L_gyes rfl rfl ?_
        refine L_y (y_move rfl) rfl ?_
        refine L_gyes rfl rfl ?_
        refine L_o (o_call Try.func31 rfl rfl (lenX g2 A2 1 1 [wR] wO w6 (S6.blk 3 rfl) (S6.row 2 rfl)) rfl rfl ?_)
        rintro e10 w10 ⟨v10, rfl, l10, rfl⟩
        refine ⟨_, rfl, ?_⟩
        have S10 := S6.like l10
        refine L_gyes rfl rfl ?_
        refine L_y (y_eql rfl rfl) rfl ?_
        refine L_y ((by first | exact y_pickT rfl rfl | exact y_pickF rfl rfl)) rfl ?_
        refine L_y (y_move rfl) rfl ?_
        refine L_split 42 rfl (fun h42 => ?_) (fun h42 => ?_)
        ·
          refine L_gyes rfl rfl ?_
          refine L_y (y_move rfl) rfl ?_
          refine L_y ((by first | exact y_pickT rfl rfl | exact y_pickF rfl rfl)) rfl ?_
          refine L_y (y_move rfl) rfl ?_
          refine L_gyes rfl rfl ?_
          refine L_y (y_fieldA 32 Try.underlying62 rfl sz3 rfl rfl rfl) rfl ?_
          refine L_gyes rfl rfl ?_
          refine L_y (y_ldc Try.underlying3 rfl rfl (((S10.blk 4 rfl).cell _).trans (pl32 wR))) rfl ?_
          refine L_gyes rfl rfl ?_
          refine L_y (y_eql rfl rfl) rfl ?_
          refine L_y ((by first | exact y_pickT rfl rfl | exact y_pickF rfl rfl)) rfl ?_
          refine L_y (y_move rfl) rfl ?_
          refine L_split 50 rfl (fun h50 => ?_) (fun h50 => ?_)
          ·
            refine L_gyes rfl rfl ?_
            refine L_y (y_move rfl) rfl ?_
            refine L_gyes rfl rfl ?_
            refine L_o (o_call Try.func32 rfl rfl (ofX g2 A2 1 1 [wR] wO w10 (S10.blk 3 rfl) (S10.row 2 rfl)) rfl rfl ?_)
            rintro e13 w13 ⟨v13, rfl, l13, rfl⟩
            refine ⟨_, rfl, ?_⟩
            have S13 := S10.like l13
            refine L_gyes rfl rfl ?_
            refine L_y (y_build rfl (show _ = some (idf wO).toArray by kernel_rfl)) rfl ?_
            refine L_gyes rfl rfl ?_
            refine L_y (y_eqB Try.underlying23 Try.underlying5 sz5 (by kernel_rfl) rfl rfl (Oid.Id.h wO) (Oid.Id.h wO)) rfl ?_
            refine L_y ((by first | exact y_pickT rfl rfl | exact y_pickF rfl rfl)) rfl ?_
            refine L_y (y_assign rfl) rfl ?_
            refine L_nil ?_
            refine hK5 _ _ ?_
            refine T_ret ?_
            repeat (first | with_reducible refine up_then ?_ | with_reducible refine up_in ?_)
            refine ret1 rfl rfl ?_
            exact ⟨_, rfl, S13.like0, by simp⟩
          ·
            exact absurd rfl h50
        ·
          exact absurd rfl h42
      ·
        exact absurd (by omega) h37
    ·
      exact absurd rfl h32
  ·
    exact absurd rfl h28


section
open Go.ChangeShapes Go.WideShapes Go.ChangeAt Go.Deep
set_option maxRecDepth 100000
variable {H : Type} {enc : TypeId × Value → H} {w : World} {base : Nat} {spare : Nat → Bool} {held : Bool}
end
end Go.Proofs.Ytgaklngnfecdaaa.Idx


/-
  An id of the document's reader.
-/
namespace Go.Proofs.Ytgaklngnfecdaaa.Idx
open Go.RowKit Zk Zx
open Oid (idf idf_len cmpL)
set_option linter.unusedVariables false
set_option linter.unusedSimpArgs false

open Oct (xr xr_lt)
end Go.Proofs.Ytgaklngnfecdaaa.Idx


/-
  Open of the document.
-/
namespace Go.Proofs.Ytgaklngnfecdaaa.Idx
open Go.RowKit Zk Zx
open Oid (idf idf_len cmpL)
set_option linter.unusedVariables false
set_option linter.unusedSimpArgs false

open Oct (xr xr_lt)
end Go.Proofs.Ytgaklngnfecdaaa.Idx


/-
  '!=' on truth values; bytes turned.
-/
namespace Go.Proofs.Ytgaklngnfecdaaa.Zx
open Go.RowKit Zk
set_option linter.unusedVariables false
set_option linter.unusedSimpArgs false
section
variable {P : Program} {env : Env} {S : World → Prop} {dst : Option Tmp} {ty : TypeId} {pos : String} {after : Array Edge} {g : Option (Nat × Bool)}
end
end Go.Proofs.Ytgaklngnfecdaaa.Zx


/-
  The law IndexOpens.
-/
namespace Go.Proofs.Ytgaklngnfecdaaa.Idx
open Go.RowKit Zk Zx
open Oid (idf idf_len cmpL)
set_option linter.unusedVariables false
set_option linter.unusedSimpArgs false

theorem pl_xid (x : Row) : (plf x).toArray.extract 0 (0 + 32) = bA x.id.l := by
  apply Array.ext'
  rw [Array.toList_extract]
  simp only [plf, bA]
  rw [List.extract_eq_take_drop]
  show List.take 32 (bL x.id.l ++ _) = bL x.id.l
  rw [List.take_append_of_le_length (by rw [length_bL, x.id.h]; exact Nat.le_refl _)]
  exact List.take_of_length_le (by rw [length_bL, x.id.h]; exact Nat.le_refl _)
def peq (x y : Row) : Bool := decide (x.id.l = y.id.l) && (decide (x.at_ = y.at_) && (decide (x.sm = y.sm) && true))
theorem peq_refl (x : Row) : peq x x = true := by simp [peq]
theorem pl_eq (x y : Row) {fs : Array Field} (hfs : Try.prog.underlying 62 = some (.struct fs)) : EqFs Try.prog 9999 (plf x).toArray (plf y).toArray fs.toList (peq x y) := by
  have h2 := Try.underlying62
  rw [hfs] at h2
  injection h2 with h2
  injection h2 with h2
  subst h2
  unfold peq
  exact .cons (FE_bytes (by decide) Try.underlying23 Try.underlying5 sz5 Try.sizeOf23 x.id.h y.id.h (pl_xid x) (pl_xid y)) (.cons (FE_int (by decide) Try.underlying3 (pl32 x) (pl32 y)) (.cons (FE_int (by decide) Try.underlying60 (pl33 x) (pl33 y)) .nil))
set_option maxRecDepth 100000 in
theorem lenN  (w0 : World)  :
    Calls Try.prog 31 #[.pointer none] w0 fun e w' => ∃ u, e = .returned u ∧ Like w0 w' ∧ u = .int .i64 0 := by
  refine enter1 (env := [(0, .pointer none)]) [.pointer none] Try.func31 rfl Try.ntmps31 rfl rfl ?_
  have S0 := St.start w0 noM
  refine T_seq fun K1 hK1 => ?_
  refine T_region ?_
  refine L_y (y_assign rfl) rfl ?_
  refine L_nil ?_
  refine hK1 _ _ ?_
  refine T_seq fun K2 hK2 => ?_
  refine T_seq fun K3 hK3 => ?_
  refine T_region ?_
  refine L_y (y_move rfl) rfl ?_
  refine L_y (y_peqn Try.underlying49 rfl) rfl ?_
  refine L_nil ?_
  refine hK3 _ _ ?_
  refine T_true rfl ?_
  refine T_seq fun K4 hK4 => ?_
  refine T_region ?_
  refine L_y (y_assign rfl) rfl ?_
  refine L_nil ?_
  refine hK4 _ _ ?_
  refine T_ret ?_
  repeat (first | with_reducible refine up_then ?_ | with_reducible refine up_in ?_)
  refine ret1 rfl rfl ?_
  exact ⟨_, rfl, S0.like0, rfl⟩


set_option maxRecDepth 100000 in
theorem ofN  (w0 : World)  :
    Calls Try.prog 32 #[.pointer none] w0 fun e w' => ∃ u, e = .returned u ∧ Like w0 w' ∧ u = .agg (idf zI).toArray := by
  refine enter1 (env := [(0, .pointer none)]) [.pointer none] Try.func32 rfl Try.ntmps32 rfl rfl ?_
  have S0 := St.start w0 noM
  refine T_seq fun K1 hK1 => ?_
  refine T_region ?_
  refine L_o (o_alloc zz23 S0 rfl fun b1 w1 hb1 S1 => ?_)
  refine L_nil ?_
  refine hK1 _ _ ?_
  refine T_seq fun K2 hK2 => ?_
  refine T_seq fun K3 hK3 => ?_
  refine T_region ?_
  refine L_y (y_move rfl) rfl ?_
  refine L_y (y_peqn Try.underlying49 rfl) rfl ?_
  refine L_nil ?_
  refine hK3 _ _ ?_
  refine T_true rfl ?_
  refine T_seq fun K4 hK4 => ?_
  refine T_region ?_
  refine L_y (y_build rfl (show _ = some (idf zI).toArray by kernel_rfl)) rfl ?_
  refine L_o (o_stW S1 0 rfl rfl rfl (by rw [List.size_toArray, idf_len]; exact sz23) (by first | (rw [List.size_toArray, List.size_toArray, idf_len, idf_len]; done) | (rw [List.size_toArray, idf_len]; rfl) | (rw [List.size_toArray, idf_len])) (fun u hu => bL_one _ u (by rw [List.toList_toArray] at hu; exact hu)) fun w2 S2 => ?_)
  refine L_nil ?_
  refine hK4 _ _ ?_
  refine T_ret ?_
  repeat (first | with_reducible refine up_then ?_ | with_reducible refine up_in ?_)
  refine retc rfl rfl (S2.blk 0 rfl) Try.underlying23 rfl (by rw [List.size_toArray, idf_len]; exact sz23) ?_
  exact ⟨_, rfl, S2.like0, rfl⟩


set_option maxRecDepth 100000 in
theorem atN (k : Int) (w0 : World)  :
    Calls Try.prog 34 #[.pointer none, .int .i64 k] w0 fun e w' => ∃ u, e = .returned u ∧ Like w0 w' ∧ u = .agg (plf zR).toArray := by
  refine enter1 (env := [(0, .pointer none), (1, .int .i64 k)]) [.pointer none, .int .i64 k] Try.func34 rfl Try.ntmps34 rfl rfl ?_
  have S0 := St.start w0 noM
  refine T_seq fun K1 hK1 => ?_
  refine T_region ?_
  refine L_o (o_alloc zz62 S0 rfl fun b1 w1 hb1 S1 => ?_)
  refine L_nil ?_
  refine hK1 _ _ ?_
  refine T_seq fun K2 hK2 => ?_
  refine T_seq fun K3 hK3 => ?_
  refine T_region ?_
  refine L_y (y_move rfl) rfl ?_
  refine L_y (y_lss rfl rfl) rfl ?_
  refine L_y (y_move rfl) rfl ?_
  refine L_split 7 rfl (fun h7 => ?_) (fun h7 => ?_)
  ·
    refine L_gno rfl rfl rfl ?_
    refine L_gno rfl rfl rfl ?_
    refine L_gno rfl rfl rfl ?_
    refine L_gno rfl rfl rfl ?_
    refine L_y ((by first | exact y_pickT rfl rfl | exact y_pickF rfl rfl)) rfl ?_
    refine L_nil ?_
    refine hK3 _ _ ?_
    refine T_true rfl ?_
    refine T_seq fun K4 hK4 => ?_
    refine T_region ?_
    refine L_y (y_build rfl (show _ = some (plf zR).toArray by kernel_rfl)) rfl ?_
    refine L_o (o_stW S1 0 rfl rfl rfl (by rw [plf_sz]; exact sz62) (by first | (rw [plf_sz, plf_sz]; done) | (rw [plf_sz]; rfl)) (fun u hu => plf_one _ u (by rw [List.toList_toArray] at hu; exact hu)) fun w3 S3 => ?_)
    refine L_nil ?_
    refine hK4 _ _ ?_
    refine T_ret ?_
    repeat (first | with_reducible refine up_then ?_ | with_reducible refine up_in ?_)
    refine retc rfl rfl (S3.blk 0 rfl) Try.underlying62 rfl (by rw [plf_sz]; exact sz62) ?_
    exact ⟨_, rfl, S3.like0, rfl⟩
  ·
    refine L_gyes rfl rfl ?_
    refine L_y (y_move rfl) rfl ?_
    refine L_gyes rfl rfl ?_
    refine L_y (y_move rfl) rfl ?_
    refine L_gyes rfl rfl ?_
    refine L_o (o_call Try.func31 rfl rfl (lenN w1) rfl rfl ?_)
    rintro e4 w4 ⟨v4, rfl, l4, rfl⟩
    refine ⟨_, rfl, ?_⟩
    have S4 := S1.like l4
    refine L_gyes rfl rfl ?_
    refine L_y (y_geq rfl rfl) rfl ?_
    refine L_y ((by first | exact y_pickT rfl rfl | exact y_pickF rfl rfl)) rfl ?_
    refine L_nil ?_
    refine hK3 _ _ ?_
    refine T_cond rfl (fun h12 => ?_) (fun h12 => ?_)
    ·
      refine T_seq fun K5 hK5 => ?_
      refine T_region ?_
      refine L_y (y_build rfl (show _ = some (plf zR).toArray by kernel_rfl)) rfl ?_
      refine L_o (o_stW S4 0 rfl rfl rfl (by rw [plf_sz]; exact sz62) (by first | (rw [plf_sz, plf_sz]; done) | (rw [plf_sz]; rfl)) (fun u hu => plf_one _ u (by rw [List.toList_toArray] at hu; exact hu)) fun w5 S5 => ?_)
      refine L_nil ?_
      refine hK5 _ _ ?_
      refine T_ret ?_
      repeat (first | with_reducible refine up_then ?_ | with_reducible refine up_in ?_)
      refine retc rfl rfl (S5.blk 0 rfl) Try.underlying62 rfl (by rw [plf_sz]; exact sz62) ?_
      exact ⟨_, rfl, S5.like0, rfl⟩
    ·
      exact absurd (by omega) h12


end Go.Proofs.Ytgaklngnfecdaaa.Idx


/-
  Find and Begins.
-/
namespace Go.Proofs.Ytgaklngnfecdaaa.Idx
open Go.RowKit Zk Zx
open Oid (idf idf_len cmpL)
set_option linter.unusedVariables false
set_option linter.unusedSimpArgs false

open Oid (fit pfA ris)
theorem Fr.cut {w0 w : World} {size n c l u : Nat} {A : Option Addr} {xs : List Value} (h : Fr w0 w size A n c xs) (h1 : l ≤ u) (h2 : u ≤ n) : Fr w0 w size (cutA A c l size) (u - l) (u - l) ((xs.drop (l * size)).take ((u - l) * size)) := by
  have hr := h.1.cut h1 h2
  refine ⟨⟨hr.rd, Nat.le_refl _, by have := h.1.cap; have := h.1.max; omega⟩, fun ad hn hA => ?_⟩
  unfold cutA at hA
  split at hA
  · exact h.2 ad (by omega) hA
  · cases hA2 : A with
    | none => rw [hA2] at hA; cases hA
    | some ad0 =>
      rw [hA2] at hA
      simp only [Option.map_some, Option.some.injEq] at hA
      subst hA
      rw [block_of_add]
      exact h.2 ad0 (by omega) hA2
theorem flat_idrop (l : List Oid.Id) : ∀ a, (l.flatMap idf).drop (a * 32) = (l.drop a).flatMap idf
  | 0 => by simp
  | a + 1 => by
    cases l with
    | nil => simp
    | cons x l =>
      rw [List.flatMap_cons, List.drop_succ_cons, ← flat_idrop l a, show (a + 1) * 32 = (idf x).length + a * 32 by rw [idf_len]; omega, List.drop_append]
      simp
theorem flat_isub (l : List Oid.Id) (a b : Nat) : ((l.flatMap idf).drop (a * 32)).take ((b - a) * 32) = ((l.drop a).take (b - a)).flatMap idf := by
  rw [flat_idrop, flat_take idf idf_len]
theorem filter_run {α : Type} {L : List α} {p : α → Bool} {a b : Nat} (hab : a ≤ b) (hb : b ≤ L.length) (h : ∀ i y, L[i]? = some y → p y = decide (a ≤ i ∧ i < b)) : (L.drop a).take (b - a) = L.filter p := by
  have e : L = L.take a ++ ((L.drop a).take (b - a) ++ L.drop b) := by
    have e1 : L.drop b = (L.drop a).drop (b - a) := by rw [List.drop_drop]; congr 1; omega
    rw [e1, List.take_append_drop, List.take_append_drop]
  conv => rhs; rw [e]
  rw [List.filter_append, List.filter_append]
  have h1 : (L.take a).filter p = [] := by
    rw [List.filter_eq_nil_iff]
    intro y hy
    obtain ⟨i, hi⟩ := List.mem_iff_getElem?.1 hy
    rw [List.getElem?_take] at hi
    split at hi
    · rw [h i y hi]; simp; omega
    · cases hi
  have h2 : (L.drop b).filter p = [] := by
    rw [List.filter_eq_nil_iff]
    intro y hy
    obtain ⟨i, hi⟩ := List.mem_iff_getElem?.1 hy
    rw [List.getElem?_drop] at hi
    rw [h _ y hi]
    simp
  have h3 : ((L.drop a).take (b - a)).filter p = (L.drop a).take (b - a) := by
    rw [List.filter_eq_self]
    intro y hy
    obtain ⟨i, hi⟩ := List.mem_iff_getElem?.1 hy
    rw [List.getElem?_take] at hi
    split at hi
    · rw [List.getElem?_drop] at hi
      rw [h _ y hi]
      simp
      omega
    · cases hi
  rw [h1, h2, h3]
  simp
theorem str_ris {l : List Row} (h : StR l) : ris (l.map Row.id) = true := Oid.ris_of fun i j x y hx hy hij => by
  rw [List.getElem?_map] at hx hy
  cases h1 : l[i]? with
  | none => rw [h1] at hx; cases hx
  | some a =>
    cases h2 : l[j]? with
    | none => rw [h2] at hy; cases hy
    | some b =>
      rw [h1] at hx
      rw [h2] at hy
      cases hx
      cases hy
      exact h.at h1 h2 hij
theorem idrep {x : Oid.Id} {n i : Nat} (h : i < n * 32) : ((List.replicate n x).flatMap idf)[i]? = (idf x)[i % 32]? := by
  have hd := Nat.div_add_mod i 32
  have hm := Nat.mod_lt i (y := 32) (by omega)
  have hk : i / 32 < n := by omega
  have e : i = i / 32 * 32 + i % 32 := by omega
  conv => lhs; rw [e]
  exact flat_at idf 32 idf_len _ _ x (by rw [List.getElem?_replicate, if_pos hk]) _ hm
/-- The ids of which k are there. -/
def idsK (l : List Row) (k : Nat) : List Oid.Id := (l.take k).map Row.id ++ List.replicate (l.length - k) zI
theorem idsK_len {l : List Row} {k : Nat} (h : k ≤ l.length) : (idsK l k).length = l.length := by simp [idsK]; omega
theorem idsK_set {l : List Row} {k : Nat} {x : Row} (hx : l[k]? = some x) : (idsK l k).set k x.id = idsK l (k + 1) := by
  have hk := (List.getElem?_eq_some_iff.1 hx).1
  unfold idsK
  rw [List.set_append_right _ _ (by simp; omega), take1L hx, List.map_append, List.append_assoc, List.length_map, List.length_take, Nat.min_eq_left (by omega), Nat.sub_self, show l.length - k = (l.length - (k + 1)) + 1 by omega, List.replicate_succ]
  rfl
theorem idsK_all (l : List Row) : idsK l l.length = l.map Row.id := by simp [idsK]
theorem pf_whole (z : Oid.Id) (n : Int) : ((pfA z.l n).toList.drop 0).take 33 = (pfA z.l n).toList ∧ (pfA z.l n).toList.length = 33 := by
  have h : (pfA z.l n).toList.length = 33 := by show ((bL z.l ++ [Value.int .i64 n]).toArray.toList).length = _; rw [List.toList_toArray, List.length_append, length_bL, z.h]; rfl
  exact ⟨by rw [List.drop_zero]; exact List.take_of_length_le (Nat.le_of_eq h), h⟩

theorem zI_cells : (Value.agg (Array.replicate 32 (.int .u8 0)) : Value).cells = (idf zI).toArray := by kernel_rfl


set_option maxRecDepth 100000 in
theorem begins (g : Nat) (A : Option Addr) (n c : Nat) (l : List Row) (of : Oid.Id) (z : Oid.Id) (nn : Int) (w0 : World) (hx : Blk w0 g 97 (idxf A n c l of).toArray) (hl : Rs w0 34 A n c (l.flatMap rowf)) (hs : StR l) (h9 : l.length ≤ 1000) :
    Calls Try.prog 48 #[.pointer (some ⟨g, 0, none⟩), .agg (pfA z.l nn)] w0 fun e w' => ∃ u, e = .returned u ∧ Like w0 w' ∧ ∃ A9 c9, u = .slice A9 ((l.map Row.id).filter (fit z nn)).length c9 ∧ Fr w0 w' 32 A9 ((l.map Row.id).filter (fit z nn)).length c9 (((l.map Row.id).filter (fit z nn)).flatMap idf) := by
  refine enter1 (env := [(0, .pointer (some ⟨g, 0, none⟩)), (1, .agg (pfA z.l nn))]) [.pointer (some ⟨g, 0, none⟩), .agg (pfA z.l nn)] Try.func48 rfl Try.ntmps48 rfl rfl ?_
  obtain rfl := rows_len hl; have hcap := hl.cap; have hmax := hl.max
  have S0 := St.start w0 noM
  refine T_seq fun K1 hK1 => ?_
  refine T_region ?_
  refine L_o (o_box rfl S0 rfl fun b1 w1 hb1 S1 => ?_)
  refine L_y (y_assign rfl) rfl ?_
  refine L_nil ?_
  refine hK1 _ _ ?_
  refine T_seq fun K2 hK2 => ?_
  refine T_seq fun K3 hK3 => ?_
  refine T_region ?_
  refine L_y (y_move rfl) rfl ?_
  refine L_y (y_peqn Try.underlying49 rfl) rfl ?_
  refine L_nil ?_
  refine hK3 _ _ ?_
  refine T_false rfl ?_
  refine T_skip ?_
  refine hK2 _ _ ?_
  refine T_seq fun K4 hK4 => ?_
  refine T_region ?_
  refine L_y (y_move rfl) rfl ?_
  refine L_y (y_nilp rfl) rfl ?_
  refine L_y (y_fieldA 0 Try.underlying97 rfl sz94 rfl rfl rfl) rfl ?_
  refine L_y (y_ldc Try.underlying94 rfl rfl (((S1.rdB hx).cell _).trans (idx_row _ _ _ _ _))) rfl ?_
  refine L_y (y_len Try.underlying94 rfl) rfl ?_
  refine L_o (o_makeN te24 ((List.replicate l.length zI).flatMap idf) (by rw [flat_len idf 32 idf_len, List.length_replicate]) (fun i hi => (idrep hi).trans (by rw [zI_cells, List.getElem?_toArray])) (by omega) S1 rfl rfl inferInstance inferInstance rfl (by omega) (by omega) (by omega) fun b2 w2 S2 => ?_)
  refine L_y (y_assign rfl) rfl ?_
  refine L_nil ?_
  refine hK4 _ _ ?_
  refine T_seq fun K5 hK5 => ?_
  refine T_seq fun K6 hK6 => ?_
  refine T_region ?_
  refine L_y (y_move rfl) rfl ?_
  refine L_y (y_nilp rfl) rfl ?_
  refine L_y (y_fieldA 0 Try.underlying97 rfl sz94 rfl rfl rfl) rfl ?_
  refine L_y (y_ldc Try.underlying94 rfl rfl (((S2.rdB hx).cell _).trans (idx_row _ _ _ _ _))) rfl ?_
  refine L_y (y_len Try.underlying94 rfl) rfl ?_
  refine L_y (y_move rfl) rfl ?_
  refine L_nil ?_
  refine hK6 _ _ ?_
  refine T_block ?_
  refine T_loop1 [(3, _), (5, _), (21, _), (22, _)] (fun (k : Nat) => [(23, .int .i64 (k : Int))]) (fun (k : Nat) => l.length - k) (fun (k : Nat) (w : World) => k ≤ l.length ∧ Zx.St w0 noM [blk b1 85 (pfA z.l nn), Zx.row 23 32 (some ⟨b2, 0, none⟩) l.length l.length ((idsK l k).flatMap idf)] w) 0 (Sub.cons rfl (by first | rfl | exact congrArg (Value.int _) (by omega)) (Sub.nil _)) (Sub.cons rfl rfl (Sub.cons rfl rfl (Sub.cons rfl rfl (Sub.cons rfl rfl (Sub.nil _))))) ?_ ?_
  ·
    have S70 : Zx.St w0 noM [blk b1 85 (pfA z.l nn), Zx.row 23 32 (some ⟨b2, 0, none⟩) l.length l.length ((idsK l 0).flatMap idf)] w2 := S2.cast (by unfold idsK; rfl)
    exact ⟨by omega, S70⟩
  ·
    intro k w3 hrel
    obtain ⟨hk, S3⟩ := hrel
    refine T_seq fun K7 hK7 => ?_
    refine T_region ?_
    refine L_y (y_lss rfl rfl) rfl ?_
    refine L_nil ?_
    refine hK7 _ _ ?_
    refine T_seq fun K8 hK8 => ?_
    refine T_cond rfl (fun h24 => ?_) (fun h24 => ?_)
    ·
      obtain ⟨x, hx9⟩ : ∃ x, l[k]? = some x := ⟨_, List.getElem?_eq_getElem (by omega)⟩
      refine T_skip ?_
      refine hK8 _ _ ?_
      refine T_seq fun K9 hK9 => ?_
      refine T_block ?_
      refine T_seq fun K10 hK10 => ?_
      refine T_region ?_
      refine L_y (y_move rfl) rfl ?_
      refine L_y (y_idx Try.underlying94 sz119 rfl rfl (S3.rd hl) inferInstance (by omega)) rfl ?_
      refine L_y (y_ldp (f := rowf) rowf_len Try.underlying119 rfl sz119 rfl (S3.rd hl) (by omega) hx9) rfl ?_
      refine L_o (o_alloc zz119 S3 rfl fun b4 w4 hb4 S4 => ?_)
      refine L_y (y_assign rfl) rfl ?_
      refine L_o (o_stW S4 2 rfl rfl rfl (by rw [rowf_sz]; exact sz119) (by rw [rowf_sz]; rfl) (fun u hu => rowf_one _ u (by rw [List.toList_toArray] at hu; exact hu)) fun w5 S5 => ?_)
      refine L_nil ?_
      refine hK10 _ _ ?_
      refine T_region ?_
      refine L_y (y_move rfl) rfl ?_
      refine L_y (y_move rfl) rfl ?_
      refine L_y (y_fieldA 0 Try.underlying119 rfl sz23 rfl rfl rfl) rfl ?_
      refine L_y (y_ldW Try.underlying23 rfl sz23 rfl (S5.blk 2 rfl) (row_id x)) rfl ?_
      refine L_y (y_idx Try.underlying24 sz23 rfl rfl (S5.row 1 rfl) inferInstance (by omega)) rfl ?_
      refine L_o (o_strowE S5 1 rfl rfl rfl (fun u hu => bL_one _ u (by rw [List.toList_toArray] at hu; exact hu)) (by rw [List.size_toArray, idf_len]) sz23 (by omega) fun w6 S6 => ?_)
      refine L_nil ?_
      refine hK9 _ _ ?_
      refine T_region ?_
      refine L_y (y_add rfl rfl (i64w (by omega))) rfl ?_
      refine L_y (y_move rfl) rfl ?_
      refine L_nil ?_
      have S91 := S6.sel [0, 1] (by decide)
      have S92 := S91.rowc 1 rfl rfl ((flat_set idf idf_len (idsK l k) k x.id (by rw [idsK_len (by omega)]; omega)).trans (congrArg (fun q => q.flatMap idf) (idsK_set hx9)))
      refine ⟨k + 1, by omega, ⟨by omega, S92⟩, ?_⟩
      exact (Sub.cons rfl (by first | rfl | exact congrArg (Value.int _) (by omega)) (Sub.cons rfl rfl (Sub.cons rfl rfl (Sub.cons rfl rfl (Sub.cons rfl rfl (Sub.nil _))))))
    ·
      have hke : k = l.length := by omega
      subst hke
      rw [idsK_all] at S3
      refine T_exit ?_
      refine hK5 _ _ ?_
      refine T_seq fun K11 hK11 => ?_
      refine T_region ?_
      refine L_y (y_move rfl) rfl ?_
      refine L_y (y_ldW Try.underlying85 rfl sz85 rfl (S3.blk 0 rfl) (pf_whole z nn)) rfl ?_
      refine L_o (o_call Try.func88 rfl rfl (Oid.prangeF _ _ _ (l.map Row.id) z nn w3 (S3.row 1 rfl) (str_ris hs)) rfl rfl ?_)
      rintro e7 w7 ⟨v7, rfl, l7, a, b, rfl, hab, hbl, hfit⟩
      refine ⟨_, rfl, ?_⟩
      have S7 := S3.like l7
      rw [List.length_map] at hbl
      refine L_y (y_move rfl) rfl ?_
      refine L_y (y_extract rfl rfl) rfl ?_
      refine L_y (y_extract rfl rfl) rfl ?_
      refine L_y (y_assign rfl) rfl ?_
      refine L_y (y_assign rfl) rfl ?_
      refine L_nil ?_
      refine hK11 _ _ ?_
      refine T_seq fun K12 hK12 => ?_
      refine T_region ?_
      refine L_y (y_move rfl) rfl ?_
      refine L_y (y_move rfl) rfl ?_
      refine L_y (y_move rfl) rfl ?_
      refine L_y (y_slice Try.underlying24 sz23 rfl rfl rfl (Nt.mk rfl : Nt _ (a)) (Nt.mk rfl : Nt _ (b)) (by omega) (by omega)) rfl ?_
      refine L_o (o_call Try.func89 rfl rfl (Oid.pclip _ _ _ (((l.map Row.id).drop a).take (b - a)) w7 (by rw [← flat_isub]; exact (S7.row 1 rfl).cut hab hbl) ) rfl rfl ?_)
      rintro e8 w8 ⟨v8, rfl, l8, rfl⟩
      refine ⟨_, rfl, ?_⟩
      have S8 := S7.like l8
      refine L_y (y_assign rfl) rfl ?_
      refine L_nil ?_
      refine hK12 _ _ ?_
      refine T_ret ?_
      repeat (first | with_reducible refine up_then ?_ | with_reducible refine up_in ?_)
      refine ret1 rfl rfl ?_
      have e8 := filter_run hab (by rw [List.length_map]; exact hbl) hfit
      have hl9 : (((l.map Row.id).drop a).take (b - a)).length = b - a := by rw [List.length_take, List.length_drop, List.length_map]; omega
      refine ⟨_, rfl, S8.like0, _, b - a, by rw [← e8, hl9], ?_⟩
      rw [← e8, ← flat_isub]
      rw [hl9]
      exact Fr.cut (Fr.of_own (S8.own 1 rfl)) hab hbl


set_option maxRecDepth 100000 in
theorem beginsN (z : Oid.Id) (nn : Int) (w0 : World)  :
    Calls Try.prog 48 #[.pointer none, .agg (pfA z.l nn)] w0 fun e w' => ∃ u, e = .returned u ∧ Like w0 w' ∧ u = .slice none 0 0 := by
  refine enter1 (env := [(0, .pointer none), (1, .agg (pfA z.l nn))]) [.pointer none, .agg (pfA z.l nn)] Try.func48 rfl Try.ntmps48 rfl rfl ?_
  have S0 := St.start w0 noM
  refine T_seq fun K1 hK1 => ?_
  refine T_region ?_
  refine L_o (o_box rfl S0 rfl fun b1 w1 hb1 S1 => ?_)
  refine L_y (y_assign rfl) rfl ?_
  refine L_nil ?_
  refine hK1 _ _ ?_
  refine T_seq fun K2 hK2 => ?_
  refine T_seq fun K3 hK3 => ?_
  refine T_region ?_
  refine L_y (y_move rfl) rfl ?_
  refine L_y (y_peqn Try.underlying49 rfl) rfl ?_
  refine L_nil ?_
  refine hK3 _ _ ?_
  refine T_true rfl ?_
  refine T_seq fun K4 hK4 => ?_
  refine T_region ?_
  refine L_y (y_assign rfl) rfl ?_
  refine L_nil ?_
  refine hK4 _ _ ?_
  refine T_ret ?_
  repeat (first | with_reducible refine up_then ?_ | with_reducible refine up_in ?_)
  refine ret1 rfl rfl ?_
  exact ⟨_, rfl, S1.like0, rfl⟩


end Go.Proofs.Ytgaklngnfecdaaa.Idx


/-
  The law IndexNone.
-/
namespace Go.Proofs.Ytgaklngnfecdaaa.Idx
open Go.RowKit Zk Zx
open Oid (idf idf_len cmpL)
set_option linter.unusedVariables false
set_option linter.unusedSimpArgs false

open Oid (fit pfA ris)
/-- An index that is not there, or one that no call made. -/
def NX (w : World) (p : Option Addr) : Prop := p = none ∨ ∃ g, p = some ⟨g, 0, none⟩ ∧ Blk w g 97 (idxf none 0 0 [] zI).toArray
theorem nofound {z : Oid.Id} {u : Value} (h : Found [] z u) : u = .tuple #[.agg (plf zR).toArray, .bool false] := by
  rcases h with ⟨k, x, hk, _⟩ | ⟨_, h⟩
  · cases hk
  · exact h
theorem lenZ (p : Option Addr) (w0 : World) (h : NX w0 p) : Calls Try.prog 31 #[.pointer p] w0 fun e w' => ∃ u, e = .returned u ∧ Like w0 w' ∧ u = .int .i64 0 := by
  rcases h with rfl | ⟨g, rfl, h⟩
  · exact lenN w0
  · exact lenX g none 0 0 [] zI w0 h (Rs.nil _ _)
theorem ofZ (p : Option Addr) (w0 : World) (h : NX w0 p) : Calls Try.prog 32 #[.pointer p] w0 fun e w' => ∃ u, e = .returned u ∧ Like w0 w' ∧ u = .agg (idf zI).toArray := by
  rcases h with rfl | ⟨g, rfl, h⟩
  · exact ofN w0
  · exact ofX g none 0 0 [] zI w0 h (Rs.nil _ _)
theorem atZ (p : Option Addr) (k : Int) (w0 : World) (h : NX w0 p) : Calls Try.prog 34 #[.pointer p, .int .i64 k] w0 fun e w' => ∃ u, e = .returned u ∧ Like w0 w' ∧ u = .agg (plf zR).toArray := by
  rcases h with rfl | ⟨g, rfl, h⟩
  · exact atN k w0
  · refine (atX g none 0 0 [] zI k w0 h (Rs.nil _ _) (fun ad hn => by omega)).mono fun e w' ⟨u, h1, h2, h3⟩ => ⟨u, h1, h2, ?_⟩
    rw [h3, atR_no (by simp; omega)]
theorem beginsZ (p : Option Addr) (z : Oid.Id) (nn : Int) (w0 : World) (h : NX w0 p) : Calls Try.prog 48 #[.pointer p, .agg (pfA z.l nn)] w0 fun e w' => ∃ u, e = .returned u ∧ Like w0 w' ∧ ∃ A c, u = .slice A 0 c := by
  rcases h with rfl | ⟨g, rfl, h⟩
  · exact (beginsN z nn w0).mono fun e w' ⟨u, h1, h2, h3⟩ => ⟨u, h1, h2, none, 0, h3⟩
  · exact (begins g none 0 0 [] zI z nn w0 h (Rs.nil _ _) List.Pairwise.nil (Nat.zero_le _)).mono fun e w' ⟨u, h1, h2, A, c, h3, _⟩ => ⟨u, h1, h2, A, c, h3⟩


set_option maxRecDepth 100000 in
theorem findN (z : Oid.Id) (w0 : World)  :
    Calls Try.prog 33 #[.pointer none, .agg (idf z).toArray] w0 fun e w' => ∃ u, e = .returned u ∧ Like w0 w' ∧ u = .tuple #[.agg (plf zR).toArray, .bool false] := by
  refine enter1 (env := [(0, .pointer none), (1, .agg (idf z).toArray)]) [.pointer none, .agg (idf z).toArray] Try.func33 rfl Try.ntmps33 rfl rfl ?_
  have S0 := St.start w0 noM
  refine T_seq fun K1 hK1 => ?_
  refine T_region ?_
  refine L_o (o_box rfl S0 rfl fun b1 w1 hb1 S1 => ?_)
  refine L_o (o_alloc zz62 S1 rfl fun b2 w2 hb2 S2 => ?_)
  refine L_y (y_assign rfl) rfl ?_
  refine L_nil ?_
  refine hK1 _ _ ?_
  refine T_seq fun K2 hK2 => ?_
  refine T_seq fun K3 hK3 => ?_
  refine T_region ?_
  refine L_y (y_move rfl) rfl ?_
  refine L_y (y_peqn Try.underlying49 rfl) rfl ?_
  refine L_nil ?_
  refine hK3 _ _ ?_
  refine T_true rfl ?_
  refine T_seq fun K4 hK4 => ?_
  refine T_region ?_
  refine L_y (y_build rfl (show _ = some (plf zR).toArray by kernel_rfl)) rfl ?_
  refine L_o (o_stW S2 1 rfl rfl rfl (by rw [plf_sz]; exact sz62) (by first | (rw [plf_sz, plf_sz]; done) | (rw [plf_sz]; rfl)) (fun u hu => plf_one _ u (by rw [List.toList_toArray] at hu; exact hu)) fun w3 S3 => ?_)
  refine L_y (y_assign rfl) rfl ?_
  refine L_nil ?_
  refine hK4 _ _ ?_
  refine T_ret ?_
  repeat (first | with_reducible refine up_then ?_ | with_reducible refine up_in ?_)
  refine retct rfl rfl rfl (S3.blk 1 rfl) Try.underlying62 rfl (by rw [plf_sz]; exact sz62) ?_
  exact ⟨_, rfl, S3.like0, rfl⟩


theorem findZ (p : Option Addr) (z : Oid.Id) (w0 : World) (h : NX w0 p) : Calls Try.prog 33 #[.pointer p, .agg (idf z).toArray] w0 fun e w' => ∃ u, e = .returned u ∧ Like w0 w' ∧ u = .tuple #[.agg (plf zR).toArray, .bool false] := by
  rcases h with rfl | ⟨g, rfl, h⟩
  · exact findN z w0
  · exact (find g none 0 0 [] zI z w0 h (Rs.nil _ _) (fun ad hn => by omega) List.Pairwise.nil (Nat.zero_le _)).mono fun e w' ⟨u, h1, h2, h3⟩ => ⟨u, h1, h2, nofound h3⟩

theorem nx {w : World} {g j : Nat} {p : Option Addr} (hp : ([none, some ⟨g, 0, none⟩] : List (Option Addr))[j]? = some p) (h : Blk w g 97 (idxf none 0 0 [] zI).toArray) : NX w p := by
  match j, hp with
  | 0, hp => cases hp; exact .inl rfl
  | 1, hp => cases hp; exact .inr ⟨g, rfl, h⟩


set_option maxRecDepth 100000 in
theorem nones (z z2 : Oid.Id) (nn k : Int) (w0 : World)  :
    Calls Try.prog 12 #[.agg (idf z).toArray, .agg (pfA z2.l nn), .int .i64 k] w0 fun e w' => ∃ u, e = .returned u ∧ Like w0 w' ∧ u = .bool true := by
  refine enter1 (env := [(0, .agg (idf z).toArray), (1, .agg (pfA z2.l nn)), (2, .int .i64 k)]) [.agg (idf z).toArray, .agg (pfA z2.l nn), .int .i64 k] Try.func12 rfl Try.ntmps12 rfl rfl ?_
  have S0 := St.start w0 noM
  refine T_seq fun K1 hK1 => ?_
  refine T_region ?_
  refine L_o (o_box rfl S0 rfl fun b1 w1 hb1 S1 => ?_)
  refine L_o (o_box rfl S1 rfl fun b2 w2 hb2 S2 => ?_)
  refine L_y (y_assign rfl) rfl ?_
  refine L_nil ?_
  refine hK1 _ _ ?_
  refine T_seq fun K2 hK2 => ?_
  refine T_region ?_
  refine L_y (y_assign rfl) rfl ?_
  refine L_nil ?_
  refine hK2 _ _ ?_
  refine T_seq fun K3 hK3 => ?_
  refine T_region ?_
  refine L_y (y_move rfl) rfl ?_
  refine L_y (y_build rfl (show _ = some (idxf none 0 0 [] zI).toArray by kernel_rfl)) rfl ?_
  refine L_o (o_box rfl S2 rfl fun b3 w3 hb3 S3 => ?_)
  refine L_o (o_bsl [_, _] te98 zz49 S3 rfl rfl rfl rfl rfl rfl rfl rfl fun b4 w4 S4 => ?_)
  refine L_y (y_assign rfl) rfl ?_
  refine L_nil ?_
  refine hK3 _ _ ?_
  refine T_seq fun K4 hK4 => ?_
  refine T_seq fun K5 hK5 => ?_
  refine T_region ?_
  refine L_y (y_assign rfl) rfl ?_
  refine L_nil ?_
  refine hK5 _ _ ?_
  refine T_block ?_
  refine T_loop1 [(2, _), (3, _), (4, _), (8, _)] (fun (j : Nat) => [(9, .int .i64 (j : Int))]) (fun (j : Nat) => 2 - j) (fun (j : Nat) (w : World) => j ≤ 2 ∧ Zx.St w0 noM [blk b1 23 (idf z).toArray, blk b2 85 (pfA z2.l nn), blk b3 97 (idxf none 0 0 [] zI).toArray, Zx.row 49 1 (some ⟨b4, 0, none⟩) 2 2 (([none, some ⟨b3, 0, none⟩] : List (Option Addr)).map Value.pointer)] w) 0 (Sub.cons rfl (by first | rfl | exact congrArg (Value.int _) (by omega)) (Sub.nil _)) (Sub.cons rfl rfl (Sub.cons rfl rfl (Sub.cons rfl rfl (Sub.cons rfl rfl (Sub.nil _))))) ?_ ?_
  ·
    exact ⟨by omega, S4⟩
  ·
    intro j w5 hrel
    obtain ⟨hj, S5⟩ := hrel
    refine T_seq fun K6 hK6 => ?_
    refine T_seq fun K7 hK7 => ?_
    refine T_region ?_
    refine L_y (y_move rfl) rfl ?_
    refine L_y (y_move rfl) rfl ?_
    refine L_y (y_len Try.underlying98 rfl) rfl ?_
    refine L_y (y_lss rfl rfl) rfl ?_
    refine L_nil ?_
    refine hK7 _ _ ?_
    refine T_cond rfl (fun h19 => ?_) (fun h19 => ?_)
    ·
      obtain ⟨p, hp⟩ : ∃ p, ([none, some ⟨b3, 0, none⟩] : List (Option Addr))[j]? = some p := ⟨_, List.getElem?_eq_getElem (by show j < 2; omega)⟩
      refine T_skip ?_
      refine hK6 _ _ ?_
      refine T_seq fun K8 hK8 => ?_
      refine T_block ?_
      refine T_seq fun K9 hK9 => ?_
      refine T_drawnX (fun w => Rs w 1 (some ⟨b4, 0, none⟩) 2 2 (([none, some ⟨b3, 0, none⟩] : List (Option Addr)).map Value.pointer) ∧ Blk w b1 23 (idf z).toArray) hmix (by kernel_rfl) (fun w l => ⟨((S5.like l).row 3 rfl), ((S5.like l).blk 0 rfl)⟩) fun w6 l6 => ?_
      have S6 := S5.like l6
      refine DX_y 0 (by kernel_rfl) rfl (y_move rfl) rfl ?_
      refine DX_y 1 (by kernel_rfl) rfl (y_move rfl) rfl ?_
      refine DX_y 2 (by kernel_rfl) rfl (y_idx Try.underlying98 sz49 rfl rfl (S6.row 3 rfl) inferInstance (by omega)) rfl ?_
      refine DX_y 3 (by kernel_rfl) rfl (y_of fun w hw => y_ldr Try.underlying49 rfl rfl hw.1 (by rw [List.getElem?_map, hp]; rfl)) rfl ?_
      refine DX_y 4 (by kernel_rfl) rfl (y_of fun w hw => y_ldW Try.underlying23 rfl sz23 rfl hw.2 (id_whole z)) rfl ?_
      refine DX_o2 5 9 (by kernel_rfl) rfl rfl ?_ ?_
      ·
        refine o_call Try.func33 rfl rfl (findZ p z w6 (nx hp (S6.blk 2 rfl))) rfl rfl ?_
        rintro e7 w7 ⟨v7, rfl, l7, rfl⟩
        refine ⟨_, rfl, ?_⟩
        have S7 := S6.like l7
        refine ⟨⟨(S7.row 3 rfl), (S7.blk 0 rfl)⟩, ?_⟩
        refine DX_y 6 (by kernel_rfl) rfl (y_move rfl) rfl ?_
        refine DX_y 7 (by kernel_rfl) rfl (y_extract rfl rfl) rfl ?_
        refine DX_y 8 (by kernel_rfl) rfl (y_extract rfl rfl) rfl ?_
        refine DX_o1 9 (by kernel_rfl) rfl ?_
        refine o_alloc zz62 S7 rfl fun b8 w8 hb8 S8 => ?_
        refine ⟨⟨(S8.row 3 rfl), (S8.blk 0 rfl)⟩, ?_⟩
        refine DX_o1 10 (by kernel_rfl) rfl ?_
        refine o_stW S8 4 rfl rfl rfl (by rw [plf_sz]; exact sz62) (by first | (rw [plf_sz, plf_sz]; done) | (rw [plf_sz]; rfl) | (rw [plf_sz])) (fun u hu => plf_one _ u (by rw [List.toList_toArray] at hu; exact hu)) fun w9 S9 => ?_
        refine ⟨⟨(S9.row 3 rfl), (S9.blk 0 rfl)⟩, ?_⟩
        refine DX_y 11 (by kernel_rfl) rfl (y_assign rfl) rfl ?_
        refine DX_nil (by kernel_rfl) ?_
        refine hK9 _ _ ?_
        refine T_seq fun K10 hK10 => ?_
        refine T_drawnL [(0, true), (1, true), (2, true), (3, true), (4, false), (5, true), (6, true), (7, true), (8, true), (9, true), (10, true), (11, true), (13, true), (12, false), (14, true), (15, true), (16, true), (17, true), (18, true), (19, true), (20, true), (21, true), (22, true), (23, true), (24, true), (25, true), (26, true), (27, true), (28, true), (29, true), (30, false), (31, true), (32, true), (33, true), (34, true), (35, true), (36, true), (37, true), (38, true), (40, true), (39, false), (41, true), (42, true)] hmix (by kernel_rfl) fun w10 l10 => ?_
        have S10 := S9.like l10
        refine DL_y rfl (y_move rfl) rfl ?_
        refine DL_y rfl (y_move rfl) rfl ?_
        refine DL_y rfl (y_idx Try.underlying98 sz49 rfl rfl (S10.row 3 rfl) inferInstance (by omega)) rfl ?_
        refine DL_y rfl (y_ldr Try.underlying49 rfl rfl (S10.row 3 rfl) (by rw [List.getElem?_map, hp]; rfl)) rfl ?_
        refine DL_o rfl (o_call Try.func31 rfl rfl (lenZ p w10 (nx hp (S10.blk 2 rfl))) rfl rfl ?_)
        rintro e11 w11 ⟨v11, rfl, l11, rfl⟩
        refine ⟨_, rfl, l11, ?_⟩
        have S11 := S10.like l11
        have q11 := l11
        refine DL_y rfl (y_neq rfl rfl) rfl ?_
        refine DL_y rfl (y_move rfl) rfl ?_
        refine DL_split 37 rfl (fun h37 => ?_) (fun h37 => ?_)
        ·
          exact absurd rfl h37
        ·
          refine DL_gyes rfl rfl rfl (y_move rfl) rfl ?_
          refine DL_gyes rfl rfl rfl (y_move rfl) rfl ?_
          refine DL_gyes rfl rfl rfl (y_idx Try.underlying98 sz49 rfl rfl (S10.row 3 rfl) inferInstance (by omega)) rfl ?_
          refine DL_gyes rfl rfl rfl (y_ldr Try.underlying49 rfl rfl (S10.row 3 rfl) (by rw [List.getElem?_map, hp]; rfl)) rfl ?_
          refine DL_gyes rfl rfl rfl (y_move rfl) rfl ?_
          refine DL_gyes rfl rfl rfl (y_build rfl (show _ = some (plf zR).toArray by kernel_rfl)) rfl ?_
          refine DL_ogyes rfl rfl rfl (o_call Try.func34 rfl rfl (atZ p k w11 (nx hp (S11.blk 2 rfl))) rfl rfl ?_)
          rintro e12 w12 ⟨v12, rfl, l12, rfl⟩
          refine ⟨_, rfl, (Like.trans q11 l12), ?_⟩
          have S12 := S11.like l12
          have q12 := (Like.trans q11 l12)
          refine DL_gyes rfl rfl rfl (y_neS Try.underlying62 (by kernel_rfl) (by kernel_rfl) (pl_eq zR zR Try.underlying62) rfl rfl) rfl ?_
          rw [peq_refl]
          refine DL_y rfl ((by first | exact y_pickT rfl rfl | exact y_pickF rfl rfl)) rfl ?_
          refine DL_y rfl (y_move rfl) rfl ?_
          refine DL_splitB 47 rfl (fun h47 => ?_) (fun h47 => ?_)
          ·
            cases h47
          ·
            refine DL_gyes rfl rfl rfl (y_move rfl) rfl ?_
            refine DL_y rfl ((by first | exact y_pickT rfl rfl | exact y_pickF rfl rfl)) rfl ?_
            refine DL_y rfl (y_move rfl) rfl ?_
            refine DL_gyes rfl rfl rfl (y_ldW Try.underlying62 rfl sz62 rfl (S10.blk 4 rfl) (pl_whole zR)) rfl ?_
            refine DL_gyes rfl rfl rfl (y_build rfl (show _ = some (plf zR).toArray by kernel_rfl)) rfl ?_
            refine DL_gyes rfl rfl rfl (y_neS Try.underlying62 (by kernel_rfl) (by kernel_rfl) (pl_eq zR zR Try.underlying62) rfl rfl) rfl ?_
            rw [peq_refl]
            refine DL_y rfl ((by first | exact y_pickT rfl rfl | exact y_pickF rfl rfl)) rfl ?_
            refine DL_y rfl (y_move rfl) rfl ?_
            refine DL_splitB 55 rfl (fun h55 => ?_) (fun h55 => ?_)
            ·
              cases h55
            ·
              refine DL_gyes rfl rfl rfl (y_move rfl) rfl ?_
              refine DL_gyes rfl rfl rfl (y_move rfl) rfl ?_
              refine DL_gyes rfl rfl rfl (y_idx Try.underlying98 sz49 rfl rfl (S10.row 3 rfl) inferInstance (by omega)) rfl ?_
              refine DL_gyes rfl rfl rfl (y_ldr Try.underlying49 rfl rfl (S10.row 3 rfl) (by rw [List.getElem?_map, hp]; rfl)) rfl ?_
              refine DL_gyes rfl rfl rfl (y_ldW Try.underlying85 rfl sz85 rfl (S10.blk 1 rfl) (pf_whole z2 nn)) rfl ?_
              refine DL_ogyes rfl rfl rfl (o_call Try.func48 rfl rfl (beginsZ p z2 nn w12 (nx hp (S12.blk 2 rfl))) rfl rfl ?_)
              rintro e13 w13 ⟨v13, rfl, l13, A13, c13, rfl⟩
              refine ⟨_, rfl, (Like.trans q12 l13), ?_⟩
              have S13 := S12.like l13
              have q13 := (Like.trans q12 l13)
              refine DL_gyes rfl rfl rfl (y_len Try.underlying24 rfl) rfl ?_
              refine DL_gyes rfl rfl rfl (y_neq rfl rfl) rfl ?_
              refine DL_y rfl ((by first | exact y_pickT rfl rfl | exact y_pickF rfl rfl)) rfl ?_
              refine DL_y rfl (y_move rfl) rfl ?_
              refine DL_split 65 rfl (fun h65 => ?_) (fun h65 => ?_)
              ·
                exact absurd rfl h65
              ·
                refine DL_gyes rfl rfl rfl (y_move rfl) rfl ?_
                refine DL_gyes rfl rfl rfl (y_move rfl) rfl ?_
                refine DL_gyes rfl rfl rfl (y_idx Try.underlying98 sz49 rfl rfl (S10.row 3 rfl) inferInstance (by omega)) rfl ?_
                refine DL_gyes rfl rfl rfl (y_ldr Try.underlying49 rfl rfl (S10.row 3 rfl) (by rw [List.getElem?_map, hp]; rfl)) rfl ?_
                refine DL_gyes rfl rfl rfl (y_build rfl (show _ = some (idf zI).toArray by kernel_rfl)) rfl ?_
                refine DL_ogyes rfl rfl rfl (o_call Try.func32 rfl rfl (ofZ p w13 (nx hp (S13.blk 2 rfl))) rfl rfl ?_)
                rintro e14 w14 ⟨v14, rfl, l14, rfl⟩
                refine ⟨_, rfl, (Like.trans q13 l14), ?_⟩
                have S14 := S13.like l14
                have q14 := (Like.trans q13 l14)
                refine DL_gyes rfl rfl rfl (y_neB Try.underlying23 Try.underlying5 sz5 (by kernel_rfl) rfl rfl (Oid.Id.h zI) (Oid.Id.h zI)) rfl ?_
                refine DL_y rfl ((by first | exact y_pickT rfl rfl | exact y_pickF rfl rfl)) rfl ?_
                refine DL_nil ?_
                refine hK10 _ _ ?_
                refine T_cond rfl (fun h73 => ?_) (fun h73 => ?_)
                ·
                  exact absurd rfl h73
                ·
                  refine T_skip ?_
                  refine hK8 _ _ ?_
                  refine T_region ?_
                  refine L_y (y_move rfl) rfl ?_
                  refine L_y (y_add rfl rfl (i64w (by omega))) rfl ?_
                  refine L_y (y_assign rfl) rfl ?_
                  refine L_nil ?_
                  have S91 := S14.sel [0, 1, 2, 3] (by decide)
                  refine ⟨j + 1, by omega, ⟨by omega, S91⟩, ?_⟩
                  exact (Sub.cons rfl (by first | rfl | exact congrArg (Value.int _) (by omega)) (Sub.cons rfl rfl (Sub.cons rfl rfl (Sub.cons rfl rfl (Sub.cons rfl rfl (Sub.nil _))))))
      ·
        refine o_alloc zz62 S6 rfl fun b15 w15 hb15 S15 => ?_
        refine ⟨⟨(S15.row 3 rfl), (S15.blk 0 rfl)⟩, ?_⟩
        refine DX_o1 5 (by kernel_rfl) rfl ?_
        refine o_call Try.func33 rfl rfl (findZ p z w15 (nx hp (S15.blk 2 rfl))) rfl rfl ?_
        rintro e16 w16 ⟨v16, rfl, l16, rfl⟩
        refine ⟨_, rfl, ?_⟩
        have S16 := S15.like l16
        refine ⟨⟨(S16.row 3 rfl), (S16.blk 0 rfl)⟩, ?_⟩
        refine DX_y 6 (by kernel_rfl) rfl (y_move rfl) rfl ?_
        refine DX_y 7 (by kernel_rfl) rfl (y_extract rfl rfl) rfl ?_
        refine DX_y 8 (by kernel_rfl) rfl (y_extract rfl rfl) rfl ?_
        refine DX_o1 10 (by kernel_rfl) rfl ?_
        refine o_stW S16 4 rfl rfl rfl (by rw [plf_sz]; exact sz62) (by first | (rw [plf_sz, plf_sz]; done) | (rw [plf_sz]; rfl) | (rw [plf_sz])) (fun u hu => plf_one _ u (by rw [List.toList_toArray] at hu; exact hu)) fun w17 S17 => ?_
        refine ⟨⟨(S17.row 3 rfl), (S17.blk 0 rfl)⟩, ?_⟩
        refine DX_y 11 (by kernel_rfl) rfl (y_assign rfl) rfl ?_
        refine DX_nil (by kernel_rfl) ?_
        refine hK9 _ _ ?_
        refine T_seq fun K11 hK11 => ?_
        refine T_drawnL [(0, true), (1, true), (2, true), (3, true), (4, false), (5, true), (6, true), (7, true), (8, true), (9, true), (10, true), (11, true), (13, true), (12, false), (14, true), (15, true), (16, true), (17, true), (18, true), (19, true), (20, true), (21, true), (22, true), (23, true), (24, true), (25, true), (26, true), (27, true), (28, true), (29, true), (30, false), (31, true), (32, true), (33, true), (34, true), (35, true), (36, true), (37, true), (38, true), (40, true), (39, false), (41, true), (42, true)] hmix (by kernel_rfl) fun w18 l18 => ?_
        have S18 := S17.like l18
        refine DL_y rfl (y_move rfl) rfl ?_
        refine DL_y rfl (y_move rfl) rfl ?_
        refine DL_y rfl (y_idx Try.underlying98 sz49 rfl rfl (S18.row 3 rfl) inferInstance (by omega)) rfl ?_
        refine DL_y rfl (y_ldr Try.underlying49 rfl rfl (S18.row 3 rfl) (by rw [List.getElem?_map, hp]; rfl)) rfl ?_
        refine DL_o rfl (o_call Try.func31 rfl rfl (lenZ p w18 (nx hp (S18.blk 2 rfl))) rfl rfl ?_)
        rintro e19 w19 ⟨v19, rfl, l19, rfl⟩
        refine ⟨_, rfl, l19, ?_⟩
        have S19 := S18.like l19
        have q19 := l19
        refine DL_y rfl (y_neq rfl rfl) rfl ?_
        refine DL_y rfl (y_move rfl) rfl ?_
        refine DL_split 37 rfl (fun h37 => ?_) (fun h37 => ?_)
        ·
          exact absurd rfl h37
        ·
          refine DL_gyes rfl rfl rfl (y_move rfl) rfl ?_
          refine DL_gyes rfl rfl rfl (y_move rfl) rfl ?_
          refine DL_gyes rfl rfl rfl (y_idx Try.underlying98 sz49 rfl rfl (S18.row 3 rfl) inferInstance (by omega)) rfl ?_
          refine DL_gyes rfl rfl rfl (y_ldr Try.underlying49 rfl rfl (S18.row 3 rfl) (by rw [List.getElem?_map, hp]; rfl)) rfl ?_
          refine DL_gyes rfl rfl rfl (y_move rfl) rfl ?_
          refine DL_gyes rfl rfl rfl (y_build rfl (show _ = some (plf zR).toArray by kernel_rfl)) rfl ?_
          refine DL_ogyes rfl rfl rfl (o_call Try.func34 rfl rfl (atZ p k w19 (nx hp (S19.blk 2 rfl))) rfl rfl ?_)
          rintro e20 w20 ⟨v20, rfl, l20, rfl⟩
          refine ⟨_, rfl, (Like.trans q19 l20), ?_⟩
          have S20 := S19.like l20
          have q20 := (Like.trans q19 l20)
          refine DL_gyes rfl rfl rfl (y_neS Try.underlying62 (by kernel_rfl) (by kernel_rfl) (pl_eq zR zR Try.underlying62) rfl rfl) rfl ?_
          rw [peq_refl]
          refine DL_y rfl ((by first | exact y_pickT rfl rfl | exact y_pickF rfl rfl)) rfl ?_
          refine DL_y rfl (y_move rfl) rfl ?_
          refine DL_splitB 47 rfl (fun h47 => ?_) (fun h47 => ?_)
          ·
            cases h47
          ·
            refine DL_gyes rfl rfl rfl (y_move rfl) rfl ?_
            refine DL_y rfl ((by first | exact y_pickT rfl rfl | exact y_pickF rfl rfl)) rfl ?_
            refine DL_y rfl (y_move rfl) rfl ?_
            refine DL_gyes rfl rfl rfl (y_ldW Try.underlying62 rfl sz62 rfl (S18.blk 4 rfl) (pl_whole zR)) rfl ?_
            refine DL_gyes rfl rfl rfl (y_build rfl (show _ = some (plf zR).toArray by kernel_rfl)) rfl ?_
            refine DL_gyes rfl rfl rfl (y_neS Try.underlying62 (by kernel_rfl) (by kernel_rfl) (pl_eq zR zR Try.underlying62) rfl rfl) rfl ?_
            rw [peq_refl]
            refine DL_y rfl ((by first | exact y_pickT rfl rfl | exact y_pickF rfl rfl)) rfl ?_
            refine DL_y rfl (y_move rfl) rfl ?_
            refine DL_splitB 55 rfl (fun h55 => ?_) (fun h55 => ?_)
            ·
              cases h55
            ·
              refine DL_gyes rfl rfl rfl (y_move rfl) rfl ?_
              refine DL_gyes rfl rfl rfl (y_move rfl) rfl ?_
              refine DL_gyes rfl rfl rfl (y_idx Try.underlying98 sz49 rfl rfl (S18.row 3 rfl) inferInstance (by omega)) rfl ?_
              refine DL_gyes rfl rfl rfl (y_ldr Try.underlying49 rfl rfl (S18.row 3 rfl) (by rw [List.getElem?_map, hp]; rfl)) rfl ?_
              refine DL_gyes rfl rfl rfl (y_ldW Try.underlying85 rfl sz85 rfl (S18.blk 1 rfl) (pf_whole z2 nn)) rfl ?_
              refine DL_ogyes rfl rfl rfl (o_call Try.func48 rfl rfl (beginsZ p z2 nn w20 (nx hp (S20.blk 2 rfl))) rfl rfl ?_)
              rintro e21 w21 ⟨v21, rfl, l21, A21, c21, rfl⟩
              refine ⟨_, rfl, (Like.trans q20 l21), ?_⟩
              have S21 := S20.like l21
              have q21 := (Like.trans q20 l21)
              refine DL_gyes rfl rfl rfl (y_len Try.underlying24 rfl) rfl ?_
              refine DL_gyes rfl rfl rfl (y_neq rfl rfl) rfl ?_
              refine DL_y rfl ((by first | exact y_pickT rfl rfl | exact y_pickF rfl rfl)) rfl ?_
              refine DL_y rfl (y_move rfl) rfl ?_
              refine DL_split 65 rfl (fun h65 => ?_) (fun h65 => ?_)
              ·
                exact absurd rfl h65
              ·
                refine DL_gyes rfl rfl rfl (y_move rfl) rfl ?_
                refine DL_gyes rfl rfl rfl (y_move rfl) rfl ?_
                refine DL_gyes rfl rfl rfl (y_idx Try.underlying98 sz49 rfl rfl (S18.row 3 rfl) inferInstance (by omega)) rfl ?_
                refine DL_gyes rfl rfl rfl (y_ldr Try.underlying49 rfl rfl (S18.row 3 rfl) (by rw [List.getElem?_map, hp]; rfl)) rfl ?_
                refine DL_gyes rfl rfl rfl (y_build rfl (show _ = some (idf zI).toArray by kernel_rfl)) rfl ?_
                refine DL_ogyes rfl rfl rfl (o_call Try.func32 rfl rfl (ofZ p w21 (nx hp (S21.blk 2 rfl))) rfl rfl ?_)
                rintro e22 w22 ⟨v22, rfl, l22, rfl⟩
                refine ⟨_, rfl, (Like.trans q21 l22), ?_⟩
                have S22 := S21.like l22
                have q22 := (Like.trans q21 l22)
                refine DL_gyes rfl rfl rfl (y_neB Try.underlying23 Try.underlying5 sz5 (by kernel_rfl) rfl rfl (Oid.Id.h zI) (Oid.Id.h zI)) rfl ?_
                refine DL_y rfl ((by first | exact y_pickT rfl rfl | exact y_pickF rfl rfl)) rfl ?_
                refine DL_nil ?_
                refine hK11 _ _ ?_
                refine T_cond rfl (fun h73 => ?_) (fun h73 => ?_)
                ·
                  exact absurd rfl h73
                ·
                  refine T_skip ?_
                  refine hK8 _ _ ?_
                  refine T_region ?_
                  refine L_y (y_move rfl) rfl ?_
                  refine L_y (y_add rfl rfl (i64w (by omega))) rfl ?_
                  refine L_y (y_assign rfl) rfl ?_
                  refine L_nil ?_
                  have S91 := S22.sel [0, 1, 2, 3] (by decide)
                  refine ⟨j + 1, by omega, ⟨by omega, S91⟩, ?_⟩
                  exact (Sub.cons rfl (by first | rfl | exact congrArg (Value.int _) (by omega)) (Sub.cons rfl rfl (Sub.cons rfl rfl (Sub.cons rfl rfl (Sub.cons rfl rfl (Sub.nil _))))))
    ·
      refine T_exit ?_
      refine hK4 _ _ ?_
      refine T_seq fun K12 hK12 => ?_
      refine T_region ?_
      refine L_o (o_call Try.func24 rfl rfl (works w5) rfl rfl ?_)
      rintro e23 w23 ⟨v23, rfl, l23, rfl⟩
      refine ⟨_, rfl, ?_⟩
      have S23 := S5.like l23
      refine L_y (y_assign rfl) rfl ?_
      refine L_nil ?_
      refine hK12 _ _ ?_
      refine T_ret ?_
      repeat (first | with_reducible refine up_then ?_ | with_reducible refine up_in ?_)
      refine ret1 rfl rfl ?_
      exact ⟨_, rfl, S23.like0, rfl⟩


theorem nones_law (z z2 : Oid.Id) (nn k : Int) (w0 : World) :
    Calls Try.prog 12 #[.agg (idf z).toArray, .agg (pfA z2.l nn), .int .i64 k] w0 fun e w' => e = .returned (.bool true) ∧ Below w0.heap.size w0 w' :=
  (nones z z2 nn k w0).mono fun e w' ⟨u, h1, h2, h3⟩ => by subst h3; exact ⟨h1, h2⟩
end Go.Proofs.Ytgaklngnfecdaaa.Idx
