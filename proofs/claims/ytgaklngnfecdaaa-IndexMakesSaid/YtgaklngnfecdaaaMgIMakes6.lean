import Derived.Test.YtgaklngnfecdaaaMgIMakes5
import Derived.Test.YtgaklngnfecdaaaMgIMakes2

/-
  Reading an index.
-/
namespace Go.Proofs.Ytgaklngnfecdaaa.Idx
open Go.RowKit Zk Zx
open Oid (idf idf_len cmpL)
set_option linter.unusedVariables false
set_option linter.unusedSimpArgs false

open Oct (rdr)
theorem rs_tail {w : World} {A : Option Addr} {n c : Nat} {b : List UInt8} (k : Nat) (h : Rs w 1 A n c (bL b)) (h1 : k ≤ n) : Rs w 1 (cutA A c k 1) (n - k) (c - k) (bL (b.drop k)) := by
  have h2 := h.cutb (l := k) (u := n) h1 (Nat.le_refl _)
  rwa [List.take_of_length_le (by rw [List.length_drop, h.lenb]; omega)] at h2
theorem flat_rep {x : Row} {n i : Nat} (h : i < n * 34) : ((List.replicate n x).flatMap rowf)[i]? = (rowf x)[i % 34]? := by
  have hd := Nat.div_add_mod i 34
  have hm := Nat.mod_lt i (y := 34) (by omega)
  have hk : i / 34 < n := by omega
  have e : i = i / 34 * 34 + i % 34 := by omega
  conv => lhs; rw [e]
  exact flat_at rowf 34 rowf_len _ _ x (by rw [List.getElem?_replicate, if_pos hk]) _ hm
theorem rows0 (t : List UInt8) (n : Nat) : List.replicate n zR = rowsP t n 0 0 0 := by
  apply List.ext_getElem?
  intro i
  by_cases h : i < n
  · rw [rowsP_get h, List.getElem?_replicate, if_pos h]; rfl
  · rw [List.getElem?_eq_none (by simp; omega), List.getElem?_eq_none (by rw [rowsP_len]; omega)]
theorem row_set32 (x : Row) (v : Int) : rowf { x with sm := v } = (rowf x).set 32 (.int .u32 v) := by
  unfold rowf
  rw [List.set_append_right _ _ (by rw [idf_len]; omega), idf_len]
  rfl
theorem row_set33 (x : Row) (v : Int) : rowf { x with at_ := v } = (rowf x).set 33 (.int .i64 v) := by
  unfold rowf
  rw [List.set_append_right _ _ (by rw [idf_len]; omega), idf_len]
  rfl
theorem rowsP_sm {t : List UInt8} {n k : Nat} {x : Row} (h : k < n) (hx : (rowsP t n n k 0)[k]? = some x) : (rowsP t n n k 0).set k { x with sm := (b4 t (1024 + 32 * n + 4 * k) : Int) } = rowsP t n n (k + 1) 0 := by
  rw [rowsP_get h] at hx
  cases hx
  apply List.ext_getElem?
  intro i
  rw [List.getElem?_set]
  by_cases hi : i < n
  · rw [rowsP_get hi, rowsP_get hi]
    by_cases e : k = i
    · subst e; simp [rowsP_len, h]
    · rw [if_neg e]
      have : (i < k + 1) ↔ (i < k) := by omega
      simp [this]
  · rw [List.getElem?_eq_none (by rw [rowsP_len]; omega), List.getElem?_eq_none (by rw [rowsP_len]; omega), if_neg (by omega)]
theorem rowsP_at {t : List UInt8} {n k : Nat} {x : Row} (h : k < n) (hx : (rowsP t n n n k)[k]? = some x) : (rowsP t n n n k).set k { x with at_ := (b4 t (1024 + 36 * n + 4 * k) : Int) } = rowsP t n n n (k + 1) := by
  rw [rowsP_get h] at hx
  cases hx
  apply List.ext_getElem?
  intro i
  rw [List.getElem?_set]
  by_cases hi : i < n
  · rw [rowsP_get hi, rowsP_get hi]
    by_cases e : k = i
    · subst e; simp [rowsP_len, h]
    · rw [if_neg e]
      have : (i < k + 1) ↔ (i < k) := by omega
      simp [this]
  · rw [List.getElem?_eq_none (by rw [rowsP_len]; omega), List.getElem?_eq_none (by rw [rowsP_len]; omega), if_neg (by omega)]
theorem idxG_row (A : Option Addr) (n c : Nat) (fs : List Value) (of : Oid.Id) : (idxG A n c fs of).toArray[0]? = some (.slice A n c) := rfl
theorem idxG_of {A : Option Addr} {n c : Nat} {fs : List Value} {of z : Oid.Id} (h : fs.length = 256) : ((idxG A n c fs of).toArray.toList.take 257 ++ (idf z).toArray.toList ++ (idxG A n c fs of).toArray.toList.drop (257 + (idf z).toArray.size)).toArray = (idxG A n c fs z).toArray := by
  congr 1
  rw [List.drop_of_length_le (by simp [idxG, h, idf_len]), List.append_nil]
  unfold idxG
  rw [List.toList_toArray, List.take_append_of_le_length (by simp [h]), List.take_of_length_le (by simp [h])]
theorem idxG_len {A : Option Addr} {n c : Nat} {fs : List Value} {of : Oid.Id} (h : fs.length = 256) : (idxG A n c fs of).toArray.size = 289 := by simp [idxG, h, idf_len]
theorem said_whole (f : Nat → Int) (i : Nat) (h : i ≤ 256) : ((arrG f i).toArray.toList.drop 0).take 256 = arrG f i ∧ (arrG f i).length = 256 := ⟨by rw [List.drop_zero]; exact List.take_of_length_le (by have := arrG_len f h; simp only [] at this ⊢; omega), arrG_len f h⟩
/-- What read answers. -/
def Red (w0 w' : World) (b : List UInt8) (n : Nat) (u : Value) : Prop := ∃ g A1, u = .tuple #[.pointer (some ⟨g, 0, none⟩), .agg (said (b.drop 8)).toArray] ∧ Zx.St w0 noM [Zx.row 119 34 A1 n n ((rowsP (b.drop 8) n n n n).flatMap rowf), blk g 97 (idxG A1 n n (List.replicate 256 (.int .i64 0)) (idAt (b.drop 8) (1024 + 40 * n))).toArray] w'

theorem zR_cells : (Value.agg #[.int .u8 0, .int .u8 0, .int .u8 0, .int .u8 0, .int .u8 0, .int .u8 0, .int .u8 0, .int .u8 0, .int .u8 0, .int .u8 0, .int .u8 0, .int .u8 0, .int .u8 0, .int .u8 0, .int .u8 0, .int .u8 0, .int .u8 0, .int .u8 0, .int .u8 0, .int .u8 0, .int .u8 0, .int .u8 0, .int .u8 0, .int .u8 0, .int .u8 0, .int .u8 0, .int .u8 0, .int .u8 0, .int .u8 0, .int .u8 0, .int .u8 0, .int .u8 0, .int .u32 0, .int .i64 0] : Value).cells = (rowf zR).toArray := by kernel_rfl


set_option maxRecDepth 100000 in
theorem read (B : Option Addr) (m d : Nat) (b : List UInt8) (n : Nat) (w0 : World) (hb : Rs w0 1 B m d (bL b)) (hl : b.length = 1096 + 40 * n) (hn : n ≤ 600) :
    Calls Try.prog 75 #[.slice B m d, .int .i64 (n : Int)] w0 fun e w' => ∃ u, e = .returned u ∧ Like w0 w' ∧ Red w0 w' b n u := by
  refine enter1 (env := [(0, .slice B m d), (1, .int .i64 (n : Int))]) [.slice B m d, .int .i64 (n : Int)] Try.func75 rfl Try.ntmps75 rfl rfl ?_
  have hm := hb.lenb; have hcap := hb.cap; have hmax := hb.max; have ht : (b.drop 8).length = 1088 + 40 * n := by rw [List.length_drop]; omega
  have S0 := St.start w0 noM
  refine T_seq fun K1 hK1 => ?_
  refine T_region ?_
  refine L_y (y_assign rfl) rfl ?_
  refine L_o (o_alloc zz95 S0 rfl fun b1 w1 hb1 S1 => ?_)
  refine L_nil ?_
  refine hK1 _ _ ?_
  refine T_seq fun K2 hK2 => ?_
  refine T_region ?_
  refine L_y (y_move rfl) rfl ?_
  refine L_y (y_sliceL Try.underlying27 sz5 rfl rfl inferInstance (by omega)) rfl ?_
  refine L_o (o_call Try.func71 rfl rfl (Oct.rnew _ _ _ (b.drop 8) w1 (rs_tail 8 (S1.rd hb) (by omega)) (by omega)) rfl rfl ?_)
  rintro e2 w2 ⟨v2, rfl, l2, g, A, c, rfl, hh2, dd2⟩
  refine ⟨_, rfl, ?_⟩
  have S2 := S1.new l2 _ hh2 dd2
  refine L_y (y_assign rfl) rfl ?_
  refine L_nil ?_
  refine hK2 _ _ ?_
  refine T_seq fun K3 hK3 => ?_
  refine T_region ?_
  refine L_o (o_alloc zz95 S2 rfl fun b3 w3 hb3 S3 => ?_)
  refine L_nil ?_
  refine hK3 _ _ ?_
  refine T_seq fun K4 hK4 => ?_
  refine T_seq fun K5 hK5 => ?_
  refine T_region ?_
  refine L_y (y_move rfl) rfl ?_
  refine L_nil ?_
  refine hK5 _ _ ?_
  refine T_block ?_
  refine T_loop1 [(1, _), (5, _), (6, _), (7, _)] (fun (i : Nat) => [(16, .int .i64 (i : Int))]) (fun (i : Nat) => 256 - i) (fun (i : Nat) (w : World) => i ≤ 256 ∧ Zx.St w0 noM [blk b1 95 (arrG (fun c => (b4 (b.drop 8) (4 * c) : Int)) 0).toArray, rdr g A (m - 8) c (b.drop 8) (4 * i) 0, blk b3 95 (arrG (fun c => (b4 (b.drop 8) (4 * c) : Int)) i).toArray] w) 0 (Sub.cons rfl (by first | rfl | exact congrArg (Value.int _) (by omega)) (Sub.nil _)) (Sub.cons rfl rfl (Sub.cons rfl rfl (Sub.cons rfl rfl (Sub.cons rfl rfl (Sub.nil _))))) ?_ ?_
  ·
    have S70 : Zx.St w0 noM [blk b1 95 (arrG (fun c => (b4 (b.drop 8) (4 * c) : Int)) 0).toArray, rdr g A (m - 8) c (b.drop 8) (4 * 0) 0, blk b3 95 (arrG (fun c => (b4 (b.drop 8) (4 * c) : Int)) 0).toArray] w3 := S3.cast (by kernel_rfl)
    exact ⟨by omega, S70⟩
  ·
    intro i w4 hrel
    obtain ⟨hi, S4⟩ := hrel
    refine T_seq fun K6 hK6 => ?_
    refine T_region ?_
    refine L_y (y_lss rfl rfl) rfl ?_
    refine L_nil ?_
    refine hK6 _ _ ?_
    refine T_seq fun K7 hK7 => ?_
    refine T_cond rfl (fun h17 => ?_) (fun h17 => ?_)
    ·
      refine T_skip ?_
      refine hK7 _ _ ?_
      refine T_seq fun K8 hK8 => ?_
      refine T_block ?_
      refine T_seq fun K9 hK9 => ?_
      refine T_region ?_
      refine L_y (y_move rfl) rfl ?_
      refine L_y (y_assign rfl) rfl ?_
      refine L_nil ?_
      refine hK9 _ _ ?_
      refine T_region ?_
      refine L_y (y_move rfl) rfl ?_
      refine L_y (y_move rfl) rfl ?_
      refine L_o (o_call Try.func73 rfl rfl (Oct.ru32 g A (m - 8) c (b.drop 8) (4 * i) 0 w4 (S4.get 1 rfl) (by omega) (by omega)) rfl rfl ?_)
      rintro e5 w5 ⟨v5, rfl, rfl, T5⟩
      refine ⟨_, rfl, ?_⟩
      have S5 := S4.turn 1 rfl T5
      obtain ⟨e1, e2, e3⟩ := rw_ok (l := b.drop 8) (p := 4 * i) (k := 4) (by omega)
      rw [e2, e3] at S5
      rw [e1]
      have hb4 : Oct.be (((b.drop 8).drop (4 * i)).take 4) < 4294967296 := b4_lt _ _
      rw [show 4 * i + 4 = 4 * (i + 1) by omega] at S5
      refine L_y (y_conv is60 Try.underlying3 rfl (i64w (by omega))) rfl ?_
      refine L_y (y_idxA0 Try.underlying95 sz3 rfl rfl inferInstance (by omega)) rfl ?_
      refine L_o (o_st1 S5 2 rfl rfl rfl rfl sz3 (by rw [List.size_toArray, arrG_len _ (by omega)]; omega) fun w6 S6 => ?_)
      have S90 := S6.blkc 2 rfl (arrG_set (fun c => (b4 (b.drop 8) (4 * c) : Int)) (i := i) (by omega))
      refine L_nil ?_
      refine hK8 _ _ ?_
      refine T_region ?_
      refine L_y (y_add rfl rfl (i64w (by omega))) rfl ?_
      refine L_y (y_move rfl) rfl ?_
      refine L_nil ?_
      refine ⟨i + 1, by omega, ⟨by omega, S90⟩, ?_⟩
      exact (Sub.cons rfl (by first | rfl | exact congrArg (Value.int _) (by omega)) (Sub.cons rfl rfl (Sub.cons rfl rfl (Sub.cons rfl rfl (Sub.cons rfl rfl (Sub.nil _))))))
    ·
      refine T_exit ?_
      refine hK4 _ _ ?_
      refine T_seq fun K10 hK10 => ?_
      obtain rfl : i = 256 := by omega
      refine T_region ?_
      refine L_y (y_move rfl) rfl ?_
      refine L_o (o_makeN te94 ((List.replicate n zR).flatMap rowf) (by rw [flat_len rowf 34 rowf_len, List.length_replicate]) (fun i hi => (flat_rep hi).trans (by rw [zR_cells, List.getElem?_toArray])) (by omega) S4 rfl rfl inferInstance inferInstance rfl (by omega) (by omega) (by omega) fun b7 w7 S7 => ?_)
      rw [rows0 (b.drop 8)] at S7
      refine L_y (y_build rfl (show _ = some (idxG (some ⟨b7, 0, none⟩) n n (List.replicate 256 (.int .i64 0)) zI).toArray by kernel_rfl)) rfl ?_
      refine L_o (o_box rfl S7 rfl fun b8 w8 hb8 S8 => ?_)
      refine L_y (y_assign rfl) rfl ?_
      refine L_nil ?_
      refine hK10 _ _ ?_
      refine T_seq fun K11 hK11 => ?_
      refine T_seq fun K12 hK12 => ?_
      refine T_region ?_
      refine L_y (y_move rfl) rfl ?_
      refine L_y (y_nilp rfl) rfl ?_
      refine L_y (y_fieldA 0 Try.underlying97 rfl sz94 rfl rfl rfl) rfl ?_
      refine L_y (y_ldc Try.underlying94 rfl rfl (((S8.blk 4 rfl).cell _).trans (idxG_row _ _ _ _ _))) rfl ?_
      refine L_y (y_len Try.underlying94 rfl) rfl ?_
      refine L_y (y_move rfl) rfl ?_
      refine L_nil ?_
      refine hK12 _ _ ?_
      refine T_block ?_
      refine T_loop1 [(5, _), (6, _), (7, _), (9, _), (33, _)] (fun (k : Nat) => [(34, .int .i64 (k : Int))]) (fun (k : Nat) => n - k) (fun (k : Nat) (w : World) => k ≤ n ∧ Zx.St w0 noM [blk b1 95 (arrG (fun c => (b4 (b.drop 8) (4 * c) : Int)) 0).toArray, rdr g A (m - 8) c (b.drop 8) (1024 + 32 * k) 0, blk b3 95 (arrG (fun c => (b4 (b.drop 8) (4 * c) : Int)) 256).toArray, Zx.row 119 34 (some ⟨b7, 0, none⟩) n n ((rowsP (b.drop 8) n k 0 0).flatMap rowf), blk b8 97 (idxG (some ⟨b7, 0, none⟩) n n (List.replicate 256 (.int .i64 0)) zI).toArray] w) 0 (Sub.cons rfl (by first | rfl | exact congrArg (Value.int _) (by omega)) (Sub.nil _)) (Sub.cons rfl rfl (Sub.cons rfl rfl (Sub.cons rfl rfl (Sub.cons rfl rfl (Sub.cons rfl rfl (Sub.nil _)))))) ?_ ?_
      ·
        exact ⟨by omega, S8⟩
      ·
        intro k w9 hrel
        obtain ⟨hk, S9⟩ := hrel
        refine T_seq fun K13 hK13 => ?_
        refine T_region ?_
        refine L_y (y_lss rfl rfl) rfl ?_
        refine L_nil ?_
        refine hK13 _ _ ?_
        refine T_seq fun K14 hK14 => ?_
        refine T_cond rfl (fun h35 => ?_) (fun h35 => ?_)
        ·
          obtain ⟨x, hx⟩ : ∃ x, (rowsP (b.drop 8) n k 0 0)[k]? = some x := ⟨_, List.getElem?_eq_getElem (by rw [rowsP_len]; omega)⟩
          refine T_skip ?_
          refine hK14 _ _ ?_
          refine T_seq fun K15 hK15 => ?_
          refine T_block ?_
          refine T_seq fun K16 hK16 => ?_
          refine T_region ?_
          refine L_y (y_move rfl) rfl ?_
          refine L_y (y_assign rfl) rfl ?_
          refine L_nil ?_
          refine hK16 _ _ ?_
          refine T_drawnX (fun w => Blk w b8 97 (idxG (some ⟨b7, 0, none⟩) n n (List.replicate 256 (.int .i64 0)) zI).toArray) hmix (by kernel_rfl) (fun w l => ((S9.like l).blk 4 rfl)) fun w10 l10 => ?_
          have S10 := S9.like l10
          refine DX_y 0 (by kernel_rfl) rfl (y_move rfl) rfl ?_
          refine DX_y 1 (by kernel_rfl) rfl (y_nilp rfl) rfl ?_
          refine DX_y 2 (by kernel_rfl) rfl (y_fieldA 0 Try.underlying97 rfl sz94 rfl rfl rfl) rfl ?_
          refine DX_y 3 (by kernel_rfl) rfl (y_of fun w hw => y_ldc Try.underlying94 rfl rfl ((hw.cell _).trans (idxG_row _ _ _ _ _))) rfl ?_
          refine DX_y 4 (by kernel_rfl) rfl (y_move rfl) rfl ?_
          refine DX_y 5 (by kernel_rfl) rfl (y_move rfl) rfl ?_
          refine DX_o1 6 (by kernel_rfl) rfl ?_
          refine o_call Try.func119 rfl rfl (take g A (m - 8) c (b.drop 8) (1024 + 32 * k) (idAt (b.drop 8) (1024 + 32 * k)) w10 (S10.get 1 rfl) (by omega) (by omega) (idAt_l (by omega))) rfl rfl ?_
          rintro e11 w11 ⟨v11, rfl, T11, rfl⟩
          refine ⟨_, rfl, ?_⟩
          have S11 := S10.turn 1 rfl T11
          rw [show 1024 + 32 * k + 32 = 1024 + 32 * (k + 1) by omega] at S11
          refine ⟨(S11.blk 4 rfl), ?_⟩
          refine DX_y 7 (by kernel_rfl) rfl (y_idx Try.underlying94 sz119 rfl rfl (S10.row 3 rfl) inferInstance (by omega)) rfl ?_
          refine DX_y 8 (by kernel_rfl) rfl (y_fieldR 0 Try.underlying119 rfl sz23 rfl rfl (S10.row 3 rfl) (by omega) rfl) rfl ?_
          refine DX_o1 9 (by kernel_rfl) rfl ?_
          refine o_strowF S11 3 rfl rfl rfl (fun u hu => bL_one _ u (by rw [List.toList_toArray] at hu; exact hu)) (by rw [List.size_toArray, idf_len]) sz23 (by omega) (by omega) fun w12 S12 => ?_
          refine ⟨(S12.blk 4 rfl), ?_⟩
          refine DX_nil (by kernel_rfl) ?_
          refine hK15 _ _ ?_
          refine T_region ?_
          refine L_y (y_add rfl rfl (i64w (by omega))) rfl ?_
          refine L_y (y_move rfl) rfl ?_
          refine L_nil ?_
          have S91 := S12.rowc 3 rfl rfl ((flat_id (idAt (b.drop 8) (1024 + 32 * k)) hx).trans (congrArg (fun q => q.flatMap rowf) (rowsP_id (by omega) hx)))
          refine ⟨k + 1, by omega, ⟨by omega, S91⟩, ?_⟩
          exact (Sub.cons rfl (by first | rfl | exact congrArg (Value.int _) (by omega)) (Sub.cons rfl rfl (Sub.cons rfl rfl (Sub.cons rfl rfl (Sub.cons rfl rfl (Sub.cons rfl rfl (Sub.nil _)))))))
        ·
          obtain rfl : n = k := by omega
          refine T_exit ?_
          refine hK11 _ _ ?_
          refine T_seq fun K17 hK17 => ?_
          refine T_seq fun K18 hK18 => ?_
          refine T_region ?_
          refine L_y (y_move rfl) rfl ?_
          refine L_y (y_nilp rfl) rfl ?_
          refine L_y (y_fieldA 0 Try.underlying97 rfl sz94 rfl rfl rfl) rfl ?_
          refine L_y (y_ldc Try.underlying94 rfl rfl (((S9.blk 4 rfl).cell _).trans (idxG_row _ _ _ _ _))) rfl ?_
          refine L_y (y_len Try.underlying94 rfl) rfl ?_
          refine L_y (y_move rfl) rfl ?_
          refine L_nil ?_
          refine hK18 _ _ ?_
          refine T_block ?_
          refine T_loop1 [(5, _), (6, _), (7, _), (9, _), (51, _)] (fun (k : Nat) => [(52, .int .i64 (k : Int))]) (fun (k : Nat) => n - k) (fun (k : Nat) (w : World) => k ≤ n ∧ Zx.St w0 noM [blk b1 95 (arrG (fun c => (b4 (b.drop 8) (4 * c) : Int)) 0).toArray, rdr g A (m - 8) c (b.drop 8) (1024 + 32 * n + 4 * k) 0, blk b3 95 (arrG (fun c => (b4 (b.drop 8) (4 * c) : Int)) 256).toArray, Zx.row 119 34 (some ⟨b7, 0, none⟩) n n ((rowsP (b.drop 8) n n k 0).flatMap rowf), blk b8 97 (idxG (some ⟨b7, 0, none⟩) n n (List.replicate 256 (.int .i64 0)) zI).toArray] w) 0 (Sub.cons rfl (by first | rfl | exact congrArg (Value.int _) (by omega)) (Sub.nil _)) (Sub.cons rfl rfl (Sub.cons rfl rfl (Sub.cons rfl rfl (Sub.cons rfl rfl (Sub.cons rfl rfl (Sub.nil _)))))) ?_ ?_
          ·
            exact ⟨by omega, S9⟩
          ·
            intro k w13 hrel
            obtain ⟨hk, S13⟩ := hrel
            refine T_seq fun K19 hK19 => ?_
            refine T_region ?_
            refine L_y (y_lss rfl rfl) rfl ?_
            refine L_nil ?_
            refine hK19 _ _ ?_
            refine T_seq fun K20 hK20 => ?_
            refine T_cond rfl (fun h53 => ?_) (fun h53 => ?_)
            ·
              obtain ⟨x, hx⟩ : ∃ x, (rowsP (b.drop 8) n n k 0)[k]? = some x := ⟨_, List.getElem?_eq_getElem (by rw [rowsP_len]; omega)⟩
              refine T_skip ?_
              refine hK20 _ _ ?_
              refine T_seq fun K21 hK21 => ?_
              refine T_block ?_
              refine T_seq fun K22 hK22 => ?_
              refine T_region ?_
              refine L_y (y_move rfl) rfl ?_
              refine L_y (y_assign rfl) rfl ?_
              refine L_nil ?_
              refine hK22 _ _ ?_
              refine T_drawnX (fun w => Blk w b8 97 (idxG (some ⟨b7, 0, none⟩) n n (List.replicate 256 (.int .i64 0)) zI).toArray) hmix (by kernel_rfl) (fun w l => ((S13.like l).blk 4 rfl)) fun w14 l14 => ?_
              have S14 := S13.like l14
              refine DX_y 0 (by kernel_rfl) rfl (y_move rfl) rfl ?_
              refine DX_y 1 (by kernel_rfl) rfl (y_nilp rfl) rfl ?_
              refine DX_y 2 (by kernel_rfl) rfl (y_fieldA 0 Try.underlying97 rfl sz94 rfl rfl rfl) rfl ?_
              refine DX_y 3 (by kernel_rfl) rfl (y_of fun w hw => y_ldc Try.underlying94 rfl rfl ((hw.cell _).trans (idxG_row _ _ _ _ _))) rfl ?_
              refine DX_y 4 (by kernel_rfl) rfl (y_move rfl) rfl ?_
              refine DX_y 5 (by kernel_rfl) rfl (y_move rfl) rfl ?_
              refine DX_o1 6 (by kernel_rfl) rfl ?_
              refine o_call Try.func73 rfl rfl (Oct.ru32 g A (m - 8) c (b.drop 8) (1024 + 32 * n + 4 * k) 0 w14 (S14.get 1 rfl) (by omega) (by omega)) rfl rfl ?_
              rintro e15 w15 ⟨v15, rfl, rfl, T15⟩
              refine ⟨_, rfl, ?_⟩
              have S15 := S14.turn 1 rfl T15
              obtain ⟨e1, e2, e3⟩ := rw_ok (l := b.drop 8) (p := 1024 + 32 * n + 4 * k) (k := 4) (by omega)
              rw [e2, e3] at S15
              rw [e1]
              have hb4 : Oct.be (((b.drop 8).drop (1024 + 32 * n + 4 * k)).take 4) < 4294967296 := b4_lt _ _
              rw [show 1024 + 32 * n + 4 * k + 4 = 1024 + 32 * n + 4 * (k + 1) by omega] at S15
              refine ⟨(S15.blk 4 rfl), ?_⟩
              refine DX_y 7 (by kernel_rfl) rfl (y_idx Try.underlying94 sz119 rfl rfl (S14.row 3 rfl) inferInstance (by omega)) rfl ?_
              refine DX_y 8 (by kernel_rfl) rfl (y_fieldR 32 Try.underlying119 rfl sz60 rfl rfl (S14.row 3 rfl) (by omega) rfl) rfl ?_
              refine DX_o1 9 (by kernel_rfl) rfl ?_
              refine o_strowN S15 3 rfl rfl rfl rfl sz60 (by omega) fun w16 S16 => ?_
              refine ⟨(S16.blk 4 rfl), ?_⟩
              refine DX_nil (by kernel_rfl) ?_
              refine hK21 _ _ ?_
              refine T_region ?_
              refine L_y (y_add rfl rfl (i64w (by omega))) rfl ?_
              refine L_y (y_move rfl) rfl ?_
              refine L_nil ?_
              have S91 := S16.rowc 3 rfl rfl ((flat_fld (y := { x with sm := (b4 (b.drop 8) (1024 + 32 * n + 4 * k) : Int) }) hx (by omega) (row_set32 x _)).trans (congrArg (fun q => q.flatMap rowf) (rowsP_sm (by omega) hx)))
              refine ⟨k + 1, by omega, ⟨by omega, S91⟩, ?_⟩
              exact (Sub.cons rfl (by first | rfl | exact congrArg (Value.int _) (by omega)) (Sub.cons rfl rfl (Sub.cons rfl rfl (Sub.cons rfl rfl (Sub.cons rfl rfl (Sub.cons rfl rfl (Sub.nil _)))))))
            ·
              obtain rfl : n = k := by omega
              refine T_exit ?_
              refine hK17 _ _ ?_
              refine T_seq fun K23 hK23 => ?_
              refine T_seq fun K24 hK24 => ?_
              refine T_region ?_
              refine L_y (y_move rfl) rfl ?_
              refine L_y (y_nilp rfl) rfl ?_
              refine L_y (y_fieldA 0 Try.underlying97 rfl sz94 rfl rfl rfl) rfl ?_
              refine L_y (y_ldc Try.underlying94 rfl rfl (((S13.blk 4 rfl).cell _).trans (idxG_row _ _ _ _ _))) rfl ?_
              refine L_y (y_len Try.underlying94 rfl) rfl ?_
              refine L_y (y_move rfl) rfl ?_
              refine L_nil ?_
              refine hK24 _ _ ?_
              refine T_block ?_
              refine T_loop1 [(5, _), (6, _), (7, _), (9, _), (69, _)] (fun (k : Nat) => [(70, .int .i64 (k : Int))]) (fun (k : Nat) => n - k) (fun (k : Nat) (w : World) => k ≤ n ∧ Zx.St w0 noM [blk b1 95 (arrG (fun c => (b4 (b.drop 8) (4 * c) : Int)) 0).toArray, rdr g A (m - 8) c (b.drop 8) (1024 + 36 * n + 4 * k) 0, blk b3 95 (arrG (fun c => (b4 (b.drop 8) (4 * c) : Int)) 256).toArray, Zx.row 119 34 (some ⟨b7, 0, none⟩) n n ((rowsP (b.drop 8) n n n k).flatMap rowf), blk b8 97 (idxG (some ⟨b7, 0, none⟩) n n (List.replicate 256 (.int .i64 0)) zI).toArray] w) 0 (Sub.cons rfl (by first | rfl | exact congrArg (Value.int _) (by omega)) (Sub.nil _)) (Sub.cons rfl rfl (Sub.cons rfl rfl (Sub.cons rfl rfl (Sub.cons rfl rfl (Sub.cons rfl rfl (Sub.nil _)))))) ?_ ?_
              ·
                rw [show 1024 + 32 * n + 4 * n = 1024 + 36 * n + 4 * 0 by omega] at S13
                exact ⟨by omega, S13⟩
              ·
                intro k w17 hrel
                obtain ⟨hk, S17⟩ := hrel
                refine T_seq fun K25 hK25 => ?_
                refine T_region ?_
                refine L_y (y_lss rfl rfl) rfl ?_
                refine L_nil ?_
                refine hK25 _ _ ?_
                refine T_seq fun K26 hK26 => ?_
                refine T_cond rfl (fun h71 => ?_) (fun h71 => ?_)
                ·
                  obtain ⟨x, hx⟩ : ∃ x, (rowsP (b.drop 8) n n n k)[k]? = some x := ⟨_, List.getElem?_eq_getElem (by rw [rowsP_len]; omega)⟩
                  refine T_skip ?_
                  refine hK26 _ _ ?_
                  refine T_seq fun K27 hK27 => ?_
                  refine T_block ?_
                  refine T_seq fun K28 hK28 => ?_
                  refine T_region ?_
                  refine L_y (y_move rfl) rfl ?_
                  refine L_y (y_assign rfl) rfl ?_
                  refine L_nil ?_
                  refine hK28 _ _ ?_
                  refine T_drawnX (fun w => Blk w b8 97 (idxG (some ⟨b7, 0, none⟩) n n (List.replicate 256 (.int .i64 0)) zI).toArray) hmix (by kernel_rfl) (fun w l => ((S17.like l).blk 4 rfl)) fun w18 l18 => ?_
                  have S18 := S17.like l18
                  refine DX_y 0 (by kernel_rfl) rfl (y_move rfl) rfl ?_
                  refine DX_y 1 (by kernel_rfl) rfl (y_nilp rfl) rfl ?_
                  refine DX_y 2 (by kernel_rfl) rfl (y_fieldA 0 Try.underlying97 rfl sz94 rfl rfl rfl) rfl ?_
                  refine DX_y 3 (by kernel_rfl) rfl (y_of fun w hw => y_ldc Try.underlying94 rfl rfl ((hw.cell _).trans (idxG_row _ _ _ _ _))) rfl ?_
                  refine DX_y 4 (by kernel_rfl) rfl (y_move rfl) rfl ?_
                  refine DX_y 5 (by kernel_rfl) rfl (y_move rfl) rfl ?_
                  refine DX_o1 6 (by kernel_rfl) rfl ?_
                  refine o_call Try.func73 rfl rfl (Oct.ru32 g A (m - 8) c (b.drop 8) (1024 + 36 * n + 4 * k) 0 w18 (S18.get 1 rfl) (by omega) (by omega)) rfl rfl ?_
                  rintro e19 w19 ⟨v19, rfl, rfl, T19⟩
                  refine ⟨_, rfl, ?_⟩
                  have S19 := S18.turn 1 rfl T19
                  obtain ⟨e1, e2, e3⟩ := rw_ok (l := b.drop 8) (p := 1024 + 36 * n + 4 * k) (k := 4) (by omega)
                  rw [e2, e3] at S19
                  rw [e1]
                  have hb4 : Oct.be (((b.drop 8).drop (1024 + 36 * n + 4 * k)).take 4) < 4294967296 := b4_lt _ _
                  rw [show 1024 + 36 * n + 4 * k + 4 = 1024 + 36 * n + 4 * (k + 1) by omega] at S19
                  refine ⟨(S19.blk 4 rfl), ?_⟩
                  refine DX_y 7 (by kernel_rfl) rfl (y_conv is60 Try.underlying3 rfl (i64w (by omega))) rfl ?_
                  refine DX_y 8 (by kernel_rfl) rfl (y_idx Try.underlying94 sz119 rfl rfl (S18.row 3 rfl) inferInstance (by omega)) rfl ?_
                  refine DX_y 9 (by kernel_rfl) rfl (y_fieldR 33 Try.underlying119 rfl sz3 rfl rfl (S18.row 3 rfl) (by omega) rfl) rfl ?_
                  refine DX_o1 10 (by kernel_rfl) rfl ?_
                  refine o_strowN S19 3 rfl rfl rfl rfl sz3 (by omega) fun w20 S20 => ?_
                  refine ⟨(S20.blk 4 rfl), ?_⟩
                  refine DX_nil (by kernel_rfl) ?_
                  refine hK27 _ _ ?_
                  refine T_region ?_
                  refine L_y (y_add rfl rfl (i64w (by omega))) rfl ?_
                  refine L_y (y_move rfl) rfl ?_
                  refine L_nil ?_
                  have S91 := S20.rowc 3 rfl rfl ((flat_fld (y := { x with at_ := (b4 (b.drop 8) (1024 + 36 * n + 4 * k) : Int) }) hx (by omega) (row_set33 x _)).trans (congrArg (fun q => q.flatMap rowf) (rowsP_at (by omega) hx)))
                  refine ⟨k + 1, by omega, ⟨by omega, S91⟩, ?_⟩
                  exact (Sub.cons rfl (by first | rfl | exact congrArg (Value.int _) (by omega)) (Sub.cons rfl rfl (Sub.cons rfl rfl (Sub.cons rfl rfl (Sub.cons rfl rfl (Sub.cons rfl rfl (Sub.nil _)))))))
                ·
                  obtain rfl : n = k := by omega
                  rw [show 1024 + 36 * n + 4 * n = 1024 + 40 * n by omega] at S17
                  refine T_exit ?_
                  refine hK23 _ _ ?_
                  refine T_seq fun K29 hK29 => ?_
                  refine T_region ?_
                  refine L_y (y_move rfl) rfl ?_
                  refine L_y (y_move rfl) rfl ?_
                  refine L_o (o_call Try.func119 rfl rfl (take g A (m - 8) c (b.drop 8) (1024 + 40 * n) (idAt (b.drop 8) (1024 + 40 * n)) w17 (S17.get 1 rfl) (by omega) (by omega) (idAt_l (by omega))) rfl rfl ?_)
                  rintro e21 w21 ⟨v21, rfl, T21, rfl⟩
                  refine ⟨_, rfl, ?_⟩
                  have S21 := S17.turn 1 rfl T21
                  refine L_y (y_nilp rfl) rfl ?_
                  refine L_y (y_fieldA 257 Try.underlying97 rfl sz23 rfl rfl rfl) rfl ?_
                  refine L_o (o_stR S21 4 rfl rfl rfl (by rw [List.size_toArray, idf_len]; exact sz23) (by rw [idxG_len (by simp), List.size_toArray, idf_len]; omega) (fun u hu => bL_one _ u (by rw [List.toList_toArray] at hu; exact hu)) fun w22 S22 => ?_)
                  have S90 := S22.blkc 4 rfl (idxG_of (by simp))
                  refine L_nil ?_
                  refine hK29 _ _ ?_
                  refine T_seq fun K30 hK30 => ?_
                  refine T_tail 3 hmix (by kernel_rfl) fun w23 l23 K31 hK31 => ?_
                  have S23 := S90.like l23
                  refine HL_y (y_move rfl) rfl ?_
                  refine HL_y (y_ldW Try.underlying95 rfl sz95 rfl (S23.blk 2 rfl) (said_whole _ 256 (Nat.le_refl _))) rfl ?_
                  refine HL_y (y_assign rfl) rfl ?_
                  refine HL_nil ?_
                  refine hK31 _ ?_
                  refine L_o (o_stW S23 0 rfl rfl rfl (by rw [List.size_toArray, arrG_len _ (by omega)]; exact sz95) (by rw [List.size_toArray, List.size_toArray, arrG_len _ (by omega), arrG_len _ (by omega)]) (fun u hu => arrG_one _ _ u (by rw [List.toList_toArray] at hu; exact hu)) fun w24 S24 => ?_)
                  refine L_nil ?_
                  refine hK30 _ _ ?_
                  refine T_ret ?_
                  repeat (first | with_reducible refine up_then ?_ | with_reducible refine up_in ?_)
                  refine rettc rfl rfl rfl (S24.blk 0 rfl) Try.underlying95 rfl (by rw [List.size_toArray, arrG_len _ (by omega)]; exact sz95) ?_
                  exact ⟨_, rfl, S24.like0, b8, _, rfl, S24.sel [3, 4] (by decide)⟩
end Go.Proofs.Ytgaklngnfecdaaa.Idx


/-
  Open.
-/
namespace Go.Proofs.Ytgaklngnfecdaaa.Idx
open Go.RowKit Zk Zx
open Oid (idf idf_len cmpL)
set_option linter.unusedVariables false
set_option linter.unusedSimpArgs false

open Oct (rdr)
def INDX : List UInt8 := [73, 78, 68, 88]
theorem indx_ne (l : List UInt8) : ((⟨l.toArray⟩ : ByteArray) ≠ ⟨#[73, 78, 68, 88]⟩) ↔ l ≠ INDX := by
  constructor
  · intro h e; exact h (by rw [e]; rfl)
  · intro h e
    have e2 : l.toArray = #[73, 78, 68, 88] := congrArg ByteArray.data e
    exact h (by have := congrArg Array.toList e2; simpa [INDX] using this)
/-- What bytes say: how many rows, the rows, the trailer, the fan-out. -/
def lastN (b : List UInt8) : Nat := b4 b 1028
def rowsB (b : List UInt8) : List Row := rowsP (b.drop 8) (lastN b) (lastN b) (lastN b) (lastN b)
def ofB (b : List UInt8) : Oid.Id := idAt (b.drop 8) (1024 + 40 * lastN b)
def FanOk (b : List UInt8) (l : List Row) : Prop := ∀ c, c < 256 → (cl l (c + 1) : Int) = (b4 (b.drop 8) (4 * c) : Int)
instance (b : List UInt8) (l : List Row) : Decidable (FanOk b l) := by unfold FanOk; infer_instance
instance (l : List Row) : Decidable (StR l) := by unfold StR; infer_instance
def openE (b : List UInt8) : Int :=
  if b.length < 1096 then 10 else if b.take 4 ≠ INDX ∨ b4 b 4 ≠ 1 then 12 else if 600 < lastN b then 5 else if b.length < 1096 + 40 * lastN b then 10 else if 1096 + 40 * lastN b < b.length then 11
  else if Sha.ofL (b.take (b.length - 32)) ≠ b.drop (b.length - 32) then 13 else if ¬ StR (rowsB b) then 18 else if ¬ FanOk b (rowsB b) then 18 else if (rowsB b).any (fun x => decide (1048576 < x.at_)) then 2 else 0
section
variable {b : List UInt8}
theorem openE_10 (h : b.length < 1096) : openE b = 10 := by unfold openE; rw [if_pos h]
theorem openE_12 (h : ¬ b.length < 1096) (h2 : b.take 4 ≠ INDX ∨ b4 b 4 ≠ 1) : openE b = 12 := by unfold openE; rw [if_neg h, if_pos h2]
theorem openE_5 (h : ¬ b.length < 1096) (h2 : ¬ (b.take 4 ≠ INDX ∨ b4 b 4 ≠ 1)) (h3 : 600 < lastN b) : openE b = 5 := by unfold openE; rw [if_neg h, if_neg h2, if_pos h3]
theorem openE_10b (h : ¬ b.length < 1096) (h2 : ¬ (b.take 4 ≠ INDX ∨ b4 b 4 ≠ 1)) (h3 : ¬ 600 < lastN b) (h4 : b.length < 1096 + 40 * lastN b) : openE b = 10 := by unfold openE; rw [if_neg h, if_neg h2, if_neg h3, if_pos h4]
theorem openE_11 (h : ¬ b.length < 1096) (h2 : ¬ (b.take 4 ≠ INDX ∨ b4 b 4 ≠ 1)) (h3 : ¬ 600 < lastN b) (h4 : ¬ b.length < 1096 + 40 * lastN b) (h5 : 1096 + 40 * lastN b < b.length) : openE b = 11 := by unfold openE; rw [if_neg h, if_neg h2, if_neg h3, if_neg h4, if_pos h5]
/-- All that is asked ahead of the sum. -/
structure Pre (b : List UInt8) : Prop where
  h1 : ¬ b.length < 1096
  h2 : ¬ (b.take 4 ≠ INDX ∨ b4 b 4 ≠ 1)
  h3 : ¬ 600 < lastN b
  h4 : ¬ b.length < 1096 + 40 * lastN b
  h5 : ¬ 1096 + 40 * lastN b < b.length
theorem openE_pre (h : Pre b) : openE b = if Sha.ofL (b.take (b.length - 32)) ≠ b.drop (b.length - 32) then 13 else if ¬ StR (rowsB b) then 18 else if ¬ FanOk b (rowsB b) then 18 else if (rowsB b).any (fun x => decide (1048576 < x.at_)) then 2 else 0 := by
  unfold openE; rw [if_neg h.h1, if_neg h.h2, if_neg h.h3, if_neg h.h4, if_neg h.h5]
theorem openE_13 (h : Pre b) (h6 : Sha.ofL (b.take (b.length - 32)) ≠ b.drop (b.length - 32)) : openE b = 13 := by rw [openE_pre h, if_pos h6]
theorem openE_18 (h : Pre b) (h6 : ¬ Sha.ofL (b.take (b.length - 32)) ≠ b.drop (b.length - 32)) (h7 : ¬ StR (rowsB b)) : openE b = 18 := by rw [openE_pre h, if_neg h6, if_pos h7]
theorem openE_18b (h : Pre b) (h6 : ¬ Sha.ofL (b.take (b.length - 32)) ≠ b.drop (b.length - 32)) (h7 : StR (rowsB b)) (h8 : ¬ FanOk b (rowsB b)) : openE b = 18 := by rw [openE_pre h, if_neg h6, if_neg (fun q => q h7), if_pos h8]
theorem openE_2 (h : Pre b) (h6 : ¬ Sha.ofL (b.take (b.length - 32)) ≠ b.drop (b.length - 32)) (h7 : StR (rowsB b)) (h8 : FanOk b (rowsB b)) (h9 : (rowsB b).any (fun x => decide (1048576 < x.at_)) = true) : openE b = 2 := by rw [openE_pre h, if_neg h6, if_neg (fun q => q h7), if_neg (fun q => q h8), if_pos h9]
theorem openE_0 (h : Pre b) (h6 : ¬ Sha.ofL (b.take (b.length - 32)) ≠ b.drop (b.length - 32)) (h7 : StR (rowsB b)) (h8 : FanOk b (rowsB b)) (h9 : ¬ (rowsB b).any (fun x => decide (1048576 < x.at_)) = true) : openE b = 0 := by rw [openE_pre h, if_neg h6, if_neg (fun q => q h7), if_neg (fun q => q h8), if_neg h9]
end
/-- What Open answers. -/
def Opened (w0 w' : World) (b : List UInt8) (u : Value) : Prop := (openE b ≠ 0 ∧ Like w0 w' ∧ u = .tuple #[.pointer none, .int .i64 (openE b)]) ∨ (openE b = 0 ∧ ∃ g A, u = .tuple #[.pointer (some ⟨g, 0, none⟩), .int .i64 0] ∧ Zx.St w0 noM [Zx.row 119 34 A (rowsB b).length (rowsB b).length ((rowsB b).flatMap rowf), blk g 97 (idxf A (rowsB b).length (rowsB b).length (rowsB b) (ofB b)).toArray] w')
theorem said_at (b : List UInt8) {i : Nat} (h : i < 256) : (said (b.drop 8)).toArray[i]? = some (.int .i64 (b4 (b.drop 8) (4 * i) : Int)) := by
  rw [List.getElem?_toArray]
  unfold said arrG
  rw [List.getElem?_append_left (by simpa using h)]
  simp [h]
theorem said_len (t : List UInt8) : (said t).length = 256 := arrG_len _ (Nat.le_refl _)
theorem said_one (t : List UInt8) : ∀ u ∈ said t, u.oneCell' = true := arrG_one _ _
theorem idxG_fan {A : Option Addr} {n c : Nat} {fs : List Value} {l : List Row} {of : Oid.Id} (h : fs.length = 256) : ((idxG A n c fs of).toArray.toList.take 1 ++ (fanF l).toArray.toList ++ (idxG A n c fs of).toArray.toList.drop (1 + (fanF l).toArray.size)).toArray = (idxf A n c l of).toArray := by
  refine congrArg List.toArray ?_
  unfold idxG idxf
  rw [List.size_toArray, fanF_len, List.toList_toArray, List.toList_toArray]
  have e1 : ([Value.slice A n c] ++ fs ++ idf of).take 1 = [.slice A n c] := rfl
  have e2 : ([Value.slice A n c] ++ fs ++ idf of).drop (1 + 256) = idf of := by
    rw [List.append_assoc, ← List.drop_drop, show ([Value.slice A n c] ++ (fs ++ idf of)).drop 1 = fs ++ idf of from rfl, List.drop_append_of_le_length (by omega), List.drop_of_length_le (by omega), List.nil_append]
  rw [e1, e2]
theorem idxf_fan (A : Option Addr) (n c : Nat) (l : List Row) (of : Oid.Id) : ((idxf A n c l of).toArray.toList.drop 1).take 256 = fanF l ∧ (fanF l).length = 256 := by
  refine ⟨?_, fanF_len l⟩
  unfold idxf
  rw [List.toList_toArray, show ([Value.slice A n c] ++ fanF l ++ idf of).drop 1 = fanF l ++ idf of from rfl, List.take_append_of_le_length (by rw [fanF_len]; omega), List.take_of_length_le (by rw [fanF_len]; omega)]
theorem fan_at (l : List Row) {i : Nat} (h : i < 256) : (fanF l).toArray[i]? = some (.int .i64 (cl l (i + 1) : Int)) := fan_cell l i h
theorem str_of_adj {l : List Row} (h : ∀ i x y, i + 1 < l.length → l[i]? = some x → l[i + 1]? = some y → Oid.lt x.id y.id = true) : StR l := by
  unfold StR
  rw [List.pairwise_iff_getElem]
  intro i j hi hj hij
  obtain ⟨d, rfl⟩ : ∃ d, j = i + 1 + d := ⟨j - (i + 1), by omega⟩
  clear hij
  induction d with
  | zero => exact h i _ _ hj (List.getElem?_eq_getElem hi) (List.getElem?_eq_getElem hj)
  | succ d ih =>
    have h1 := ih (by omega)
    have h2 := h (i + 1 + d) l[i + 1 + d] l[i + 1 + (d + 1)] (by omega) (List.getElem?_eq_getElem (by omega)) (by rw [show i + 1 + d + 1 = i + 1 + (d + 1) by omega]; exact List.getElem?_eq_getElem (by omega))
    exact Oid.lt_trans _ _ _ h1 h2
theorem not_str {l : List Row} {i : Nat} {x y : Row} (hx : l[i]? = some x) (hy : l[i + 1]? = some y) (h : Oid.lt x.id y.id = false) : ¬ StR l := fun hs => by
  unfold StR at hs
  rw [List.pairwise_iff_getElem] at hs
  obtain ⟨h1, h2⟩ := List.getElem?_eq_some_iff.1 hx
  obtain ⟨h3, h4⟩ := List.getElem?_eq_some_iff.1 hy
  have := hs i (i + 1) h1 h3 (by omega)
  rw [h2, h4, h] at this
  cases this
theorem head4 (b : List UInt8) : ((b.take 1032).drop 0).take 4 = b.take 4 := by rw [List.drop_zero, List.take_take]; rfl
theorem b4_take (b : List UInt8) : Oct.be (((b.take 1032).drop (0 + 4)).take 4) = b4 b 4 := by
  unfold b4
  rw [List.drop_take, List.take_take]
  rfl
theorem b4_last (b : List UInt8) : Oct.be (((((b.drop 1028).take (1032 - 1028)).drop 0)).take 4) = lastN b := by
  unfold lastN b4
  rw [List.drop_zero, List.take_take]
  rfl
theorem any_far {l : List Row} {k : Nat} {x : Row} (hx : l[k]? = some x) (h : 1048576 < x.at_) : l.any (fun x => decide (1048576 < x.at_)) = true := by
  rw [List.any_eq_true]
  exact ⟨x, List.mem_of_getElem? hx, decide_eq_true h⟩
theorem no_far {l : List Row} (h : ∀ i x, i < l.length → l[i]? = some x → ¬ 1048576 < x.at_) : ¬ l.any (fun x => decide (1048576 < x.at_)) = true := fun q => by
  rw [List.any_eq_true] at q
  obtain ⟨x, hx, q⟩ := q
  obtain ⟨i, hi⟩ := List.mem_iff_getElem?.1 hx
  exact h i x (List.getElem?_eq_some_iff.1 hi).1 hi (of_decide_eq_true q)


set_option maxRecDepth 100000 in
theorem open_ (B : Option Addr) (m d : Nat) (b : List UInt8) (w0 : World) (hb : Rs w0 1 B m d (bL b)) :
    Calls Try.prog 28 #[.slice B m d] w0 fun e w' => ∃ u, e = .returned u ∧ Opened w0 w' b u := by
  refine enter1 (env := [(0, .slice B m d)]) [.slice B m d] Try.func28 rfl Try.ntmps28 rfl rfl ?_
  have hm := hb.lenb; have hcap := hb.cap; have hmax := hb.max
  have S0 := St.start w0 noM
  refine T_seq fun K1 hK1 => ?_
  refine T_region ?_
  refine L_y (y_assign rfl) rfl ?_
  refine L_y (y_assign rfl) rfl ?_
  refine L_nil ?_
  refine hK1 _ _ ?_
  refine T_seq fun K2 hK2 => ?_
  refine T_seq fun K3 hK3 => ?_
  refine T_region ?_
  refine L_y (y_move rfl) rfl ?_
  refine L_y (y_len Try.underlying27 rfl) rfl ?_
  refine L_y (y_lss rfl rfl) rfl ?_
  refine L_nil ?_
  refine hK3 _ _ ?_
  refine T_cond rfl (fun h15 => ?_) (fun h15 => ?_)
  ·
    refine T_seq fun K4 hK4 => ?_
    refine T_region ?_
    refine L_y (y_assign rfl) rfl ?_
    refine L_y (y_assign rfl) rfl ?_
    refine L_nil ?_
    refine hK4 _ _ ?_
    refine T_ret ?_
    repeat (first | with_reducible refine up_then ?_ | with_reducible refine up_in ?_)
    refine ret2 rfl rfl rfl ?_
    have he : openE b = 10 := openE_10 (by omega)
    exact ⟨_, rfl, .inl ⟨by rw [he]; decide, S0.like0, by rw [he]⟩⟩
  ·
    refine T_skip ?_
    refine hK2 _ _ ?_
    refine T_seq fun K5 hK5 => ?_
    refine T_region ?_
    refine L_y (y_move rfl) rfl ?_
    refine L_y (y_sliceH Try.underlying27 sz5 rfl rfl inferInstance (by omega)) rfl ?_
    refine L_o (o_call Try.func71 rfl rfl (Oct.rnew _ _ _ (b.take 1032) w0 ((S0.rd hb).cutb (l := 0) (u := 1032) (by omega) (by omega)) (by omega)) rfl rfl ?_)
    rintro e1 w1 ⟨v1, rfl, l1, g1, A1, c1, rfl, hh1, dd1⟩
    refine ⟨_, rfl, ?_⟩
    have S1 := S0.new l1 _ hh1 dd1
    refine L_y (y_assign rfl) rfl ?_
    refine L_nil ?_
    refine hK5 _ _ ?_
    refine T_seq fun K6 hK6 => ?_
    refine T_seq fun K7 hK7 => ?_
    refine T_region ?_
    refine L_y (y_move rfl) rfl ?_
    refine L_o (o_call Try.func72 rfl rfl (Oct.rraw g1 A1 (1032 - 0) c1 (b.take 1032) 0 0 (4 : Nat) w1 (S1.get 0 rfl) (by omega) (by omega) (by omega)) rfl rfl ?_)
    rintro e2 w2 ⟨v2, rfl, T2, B7, d7, rfl, hr2, hd2⟩
    refine ⟨_, rfl, ?_⟩
    have S2 := S1.turn 0 rfl T2
    obtain ⟨e1, e2, e3⟩ := Oct.rn_ok (l := b.take 1032) (p := 0) (k := 4) (by rw [List.length_take]; omega)
    rw [e1, head4] at hr2 hd2
    rw [e2, e3] at S2
    rw [e1, head4]
    refine L_y (y_bstr Try.underlying27 Try.underlying5 Try.underlying9 rfl (by first | exact S2.rd hb | exact rs_of_row hr2 | exact S2.row 0 rfl)) rfl ?_
    refine L_y (y_sneq rfl rfl) rfl ?_
    refine L_y (y_move rfl) rfl ?_
    refine L_split 23 rfl (fun h23 => ?_) (fun h23 => ?_)
    ·
      refine L_gno rfl rfl rfl ?_
      refine L_gno rfl rfl rfl ?_
      refine L_gno rfl rfl rfl ?_
      refine L_y ((by first | exact y_pickT rfl rfl | exact y_pickF rfl rfl)) rfl ?_
      refine L_nil ?_
      refine hK7 _ _ ?_
      refine T_true rfl ?_
      refine T_seq fun K8 hK8 => ?_
      refine T_region ?_
      refine L_y (y_assign rfl) rfl ?_
      refine L_y (y_assign rfl) rfl ?_
      refine L_nil ?_
      refine hK8 _ _ ?_
      refine T_ret ?_
      repeat (first | with_reducible refine up_then ?_ | with_reducible refine up_in ?_)
      refine ret2 rfl rfl rfl ?_
      have he : openE b = 12 := openE_12 (by omega) (by first | exact .inl ((indx_ne _).1 h23) | exact .inr (fun q => h27 (by have h9 := b4_take b; omega)))
      exact ⟨_, rfl, .inl ⟨by rw [he]; decide, S2.like0, by rw [he]⟩⟩
    ·
      have hx0 : b.take 4 = INDX := by by_cases q : b.take 4 = INDX; exact q; exact absurd ((indx_ne _).2 q) h23
      refine L_gyes rfl rfl ?_
      refine L_y (y_move rfl) rfl ?_
      refine L_gyes rfl rfl ?_
      refine L_o (o_call Try.func73 rfl rfl (Oct.ru32 g1 A1 (1032 - 0) c1 (b.take 1032) (0 + 4) 0 w2 (S2.get 0 rfl) (by rw [List.length_take]; omega) (by omega)) rfl rfl ?_)
      rintro e4 w4 ⟨v4, rfl, rfl, T4⟩
      refine ⟨_, rfl, ?_⟩
      have S4 := S2.turn 0 rfl T4
      obtain ⟨e1, e2, e3⟩ := rw_ok (l := b.take 1032) (p := 0 + 4) (k := 4) (by rw [List.length_take]; omega)
      rw [e1]
      refine L_gyes rfl rfl ?_
      refine L_y (y_neq rfl rfl) rfl ?_
      refine L_y ((by first | exact y_pickT rfl rfl | exact y_pickF rfl rfl)) rfl ?_
      refine L_nil ?_
      refine hK7 _ _ ?_
      refine T_cond rfl (fun h27 => ?_) (fun h27 => ?_)
      ·
        refine T_seq fun K9 hK9 => ?_
        refine T_region ?_
        refine L_y (y_assign rfl) rfl ?_
        refine L_y (y_assign rfl) rfl ?_
        refine L_nil ?_
        refine hK9 _ _ ?_
        refine T_ret ?_
        repeat (first | with_reducible refine up_then ?_ | with_reducible refine up_in ?_)
        refine ret2 rfl rfl rfl ?_
        have he : openE b = 12 := openE_12 (by omega) (by first | exact .inl ((indx_ne _).1 h23) | exact .inr (fun q => h27 (by have h9 := b4_take b; omega)))
        exact ⟨_, rfl, .inl ⟨by rw [he]; decide, S4.like0, by rw [he]⟩⟩
      ·
        have hform : ¬ (b.take 4 ≠ INDX ∨ b4 b 4 ≠ 1) := fun q => by rcases q with q | q; exact q hx0; exact q (by have h9 := b4_take b; omega)
        refine T_skip ?_
        refine hK6 _ _ ?_
        refine T_seq fun K10 hK10 => ?_
        refine T_region ?_
        refine L_y (y_move rfl) rfl ?_
        refine L_y (y_slice Try.underlying27 sz5 rfl rfl rfl inferInstance inferInstance (by omega) (by omega)) rfl ?_
        refine L_o (o_call Try.func71 rfl rfl (Oct.rnew _ _ _ ((b.drop 1028).take (1032 - 1028)) w4 ((S4.rd hb).cutb (l := 1028) (u := 1032) (by omega) (by omega)) (by omega)) rfl rfl ?_)
        rintro e5 w5 ⟨v5, rfl, l5, g3, A3, c3, rfl, hh5, dd5⟩
        refine ⟨_, rfl, ?_⟩
        have S5 := S4.new l5 _ hh5 dd5
        refine L_o (o_call Try.func73 rfl rfl (Oct.ru32 g3 A3 (1032 - 1028) c3 ((b.drop 1028).take (1032 - 1028)) 0 0 w5 (S5.get 1 rfl) (by omega) (by omega)) rfl rfl ?_)
        rintro e6 w6 ⟨v6, rfl, rfl, T6⟩
        refine ⟨_, rfl, ?_⟩
        have S6 := S5.turn 1 rfl T6
        obtain ⟨e1, e2, e3⟩ := rw_ok (l := (b.drop 1028).take (1032 - 1028)) (p := 0) (k := 4) (by rw [List.length_take, List.length_drop]; omega)
        rw [e1, b4_last]
        have hlast : lastN b < 4294967296 := b4_lt _ _
        refine L_y (y_assign rfl) rfl ?_
        refine L_nil ?_
        refine hK10 _ _ ?_
        refine T_seq fun K11 hK11 => ?_
        refine T_seq fun K12 hK12 => ?_
        refine T_region ?_
        refine L_y (y_move rfl) rfl ?_
        refine L_y (y_gtr rfl rfl) rfl ?_
        refine L_nil ?_
        refine hK12 _ _ ?_
        refine T_cond rfl (fun h33 => ?_) (fun h33 => ?_)
        ·
          refine T_seq fun K13 hK13 => ?_
          refine T_region ?_
          refine L_y (y_assign rfl) rfl ?_
          refine L_y (y_assign rfl) rfl ?_
          refine L_nil ?_
          refine hK13 _ _ ?_
          refine T_ret ?_
          repeat (first | with_reducible refine up_then ?_ | with_reducible refine up_in ?_)
          refine ret2 rfl rfl rfl ?_
          have he : openE b = 5 := openE_5 (by omega) hform (by omega)
          exact ⟨_, rfl, .inl ⟨by rw [he]; decide, S6.like0, by rw [he]⟩⟩
        ·
          refine T_skip ?_
          refine hK11 _ _ ?_
          refine T_seq fun K14 hK14 => ?_
          refine T_region ?_
          refine L_y (y_move rfl) rfl ?_
          refine L_y (y_conv is60 Try.underlying3 rfl (i64w (by omega))) rfl ?_
          refine L_y (y_assign rfl) rfl ?_
          refine L_nil ?_
          refine hK14 _ _ ?_
          refine T_seq fun K15 hK15 => ?_
          refine T_seq fun K16 hK16 => ?_
          refine T_region ?_
          refine L_y (y_move rfl) rfl ?_
          refine L_y (y_mul rfl rfl (i64w (by omega))) rfl ?_
          refine L_y (y_add rfl rfl (i64w (by omega))) rfl ?_
          refine L_y (y_add rfl rfl (i64w (by omega))) rfl ?_
          refine L_y (y_assign rfl) rfl ?_
          refine L_nil ?_
          refine hK16 _ _ ?_
          refine T_block ?_
          refine T_seq fun K17 hK17 => ?_
          refine T_region ?_
          refine L_y (y_move rfl) rfl ?_
          refine L_y (y_len Try.underlying27 rfl) rfl ?_
          refine L_y (y_move rfl) rfl ?_
          refine L_y (y_lss rfl rfl) rfl ?_
          refine L_y (y_assign rfl) rfl ?_
          refine L_nil ?_
          refine hK17 _ _ ?_
          refine T_cond rfl (fun h40 => ?_) (fun h40 => ?_)
          ·
            refine T_seq fun K18 hK18 => ?_
            refine T_region ?_
            refine L_y (y_assign rfl) rfl ?_
            refine L_y (y_assign rfl) rfl ?_
            refine L_nil ?_
            refine hK18 _ _ ?_
            refine T_ret ?_
            repeat (first | with_reducible refine up_then ?_ | with_reducible refine up_in ?_)
            refine ret2 rfl rfl rfl ?_
            have he : openE b = 10 := openE_10b (by omega) hform (by omega) (by omega)
            exact ⟨_, rfl, .inl ⟨by rw [he]; decide, S6.like0, by rw [he]⟩⟩
          ·
            refine T_seq fun K19 hK19 => ?_
            refine T_region ?_
            refine L_y (y_move rfl) rfl ?_
            refine L_y (y_len Try.underlying27 rfl) rfl ?_
            refine L_y (y_move rfl) rfl ?_
            refine L_y (y_gtr rfl rfl) rfl ?_
            refine L_y (y_assign rfl) rfl ?_
            refine L_nil ?_
            refine hK19 _ _ ?_
            refine T_cond rfl (fun h45 => ?_) (fun h45 => ?_)
            ·
              refine T_seq fun K20 hK20 => ?_
              refine T_region ?_
              refine L_y (y_assign rfl) rfl ?_
              refine L_y (y_assign rfl) rfl ?_
              refine L_nil ?_
              refine hK20 _ _ ?_
              refine T_ret ?_
              repeat (first | with_reducible refine up_then ?_ | with_reducible refine up_in ?_)
              refine ret2 rfl rfl rfl ?_
              have he : openE b = 11 := openE_11 (by omega) hform (by omega) (by omega) (by omega)
              exact ⟨_, rfl, .inl ⟨by rw [he]; decide, S6.like0, by rw [he]⟩⟩
            ·
              have hpre : Pre b := ⟨by omega, hform, by omega, by omega, by omega⟩
              have hbl : b.length = 1096 + 40 * lastN b := by omega
              refine T_skip ?_
              refine hK15 _ _ ?_
              refine T_seq fun K21 hK21 => ?_
              refine T_seq fun K22 hK22 => ?_
              have e32 : (b.drop (b.length - 32)).take 32 = b.drop (b.length - 32) := List.take_of_length_le (by rw [List.length_drop]; omega)
              refine T_drawnL [(0, true), (1, true), (2, true), (3, true), (4, true), (7, true), (8, true), (9, true), (10, true), (11, true), (12, true), (13, true), (5, false), (6, false), (14, true)] hmix (by kernel_rfl) fun w7 l7 => ?_
              have S7 := S6.like l7
              refine DL_y rfl (y_move rfl) rfl ?_
              refine DL_y rfl (y_move rfl) rfl ?_
              refine DL_y rfl (y_len Try.underlying27 rfl) rfl ?_
              refine DL_y rfl (y_sub rfl rfl (i64w (by omega))) rfl ?_
              refine DL_y rfl (y_sliceH Try.underlying27 sz5 rfl rfl (Nt.mk (by omega) : Nt _ (b.length - 32)) (by omega)) rfl ?_
              refine DL_y rfl (y_move rfl) rfl ?_
              refine DL_y rfl (y_move rfl) rfl ?_
              refine DL_y rfl (y_len Try.underlying27 rfl) rfl ?_
              refine DL_y rfl (y_sub rfl rfl (i64w (by omega))) rfl ?_
              refine DL_y rfl (y_sliceL Try.underlying27 sz5 rfl rfl (Nt.mk (by omega) : Nt _ (b.length - 32)) (by omega)) rfl ?_
              refine DL_y rfl (y_arrAt Try.underlying23 rfl (by omega)) rfl ?_
              refine DL_y rfl (y_ldArr Try.underlying23 sz23 rfl (rs_tail (b.length - 32) (S7.rd hb) (by omega)) (by omega) (by omega)) rfl ?_
              refine DL_o rfl (o_bslL [_] te177 zz27 S7 rfl rfl rfl rfl rfl rfl rfl rfl fun b8 w8 l8 S8 => ?_)
              have q8 := l8
              refine ⟨q8, ?_⟩
              refine DL_o rfl (o_call Try.func74 rfl rfl (Sha.shaof [⟨_, _, _, b.take (b.length - 32)⟩] _ _ _ w8 (S8.row 2 rfl) (fun p hp => by obtain rfl := List.mem_singleton.1 hp; exact (S8.rd hb).cutb (l := 0) (u := b.length - 32) (by omega) (by omega)) (by rw [cat1, List.length_take]; omega) (by simp)) rfl rfl ?_)
              rintro e9 w9 ⟨v9, rfl, l9, hu9⟩
              refine ⟨_, rfl, (Like.trans q8 l9), ?_⟩
              have S9 := S8.like l9
              rw [cat1] at hu9
              subst hu9
              have q9 := (Like.trans q8 l9)
              refine DL_y rfl (y_neB Try.underlying23 Try.underlying5 sz5 (by kernel_rfl) rfl rfl (Sha.length_ofL _) (by rw [List.length_take, List.length_drop]; omega)) rfl ?_
              refine DL_nil ?_
              refine hK22 _ _ ?_
              refine T_cond rfl (fun h64 => ?_) (fun h64 => ?_)
              ·
                rw [e32] at h64
                refine T_seq fun K23 hK23 => ?_
                refine T_region ?_
                refine L_y (y_assign rfl) rfl ?_
                refine L_y (y_assign rfl) rfl ?_
                refine L_nil ?_
                refine hK23 _ _ ?_
                refine T_ret ?_
                repeat (first | with_reducible refine up_then ?_ | with_reducible refine up_in ?_)
                refine ret2 rfl rfl rfl ?_
                have he : openE b = 13 := openE_13 hpre h64
                exact ⟨_, rfl, .inl ⟨by rw [he]; decide, S9.like0, by rw [he]⟩⟩
              ·
                rw [e32] at h64
                refine T_skip ?_
                refine hK21 _ _ ?_
                refine T_seq fun K24 hK24 => ?_
                refine T_region ?_
                refine L_y (y_move rfl) rfl ?_
                refine L_y (y_move rfl) rfl ?_
                refine L_o (o_call Try.func75 rfl rfl (read B m d b (lastN b) w9 (S9.rd hb) hbl (by omega)) rfl rfl ?_)
                rintro e10 w10 ⟨v10, rfl, l10, g5, A5, rfl, T10⟩
                refine ⟨_, rfl, ?_⟩
                have S10 := S9.adoptS T10
                have hlen : (rowsB b).length = lastN b := rowsP_len _ _ _ _ _
                refine L_y (y_move rfl) rfl ?_
                refine L_y (y_extract rfl rfl) rfl ?_
                refine L_y (y_extract rfl rfl) rfl ?_
                refine L_o (o_alloc zz95 S10 rfl fun b11 w11 hb11 S11 => ?_)
                refine L_y (y_assign rfl) rfl ?_
                refine L_o (o_stW S11 5 rfl rfl rfl (by rw [List.size_toArray, said_len]; exact sz95) (by rw [List.size_toArray, said_len]; rfl) (fun u hu => said_one _ u (by rw [List.toList_toArray] at hu; exact hu)) fun w12 S12 => ?_)
                refine L_nil ?_
                refine hK24 _ _ ?_
                refine T_seq fun K25 hK25 => ?_
                refine T_seq fun K26 hK26 => ?_
                refine T_region ?_
                refine L_y (y_assign rfl) rfl ?_
                refine L_nil ?_
                refine hK26 _ _ ?_
                refine T_block ?_
                refine T_loop1 [(6, _), (8, _), (9, _)] (fun (j : Nat) => [(10, .int .i64 (j : Int))]) (fun (j : Nat) => (lastN b) - j) (fun (j : Nat) (w : World) => (1 ≤ j ∧ ∀ i x y, i + 1 < j → (rowsB b)[i]? = some x → (rowsB b)[i + 1]? = some y → Oid.lt x.id y.id = true) ∧ Zx.St w0 noM [Zx.row 119 34 A5 (lastN b) (lastN b) ((rowsB b).flatMap rowf), blk g5 97 (idxG A5 (lastN b) (lastN b) (List.replicate 256 (.int .i64 0)) (ofB b)).toArray, blk b11 95 (said (b.drop 8)).toArray] w) 1 (Sub.cons rfl (by first | rfl | exact congrArg (Value.int _) (by omega)) (Sub.nil _)) (Sub.cons rfl rfl (Sub.cons rfl rfl (Sub.cons rfl rfl (Sub.nil _)))) ?_ ?_
                ·
                  have S71 : Zx.St w0 noM [Zx.row 119 34 A5 (lastN b) (lastN b) ((rowsB b).flatMap rowf), blk g5 97 (idxG A5 (lastN b) (lastN b) (List.replicate 256 (.int .i64 0)) (ofB b)).toArray, blk b11 95 (said (b.drop 8)).toArray] w12 := S12.sel [3, 4, 5] (by decide)
                  exact ⟨⟨by omega, fun i x y hi => by omega⟩, S71⟩
                ·
                  intro j w13 hrel
                  obtain ⟨⟨hj, hasc⟩, S13⟩ := hrel
                  refine T_seq fun K27 hK27 => ?_
                  refine T_seq fun K28 hK28 => ?_
                  refine T_region ?_
                  refine L_y (y_move rfl) rfl ?_
                  refine L_y (y_move rfl) rfl ?_
                  refine L_y (y_lss rfl rfl) rfl ?_
                  refine L_nil ?_
                  refine hK28 _ _ ?_
                  refine T_cond rfl (fun h73 => ?_) (fun h73 => ?_)
                  ·
                    obtain ⟨p, hx1⟩ : ∃ x, (rowsB b)[j - 1]? = some x := ⟨_, List.getElem?_eq_getElem (by omega)⟩
                    obtain ⟨q, hx2⟩ : ∃ x, (rowsB b)[j]? = some x := ⟨_, List.getElem?_eq_getElem (by omega)⟩
                    refine T_skip ?_
                    refine hK27 _ _ ?_
                    refine T_seq fun K29 hK29 => ?_
                    refine T_block ?_
                    refine T_seq fun K30 hK30 => ?_
                    refine T_tail 15 hmix (by kernel_rfl) fun w14 l14 K31 hK31 => ?_
                    have S14 := S13.like l14
                    refine HL_y (y_move rfl) rfl ?_
                    refine HL_y (y_nilp rfl) rfl ?_
                    refine HL_y (y_fieldA 0 Try.underlying97 rfl sz94 rfl rfl rfl) rfl ?_
                    refine HL_y (y_ldc Try.underlying94 rfl rfl (((S14.blk 1 rfl).cell _).trans (idxG_row _ _ _ _ _))) rfl ?_
                    refine HL_y (y_move rfl) rfl ?_
                    refine HL_y (y_sub rfl rfl (i64w (by omega))) rfl ?_
                    refine HL_y (y_idx Try.underlying94 sz119 rfl rfl (S14.row 0 rfl) (Nt.mk (by omega) : Nt _ (j - 1)) (by omega)) rfl ?_
                    refine HL_y (y_ldp (f := rowf) rowf_len Try.underlying119 rfl sz119 rfl (S14.row 0 rfl) (by omega) hx1) rfl ?_
                    refine HL_y (y_move rfl) rfl ?_
                    refine HL_y (y_nilp rfl) rfl ?_
                    refine HL_y (y_fieldA 0 Try.underlying97 rfl sz94 rfl rfl rfl) rfl ?_
                    refine HL_y (y_ldc Try.underlying94 rfl rfl (((S14.blk 1 rfl).cell _).trans (idxG_row _ _ _ _ _))) rfl ?_
                    refine HL_y (y_move rfl) rfl ?_
                    refine HL_y (y_idx Try.underlying94 sz119 rfl rfl (S14.row 0 rfl) inferInstance (by omega)) rfl ?_
                    refine HL_y (y_ldp (f := rowf) rowf_len Try.underlying119 rfl sz119 rfl (S14.row 0 rfl) (by omega) hx2) rfl ?_
                    refine HL_nil ?_
                    refine hK31 _ ?_
                    refine L_o (o_call Try.func64 rfl rfl (cmpR p q w14) rfl rfl ?_)
                    rintro e15 w15 ⟨v15, rfl, l15, rfl⟩
                    refine ⟨_, rfl, ?_⟩
                    have S15 := S14.like l15
                    refine L_y (y_geq rfl rfl) rfl ?_
                    refine L_nil ?_
                    refine hK30 _ _ ?_
                    refine T_cond rfl (fun h92 => ?_) (fun h92 => ?_)
                    ·
                      refine T_seq fun K32 hK32 => ?_
                      refine T_region ?_
                      refine L_y (y_assign rfl) rfl ?_
                      refine L_y (y_assign rfl) rfl ?_
                      refine L_nil ?_
                      refine hK32 _ _ ?_
                      refine T_ret ?_
                      repeat (first | with_reducible refine up_then ?_ | with_reducible refine up_in ?_)
                      refine ret2 rfl rfl rfl ?_
                      have he : openE b = 18 := openE_18 hpre h64 (not_str hx1 (by rw [show j - 1 + 1 = j by omega]; exact hx2) ((Oid.cmp_ge _ _).1 (by omega)))
                      exact ⟨_, rfl, .inl ⟨by rw [he]; decide, S15.like0, by rw [he]⟩⟩
                    ·
                      refine T_skip ?_
                      refine hK29 _ _ ?_
                      refine T_region ?_
                      refine L_y (y_move rfl) rfl ?_
                      refine L_y (y_add rfl rfl (i64w (by omega))) rfl ?_
                      refine L_y (y_assign rfl) rfl ?_
                      refine L_nil ?_
                      refine ⟨j + 1, by omega, ⟨⟨by omega, fun i x y hi hx hy => by rcases Nat.lt_or_ge (i + 1) j with q | q; exact hasc i x y q hx hy; (have e9 : i = j - 1 := by omega); subst e9; rw [hx1] at hx; cases hx; rw [show j - 1 + 1 = j by omega, hx2] at hy; cases hy; exact (Oid.cmp_lt _ _).1 (by omega)⟩, S15⟩, ?_⟩
                      exact (Sub.cons rfl (by first | rfl | exact congrArg (Value.int _) (by omega)) (Sub.cons rfl rfl (Sub.cons rfl rfl (Sub.cons rfl rfl (Sub.nil _)))))
                  ·
                    have hst : StR (rowsB b) := str_of_adj (fun i x y hi hx hy => hasc i x y (by omega) hx hy)
                    refine T_exit ?_
                    refine hK25 _ _ ?_
                    refine T_seq fun K33 hK33 => ?_
                    refine T_region ?_
                    refine L_y (y_move rfl) rfl ?_
                    refine L_y (y_move rfl) rfl ?_
                    refine L_y (y_nilp rfl) rfl ?_
                    refine L_y (y_fieldA 0 Try.underlying97 rfl sz94 rfl rfl rfl) rfl ?_
                    refine L_y (y_ldc Try.underlying94 rfl rfl (((S13.blk 1 rfl).cell _).trans (idxG_row _ _ _ _ _))) rfl ?_
                    refine L_o (o_call Try.func76 rfl rfl (fanC A5 (lastN b) (lastN b) (rowsB b) w13 (S13.row 0 rfl) (StR.fs hst)) rfl rfl ?_)
                    rintro e16 w16 ⟨v16, rfl, l16, rfl⟩
                    refine ⟨_, rfl, ?_⟩
                    have S16 := S13.like l16
                    refine L_y (y_nilp rfl) rfl ?_
                    refine L_y (y_fieldA 1 Try.underlying97 rfl sz95 rfl rfl rfl) rfl ?_
                    refine L_o (o_stR S16 1 rfl rfl rfl (by rw [List.size_toArray, fanF_len]; exact sz95) (by rw [idxG_len (by simp), List.size_toArray, fanF_len]; omega) (fun u hu => fanA_one _ _ u (by rw [List.toList_toArray] at hu; exact hu)) fun w17 S17 => ?_)
                    have S90 := S17.blkc 1 rfl (idxG_fan (by simp))
                    refine L_nil ?_
                    refine hK33 _ _ ?_
                    refine T_seq fun K34 hK34 => ?_
                    refine T_seq fun K35 hK35 => ?_
                    refine T_drawnL [(0, true), (1, true), (2, true), (3, true), (4, true), (5, true)] hmix (by kernel_rfl) fun w18 l18 => ?_
                    have S18 := S90.like l18
                    refine DL_y rfl (y_move rfl) rfl ?_
                    refine DL_y rfl (y_nilp rfl) rfl ?_
                    refine DL_y rfl (y_fieldA 1 Try.underlying97 rfl sz95 rfl rfl rfl) rfl ?_
                    refine DL_y rfl (y_ldW Try.underlying95 rfl sz95 rfl (S18.blk 1 rfl) (idxf_fan _ _ _ _ _)) rfl ?_
                    refine DL_y rfl (y_ldW Try.underlying95 rfl sz95 rfl (S18.blk 2 rfl) (said_whole _ 256 (Nat.le_refl _))) rfl ?_
                    refine DL_y rfl (y_neA (fun i => (cl (rowsB b) (i + 1) : Int)) (fun i => (b4 (b.drop 8) (4 * i) : Int)) Try.underlying95 Try.underlying3 sz3 (by kernel_rfl) rfl rfl (fun i hi => fan_at _ hi) (fun i hi => said_at b hi)) rfl ?_
                    refine DL_nil ?_
                    refine hK35 _ _ ?_
                    refine T_condB rfl (fun h106 => ?_) (fun h106 => ?_)
                    ·
                      refine T_seq fun K36 hK36 => ?_
                      refine T_region ?_
                      refine L_y (y_assign rfl) rfl ?_
                      refine L_y (y_assign rfl) rfl ?_
                      refine L_nil ?_
                      refine hK36 _ _ ?_
                      refine T_ret ?_
                      repeat (first | with_reducible refine up_then ?_ | with_reducible refine up_in ?_)
                      refine ret2 rfl rfl rfl ?_
                      have he : openE b = 18 := openE_18b hpre h64 hst (all_ne.1 h106)
                      exact ⟨_, rfl, .inl ⟨by rw [he]; decide, S18.like0, by rw [he]⟩⟩
                    ·
                      have hfan : FanOk b (rowsB b) := by by_cases q : FanOk b (rowsB b); exact q; exact absurd (all_ne.2 q) (by rw [h106]; decide)
                      refine T_skip ?_
                      refine hK34 _ _ ?_
                      refine T_seq fun K37 hK37 => ?_
                      refine T_seq fun K38 hK38 => ?_
                      refine T_region ?_
                      refine L_y (y_move rfl) rfl ?_
                      refine L_y (y_nilp rfl) rfl ?_
                      refine L_y (y_fieldA 0 Try.underlying97 rfl sz94 rfl rfl rfl) rfl ?_
                      refine L_y (y_ldc Try.underlying94 rfl rfl (((S18.blk 1 rfl).cell _).trans (idx_row _ _ _ _ _))) rfl ?_
                      refine L_y (y_len Try.underlying94 rfl) rfl ?_
                      refine L_y (y_move rfl) rfl ?_
                      refine L_nil ?_
                      refine hK38 _ _ ?_
                      refine T_block ?_
                      refine T_loop1 [(8, _), (110, _), (111, _)] (fun (k : Nat) => [(112, .int .i64 (k : Int))]) (fun (k : Nat) => (lastN b) - k) (fun (k : Nat) (w : World) => (k ≤ lastN b ∧ ∀ i x, i < k → (rowsB b)[i]? = some x → ¬ 1048576 < x.at_) ∧ Zx.St w0 noM [Zx.row 119 34 A5 (lastN b) (lastN b) ((rowsB b).flatMap rowf), blk g5 97 (idxf A5 (lastN b) (lastN b) (rowsB b) (ofB b)).toArray, blk b11 95 (said (b.drop 8)).toArray] w) 0 (Sub.cons rfl (by first | rfl | exact congrArg (Value.int _) (by omega)) (Sub.nil _)) (Sub.cons rfl rfl (Sub.cons rfl rfl (Sub.cons rfl rfl (Sub.nil _)))) ?_ ?_
                      ·
                        exact ⟨⟨by omega, fun i x hi => by omega⟩, S18⟩
                      ·
                        intro k w19 hrel
                        obtain ⟨⟨hk, hno⟩, S19⟩ := hrel
                        refine T_seq fun K39 hK39 => ?_
                        refine T_region ?_
                        refine L_y (y_lss rfl rfl) rfl ?_
                        refine L_nil ?_
                        refine hK39 _ _ ?_
                        refine T_seq fun K40 hK40 => ?_
                        refine T_cond rfl (fun h113 => ?_) (fun h113 => ?_)
                        ·
                          obtain ⟨x, hx⟩ : ∃ x, (rowsB b)[k]? = some x := ⟨_, List.getElem?_eq_getElem (by omega)⟩
                          refine T_skip ?_
                          refine hK40 _ _ ?_
                          refine T_seq fun K41 hK41 => ?_
                          refine T_block ?_
                          refine T_seq fun K42 hK42 => ?_
                          refine T_region ?_
                          refine L_y (y_idx Try.underlying94 sz119 rfl rfl (S19.row 0 rfl) inferInstance (by omega)) rfl ?_
                          refine L_y (y_ldp (f := rowf) rowf_len Try.underlying119 rfl sz119 rfl (S19.row 0 rfl) (by omega) hx) rfl ?_
                          refine L_o (o_alloc zz119 S19 rfl fun b20 w20 hb20 S20 => ?_)
                          refine L_o (o_stW S20 3 rfl rfl rfl (by rw [rowf_sz]; exact sz119) (by rw [rowf_sz]; rfl) (fun u hu => rowf_one _ u (by rw [List.toList_toArray] at hu; exact hu)) fun w21 S21 => ?_)
                          refine L_nil ?_
                          refine hK42 _ _ ?_
                          refine T_seq fun K43 hK43 => ?_
                          refine T_region ?_
                          refine L_y (y_fieldA 33 Try.underlying119 rfl sz3 rfl rfl rfl) rfl ?_
                          refine L_y (y_ldc Try.underlying3 rfl rfl (((S21.blk 3 rfl).cell _).trans (row33 x))) rfl ?_
                          refine L_y (y_gtr rfl rfl) rfl ?_
                          refine L_nil ?_
                          refine hK43 _ _ ?_
                          refine T_cond rfl (fun h118 => ?_) (fun h118 => ?_)
                          ·
                            refine T_seq fun K44 hK44 => ?_
                            refine T_region ?_
                            refine L_y (y_assign rfl) rfl ?_
                            refine L_y (y_assign rfl) rfl ?_
                            refine L_nil ?_
                            refine hK44 _ _ ?_
                            refine T_ret ?_
                            repeat (first | with_reducible refine up_then ?_ | with_reducible refine up_in ?_)
                            refine ret2 rfl rfl rfl ?_
                            have he : openE b = 2 := openE_2 hpre h64 hst hfan (any_far hx (by omega))
                            exact ⟨_, rfl, .inl ⟨by rw [he]; decide, S21.like0, by rw [he]⟩⟩
                          ·
                            refine T_skip ?_
                            refine hK41 _ _ ?_
                            refine T_region ?_
                            refine L_y (y_add rfl rfl (i64w (by omega))) rfl ?_
                            refine L_y (y_move rfl) rfl ?_
                            refine L_nil ?_
                            have S91 := S21.sel [0, 1, 2] (by decide)
                            refine ⟨k + 1, by omega, ⟨⟨by omega, fun i y hi hy => by rcases Nat.lt_or_ge i k with q | q; exact hno i y q hy; (have e9 : i = k := by omega); subst e9; rw [hx] at hy; cases hy; omega⟩, S91⟩, ?_⟩
                            exact (Sub.cons rfl (by first | rfl | exact congrArg (Value.int _) (by omega)) (Sub.cons rfl rfl (Sub.cons rfl rfl (Sub.cons rfl rfl (Sub.nil _)))))
                        ·
                          refine T_exit ?_
                          refine hK37 _ _ ?_
                          refine T_seq fun K45 hK45 => ?_
                          refine T_region ?_
                          refine L_y (y_move rfl) rfl ?_
                          refine L_y (y_assign rfl) rfl ?_
                          refine L_y (y_assign rfl) rfl ?_
                          refine L_nil ?_
                          refine hK45 _ _ ?_
                          refine T_ret ?_
                          repeat (first | with_reducible refine up_then ?_ | with_reducible refine up_in ?_)
                          refine ret2 rfl rfl rfl ?_
                          have he : openE b = 0 := openE_0 hpre h64 hst hfan (no_far fun i x hi hx => hno i x (by omega) hx)
                          rw [← hlen] at S19
                          exact ⟨_, rfl, .inr ⟨he, g5, A5, rfl, S19.sel [0, 1] (by decide)⟩⟩
end Go.Proofs.Ytgaklngnfecdaaa.Idx


/-
  Of the document: Join, bytes, Closed.
-/
namespace Go.Proofs.Ytgaklngnfecdaaa.Idx
open Go.RowKit Zk Zx
open Oid (idf idf_len cmpL)
set_option linter.unusedVariables false
set_option linter.unusedSimpArgs false

def catP (ps : List Part) : List UInt8 := ps.flatMap Part.l
theorem take1L {α : Type} {l : List α} {k : Nat} {x : α} (hx : l[k]? = some x) : l.take (k + 1) = l.take k ++ [x] := by
  rw [List.take_add_one, hx]
  rfl
theorem catP_step {ps : List Part} {k : Nat} {p : Part} (hp : ps[k]? = some p) : catP (ps.take (k + 1)) = catP (ps.take k) ++ p.l := by
  unfold catP
  rw [take1L hp, List.flatMap_append]
  simp
def okP (w : World) (B : Nat) (ps : List Part) : Prop := ∀ p ∈ ps, p.ok w ∧ p.n ≤ B
theorem okP.nil (w : World) (B : Nat) : okP w B [] := fun p hp => by cases hp
theorem okP.cons {w : World} {B : Nat} {p : Part} {ps : List Part} (h1 : p.ok w) (h2 : p.n ≤ B) (h : okP w B ps) : okP w B (p :: ps) := fun q hq => by
  rcases List.mem_cons.1 hq with rfl | hq
  · exact ⟨h1, h2⟩
  · exact h q hq
theorem getP {ps : List Part} {k : Nat} {p : Part} (hp : ps[k]? = some p) : (ps.map pv)[k]? = some (.slice p.A p.n p.c) := by rw [List.getElem?_map, hp]; rfl
theorem bL_appI (a b : List UInt8) : bL a ++ bL b = bL (a ++ b) := by simp [bL]
theorem bL_take1 {l : List UInt8} {k : Nat} {x : UInt8} (hx : l[k]? = some x) : bL (l.take k) ++ [.int .u8 (x.toNat : Int)] = bL (l.take (k + 1)) := by
  rw [take1L hx, ← bL_appI]
  rfl
theorem cell_l {z : List UInt8} {k : Nat} {x : UInt8} (hx : z[k]? = some x) : (bA z)[k]? = some (.int .u8 (x.toNat : Int)) := bA_get z k x hx


set_option maxRecDepth 100000 in
theorem rjoin (A : Option Addr) (n c : Nat) (ps : List Part) (w0 : World) (hps : Rs w0 1 A n c (ps.map pv)) (hok : okP w0 100000 ps) (hn8 : n ≤ 1000) :
    Calls Try.prog 67 #[.slice A n c] w0 fun e w' => ∃ u, e = .returned u ∧ Like w0 w' ∧ ∃ A' c', u = .slice A' (catP ps).length c' ∧ w'.ownsRow w0.heap.size 5 1 (.slice A' (catP ps).length c') (catP ps).length (bL (catP ps)) := by
  refine enter1 (env := [(0, .slice A n c)]) [.slice A n c] Try.func67 rfl Try.ntmps67 rfl rfl ?_
  have hn := hps.len; rw [List.length_map] at hn; have hcap := hps.cap; have hmax := hps.max; have S0 := St.start w0 noM
  refine T_seq fun K1 hK1 => ?_
  refine T_region ?_
  refine L_y (y_assign rfl) rfl ?_
  refine L_nil ?_
  refine hK1 _ _ ?_
  refine T_seq fun K2 hK2 => ?_
  refine T_region ?_
  have S1 := S0.nilrow 5 1
  refine L_y (y_assign rfl) rfl ?_
  refine L_nil ?_
  refine hK2 _ _ ?_
  refine T_seq fun K3 hK3 => ?_
  refine T_seq fun K4 hK4 => ?_
  refine T_region ?_
  refine L_y (y_assign rfl) rfl ?_
  refine L_nil ?_
  refine hK4 _ _ ?_
  refine T_block ?_
  refine T_loop4 [(0, _)] (fun (k : Nat) (m : List UInt8) (A1 : Option Addr) (c1 : Nat) => [(4, .int .i64 (k : Int)), (3, .slice A1 m.length c1)]) (fun (k : Nat) (m : List UInt8) (A1 : Option Addr) (c1 : Nat) => n - k) (fun (k : Nat) (m : List UInt8) (A1 : Option Addr) (c1 : Nat) (w : World) => (k ≤ n ∧ m = catP (ps.take k) ∧ m.length ≤ 100000 * k) ∧ St w0 noM [Zx.row 5 1 A1 m.length c1 (bL m)] w) 0 [] none 0 (Sub.cons rfl (by first | rfl | exact congrArg (Value.int _) (by omega)) (Sub.cons rfl (by first | rfl | exact congrArg (Value.int _) (by omega)) (Sub.nil _))) (Sub.cons rfl rfl (Sub.nil _)) ?_ ?_
  ·
    exact ⟨⟨Nat.zero_le _, rfl, Nat.zero_le _⟩, S1⟩
  ·
    intro k m A1 c1 w2 hrel
    obtain ⟨⟨hk, hm, hml⟩, S2⟩ := hrel
    refine T_seq fun K5 hK5 => ?_
    refine T_seq fun K6 hK6 => ?_
    refine T_region ?_
    refine L_y (y_move rfl) rfl ?_
    refine L_y (y_move rfl) rfl ?_
    refine L_y (y_len Try.underlying177 rfl) rfl ?_
    refine L_y (y_lss rfl rfl) rfl ?_
    refine L_nil ?_
    refine hK6 _ _ ?_
    refine T_cond rfl (fun h8 => ?_) (fun h8 => ?_)
    ·
      obtain ⟨p, hp⟩ : ∃ p, ps[k]? = some p := ⟨_, List.getElem?_eq_getElem (by omega)⟩
      obtain ⟨hpo, hpb⟩ := hok p (List.mem_of_getElem? hp)
      have hpn := hpo.lenb; have hpc := hpo.cap; have hpm := hpo.max
      refine T_skip ?_
      refine hK5 _ _ ?_
      refine T_seq fun K7 hK7 => ?_
      refine T_block ?_
      refine T_region ?_
      refine L_y (y_move rfl) rfl ?_
      refine L_y (y_move rfl) rfl ?_
      refine L_y (y_move rfl) rfl ?_
      refine L_y (y_idx Try.underlying177 sz27 rfl rfl (S2.rd hps) inferInstance (by omega)) rfl ?_
      refine L_y (y_ldr Try.underlying27 rfl rfl (S2.rd hps) (getP hp)) rfl ?_
      refine L_o (o_app te27 S2 0 rfl rfl rfl (S2.rd hpo) (bL_one _) rfl (by omega) (by omega) fun A3 c3 w3 S3 => ?_)
      refine L_y (y_assign rfl) rfl ?_
      refine L_nil ?_
      refine hK7 _ _ ?_
      refine T_region ?_
      refine L_y (y_move rfl) rfl ?_
      refine L_y (y_add rfl rfl (i64w (by omega))) rfl ?_
      refine L_y (y_assign rfl) rfl ?_
      refine L_nil ?_
      have S91 := S3.rowc 0 rfl (n' := (m ++ p.l).length) (xs' := bL (m ++ p.l)) (by rw [List.length_append]; omega) (bL_appI _ _)
      refine ⟨k + 1, m ++ p.l, _, _, by omega, ⟨⟨by omega, by rw [catP_step hp, hm], by rw [List.length_append]; omega⟩, S91⟩, ?_⟩
      exact (Sub.cons rfl (by first | rfl | exact congrArg (Value.int _) (by omega)) (Sub.cons rfl (by rw [List.length_append]; congr 1; omega) (Sub.cons rfl rfl (Sub.nil _))))
    ·
      refine T_exit ?_
      refine hK3 _ _ ?_
      refine T_seq fun K8 hK8 => ?_
      refine T_region ?_
      refine L_y (y_move rfl) rfl ?_
      refine L_y (y_assign rfl) rfl ?_
      refine L_nil ?_
      refine hK8 _ _ ?_
      refine T_ret ?_
      repeat (first | with_reducible refine up_then ?_ | with_reducible refine up_in ?_)
      refine ret1 rfl rfl ?_
      have hke : k = n := by omega
      subst hke
      rw [List.take_of_length_le (by omega)] at hm
      subst hm
      exact ⟨_, rfl, S2.like0, _, _, rfl, S2.own 0 rfl⟩


set_option maxRecDepth 100000 in
theorem rbytes (z : Oid.Id) (w0 : World)  :
    Calls Try.prog 69 #[.agg (bA z.l)] w0 fun e w' => ∃ u, e = .returned u ∧ Like w0 w' ∧ ∃ A' c', u = .slice A' 32 c' ∧ w'.ownsRow w0.heap.size 5 1 (.slice A' 32 c') 32 (bL z.l) := by
  refine enter1 (env := [(0, .agg (bA z.l))]) [.agg (bA z.l)] Try.func69 rfl Try.ntmps69 rfl rfl ?_
  have S0 := St.start w0 noM
  refine T_seq fun K1 hK1 => ?_
  refine T_region ?_
  refine L_o (o_box rfl S0 rfl fun b1 w1 hb1 S1 => ?_)
  refine L_y (y_assign rfl) rfl ?_
  refine L_nil ?_
  refine hK1 _ _ ?_
  refine T_seq fun K2 hK2 => ?_
  refine T_region ?_
  have S2 := S1.nilrow 5 1
  refine L_y (y_assign rfl) rfl ?_
  refine L_nil ?_
  refine hK2 _ _ ?_
  refine T_seq fun K3 hK3 => ?_
  refine T_seq fun K4 hK4 => ?_
  refine T_region ?_
  refine L_y (y_assign rfl) rfl ?_
  refine L_nil ?_
  refine hK4 _ _ ?_
  refine T_block ?_
  refine T_loop3 [(1, _)] (fun (k : Nat) (A1 : Option Addr) (c1 : Nat) => [(4, .int .i64 (k : Int)), (3, .slice A1 k c1)]) (fun (k : Nat) (A1 : Option Addr) (c1 : Nat) => 32 - k) (fun (k : Nat) (A1 : Option Addr) (c1 : Nat) (w : World) => k ≤ 32 ∧ Zx.St w0 noM [blk b1 23 (bA z.l), Zx.row 5 1 A1 k c1 (bL ((z.l).take k))] w) 0 none 0 (Sub.cons rfl (by first | rfl | exact congrArg (Value.int _) (by omega)) (Sub.cons rfl (by first | rfl | exact congrArg (Value.int _) (by omega)) (Sub.nil _))) (Sub.cons rfl rfl (Sub.nil _)) ?_ ?_
  ·
    have S70 : Zx.St w0 noM [blk b1 23 (bA z.l), Zx.row 5 1 none 0 0 (bL ((z.l).take 0))] w1 := S2
    exact ⟨by omega, S70⟩
  ·
    intro k A1 c1 w3 hrel
    obtain ⟨hk, S3⟩ := hrel
    refine T_seq fun K5 hK5 => ?_
    refine T_seq fun K6 hK6 => ?_
    refine T_region ?_
    refine L_y (y_move rfl) rfl ?_
    refine L_y (y_lss rfl rfl) rfl ?_
    refine L_nil ?_
    refine hK6 _ _ ?_
    refine T_cond rfl (fun h6 => ?_) (fun h6 => ?_)
    ·
      have hz := z.h
      obtain ⟨x, hx⟩ : ∃ x, z.l[k]? = some x := ⟨_, List.getElem?_eq_getElem (by omega)⟩
      refine T_skip ?_
      refine hK5 _ _ ?_
      refine T_seq fun K7 hK7 => ?_
      refine T_block ?_
      refine T_region ?_
      refine L_y (y_move rfl) rfl ?_
      refine L_y (y_move rfl) rfl ?_
      refine L_y (y_idxA0 Try.underlying23 sz5 rfl rfl inferInstance (by omega)) rfl ?_
      refine L_y (y_ldc Try.underlying5 rfl rfl (((S3.blk 0 rfl).cell _).trans (cell_l hx))) rfl ?_
      refine L_o (o_bsl [_] te27 zz5 S3 rfl rfl rfl rfl rfl rfl rfl rfl fun b4 w4 S4 => ?_)
      refine L_o (o_app te27 S4 1 rfl rfl rfl (by first | exact S4.row 1 rfl | exact S4.row 2 rfl) (by first | exact bL_one _ | exact iL_one _ | (intro u hu; simp at hu; subst hu; rfl) | (simp; done) | (simp [Value.oneCell']; done)) rfl (by omega) (by omega) fun A5 c5 w5 S5 => ?_)
      have S5d := S5.drop (rs' := [_, _]) (.cons_cons _ (.cons_cons _ (.cons _ (.refl _))))
      refine L_y (y_assign rfl) rfl ?_
      refine L_nil ?_
      refine hK7 _ _ ?_
      refine T_region ?_
      refine L_y (y_move rfl) rfl ?_
      refine L_y (y_add rfl rfl (i64w (by omega))) rfl ?_
      refine L_y (y_assign rfl) rfl ?_
      refine L_nil ?_
      have S91 := S5d.sel [0, 1] (by decide)
      have S92 := S91.rowc 1 rfl (n' := k + 1) rfl (bL_take1 hx)
      refine ⟨k + 1, _, _, by omega, ⟨by omega, S92⟩, ?_⟩
      exact (Sub.cons rfl (by first | rfl | exact congrArg (Value.int _) (by omega)) (Sub.cons rfl (by first | rfl | exact congrArg (Value.int _) (by omega)) (Sub.cons rfl rfl (Sub.nil _))))
    ·
      refine T_exit ?_
      refine hK3 _ _ ?_
      refine T_seq fun K8 hK8 => ?_
      refine T_region ?_
      refine L_y (y_move rfl) rfl ?_
      refine L_y (y_assign rfl) rfl ?_
      refine L_nil ?_
      refine hK8 _ _ ?_
      refine T_ret ?_
      repeat (first | with_reducible refine up_then ?_ | with_reducible refine up_in ?_)
      refine ret1 rfl rfl ?_
      have hke : k = 32 := by omega
      subst hke
      rw [List.take_of_length_le (by rw [z.h]; omega)] at S3
      exact ⟨_, rfl, S3.like0, _, _, rfl, S3.own 1 rfl⟩


set_option maxRecDepth 100000 in
theorem rclosed (B : Option Addr) (m d : Nat) (b : List UInt8) (w0 : World) (hb : Rs w0 1 B m d (bL b)) (hl : m ≤ 90000) :
    Calls Try.prog 70 #[.slice B m d] w0 fun e w' => ∃ u, e = .returned u ∧ Like w0 w' ∧ ∃ A' c', u = .slice A' (b ++ Sha.ofL b).length c' ∧ w'.ownsRow w0.heap.size 5 1 (.slice A' (b ++ Sha.ofL b).length c') (b ++ Sha.ofL b).length (bL (b ++ Sha.ofL b)) := by
  refine enter1 (env := [(0, .slice B m d)]) [.slice B m d] Try.func70 rfl Try.ntmps70 rfl rfl ?_
  have hm := hb.lenb; have hcap := hb.cap; have hmax := hb.max
  have S0 := St.start w0 noM
  refine T_seq fun K1 hK1 => ?_
  refine T_region ?_
  refine L_y (y_assign rfl) rfl ?_
  refine L_nil ?_
  refine hK1 _ _ ?_
  refine T_seq fun K2 hK2 => ?_
  refine T_region ?_
  refine L_y (y_move rfl) rfl ?_
  refine L_o (o_call Try.func79 rfl rfl (Sha.refof b B m d w0 (S0.rd hb) (by omega)) rfl rfl ?_)
  rintro e1 w1 ⟨v1, rfl, l1, rfl⟩
  refine ⟨_, rfl, ?_⟩
  have S1 := S0.like l1
  refine L_o (o_alloc zz23 S1 rfl fun b2 w2 hb2 S2 => ?_)
  refine L_o (o_stW S2 0 rfl rfl rfl (by rw [size_bA, Sha.length_ofL]; exact sz23) (by rw [size_bA, Sha.length_ofL]; rfl) (bL_one _) fun w3 S3 => ?_)
  refine L_nil ?_
  refine hK2 _ _ ?_
  refine T_seq fun K3 hK3 => ?_
  refine T_region ?_
  have S4 := S3.nilrow 5 1
  refine L_y (y_assign rfl) rfl ?_
  refine L_nil ?_
  refine hK3 _ _ ?_
  refine T_seq fun K4 hK4 => ?_
  refine T_seq fun K5 hK5 => ?_
  refine T_region ?_
  refine L_y (y_assign rfl) rfl ?_
  refine L_nil ?_
  refine hK5 _ _ ?_
  refine T_block ?_
  refine T_loop3 [(0, _), (3, _)] (fun (k : Nat) (A1 : Option Addr) (c1 : Nat) => [(5, .int .i64 (k : Int)), (4, .slice A1 k c1)]) (fun (k : Nat) (A1 : Option Addr) (c1 : Nat) => 32 - k) (fun (k : Nat) (A1 : Option Addr) (c1 : Nat) (w : World) => k ≤ 32 ∧ Zx.St w0 noM [blk b2 23 (bA (Sha.ofL b)), Zx.row 5 1 A1 k c1 (bL (((Sha.ofL b)).take k))] w) 0 none 0 (Sub.cons rfl (by first | rfl | exact congrArg (Value.int _) (by omega)) (Sub.cons rfl (by first | rfl | exact congrArg (Value.int _) (by omega)) (Sub.nil _))) (Sub.cons rfl rfl (Sub.cons rfl rfl (Sub.nil _))) ?_ ?_
  ·
    have S70 : Zx.St w0 noM [blk b2 23 (bA (Sha.ofL b)), Zx.row 5 1 none 0 0 (bL (((Sha.ofL b)).take 0))] w3 := S4
    exact ⟨by omega, S70⟩
  ·
    intro k A1 c1 w5 hrel
    obtain ⟨hk, S5⟩ := hrel
    refine T_seq fun K6 hK6 => ?_
    refine T_seq fun K7 hK7 => ?_
    refine T_region ?_
    refine L_y (y_move rfl) rfl ?_
    refine L_y (y_lss rfl rfl) rfl ?_
    refine L_nil ?_
    refine hK7 _ _ ?_
    refine T_cond rfl (fun h9 => ?_) (fun h9 => ?_)
    ·
      have hz := Sha.length_ofL b
      obtain ⟨x, hx⟩ : ∃ x, (Sha.ofL b)[k]? = some x := ⟨_, List.getElem?_eq_getElem (by omega)⟩
      refine T_skip ?_
      refine hK6 _ _ ?_
      refine T_seq fun K8 hK8 => ?_
      refine T_block ?_
      refine T_region ?_
      refine L_y (y_move rfl) rfl ?_
      refine L_y (y_move rfl) rfl ?_
      refine L_y (y_idxA0 Try.underlying23 sz5 rfl rfl inferInstance (by omega)) rfl ?_
      refine L_y (y_ldc Try.underlying5 rfl rfl (((S5.blk 0 rfl).cell _).trans (cell_l hx))) rfl ?_
      refine L_o (o_bsl [_] te27 zz5 S5 rfl rfl rfl rfl rfl rfl rfl rfl fun b6 w6 S6 => ?_)
      refine L_o (o_app te27 S6 1 rfl rfl rfl (by first | exact S6.row 1 rfl | exact S6.row 2 rfl) (by first | exact bL_one _ | exact iL_one _ | (intro u hu; simp at hu; subst hu; rfl) | (simp; done) | (simp [Value.oneCell']; done)) rfl (by omega) (by omega) fun A7 c7 w7 S7 => ?_)
      have S7d := S7.drop (rs' := [_, _]) (.cons_cons _ (.cons_cons _ (.cons _ (.refl _))))
      refine L_y (y_assign rfl) rfl ?_
      refine L_nil ?_
      refine hK8 _ _ ?_
      refine T_region ?_
      refine L_y (y_move rfl) rfl ?_
      refine L_y (y_add rfl rfl (i64w (by omega))) rfl ?_
      refine L_y (y_assign rfl) rfl ?_
      refine L_nil ?_
      have S91 := S7d.sel [0, 1] (by decide)
      have S92 := S91.rowc 1 rfl (n' := k + 1) rfl (bL_take1 hx)
      refine ⟨k + 1, _, _, by omega, ⟨by omega, S92⟩, ?_⟩
      exact (Sub.cons rfl (by first | rfl | exact congrArg (Value.int _) (by omega)) (Sub.cons rfl (by first | rfl | exact congrArg (Value.int _) (by omega)) (Sub.cons rfl rfl (Sub.cons rfl rfl (Sub.nil _)))))
    ·
      have hke : k = 32 := by omega
      subst hke
      rw [List.take_of_length_le (by rw [Sha.length_ofL]; omega)] at S5
      refine T_exit ?_
      refine hK4 _ _ ?_
      refine T_seq fun K9 hK9 => ?_
      refine T_region ?_
      refine L_y (y_move rfl) rfl ?_
      refine L_y (y_move rfl) rfl ?_
      refine L_o (o_bsl [_, _] te177 zz27 S5 rfl rfl rfl rfl rfl rfl rfl rfl fun b8 w8 S8 => ?_)
      refine L_o (o_call Try.func67 rfl rfl (rjoin _ _ _ [⟨B, m, d, b⟩, ⟨A1, 32, c1, Sha.ofL b⟩] w8 (S8.row 2 rfl) (okP.cons (S8.rd hb) (show m ≤ 100000 by omega) (okP.cons (S8.row 1 rfl) (show 32 ≤ 100000 by omega) (okP.nil _ _))) (by simp)) rfl rfl ?_)
      rintro e9 w9 ⟨v9, rfl, l9, A9, c9, rfl, O9⟩
      refine ⟨_, rfl, ?_⟩
      have S9 := S8.adopt l9 O9
      refine L_y (y_assign rfl) rfl ?_
      refine L_nil ?_
      refine hK9 _ _ ?_
      refine T_ret ?_
      repeat (first | with_reducible refine up_then ?_ | with_reducible refine up_in ?_)
      refine ret1 rfl rfl ?_
      have e9 : catP [⟨B, m, d, b⟩, ⟨A1, 32, c1, Sha.ofL b⟩] = b ++ Sha.ofL b := by simp [catP]
      rw [e9] at S9
      rw [e9]
      exact ⟨_, rfl, S9.like0, _, _, rfl, S9.own 3 rfl⟩
end Go.Proofs.Ytgaklngnfecdaaa.Idx


/-
  Places sorted by the document.
-/
namespace Go.Proofs.Ytgaklngnfecdaaa.Idx
open Go.RowKit Zk Zx
open Oid (idf idf_len cmpL)
set_option linter.unusedVariables false
set_option linter.unusedSimpArgs false

/-- Where a row goes among those of out up to k. -/
def posR (out : List Row) (x : Row) : Nat → Nat
  | 0 => 0
  | k + 1 => if Oid.lt x.id (out.getD k zR).id then posR out x k else k + 1
def insR (out : List Row) (x : Row) : List Row := out.take (posR out x out.length) ++ [x] ++ out.drop (posR out x out.length)
def sortR (l : List Row) : List Row := l.foldl insR []
theorem posR_le (out : List Row) (x : Row) : ∀ k, posR out x k ≤ k
  | 0 => Nat.le_refl _
  | k + 1 => by
    unfold posR
    split
    · have := posR_le out x k; omega
    · exact Nat.le_refl _
theorem insR_len (out : List Row) (x : Row) : (insR out x).length = out.length + 1 := by
  have := posR_le out x out.length
  simp [insR]
  omega
theorem insR_perm (out : List Row) (x : Row) : (insR out x).Perm (x :: out) := by
  unfold insR
  rw [List.append_assoc, List.singleton_append]
  exact List.perm_middle.trans (by rw [List.take_append_drop])
theorem sortR_step {l : List Row} {k : Nat} {x : Row} (hx : l[k]? = some x) : sortR (l.take (k + 1)) = insR (sortR (l.take k)) x := by
  unfold sortR
  rw [take1L hx, List.foldl_append]
  rfl
theorem foldR_perm : ∀ (l out : List Row), (l.foldl insR out).Perm (out ++ l)
  | [], out => by simp
  | x :: l, out => by
    rw [List.foldl_cons]
    refine (foldR_perm l _).trans ?_
    refine ((insR_perm out x).append_right l).trans ?_
    exact List.perm_middle.symm
theorem sortR_perm (l : List Row) : (sortR l).Perm l := by have := foldR_perm l []; simpa [sortR] using this
theorem sortR_len (l : List Row) : (sortR l).length = l.length := (sortR_perm l).length_eq
theorem posR_gt (out : List Row) (x : Row) : ∀ k i, posR out x k ≤ i → i < k → Oid.lt x.id (out.getD i zR).id = true
  | 0, i, _, h => by omega
  | k + 1, i, h, h2 => by
    unfold posR at h
    split at h
    · rename_i hc
      by_cases e : i = k
      · subst e; exact hc
      · exact posR_gt out x k i h (by omega)
    · omega
theorem posR_at (out : List Row) (x : Row) : ∀ k p, posR out x k = p + 1 → Oid.lt x.id (out.getD p zR).id = false
  | 0, p, h => by simp [posR] at h
  | k + 1, p, h => by
    unfold posR at h
    split at h
    · exact posR_at out x k p h
    · rename_i hc
      have e : p = k := by omega
      subst e
      simpa using hc
theorem lt_asym {a b : Oid.Id} (h : Oid.lt a b = true) : Oid.lt b a = false := by
  cases e : Oid.lt b a with
  | false => rfl
  | true => have := Oid.lt_trans _ _ _ h e; rw [Oid.lt_irr] at this; cases this
theorem le_trans_lt {a b c : Oid.Id} (h1 : Oid.lt b a = false) (h2 : Oid.lt c b = false) : Oid.lt c a = false := by
  cases e : Oid.lt c a with
  | false => rfl
  | true =>
    exfalso
    by_cases q : b = a
    · subst q; rw [h2] at e; cases e
    · have h3 := Oid.lt_total _ _ h1 q
      have h4 := Oid.lt_trans _ _ _ e h3
      rw [h2] at h4
      cases h4
def WkP (l : List Row) : Prop := l.Pairwise fun x y => Oid.lt y.id x.id = false
theorem WkP.wk {l : List Row} (h : WkP l) : WkR l := by
  unfold WkP at h
  rw [List.pairwise_iff_getElem] at h
  exact fun i j hi hj hij => h i j hi hj hij
theorem insR_wk {out : List Row} {x : Row} (h : WkP out) : WkP (insR out x) := by
  have hp := posR_le out x out.length
  have hg := posR_gt out x out.length
  have ha := posR_at out x out.length
  unfold insR WkP
  generalize posR out x out.length = p at *
  have h2 := h
  unfold WkP at h2
  have hix := List.pairwise_iff_getElem.1 h2
  rw [List.append_assoc, List.pairwise_append]
  refine ⟨h2.sublist (List.take_sublist _ _), ?_, ?_⟩
  · rw [List.singleton_append, List.pairwise_cons]
    refine ⟨fun y hy => ?_, h2.sublist (List.drop_sublist _ _)⟩
    obtain ⟨i, hi, rfl⟩ := List.getElem_of_mem hy
    rw [List.getElem_drop]
    rw [List.length_drop] at hi
    have h3 := hg (p + i) (by omega) (by omega)
    rw [List.getD_eq_getElem?_getD, List.getElem?_eq_getElem (by omega), Option.getD_some] at h3
    exact lt_asym h3
  · intro a ha' y hy
    obtain ⟨i, hi, rfl⟩ := List.getElem_of_mem ha'
    rw [List.getElem_take]
    rw [List.length_take] at hi
    rw [List.singleton_append, List.mem_cons] at hy
    rcases hy with rfl | hy
    · have h3 := ha (p - 1) (by omega)
      rw [List.getD_eq_getElem?_getD, List.getElem?_eq_getElem (by omega), Option.getD_some] at h3
      by_cases e : i = p - 1
      · subst e; exact h3
      · exact le_trans_lt (hix i (p - 1) (by omega) (by omega) (by omega)) h3
    · obtain ⟨j, hj, rfl⟩ := List.getElem_of_mem hy
      rw [List.getElem_drop]
      rw [List.length_drop] at hj
      exact hix i (p + j) (by omega) (by omega) (by omega)
theorem foldR_wk : ∀ (l out : List Row), WkP out → WkP (l.foldl insR out)
  | [], out, h => h
  | x :: l, out, h => foldR_wk l _ (insR_wk h)
theorem sortR_wk (l : List Row) : WkR (sortR l) := (foldR_wk l [] List.Pairwise.nil).wk
theorem flat_dropP (l : List Row) : ∀ a, (l.flatMap plf).drop (a * 34) = (l.drop a).flatMap plf
  | 0 => by simp
  | a + 1 => by
    cases l with
    | nil => simp
    | cons x l =>
      rw [List.flatMap_cons, List.drop_succ_cons, ← flat_dropP l a, show (a + 1) * 34 = (plf x).length + a * 34 by rw [plf_len]; omega, List.drop_append]
      simp
theorem sub_rsP {w : World} {A : Option Addr} {n c a b : Nat} {l : List Row} (h : Rs w 34 A n c (l.flatMap plf)) (h1 : a ≤ b) (h2 : b ≤ n) : Rs w 34 (cutA A c a 34) (b - a) (c - a) ((sub l a b).flatMap plf) := by
  have := h.cut h1 h2
  rwa [flat_dropP, flat_take plf plf_len] at this
theorem flatP_one (l : List Row) : ∀ u ∈ l.flatMap plf, u.oneCell' = true := fun u hu => by
  obtain ⟨x, _, hx⟩ := List.mem_flatMap.1 hu
  exact plf_one x u hx
theorem pl_part {l : List Row} {k : Nat} {x : Row} (h : l[k]? = some x) : ((l.flatMap plf).drop (k * 34 + 0)).take 32 = idf x.id := by
  rw [flat_part plf 34 plf_len l k 0 32 x h (by omega)]
  exact (pl_id x).1
theorem pl_c32 {l : List Row} {k : Nat} {x : Row} (h : l[k]? = some x) : (l.flatMap plf)[k * 34 + 32]? = some (.int .i64 x.at_) := (flat_at plf 34 plf_len l k x h 32 (by omega)).trans (by have := pl32 x; rwa [List.getElem?_toArray] at this)
theorem pl_c33 {l : List Row} {k : Nat} {x : Row} (h : l[k]? = some x) : (l.flatMap plf)[k * 34 + 33]? = some (.int .u32 x.sm) := (flat_at plf 34 plf_len l k x h 33 (by omega)).trans (by have := pl33 x; rwa [List.getElem?_toArray] at this)
theorem pl_c0 {l : List Row} {k : Nat} {x : Row} (h : l[k]? = some x) : (l.flatMap plf)[k * 34 + 0]? = some (.int .u8 (fb x : Int)) := (flat_at plf 34 plf_len l k x h 0 (by omega)).trans (by
  unfold plf fb idf
  have h := x.id.h
  cases hl : x.id.l with
  | nil => rw [hl] at h; cases h
  | cons a r => rfl)
theorem built_rpl (x : Row) : Try.prog.built 86 [(0, .agg (idf x.id).toArray), (1, .int .i64 x.at_), (2, .int .u32 x.sm)] = some (plf x).toArray := by
  obtain ⟨⟨l, h⟩, s, a⟩ := x
  obtain ⟨a0, a1, a2, a3, a4, a5, a6, a7, a8, a9, a10, a11, a12, a13, a14, a15, a16, a17, a18, a19, a20, a21, a22, a23, a24, a25, a26, a27, a28, a29, a30, a31, rfl⟩ := list32 l h
  kernel_rfl
theorem ins_flat {out : List Row} {x : Row} {p : Nat} (h : p ≤ out.length) (hp : posR out x out.length = p) : ([] ++ (sub out 0 p).flatMap plf ++ plf x) ++ (sub out p out.length).flatMap plf = (insR out x).flatMap plf := by
  unfold insR
  rw [hp]
  simp only [sub, List.drop_zero, Nat.sub_zero, List.nil_append, List.flatMap_append, List.flatMap_cons, List.flatMap_nil, List.append_nil]
  rw [List.take_of_length_le (l := out.drop p) (by rw [List.length_drop]; omega)]
theorem getD_of {l : List Row} {k : Nat} {x : Row} (h : l[k]? = some x) : l.getD k zR = x := by rw [List.getD_eq_getElem?_getD, h]; rfl


set_option maxRecDepth 100000 in
theorem plain (A : Option Addr) (n c : Nat) (l : List Row) (w0 : World) (hl : Rs w0 34 A n c (l.flatMap plf)) (hl9 : l.length ≤ 1000) :
    Calls Try.prog 27 #[.slice A n c] w0 fun e w' => ∃ u, e = .returned u ∧ Like w0 w' ∧ ∃ A' c', u = .slice A' l.length c' ∧ w'.ownsRow w0.heap.size 86 34 (.slice A' l.length c') l.length (l.flatMap plf) := by
  refine enter1 (env := [(0, .slice A n c)]) [.slice A n c] Try.func27 rfl Try.ntmps27 rfl rfl ?_
  have hn := places_len hl; have hcap := hl.cap; have hmax := hl.max
  have S0 := St.start w0 noM
  refine T_seq fun K1 hK1 => ?_
  refine T_region ?_
  refine L_y (y_assign rfl) rfl ?_
  refine L_nil ?_
  refine hK1 _ _ ?_
  refine T_seq fun K2 hK2 => ?_
  refine T_region ?_
  have S1 := S0.nilrow 86 34
  refine L_y (y_assign rfl) rfl ?_
  refine L_nil ?_
  refine hK2 _ _ ?_
  refine T_seq fun K3 hK3 => ?_
  refine T_seq fun K4 hK4 => ?_
  refine T_region ?_
  refine L_y (y_assign rfl) rfl ?_
  refine L_nil ?_
  refine hK4 _ _ ?_
  refine T_block ?_
  refine T_loop3 [(0, _)] (fun (k : Nat) (A1 : Option Addr) (c1 : Nat) => [(4, .int .i64 (k : Int)), (3, .slice A1 k c1)]) (fun (k : Nat) (A1 : Option Addr) (c1 : Nat) => l.length - k) (fun (k : Nat) (A1 : Option Addr) (c1 : Nat) (w : World) => k ≤ l.length ∧ Zx.St w0 noM [Zx.row 86 34 A1 k c1 ((l.take k).flatMap plf)] w) 0 none 0 (Sub.cons rfl (by first | rfl | exact congrArg (Value.int _) (by omega)) (Sub.cons rfl (by first | rfl | exact congrArg (Value.int _) (by omega)) (Sub.nil _))) (Sub.cons rfl rfl (Sub.nil _)) ?_ ?_
  ·
    have S70 : Zx.St w0 noM [Zx.row 86 34 none 0 0 ((l.take 0).flatMap plf)] w0 := S1.cast (by rw [List.take_zero]; rfl)
    exact ⟨by omega, S70⟩
  ·
    intro k A1 c1 w2 hrel
    obtain ⟨hk, S2⟩ := hrel
    refine T_seq fun K5 hK5 => ?_
    refine T_seq fun K6 hK6 => ?_
    refine T_region ?_
    refine L_y (y_move rfl) rfl ?_
    refine L_y (y_move rfl) rfl ?_
    refine L_y (y_len Try.underlying43 rfl) rfl ?_
    refine L_y (y_lss rfl rfl) rfl ?_
    refine L_nil ?_
    refine hK6 _ _ ?_
    refine T_cond rfl (fun h8 => ?_) (fun h8 => ?_)
    ·
      obtain ⟨x, hx⟩ : ∃ x, l[k]? = some x := ⟨_, List.getElem?_eq_getElem (by omega)⟩
      refine T_skip ?_
      refine hK5 _ _ ?_
      refine T_seq fun K7 hK7 => ?_
      refine T_block ?_
      refine T_zed [0, 1, 2, 3, 4, 5, 6, 7, 8, 9, 10, 11, 12, 13, 14, 15, 16, 17] 18 [(0, 1), (1, 1), (2, 1), (3, 1), (4, 1), (5, 1), (6, 1), (7, 1), (8, 1), (9, 1), (10, 1), (11, 1), (12, 1), (13, 1), (14, 1), (15, 1), (16, 1), (17, 2), (18, 3), (19, 3)] hmix (by kernel_rfl) fun w3 l3 => ?_
      have S3 := S2.like l3
      refine ZA_B (Like w3) (Like.refl _) ?_
      refine ZB_y rfl (y_move rfl) rfl ?_
      refine ZB_y rfl (y_move rfl) rfl ?_
      refine ZB_y rfl (y_move rfl) rfl ?_
      refine ZB_y rfl (y_idx Try.underlying43 sz62 rfl rfl (S3.rd hl) inferInstance (by omega)) rfl ?_
      refine ZB_y rfl (y_fieldR 0 Try.underlying62 rfl sz23 rfl rfl (S3.rd hl) (by omega) rfl) rfl ?_
      refine ZB_y rfl (y_ldfN Try.underlying23 rfl sz23 rfl (S3.rd hl) (by omega) (pl_part hx) (idf_len _)) rfl ?_
      refine ZB_y rfl (y_move rfl) rfl ?_
      refine ZB_y rfl (y_move rfl) rfl ?_
      refine ZB_y rfl (y_idx Try.underlying43 sz62 rfl rfl (S3.rd hl) inferInstance (by omega)) rfl ?_
      refine ZB_y rfl (y_fieldR 32 Try.underlying62 rfl sz3 rfl rfl (S3.rd hl) (by omega) rfl) rfl ?_
      refine ZB_y rfl (y_ldf Try.underlying3 rfl rfl (S3.rd hl) (by omega) (pl_c32 hx)) rfl ?_
      refine ZB_y rfl (y_move rfl) rfl ?_
      refine ZB_y rfl (y_move rfl) rfl ?_
      refine ZB_y rfl (y_idx Try.underlying43 sz62 rfl rfl (S3.rd hl) inferInstance (by omega)) rfl ?_
      refine ZB_y rfl (y_fieldR 33 Try.underlying62 rfl sz60 rfl rfl (S3.rd hl) (by omega) rfl) rfl ?_
      refine ZB_y rfl (y_ldf Try.underlying60 rfl rfl (S3.rd hl) (by omega) (pl_c33 hx)) rfl ?_
      refine ZB_y rfl (y_build rfl (built_rpl x)) rfl ?_
      refine ZB_o rfl (o_bslL (plf x) te46 zz86 S3 rfl rfl rfl (by simp [Value.cells, plf_len]) (by simp [Value.cells]) rfl rfl rfl fun b4 w4 l4 S4 => ?_)
      have q4 := l4
      refine ⟨q4, ?_⟩
      refine ZB_c rfl (o_app te46 S4 0 rfl rfl rfl (by first | exact S4.row 0 rfl | exact S4.row 1 rfl) (plf_one _) rfl (by omega) (by omega) fun A5 c5 w5 S5 => ?_)
      have S5d := S5.drop (rs' := [_]) (.cons_cons _ (.cons _ (.refl _)))
      refine ZA_oy rfl (y_assign rfl) rfl ?_
      refine ZA_nil ?_
      refine hK7 _ _ ?_
      refine T_region ?_
      refine L_y (y_move rfl) rfl ?_
      refine L_y (y_add rfl rfl (i64w (by omega))) rfl ?_
      refine L_y (y_assign rfl) rfl ?_
      refine L_nil ?_
      have S91 := S5d.sel [0] (by decide)
      have S92 := S91.rowc 0 rfl (n' := k + 1) (xs' := (l.take (k + 1)).flatMap plf) rfl (take1 plf hx).symm
      refine ⟨k + 1, _, _, by omega, ⟨by omega, S92⟩, ?_⟩
      exact (Sub.cons rfl (by first | rfl | exact congrArg (Value.int _) (by omega)) (Sub.cons rfl (by first | rfl | exact congrArg (Value.int _) (by omega)) (Sub.cons rfl rfl (Sub.nil _))))
    ·
      refine T_exit ?_
      refine hK3 _ _ ?_
      refine T_seq fun K8 hK8 => ?_
      refine T_region ?_
      refine L_y (y_move rfl) rfl ?_
      refine L_y (y_assign rfl) rfl ?_
      refine L_nil ?_
      refine hK8 _ _ ?_
      refine T_ret ?_
      repeat (first | with_reducible refine up_then ?_ | with_reducible refine up_in ?_)
      refine ret1 rfl rfl ?_
      have hke : k = l.length := by omega
      subst hke
      rw [List.take_length] at S2
      exact ⟨_, rfl, S2.like0, _, _, rfl, S2.own 0 rfl⟩


set_option maxRecDepth 100000 in
theorem rsorted (A : Option Addr) (n c : Nat) (l : List Row) (w0 : World) (hl : Rs w0 34 A n c (l.flatMap plf)) (hl9 : l.length ≤ 1000) :
    Calls Try.prog 66 #[.slice A n c] w0 fun e w' => ∃ u, e = .returned u ∧ Like w0 w' ∧ ∃ A' c', u = .slice A' l.length c' ∧ w'.ownsRow w0.heap.size 86 34 (.slice A' l.length c') l.length ((sortR l).flatMap plf) := by
  refine enter1 (env := [(0, .slice A n c)]) [.slice A n c] Try.func66 rfl Try.ntmps66 rfl rfl ?_
  have hn := places_len hl; have hcap := hl.cap; have hmax := hl.max
  have S0 := St.start w0 noM
  refine T_seq fun K1 hK1 => ?_
  refine T_region ?_
  refine L_y (y_assign rfl) rfl ?_
  refine L_nil ?_
  refine hK1 _ _ ?_
  refine T_seq fun K2 hK2 => ?_
  refine T_region ?_
  refine L_y (y_assign rfl) rfl ?_
  refine L_nil ?_
  refine hK2 _ _ ?_
  refine T_seq fun K3 hK3 => ?_
  refine T_seq fun K4 hK4 => ?_
  refine T_region ?_
  refine L_y (y_assign rfl) rfl ?_
  refine L_nil ?_
  refine hK4 _ _ ?_
  refine T_block ?_
  refine T_loop3 [(0, _)] (fun (k : Nat) (A1 : Option Addr) (c1 : Nat) => [(4, .int .i64 (k : Int)), (3, .slice A1 (sortR (l.take k)).length c1)]) (fun (k : Nat) (A1 : Option Addr) (c1 : Nat) => l.length - k) (fun (k : Nat) (A1 : Option Addr) (c1 : Nat) (w : World) => k ≤ l.length ∧ Zx.St w0 noM [Zx.row 86 34 A1 (sortR (l.take k)).length c1 ((sortR (l.take k)).flatMap plf)] w) 0 none 0 (Sub.cons rfl (by first | rfl | exact congrArg (Value.int _) (by omega)) (Sub.cons rfl (by first | rfl | exact congrArg (Value.int _) (by omega)) (Sub.nil _))) (Sub.cons rfl rfl (Sub.nil _)) ?_ ?_
  ·
    have S70 : Zx.St w0 noM [Zx.row 86 34 none (sortR (l.take 0)).length 0 ((sortR (l.take 0)).flatMap plf)] w0 := (S0.nilrow 86 34).cast (by rw [List.take_zero]; rfl)
    exact ⟨by omega, S70⟩
  ·
    intro k A1 c1 w1 hrel
    obtain ⟨hk, S1⟩ := hrel
    refine T_seq fun K5 hK5 => ?_
    refine T_seq fun K6 hK6 => ?_
    refine T_region ?_
    refine L_y (y_move rfl) rfl ?_
    refine L_y (y_move rfl) rfl ?_
    refine L_y (y_len Try.underlying46 rfl) rfl ?_
    refine L_y (y_lss rfl rfl) rfl ?_
    refine L_nil ?_
    refine hK6 _ _ ?_
    refine T_cond rfl (fun h10 => ?_) (fun h10 => ?_)
    ·
      obtain ⟨x, hx⟩ : ∃ x, l[k]? = some x := ⟨_, List.getElem?_eq_getElem (by omega)⟩
      have hol := sortR_len (l.take k); rw [List.length_take, Nat.min_eq_left (by omega)] at hol
      refine T_skip ?_
      refine hK5 _ _ ?_
      refine T_seq fun K7 hK7 => ?_
      refine T_block ?_
      refine T_seq fun K8 hK8 => ?_
      refine T_region ?_
      refine L_y (y_move rfl) rfl ?_
      refine L_y (y_len Try.underlying46 rfl) rfl ?_
      refine L_y (y_assign rfl) rfl ?_
      refine L_nil ?_
      refine hK8 _ _ ?_
      refine T_seq fun K9 hK9 => ?_
      refine T_block ?_
      refine T_loop1 [(0, _), (3, _), (4, _)] (fun (j : Nat) => [(5, .int .i64 (j : Int))]) (fun (j : Nat) => j) (fun (j : Nat) (w : World) => (j ≤ (sortR (l.take k)).length ∧ posR (sortR (l.take k)) x (sortR (l.take k)).length = posR (sortR (l.take k)) x j) ∧ Zx.St w0 noM [Zx.row 86 34 A1 (sortR (l.take k)).length c1 ((sortR (l.take k)).flatMap plf)] w) (sortR (l.take k)).length (Sub.cons rfl (by first | rfl | exact congrArg (Value.int _) (by omega)) (Sub.nil _)) (Sub.cons rfl rfl (Sub.cons rfl rfl (Sub.cons rfl rfl (Sub.nil _)))) ?_ ?_
      ·
        exact ⟨⟨by omega, rfl⟩, S1⟩
      ·
        intro j w2 hrel
        obtain ⟨⟨hj, hpos⟩, S2⟩ := hrel
        refine T_seq fun K10 hK10 => ?_
        refine T_seq fun K11 hK11 => ?_
        refine T_tail 14 hmix (by kernel_rfl) fun w3 l3 K12 hK12 => ?_
        have S3 := S2.like l3
        refine HL_y (y_move rfl) rfl ?_
        refine HL_y (y_gtr rfl rfl) rfl ?_
        refine HL_y (y_move rfl) rfl ?_
        refine HL_split 17 rfl (fun h17 => ?_) (fun h17 => ?_)
        ·
          obtain ⟨y, hy⟩ : ∃ y, (sortR (l.take k))[j - 1]? = some y := ⟨_, List.getElem?_eq_getElem (by omega)⟩
          refine HL_gyes rfl rfl ?_
          refine HL_y (y_move rfl) rfl ?_
          refine HL_gyes rfl rfl ?_
          refine HL_y (y_move rfl) rfl ?_
          refine HL_gyes rfl rfl ?_
          refine HL_y (y_idx Try.underlying46 sz86 rfl rfl (S3.rd hl) inferInstance (by omega)) rfl ?_
          refine HL_gyes rfl rfl ?_
          refine HL_y (y_fieldR 0 Try.underlying86 rfl sz23 rfl rfl (S3.rd hl) (by omega) rfl) rfl ?_
          refine HL_gyes rfl rfl ?_
          refine HL_y (y_ldfN Try.underlying23 rfl sz23 rfl (S3.rd hl) (by omega) (pl_part hx) (idf_len _)) rfl ?_
          refine HL_gyes rfl rfl ?_
          refine HL_y (y_move rfl) rfl ?_
          refine HL_gyes rfl rfl ?_
          refine HL_y (y_move rfl) rfl ?_
          refine HL_gyes rfl rfl ?_
          refine HL_y (y_sub rfl rfl (i64w (by omega))) rfl ?_
          refine HL_gyes rfl rfl ?_
          refine HL_y (y_idx Try.underlying46 sz86 rfl rfl (S3.row 0 rfl) (Nt.mk (by omega) : Nt _ (j - 1)) (by omega)) rfl ?_
          refine HL_gyes rfl rfl ?_
          refine HL_y (y_fieldR 0 Try.underlying86 rfl sz23 rfl rfl (S3.row 0 rfl) (by omega) rfl) rfl ?_
          refine HL_gyes rfl rfl ?_
          refine HL_y (y_ldfN Try.underlying23 rfl sz23 rfl (S3.row 0 rfl) (by omega) (pl_part hy) (idf_len _)) rfl ?_
          refine HL_nil ?_
          refine hK12 _ ?_
          refine L_gyes rfl rfl ?_
          refine L_o (o_call Try.func80 rfl rfl (Oid.cBelow x.id y.id w3) rfl rfl ?_)
          rintro e5 w5 ⟨v5, rfl, l5, rfl⟩
          refine ⟨_, rfl, ?_⟩
          have S5 := S3.like l5
          refine L_y ((by first | exact y_pickT rfl rfl | exact y_pickF rfl rfl)) rfl ?_
          refine L_nil ?_
          refine hK11 _ _ ?_
          refine T_condB rfl (fun h30 => ?_) (fun h30 => ?_)
          ·
            refine T_skip ?_
            refine hK10 _ _ ?_
            refine T_block ?_
            refine T_region ?_
            refine L_y (y_move rfl) rfl ?_
            refine L_y (y_sub rfl rfl (i64w (by omega))) rfl ?_
            refine L_y (y_assign rfl) rfl ?_
            refine L_nil ?_
            refine ⟨j - 1, by omega, ⟨⟨by omega, by rw [hpos, show j = (j - 1) + 1 by omega, posR, if_pos (by rw [getD_of hy]; exact h30)]; rfl⟩, S5⟩, ?_⟩
            exact (Sub.cons rfl (by first | rfl | exact congrArg (Value.int _) (by omega)) (Sub.cons rfl rfl (Sub.cons rfl rfl (Sub.cons rfl rfl (Sub.nil _)))))
          ·
            have hat0 : posR (sortR (l.take k)) x j = j := by rw [show j = (j - 1) + 1 by omega, posR, if_neg (by rw [getD_of hy, h30]; decide)]
            refine T_exit ?_
            refine hK9 _ _ ?_
            refine T_seq fun K13 hK13 => ?_
            refine T_region ?_
            have S6 := S5.nilrow 86 34
            refine L_y (y_assign rfl) rfl ?_
            refine L_nil ?_
            refine hK13 _ _ ?_
            refine T_seq fun K14 hK14 => ?_
            have hc9 := (S6.row 0 rfl).cap; have hm9 := (S6.row 0 rfl).max
            refine T_region ?_
            refine L_y (y_move rfl) rfl ?_
            refine L_y (y_move rfl) rfl ?_
            refine L_y (y_move rfl) rfl ?_
            refine L_y (y_sliceH Try.underlying46 sz86 rfl rfl inferInstance (by omega)) rfl ?_
            refine L_o (o_app te46 S6 1 rfl rfl rfl (sub_rsP (S6.row 0 rfl) (a := 0) (b := j) (by omega) (by omega)) (flatP_one _) rfl (by omega) (by omega) fun A7 c7 w7 S7 => ?_)
            refine L_y (y_assign rfl) rfl ?_
            refine L_nil ?_
            refine hK14 _ _ ?_
            refine T_seq fun K15 hK15 => ?_
            refine T_region ?_
            refine L_y (y_move rfl) rfl ?_
            refine L_y (y_move rfl) rfl ?_
            refine L_y (y_move rfl) rfl ?_
            refine L_y (y_idx Try.underlying46 sz86 rfl rfl (S7.rd hl) inferInstance (by omega)) rfl ?_
            refine L_y (y_ldp (f := plf) plf_len Try.underlying86 rfl sz86 rfl (S7.rd hl) (by omega) hx) rfl ?_
            refine L_o (o_bsl (plf x) te46 zz86 S7 rfl rfl rfl (by simp [Value.cells, plf_len]) (by simp [Value.cells]) rfl rfl rfl fun b8 w8 S8 => ?_)
            refine L_o (o_app te46 S8 1 rfl rfl rfl (by first | exact S8.row 0 rfl | exact S8.row 1 rfl | exact S8.row 2 rfl) (plf_one _) rfl (by omega) (by omega) fun A9 c9 w9 S9 => ?_)
            have S9d := S9.drop (rs' := [_, _]) (.cons_cons _ (.cons_cons _ (.cons _ (.refl _))))
            refine L_y (y_assign rfl) rfl ?_
            refine L_nil ?_
            refine hK15 _ _ ?_
            refine T_region ?_
            refine L_y (y_move rfl) rfl ?_
            refine L_y (y_move rfl) rfl ?_
            refine L_y (y_move rfl) rfl ?_
            refine L_y (y_sliceL Try.underlying46 sz86 rfl rfl inferInstance (by omega)) rfl ?_
            refine L_o (o_app te46 S9d 1 rfl rfl rfl (sub_rsP (S9d.row 0 rfl) (a := j) (b := (sortR (l.take k)).length) (by omega) (by omega)) (flatP_one _) rfl (by omega) (by omega) fun A10 c10 w10 S10 => ?_)
            refine L_y (y_assign rfl) rfl ?_
            refine L_nil ?_
            refine hK7 _ _ ?_
            refine T_region ?_
            refine L_y (y_move rfl) rfl ?_
            refine L_y (y_add rfl rfl (i64w (by omega))) rfl ?_
            refine L_y (y_assign rfl) rfl ?_
            refine L_nil ?_
            have S91 := S10.sel [1] (by decide)
            have S92 := S91.rowc 0 rfl (n' := (sortR (l.take (k + 1))).length) (xs' := (sortR (l.take (k + 1))).flatMap plf) (by rw [sortR_step hx, insR_len]; omega) (by rw [sortR_step hx, ← ins_flat hj (hpos.trans hat0)])
            refine ⟨k + 1, _, _, by omega, ⟨by omega, S92⟩, ?_⟩
            exact (Sub.cons rfl (by first | rfl | exact congrArg (Value.int _) (by omega)) (Sub.cons rfl (by rw [sortR_step hx, insR_len]; congr 1; omega) (Sub.cons rfl rfl (Sub.nil _))))
        ·
          have hat0 : posR (sortR (l.take k)) x j = j := by rw [show j = 0 by omega]; rfl
          refine HL_gno rfl rfl rfl ?_
          refine HL_gno rfl rfl rfl ?_
          refine HL_gno rfl rfl rfl ?_
          refine HL_gno rfl rfl rfl ?_
          refine HL_gno rfl rfl rfl ?_
          refine HL_gno rfl rfl rfl ?_
          refine HL_gno rfl rfl rfl ?_
          refine HL_gno rfl rfl rfl ?_
          refine HL_gno rfl rfl rfl ?_
          refine HL_gno rfl rfl rfl ?_
          refine HL_gno rfl rfl rfl ?_
          refine HL_nil ?_
          refine hK12 _ ?_
          refine L_gno rfl rfl rfl ?_
          refine L_y ((by first | exact y_pickT rfl rfl | exact y_pickF rfl rfl)) rfl ?_
          refine L_nil ?_
          refine hK11 _ _ ?_
          refine T_false rfl ?_
          refine T_exit ?_
          refine hK9 _ _ ?_
          refine T_seq fun K16 hK16 => ?_
          refine T_region ?_
          have S11 := S3.nilrow 86 34
          refine L_y (y_assign rfl) rfl ?_
          refine L_nil ?_
          refine hK16 _ _ ?_
          refine T_seq fun K17 hK17 => ?_
          have hc9 := (S11.row 0 rfl).cap; have hm9 := (S11.row 0 rfl).max
          refine T_region ?_
          refine L_y (y_move rfl) rfl ?_
          refine L_y (y_move rfl) rfl ?_
          refine L_y (y_move rfl) rfl ?_
          refine L_y (y_sliceH Try.underlying46 sz86 rfl rfl inferInstance (by omega)) rfl ?_
          refine L_o (o_app te46 S11 1 rfl rfl rfl (sub_rsP (S11.row 0 rfl) (a := 0) (b := j) (by omega) (by omega)) (flatP_one _) rfl (by omega) (by omega) fun A12 c12 w12 S12 => ?_)
          refine L_y (y_assign rfl) rfl ?_
          refine L_nil ?_
          refine hK17 _ _ ?_
          refine T_seq fun K18 hK18 => ?_
          refine T_region ?_
          refine L_y (y_move rfl) rfl ?_
          refine L_y (y_move rfl) rfl ?_
          refine L_y (y_move rfl) rfl ?_
          refine L_y (y_idx Try.underlying46 sz86 rfl rfl (S12.rd hl) inferInstance (by omega)) rfl ?_
          refine L_y (y_ldp (f := plf) plf_len Try.underlying86 rfl sz86 rfl (S12.rd hl) (by omega) hx) rfl ?_
          refine L_o (o_bsl (plf x) te46 zz86 S12 rfl rfl rfl (by simp [Value.cells, plf_len]) (by simp [Value.cells]) rfl rfl rfl fun b13 w13 S13 => ?_)
          refine L_o (o_app te46 S13 1 rfl rfl rfl (by first | exact S13.row 0 rfl | exact S13.row 1 rfl | exact S13.row 2 rfl) (plf_one _) rfl (by omega) (by omega) fun A14 c14 w14 S14 => ?_)
          have S14d := S14.drop (rs' := [_, _]) (.cons_cons _ (.cons_cons _ (.cons _ (.refl _))))
          refine L_y (y_assign rfl) rfl ?_
          refine L_nil ?_
          refine hK18 _ _ ?_
          refine T_region ?_
          refine L_y (y_move rfl) rfl ?_
          refine L_y (y_move rfl) rfl ?_
          refine L_y (y_move rfl) rfl ?_
          refine L_y (y_sliceL Try.underlying46 sz86 rfl rfl inferInstance (by omega)) rfl ?_
          refine L_o (o_app te46 S14d 1 rfl rfl rfl (sub_rsP (S14d.row 0 rfl) (a := j) (b := (sortR (l.take k)).length) (by omega) (by omega)) (flatP_one _) rfl (by omega) (by omega) fun A15 c15 w15 S15 => ?_)
          refine L_y (y_assign rfl) rfl ?_
          refine L_nil ?_
          refine hK7 _ _ ?_
          refine T_region ?_
          refine L_y (y_move rfl) rfl ?_
          refine L_y (y_add rfl rfl (i64w (by omega))) rfl ?_
          refine L_y (y_assign rfl) rfl ?_
          refine L_nil ?_
          have S91 := S15.sel [1] (by decide)
          have S92 := S91.rowc 0 rfl (n' := (sortR (l.take (k + 1))).length) (xs' := (sortR (l.take (k + 1))).flatMap plf) (by rw [sortR_step hx, insR_len]; omega) (by rw [sortR_step hx, ← ins_flat hj (hpos.trans hat0)])
          refine ⟨k + 1, _, _, by omega, ⟨by omega, S92⟩, ?_⟩
          exact (Sub.cons rfl (by first | rfl | exact congrArg (Value.int _) (by omega)) (Sub.cons rfl (by rw [sortR_step hx, insR_len]; congr 1; omega) (Sub.cons rfl rfl (Sub.nil _))))
    ·
      refine T_exit ?_
      refine hK3 _ _ ?_
      refine T_seq fun K19 hK19 => ?_
      refine T_region ?_
      refine L_y (y_move rfl) rfl ?_
      refine L_y (y_assign rfl) rfl ?_
      refine L_nil ?_
      refine hK19 _ _ ?_
      refine T_ret ?_
      repeat (first | with_reducible refine up_then ?_ | with_reducible refine up_in ?_)
      refine ret1 rfl rfl ?_
      have hke : k = l.length := by omega
      subst hke
      rw [List.take_length] at S1
      have S93 := S1.rowc 0 rfl (sortR_len l) rfl
      rw [List.take_length, sortR_len]
      exact ⟨_, rfl, S1.like0, _, _, rfl, S93.own 0 rfl⟩
end Go.Proofs.Ytgaklngnfecdaaa.Idx


/-
  Make of the document.
-/
namespace Go.Proofs.Ytgaklngnfecdaaa.Idx
open Go.RowKit Zk Zx
open Oid (idf idf_len cmpL)
set_option linter.unusedVariables false
set_option linter.unusedSimpArgs false

theorem cl_step {l : List Row} {j m : Nat} {y : Row} (hy : l[j]? = some y) : cl (l.take (j + 1)) m = cl (l.take j) m + (if fb y < m then 1 else 0) := by
  unfold cl
  rw [take1L hy, List.countP_append]
  by_cases h : fb y < m <;> simp [h]
theorem cl_take (l : List Row) (j m : Nat) : cl (l.take j) m ≤ l.length := Nat.le_trans (cl_le _ _) (by rw [List.length_take]; omega)
theorem i_u64 {x : Int} (h : 0 ≤ x) (h2 : x ≤ 4294967295) : IntKind.u64.wrap x = ((x.toNat : Nat) : Int) := by
  rw [IntKind.wrap_u64]
  omega
theorem catP2 (A B : Option Addr) (n c m d : Nat) (a b : List UInt8) : catP [⟨A, n, c, a⟩, ⟨B, m, d, b⟩] = a ++ b := by simp [catP]
theorem no_any {l : List Row} {k : Nat} {x : Row} (hx : l[k]? = some x) (h0 : (l.take k).any farB = false) (h1 : ¬ x.at_ < 0) (h2 : ¬ x.at_ > 1048576) : (l.take (k + 1)).any farB = false := by
  rw [any_step hx, h0]
  simp [farB]
  omega
theorem any_of {l : List Row} {k : Nat} {x : Row} (hx : l[k]? = some x) (h : x.at_ < 0 ∨ 1048576 < x.at_) : l.any farB = true := by
  rw [List.any_eq_true]
  refine ⟨x, List.mem_of_getElem? hx, ?_⟩
  simp [farB]
  omega
theorem any_perm {l m : List Row} (hp : l.Perm m) : l.any farB = m.any farB := by
  rw [Bool.eq_iff_iff, List.any_eq_true, List.any_eq_true]
  exact ⟨fun ⟨x, h, q⟩ => ⟨x, hp.mem_iff.1 h, q⟩, fun ⟨x, h, q⟩ => ⟨x, hp.mem_iff.2 h, q⟩⟩


set_option maxRecDepth 100000 in
theorem rmake (A : Option Addr) (n c : Nat) (l : List Row) (of : Oid.Id) (w0 : World) (hl : Rs w0 34 A n c (l.flatMap plf)) (hsm : ∀ x ∈ l, SumOk x) (hl9 : l.length ≤ 1000) :
    Calls Try.prog 26 #[.slice A n c, .agg (idf of).toArray] w0 fun e w' => ∃ u, e = .returned u ∧ Like w0 w' ∧ ∃ A' m c' bs, u = .tuple #[.slice A' m c', .int .i64 (mkE l)] ∧ Made l of bs ∧ w'.ownsRow w0.heap.size 5 1 (.slice A' m c') m (bL bs) := by
  refine enter1 (env := [(0, .slice A n c), (1, .agg (idf of).toArray)]) [.slice A n c, .agg (idf of).toArray] Try.func26 rfl Try.ntmps26 rfl rfl ?_
  have hn := places_len hl; have hcap := hl.cap; have hmax := hl.max
  have S0 := St.start w0 noM
  refine T_seq fun K1 hK1 => ?_
  refine T_region ?_
  refine L_o (o_box rfl S0 rfl fun b1 w1 hb1 S1 => ?_)
  refine L_y (y_assign rfl) rfl ?_
  refine L_y (y_assign rfl) rfl ?_
  refine L_nil ?_
  refine hK1 _ _ ?_
  refine T_seq fun K2 hK2 => ?_
  refine T_seq fun K3 hK3 => ?_
  refine T_region ?_
  refine L_y (y_move rfl) rfl ?_
  refine L_y (y_len Try.underlying46 rfl) rfl ?_
  refine L_y (y_gtr rfl rfl) rfl ?_
  refine L_nil ?_
  refine hK3 _ _ ?_
  refine T_cond rfl (fun h18 => ?_) (fun h18 => ?_)
  ·
    refine T_seq fun K4 hK4 => ?_
    refine T_region ?_
    refine L_y (y_assign rfl) rfl ?_
    refine L_y (y_assign rfl) rfl ?_
    refine L_nil ?_
    refine hK4 _ _ ?_
    refine T_ret ?_
    repeat (first | with_reducible refine up_then ?_ | with_reducible refine up_in ?_)
    refine ret2 rfl rfl rfl ?_
    have he : mkE l = 5 := by unfold mkE; rw [if_pos (by omega)]
    exact ⟨_, rfl, S1.like0, none, 0, 0, [], by rw [he], .inl ⟨by rw [he]; decide, rfl⟩, World.ownsRow_nil _ _ _ _⟩
  ·
    refine T_skip ?_
    refine hK2 _ _ ?_
    refine T_seq fun K5 hK5 => ?_
    refine T_region ?_
    refine L_y (y_move rfl) rfl ?_
    refine L_o (o_call Try.func66 rfl rfl (rsorted A n c l w1 (S1.rd hl) hl9) rfl rfl ?_)
    rintro e2 w2 ⟨v2, rfl, l2, A20, c20, rfl, O2⟩
    refine ⟨_, rfl, ?_⟩
    have S2 := S1.adopt l2 O2
    obtain ⟨zs, hzs⟩ : ∃ zs, zs = sortR l := ⟨_, rfl⟩
    rw [← hzs] at S2
    have hp : zs.Perm l := hzs ▸ sortR_perm l
    have hwk : WkR zs := hzs ▸ sortR_wk l
    have hzl : zs.length = l.length := hp.length_eq
    refine L_y (y_assign rfl) rfl ?_
    refine L_nil ?_
    refine hK5 _ _ ?_
    refine T_seq fun K6 hK6 => ?_
    refine T_seq fun K7 hK7 => ?_
    refine T_region ?_
    refine L_y (y_assign rfl) rfl ?_
    refine L_nil ?_
    refine hK7 _ _ ?_
    refine T_block ?_
    refine T_loop1 [(3, _), (6, _)] (fun (k : Nat) => [(7, .int .i64 (k : Int))]) (fun (k : Nat) => l.length - k) (fun (k : Nat) (w : World) => (k ≤ l.length ∧ ∀ i x y, i < k → zs[i]? = some x → zs[i + 1]? = some y → x.id ≠ y.id) ∧ Zx.St w0 noM [blk b1 23 (idf of).toArray, Zx.row 86 34 A20 l.length c20 (zs.flatMap plf)] w) 0 (Sub.cons rfl (by first | rfl | exact congrArg (Value.int _) (by omega)) (Sub.nil _)) (Sub.cons rfl rfl (Sub.cons rfl rfl (Sub.nil _))) ?_ ?_
    ·
      exact ⟨⟨by omega, fun i x y hi => by omega⟩, S2⟩
    ·
      intro k w3 hrel
      obtain ⟨⟨hk, hdf⟩, S3⟩ := hrel
      refine T_seq fun K8 hK8 => ?_
      refine T_seq fun K9 hK9 => ?_
      refine T_region ?_
      refine L_y (y_move rfl) rfl ?_
      refine L_y (y_add rfl rfl (i64w (by omega))) rfl ?_
      refine L_y (y_move rfl) rfl ?_
      refine L_y (y_len Try.underlying46 rfl) rfl ?_
      refine L_y (y_lss rfl rfl) rfl ?_
      refine L_nil ?_
      refine hK9 _ _ ?_
      refine T_cond rfl (fun h25 => ?_) (fun h25 => ?_)
      ·
        obtain ⟨x, hx⟩ : ∃ x, zs[k]? = some x := ⟨_, List.getElem?_eq_getElem (by omega)⟩
        obtain ⟨y, hy⟩ : ∃ y, zs[k + 1]? = some y := ⟨_, List.getElem?_eq_getElem (by omega)⟩
        refine T_skip ?_
        refine hK8 _ _ ?_
        refine T_seq fun K10 hK10 => ?_
        refine T_block ?_
        refine T_seq fun K11 hK11 => ?_
        refine T_drawnL [(0, true), (1, true), (2, true), (3, true), (4, true), (5, true), (6, true), (7, true), (8, true), (9, true), (10, true), (11, true)] hmix (by kernel_rfl) fun w4 l4 => ?_
        have S4 := S3.like l4
        refine DL_y rfl (y_move rfl) rfl ?_
        refine DL_y rfl (y_move rfl) rfl ?_
        refine DL_y rfl (y_idx Try.underlying46 sz86 rfl rfl (S4.row 1 rfl) inferInstance (by omega)) rfl ?_
        refine DL_y rfl (y_fieldR 0 Try.underlying86 rfl sz23 rfl rfl (S4.row 1 rfl) (by omega) rfl) rfl ?_
        refine DL_y rfl (y_ldfN Try.underlying23 rfl sz23 rfl (S4.row 1 rfl) (by omega) (pl_part hx) (idf_len _)) rfl ?_
        refine DL_y rfl (y_move rfl) rfl ?_
        refine DL_y rfl (y_move rfl) rfl ?_
        refine DL_y rfl (y_add rfl rfl (i64w (by omega))) rfl ?_
        refine DL_y rfl (y_idx Try.underlying46 sz86 rfl rfl (S4.row 1 rfl) (Nt.mk (by omega) : Nt _ (k + 1)) (by omega)) rfl ?_
        refine DL_y rfl (y_fieldR 0 Try.underlying86 rfl sz23 rfl rfl (S4.row 1 rfl) (by omega) rfl) rfl ?_
        refine DL_y rfl (y_ldfN Try.underlying23 rfl sz23 rfl (S4.row 1 rfl) (by omega) (pl_part hy) (idf_len _)) rfl ?_
        refine DL_y rfl (y_eqB Try.underlying23 Try.underlying5 sz5 (by kernel_rfl) rfl rfl (Oid.Id.h _) (Oid.Id.h _)) rfl ?_
        refine DL_nil ?_
        refine hK11 _ _ ?_
        refine T_cond rfl (fun h39 => ?_) (fun h39 => ?_)
        ·
          refine T_seq fun K12 hK12 => ?_
          refine T_region ?_
          refine L_y (y_assign rfl) rfl ?_
          refine L_y (y_assign rfl) rfl ?_
          refine L_nil ?_
          refine hK12 _ _ ?_
          refine T_ret ?_
          repeat (first | with_reducible refine up_then ?_ | with_reducible refine up_in ?_)
          refine ret2 rfl rfl rfl ?_
          have hnn : ¬ (l.map Row.id).Nodup := fun hn9 => not_nodup hx hy (Oid.Id.ext h39) ((hp.map Row.id).nodup_iff.2 hn9)
          have he : mkE l = 17 := by unfold mkE; rw [if_neg (by omega), if_pos hnn]
          exact ⟨_, rfl, S4.like0, none, 0, 0, [], by rw [he], .inl ⟨by rw [he]; decide, rfl⟩, World.ownsRow_nil _ _ _ _⟩
        ·
          refine T_skip ?_
          refine hK10 _ _ ?_
          refine T_region ?_
          refine L_y (y_move rfl) rfl ?_
          refine L_y (y_add rfl rfl (i64w (by omega))) rfl ?_
          refine L_y (y_assign rfl) rfl ?_
          refine L_nil ?_
          refine ⟨k + 1, by omega, ⟨⟨by omega, fun i p q hi hp9 hq9 => by rcases Nat.lt_or_ge i k with r | r; exact hdf i p q r hp9 hq9; (have e9 : i = k := by omega); subst e9; rw [hx] at hp9; cases hp9; rw [hy] at hq9; cases hq9; exact fun e => h39 (by rw [e])⟩, S4⟩, ?_⟩
          exact (Sub.cons rfl (by first | rfl | exact congrArg (Value.int _) (by omega)) (Sub.cons rfl rfl (Sub.cons rfl rfl (Sub.nil _))))
      ·
        have hst : StR zs := WkR.strict hwk (fun i x y hi hx hy => hdf i x y (by omega) hx hy)
        have hnd : (l.map Row.id).Nodup := (hp.map Row.id).nodup_iff.1 hst.nodup
        refine T_exit ?_
        refine hK6 _ _ ?_
        refine T_seq fun K13 hK13 => ?_
        refine T_seq fun K14 hK14 => ?_
        refine T_region ?_
        refine L_y (y_assign rfl) rfl ?_
        refine L_nil ?_
        refine hK14 _ _ ?_
        refine T_block ?_
        refine T_loop1 [(3, _), (6, _)] (fun (k : Nat) => [(8, .int .i64 (k : Int))]) (fun (k : Nat) => l.length - k) (fun (k : Nat) (w : World) => (k ≤ l.length ∧ (zs.take k).any farB = false) ∧ Zx.St w0 noM [blk b1 23 (idf of).toArray, Zx.row 86 34 A20 l.length c20 (zs.flatMap plf)] w) 0 (Sub.cons rfl (by first | rfl | exact congrArg (Value.int _) (by omega)) (Sub.nil _)) (Sub.cons rfl rfl (Sub.cons rfl rfl (Sub.nil _))) ?_ ?_
        ·
          exact ⟨⟨by omega, rfl⟩, S3⟩
        ·
          intro k w5 hrel
          obtain ⟨⟨hk, hfk⟩, S5⟩ := hrel
          refine T_seq fun K15 hK15 => ?_
          refine T_seq fun K16 hK16 => ?_
          refine T_region ?_
          refine L_y (y_move rfl) rfl ?_
          refine L_y (y_move rfl) rfl ?_
          refine L_y (y_len Try.underlying46 rfl) rfl ?_
          refine L_y (y_lss rfl rfl) rfl ?_
          refine L_nil ?_
          refine hK16 _ _ ?_
          refine T_cond rfl (fun h43 => ?_) (fun h43 => ?_)
          ·
            obtain ⟨x, hx⟩ : ∃ x, zs[k]? = some x := ⟨_, List.getElem?_eq_getElem (by omega)⟩
            refine T_skip ?_
            refine hK15 _ _ ?_
            refine T_seq fun K17 hK17 => ?_
            refine T_block ?_
            refine T_seq fun K18 hK18 => ?_
            refine T_region ?_
            refine L_y (y_move rfl) rfl ?_
            refine L_y (y_move rfl) rfl ?_
            refine L_y (y_idx Try.underlying46 sz86 rfl rfl (S5.row 1 rfl) inferInstance (by omega)) rfl ?_
            refine L_y (y_fieldR 32 Try.underlying86 rfl sz3 rfl rfl (S5.row 1 rfl) (by omega) rfl) rfl ?_
            refine L_y (y_ldf Try.underlying3 rfl rfl (S5.row 1 rfl) (by omega) (pl_c32 hx)) rfl ?_
            refine L_y (y_lss rfl rfl) rfl ?_
            refine L_y (y_move rfl) rfl ?_
            refine L_split 52 rfl (fun h52 => ?_) (fun h52 => ?_)
            ·
              refine L_gno rfl rfl rfl ?_
              refine L_gno rfl rfl rfl ?_
              refine L_gno rfl rfl rfl ?_
              refine L_gno rfl rfl rfl ?_
              refine L_gno rfl rfl rfl ?_
              refine L_gno rfl rfl rfl ?_
              refine L_y ((by first | exact y_pickT rfl rfl | exact y_pickF rfl rfl)) rfl ?_
              refine L_nil ?_
              refine hK18 _ _ ?_
              refine T_true rfl ?_
              refine T_seq fun K19 hK19 => ?_
              refine T_region ?_
              refine L_y (y_assign rfl) rfl ?_
              refine L_y (y_assign rfl) rfl ?_
              refine L_nil ?_
              refine hK19 _ _ ?_
              refine T_ret ?_
              repeat (first | with_reducible refine up_then ?_ | with_reducible refine up_in ?_)
              refine ret2 rfl rfl rfl ?_
              have hfa : l.any farB = true := by rw [← any_perm hp]; exact any_of hx (by omega)
              have he : mkE l = 2 := by unfold mkE; rw [if_neg (by omega), if_neg (fun h => h hnd), if_pos hfa]
              exact ⟨_, rfl, S5.like0, none, 0, 0, [], by rw [he], .inl ⟨by rw [he]; decide, rfl⟩, World.ownsRow_nil _ _ _ _⟩
            ·
              refine L_gyes rfl rfl ?_
              refine L_y (y_move rfl) rfl ?_
              refine L_gyes rfl rfl ?_
              refine L_y (y_move rfl) rfl ?_
              refine L_gyes rfl rfl ?_
              refine L_y (y_idx Try.underlying46 sz86 rfl rfl (S5.row 1 rfl) inferInstance (by omega)) rfl ?_
              refine L_gyes rfl rfl ?_
              refine L_y (y_fieldR 32 Try.underlying86 rfl sz3 rfl rfl (S5.row 1 rfl) (by omega) rfl) rfl ?_
              refine L_gyes rfl rfl ?_
              refine L_y (y_ldf Try.underlying3 rfl rfl (S5.row 1 rfl) (by omega) (pl_c32 hx)) rfl ?_
              refine L_gyes rfl rfl ?_
              refine L_y (y_gtr rfl rfl) rfl ?_
              refine L_y ((by first | exact y_pickT rfl rfl | exact y_pickF rfl rfl)) rfl ?_
              refine L_nil ?_
              refine hK18 _ _ ?_
              refine T_cond rfl (fun h59 => ?_) (fun h59 => ?_)
              ·
                refine T_seq fun K20 hK20 => ?_
                refine T_region ?_
                refine L_y (y_assign rfl) rfl ?_
                refine L_y (y_assign rfl) rfl ?_
                refine L_nil ?_
                refine hK20 _ _ ?_
                refine T_ret ?_
                repeat (first | with_reducible refine up_then ?_ | with_reducible refine up_in ?_)
                refine ret2 rfl rfl rfl ?_
                have hfa : l.any farB = true := by rw [← any_perm hp]; exact any_of hx (by omega)
                have he : mkE l = 2 := by unfold mkE; rw [if_neg (by omega), if_neg (fun h => h hnd), if_pos hfa]
                exact ⟨_, rfl, S5.like0, none, 0, 0, [], by rw [he], .inl ⟨by rw [he]; decide, rfl⟩, World.ownsRow_nil _ _ _ _⟩
              ·
                refine T_skip ?_
                refine hK17 _ _ ?_
                refine T_region ?_
                refine L_y (y_move rfl) rfl ?_
                refine L_y (y_add rfl rfl (i64w (by omega))) rfl ?_
                refine L_y (y_assign rfl) rfl ?_
                refine L_nil ?_
                refine ⟨k + 1, by omega, ⟨⟨by omega, no_any hx hfk h52 h59⟩, S5⟩, ?_⟩
                exact (Sub.cons rfl (by first | rfl | exact congrArg (Value.int _) (by omega)) (Sub.cons rfl rfl (Sub.cons rfl rfl (Sub.nil _))))
          ·
            have hke : k = l.length := by omega
            subst hke
            have hfar : zs.any farB = false := by rw [List.take_of_length_le (by omega)] at hfk; exact hfk
            have hro : ∀ x ∈ zs, RowOk x := fun x hx => rowOk_of hsm (by rw [← any_perm hp]; exact hfar) x (hp.mem_iff.1 hx)
            refine T_exit ?_
            refine hK13 _ _ ?_
            refine T_seq fun K21 hK21 => ?_
            refine T_region ?_
            refine L_o (o_bsl [_, _, _, _] te27 zz5 S5 rfl rfl rfl rfl rfl rfl rfl rfl fun b7 w7 S7 => ?_)
            refine L_o (o_bconst S7 2 rfl Try.underlying27 Try.underlying5 rfl (by omega) rfl fun w8 S8 => ?_)
            refine L_o (o_call Try.func68 rfl rfl (Oct.refbig (1) 4 w8 (by omega) (by omega)) rfl rfl ?_)
            rintro e9 w9 ⟨v9, rfl, l9, A9, m9, c9, rfl, O9⟩
            refine ⟨_, rfl, ?_⟩
            have S9 := S8.adopt l9 O9
            have hm9 := (S9.row 3 rfl).lenb; rw [Oct.length_tl] at hm9
            refine L_o (o_bsl [_, _] te177 zz27 S9 rfl rfl rfl rfl rfl rfl rfl rfl fun b10 w10 S10 => ?_)
            refine L_o (o_call Try.func67 rfl rfl (rjoin _ _ _ [⟨_, 4, 4, [73, 78, 68, 88]⟩, ⟨_, _, _, Oct.tl 1 4⟩] w10 (S10.row 4 rfl) (okP.cons (S10.fix 2 rfl) (show 4 ≤ 100000 by omega) (okP.cons (S10.row 3 rfl) (show m9 ≤ 100000 by omega) (okP.nil _ _))) (by simp)) rfl rfl ?_)
            rintro e11 w11 ⟨v11, rfl, l11, A11, c11, rfl, O11⟩
            refine ⟨_, rfl, ?_⟩
            have S11 := S10.adopt l11 O11
            refine L_y (y_assign rfl) rfl ?_
            refine L_nil ?_
            refine hK21 _ _ ?_
            refine T_seq fun K22 hK22 => ?_
            refine T_seq fun K23 hK23 => ?_
            refine T_region ?_
            refine L_y (y_assign rfl) rfl ?_
            refine L_nil ?_
            refine hK23 _ _ ?_
            refine T_block ?_
            refine T_loop3 [(3, _), (6, _)] (fun (k : Nat) (A1 : Option Addr) (c1 : Nat) => [(10, .int .i64 (k : Int)), (9, .slice A1 (8 + 4 * k) c1)]) (fun (k : Nat) (A1 : Option Addr) (c1 : Nat) => 256 - k) (fun (k : Nat) (A1 : Option Addr) (c1 : Nat) (w : World) => k ≤ 256 ∧ Zx.St w0 noM [blk b1 23 (idf of).toArray, Zx.row 86 34 A20 l.length c20 (zs.flatMap plf), Zx.row 5 1 A1 (8 + 4 * k) c1 (bL (headB ++ fanB zs k))] w) 0 A11 c11 (Sub.cons rfl (by first | rfl | exact congrArg (Value.int _) (by omega) | (congr 1; omega)) (Sub.cons rfl (by first | rfl | exact congrArg (Value.int _) (by omega) | (congr 1; omega)) (Sub.nil _))) (Sub.cons rfl rfl (Sub.cons rfl rfl (Sub.nil _))) ?_ ?_
            ·
              have S90 := S11.sel [0, 1, 5] (by decide)
              have S91 := S90.rowc 2 rfl (n' := 8 + 4 * 0) (xs' := bL (headB ++ fanB zs 0)) (by rw [catP2, List.length_append, Oct.length_tl]; rfl) (by rw [catP2]; rfl)
              exact ⟨by omega, S91⟩
            ·
              intro k A1 c1 w12 hrel
              obtain ⟨hk, S12⟩ := hrel
              refine T_seq fun K24 hK24 => ?_
              refine T_seq fun K25 hK25 => ?_
              refine T_region ?_
              refine L_y (y_move rfl) rfl ?_
              refine L_y (y_lss rfl rfl) rfl ?_
              refine L_nil ?_
              refine hK25 _ _ ?_
              refine T_cond rfl (fun h66 => ?_) (fun h66 => ?_)
              ·
                refine T_skip ?_
                refine hK24 _ _ ?_
                refine T_seq fun K26 hK26 => ?_
                refine T_block ?_
                refine T_seq fun K27 hK27 => ?_
                refine T_region ?_
                refine L_y (y_assign rfl) rfl ?_
                refine L_nil ?_
                refine hK27 _ _ ?_
                refine T_seq fun K28 hK28 => ?_
                refine T_seq fun K29 hK29 => ?_
                refine T_region ?_
                refine L_y (y_assign rfl) rfl ?_
                refine L_nil ?_
                refine hK29 _ _ ?_
                refine T_block ?_
                refine T_loop1 [(3, _), (6, _), (9, _), (10, _)] (fun (j : Nat) => [(12, .int .i64 (j : Int)), (11, .int .i64 (cl (zs.take j) (k + 1) : Int))]) (fun (j : Nat) => l.length - j) (fun (j : Nat) (w : World) => j ≤ l.length ∧ Zx.St w0 noM [blk b1 23 (idf of).toArray, Zx.row 86 34 A20 l.length c20 (zs.flatMap plf), Zx.row 5 1 A1 (8 + 4 * k) c1 (bL (headB ++ fanB zs k))] w) 0 (Sub.cons rfl (by first | rfl | (rw [List.take_zero]; rfl)) (Sub.cons rfl (by first | rfl | (rw [List.take_zero]; rfl)) (Sub.nil _))) (Sub.cons rfl rfl (Sub.cons rfl rfl (Sub.cons rfl rfl (Sub.cons rfl rfl (Sub.nil _))))) ?_ ?_
                ·
                  exact ⟨by omega, S12⟩
                ·
                  intro j w13 hrel
                  obtain ⟨hj, S13⟩ := hrel
                  refine T_seq fun K30 hK30 => ?_
                  refine T_seq fun K31 hK31 => ?_
                  refine T_region ?_
                  refine L_y (y_move rfl) rfl ?_
                  refine L_y (y_move rfl) rfl ?_
                  refine L_y (y_len Try.underlying46 rfl) rfl ?_
                  refine L_y (y_lss rfl rfl) rfl ?_
                  refine L_nil ?_
                  refine hK31 _ _ ?_
                  refine T_cond rfl (fun h72 => ?_) (fun h72 => ?_)
                  ·
                    obtain ⟨y, hy⟩ : ∃ y, zs[j]? = some y := ⟨_, List.getElem?_eq_getElem (by omega)⟩
                    have hcj := cl_take zs j (k + 1)
                    have hfy := fb_lt y
                    refine T_skip ?_
                    refine hK30 _ _ ?_
                    refine T_seq fun K32 hK32 => ?_
                    refine T_block ?_
                    refine T_seq fun K33 hK33 => ?_
                    refine T_region ?_
                    refine L_y (y_move rfl) rfl ?_
                    refine L_y (y_move rfl) rfl ?_
                    refine L_y (y_idx Try.underlying46 sz86 rfl rfl (S13.row 1 rfl) inferInstance (by omega)) rfl ?_
                    refine L_y (y_fieldR 0 Try.underlying86 rfl sz23 rfl rfl (S13.row 1 rfl) (by omega) rfl) rfl ?_
                    refine L_y (y_idxAR Try.underlying23 sz5 rfl (S13.row 1 rfl) (by omega) rfl inferInstance (by omega)) rfl ?_
                    refine L_y (y_ldf Try.underlying5 rfl rfl (S13.row 1 rfl) (by omega) (pl_c0 hy)) rfl ?_
                    refine L_y (y_conv is5 Try.underlying3 rfl (i64w (by omega))) rfl ?_
                    refine L_y (y_move rfl) rfl ?_
                    refine L_y (y_leq rfl rfl) rfl ?_
                    refine L_nil ?_
                    refine hK33 _ _ ?_
                    refine T_cond rfl (fun h83 => ?_) (fun h83 => ?_)
                    ·
                      refine T_region ?_
                      refine L_y (y_move rfl) rfl ?_
                      refine L_y (y_add rfl rfl (i64w (by omega))) rfl ?_
                      refine L_y (y_assign rfl) rfl ?_
                      refine L_nil ?_
                      refine hK32 _ _ ?_
                      refine T_region ?_
                      refine L_y (y_move rfl) rfl ?_
                      refine L_y (y_add rfl rfl (i64w (by omega))) rfl ?_
                      refine L_y (y_assign rfl) rfl ?_
                      refine L_nil ?_
                      refine ⟨j + 1, by omega, ⟨by omega, S13⟩, ?_⟩
                      exact (Sub.cons rfl (by first | rfl | exact congrArg (Value.int _) (by omega)) (Sub.cons rfl (congrArg (Value.int _) (by rw [cl_step hy]; first | (rw [if_pos (by omega)]; omega) | (rw [if_neg (by omega)]; omega))) (Sub.cons rfl rfl (Sub.cons rfl rfl (Sub.cons rfl rfl (Sub.cons rfl rfl (Sub.nil _)))))))
                    ·
                      refine T_skip ?_
                      refine hK32 _ _ ?_
                      refine T_region ?_
                      refine L_y (y_move rfl) rfl ?_
                      refine L_y (y_add rfl rfl (i64w (by omega))) rfl ?_
                      refine L_y (y_assign rfl) rfl ?_
                      refine L_nil ?_
                      refine ⟨j + 1, by omega, ⟨by omega, S13⟩, ?_⟩
                      exact (Sub.cons rfl (by first | rfl | exact congrArg (Value.int _) (by omega)) (Sub.cons rfl (congrArg (Value.int _) (by rw [cl_step hy]; first | (rw [if_pos (by omega)]; omega) | (rw [if_neg (by omega)]; omega))) (Sub.cons rfl rfl (Sub.cons rfl rfl (Sub.cons rfl rfl (Sub.cons rfl rfl (Sub.nil _)))))))
                  ·
                    have hje : j = zs.length := by omega
                    subst hje
                    simp only [List.take_length]
                    have hck := cl_le zs (k + 1)
                    refine T_exit ?_
                    refine hK28 _ _ ?_
                    refine T_region ?_
                    refine L_y (y_move rfl) rfl ?_
                    refine L_y (y_move rfl) rfl ?_
                    refine L_y (y_conv is3 Try.underlying127 rfl (u64w (by omega))) rfl ?_
                    refine L_o (o_call Try.func68 rfl rfl (Oct.refbig (cl zs (k + 1)) 4 w13 (by omega) (by omega)) rfl rfl ?_)
                    rintro e14 w14 ⟨v14, rfl, l14, A14, m14, c14, rfl, O14⟩
                    refine ⟨_, rfl, ?_⟩
                    have S14 := S13.adopt l14 O14
                    have hm14 := (S14.row 3 rfl).lenb; rw [Oct.length_tl] at hm14
                    refine L_o (o_app te27 S14 2 rfl rfl rfl (by first | exact S14.row 1 rfl | exact S14.row 2 rfl | exact S14.row 3 rfl) (by first | exact bL_one _ | exact iL_one _ | (intro u hu; simp at hu; subst hu; rfl) | (simp; done) | (simp [Value.oneCell']; done)) rfl (by omega) (by omega) fun A15 c15 w15 S15 => ?_)
                    refine L_y (y_assign rfl) rfl ?_
                    refine L_nil ?_
                    refine hK26 _ _ ?_
                    refine T_region ?_
                    refine L_y (y_move rfl) rfl ?_
                    refine L_y (y_add rfl rfl (i64w (by omega))) rfl ?_
                    refine L_y (y_assign rfl) rfl ?_
                    refine L_nil ?_
                    have S91 := S15.sel [0, 1, 2] (by decide)
                    have S92 := S91.rowc 2 rfl (n' := 8 + 4 * (k + 1)) (xs' := bL (headB ++ fanB zs (k + 1))) (by omega) (by rw [bL_appI, List.append_assoc, fan_step])
                    refine ⟨k + 1, _, _, by omega, ⟨by omega, S92⟩, ?_⟩
                    exact (Sub.cons rfl (by first | rfl | exact congrArg (Value.int _) (by omega)) (Sub.cons rfl (by first | rfl | (congr 1; omega) | (congr 1)) (Sub.cons rfl rfl (Sub.cons rfl rfl (Sub.nil _)))))
              ·
                have hke : k = 256 := by omega
                subst hke
                refine T_exit ?_
                refine hK22 _ _ ?_
                refine T_seq fun K34 hK34 => ?_
                refine T_seq fun K35 hK35 => ?_
                refine T_region ?_
                refine L_y (y_assign rfl) rfl ?_
                refine L_nil ?_
                refine hK35 _ _ ?_
                refine T_block ?_
                refine T_loop3 [(3, _), (6, _)] (fun (k : Nat) (A1 : Option Addr) (c1 : Nat) => [(13, .int .i64 (k : Int)), (9, .slice A1 (1032 + 32 * k) c1)]) (fun (k : Nat) (A1 : Option Addr) (c1 : Nat) => l.length - k) (fun (k : Nat) (A1 : Option Addr) (c1 : Nat) (w : World) => k ≤ l.length ∧ Zx.St w0 noM [blk b1 23 (idf of).toArray, Zx.row 86 34 A20 l.length c20 (zs.flatMap plf), Zx.row 5 1 A1 (1032 + 32 * k) c1 (bL (headB ++ fanB zs 256 ++ idsB (zs.take k)))] w) 0 A1 c1 (Sub.cons rfl (by first | rfl | exact congrArg (Value.int _) (by omega) | (congr 1; omega)) (Sub.cons rfl (by first | rfl | exact congrArg (Value.int _) (by omega) | (congr 1; omega)) (Sub.nil _))) (Sub.cons rfl rfl (Sub.cons rfl rfl (Sub.nil _))) ?_ ?_
                ·
                  have S90 := S12.sel [0, 1, 2] (by decide)
                  have S91 := S90.rowc 2 rfl (n' := 1032 + 32 * 0) (xs' := bL (headB ++ fanB zs 256 ++ idsB (zs.take 0))) (by omega) (by rw [List.take_zero]; simp [idsB])
                  exact ⟨by omega, S91⟩
                ·
                  intro k A1 c1 w16 hrel
                  obtain ⟨hk, S16⟩ := hrel
                  refine T_seq fun K36 hK36 => ?_
                  refine T_seq fun K37 hK37 => ?_
                  refine T_region ?_
                  refine L_y (y_move rfl) rfl ?_
                  refine L_y (y_move rfl) rfl ?_
                  refine L_y (y_len Try.underlying46 rfl) rfl ?_
                  refine L_y (y_lss rfl rfl) rfl ?_
                  refine L_nil ?_
                  refine hK37 _ _ ?_
                  refine T_cond rfl (fun h94 => ?_) (fun h94 => ?_)
                  ·
                    obtain ⟨x, hx⟩ : ∃ x, zs[k]? = some x := ⟨_, List.getElem?_eq_getElem (by omega)⟩
                    refine T_skip ?_
                    refine hK36 _ _ ?_
                    refine T_seq fun K38 hK38 => ?_
                    refine T_block ?_
                    refine T_region ?_
                    refine L_y (y_move rfl) rfl ?_
                    refine L_y (y_move rfl) rfl ?_
                    refine L_y (y_move rfl) rfl ?_
                    refine L_y (y_idx Try.underlying46 sz86 rfl rfl (S16.row 1 rfl) inferInstance (by omega)) rfl ?_
                    refine L_y (y_fieldR 0 Try.underlying86 rfl sz23 rfl rfl (S16.row 1 rfl) (by omega) rfl) rfl ?_
                    refine L_y (y_ldfN Try.underlying23 rfl sz23 rfl (S16.row 1 rfl) (by omega) (pl_part hx) (idf_len _)) rfl ?_
                    refine L_o (o_call Try.func69 rfl rfl (rbytes x.id w16) rfl rfl ?_)
                    rintro e17 w17 ⟨v17, rfl, l17, A17, c17, rfl, O17⟩
                    refine ⟨_, rfl, ?_⟩
                    have S17 := S16.adopt l17 O17
                    refine L_o (o_app te27 S17 2 rfl rfl rfl (by first | exact S17.row 1 rfl | exact S17.row 2 rfl | exact S17.row 3 rfl) (by first | exact bL_one _ | exact iL_one _ | (intro u hu; simp at hu; subst hu; rfl) | (simp; done) | (simp [Value.oneCell']; done)) rfl (by omega) (by omega) fun A18 c18 w18 S18 => ?_)
                    refine L_y (y_assign rfl) rfl ?_
                    refine L_nil ?_
                    refine hK38 _ _ ?_
                    refine T_region ?_
                    refine L_y (y_move rfl) rfl ?_
                    refine L_y (y_add rfl rfl (i64w (by omega))) rfl ?_
                    refine L_y (y_assign rfl) rfl ?_
                    refine L_nil ?_
                    have S91 := S18.sel [0, 1, 2] (by decide)
                    have S92 := S91.rowc 2 rfl (n' := 1032 + 32 * (k + 1)) (xs' := bL (headB ++ fanB zs 256 ++ idsB (zs.take (k + 1)))) (by omega) (by rw [bL_appI, List.append_assoc (headB ++ fanB zs 256), ids_step hx])
                    refine ⟨k + 1, _, _, by omega, ⟨by omega, S92⟩, ?_⟩
                    exact (Sub.cons rfl (by first | rfl | exact congrArg (Value.int _) (by omega)) (Sub.cons rfl (by first | rfl | (congr 1; omega) | (congr 1)) (Sub.cons rfl rfl (Sub.cons rfl rfl (Sub.nil _)))))
                  ·
                    have hke : k = zs.length := by omega
                    subst hke
                    rw [List.take_length] at S16
                    refine T_exit ?_
                    refine hK34 _ _ ?_
                    refine T_seq fun K39 hK39 => ?_
                    refine T_seq fun K40 hK40 => ?_
                    refine T_region ?_
                    refine L_y (y_assign rfl) rfl ?_
                    refine L_nil ?_
                    refine hK40 _ _ ?_
                    refine T_block ?_
                    refine T_loop3 [(3, _), (6, _)] (fun (k : Nat) (A1 : Option Addr) (c1 : Nat) => [(14, .int .i64 (k : Int)), (9, .slice A1 (1032 + 32 * l.length + 4 * k) c1)]) (fun (k : Nat) (A1 : Option Addr) (c1 : Nat) => l.length - k) (fun (k : Nat) (A1 : Option Addr) (c1 : Nat) (w : World) => k ≤ l.length ∧ Zx.St w0 noM [blk b1 23 (idf of).toArray, Zx.row 86 34 A20 l.length c20 (zs.flatMap plf), Zx.row 5 1 A1 (1032 + 32 * l.length + 4 * k) c1 (bL (headB ++ fanB zs 256 ++ idsB zs ++ smsB (zs.take k)))] w) 0 A1 c1 (Sub.cons rfl (by first | rfl | exact congrArg (Value.int _) (by omega) | (congr 1; omega)) (Sub.cons rfl (by first | rfl | exact congrArg (Value.int _) (by omega) | (congr 1; omega)) (Sub.nil _))) (Sub.cons rfl rfl (Sub.cons rfl rfl (Sub.nil _))) ?_ ?_
                    ·
                      have S90 := S16.sel [0, 1, 2] (by decide)
                      have S91 := S90.rowc 2 rfl (n' := 1032 + 32 * l.length + 4 * 0) (xs' := bL (headB ++ fanB zs 256 ++ idsB zs ++ smsB (zs.take 0))) (by omega) (by rw [List.take_zero]; simp [smsB])
                      exact ⟨by omega, S91⟩
                    ·
                      intro k A1 c1 w19 hrel
                      obtain ⟨hk, S19⟩ := hrel
                      refine T_seq fun K41 hK41 => ?_
                      refine T_seq fun K42 hK42 => ?_
                      refine T_region ?_
                      refine L_y (y_move rfl) rfl ?_
                      refine L_y (y_move rfl) rfl ?_
                      refine L_y (y_len Try.underlying46 rfl) rfl ?_
                      refine L_y (y_lss rfl rfl) rfl ?_
                      refine L_nil ?_
                      refine hK42 _ _ ?_
                      refine T_cond rfl (fun h108 => ?_) (fun h108 => ?_)
                      ·
                        obtain ⟨x, hx⟩ : ∃ x, zs[k]? = some x := ⟨_, List.getElem?_eq_getElem (by omega)⟩
                        have hr := hro x (List.mem_of_getElem? hx)
                        have hr0 := hr.s0; have hr1 := hr.s1
                        refine T_skip ?_
                        refine hK41 _ _ ?_
                        refine T_seq fun K43 hK43 => ?_
                        refine T_block ?_
                        refine T_region ?_
                        refine L_y (y_move rfl) rfl ?_
                        refine L_y (y_move rfl) rfl ?_
                        refine L_y (y_move rfl) rfl ?_
                        refine L_y (y_idx Try.underlying46 sz86 rfl rfl (S19.row 1 rfl) inferInstance (by omega)) rfl ?_
                        refine L_y (y_fieldR 33 Try.underlying86 rfl sz60 rfl rfl (S19.row 1 rfl) (by omega) rfl) rfl ?_
                        refine L_y (y_ldf Try.underlying60 rfl rfl (S19.row 1 rfl) (by omega) (pl_c33 hx)) rfl ?_
                        refine L_y (y_conv is60 Try.underlying127 rfl (i_u64 hr0 hr1)) rfl ?_
                        refine L_o (o_call Try.func68 rfl rfl (Oct.refbig (x.sm.toNat) 4 w19 (by omega) (by omega)) rfl rfl ?_)
                        rintro e20 w20 ⟨v20, rfl, l20, A20, m20, c20, rfl, O20⟩
                        refine ⟨_, rfl, ?_⟩
                        have S20 := S19.adopt l20 O20
                        have hm20 := (S20.row 3 rfl).lenb; rw [Oct.length_tl] at hm20
                        refine L_o (o_app te27 S20 2 rfl rfl rfl (by first | exact S20.row 1 rfl | exact S20.row 2 rfl | exact S20.row 3 rfl) (by first | exact bL_one _ | exact iL_one _ | (intro u hu; simp at hu; subst hu; rfl) | (simp; done) | (simp [Value.oneCell']; done)) rfl (by omega) (by omega) fun A21 c21 w21 S21 => ?_)
                        refine L_y (y_assign rfl) rfl ?_
                        refine L_nil ?_
                        refine hK43 _ _ ?_
                        refine T_region ?_
                        refine L_y (y_move rfl) rfl ?_
                        refine L_y (y_add rfl rfl (i64w (by omega))) rfl ?_
                        refine L_y (y_assign rfl) rfl ?_
                        refine L_nil ?_
                        have S91 := S21.sel [0, 1, 2] (by decide)
                        have S92 := S91.rowc 2 rfl (n' := 1032 + 32 * l.length + 4 * (k + 1)) (xs' := bL (headB ++ fanB zs 256 ++ idsB zs ++ smsB (zs.take (k + 1)))) (by omega) (by rw [bL_appI, List.append_assoc (headB ++ fanB zs 256 ++ idsB zs), sms_step hx])
                        refine ⟨k + 1, _, _, by omega, ⟨by omega, S92⟩, ?_⟩
                        exact (Sub.cons rfl (by first | rfl | exact congrArg (Value.int _) (by omega)) (Sub.cons rfl (by first | rfl | (congr 1; omega) | (congr 1)) (Sub.cons rfl rfl (Sub.cons rfl rfl (Sub.nil _)))))
                      ·
                        have hke : k = zs.length := by omega
                        subst hke
                        rw [List.take_length] at S19
                        refine T_exit ?_
                        refine hK39 _ _ ?_
                        refine T_seq fun K44 hK44 => ?_
                        refine T_seq fun K45 hK45 => ?_
                        refine T_region ?_
                        refine L_y (y_assign rfl) rfl ?_
                        refine L_nil ?_
                        refine hK45 _ _ ?_
                        refine T_block ?_
                        refine T_loop3 [(3, _), (6, _)] (fun (k : Nat) (A1 : Option Addr) (c1 : Nat) => [(15, .int .i64 (k : Int)), (9, .slice A1 (1032 + 36 * l.length + 4 * k) c1)]) (fun (k : Nat) (A1 : Option Addr) (c1 : Nat) => l.length - k) (fun (k : Nat) (A1 : Option Addr) (c1 : Nat) (w : World) => k ≤ l.length ∧ Zx.St w0 noM [blk b1 23 (idf of).toArray, Zx.row 86 34 A20 l.length c20 (zs.flatMap plf), Zx.row 5 1 A1 (1032 + 36 * l.length + 4 * k) c1 (bL (headB ++ fanB zs 256 ++ idsB zs ++ smsB zs ++ atsB (zs.take k)))] w) 0 A1 c1 (Sub.cons rfl (by first | rfl | exact congrArg (Value.int _) (by omega) | (congr 1; omega)) (Sub.cons rfl (by first | rfl | exact congrArg (Value.int _) (by omega) | (congr 1; omega)) (Sub.nil _))) (Sub.cons rfl rfl (Sub.cons rfl rfl (Sub.nil _))) ?_ ?_
                        ·
                          have S90 := S19.sel [0, 1, 2] (by decide)
                          have S91 := S90.rowc 2 rfl (n' := 1032 + 36 * l.length + 4 * 0) (xs' := bL (headB ++ fanB zs 256 ++ idsB zs ++ smsB zs ++ atsB (zs.take 0))) (by omega) (by rw [List.take_zero]; simp [atsB])
                          exact ⟨by omega, S91⟩
                        ·
                          intro k A1 c1 w22 hrel
                          obtain ⟨hk, S22⟩ := hrel
                          refine T_seq fun K46 hK46 => ?_
                          refine T_seq fun K47 hK47 => ?_
                          refine T_region ?_
                          refine L_y (y_move rfl) rfl ?_
                          refine L_y (y_move rfl) rfl ?_
                          refine L_y (y_len Try.underlying46 rfl) rfl ?_
                          refine L_y (y_lss rfl rfl) rfl ?_
                          refine L_nil ?_
                          refine hK47 _ _ ?_
                          refine T_cond rfl (fun h123 => ?_) (fun h123 => ?_)
                          ·
                            obtain ⟨x, hx⟩ : ∃ x, zs[k]? = some x := ⟨_, List.getElem?_eq_getElem (by omega)⟩
                            have hr := hro x (List.mem_of_getElem? hx)
                            have hr0 := hr.a0; have hr1 := hr.a1
                            refine T_skip ?_
                            refine hK46 _ _ ?_
                            refine T_seq fun K48 hK48 => ?_
                            refine T_block ?_
                            refine T_region ?_
                            refine L_y (y_move rfl) rfl ?_
                            refine L_y (y_move rfl) rfl ?_
                            refine L_y (y_move rfl) rfl ?_
                            refine L_y (y_idx Try.underlying46 sz86 rfl rfl (S22.row 1 rfl) inferInstance (by omega)) rfl ?_
                            refine L_y (y_fieldR 32 Try.underlying86 rfl sz3 rfl rfl (S22.row 1 rfl) (by omega) rfl) rfl ?_
                            refine L_y (y_ldf Try.underlying3 rfl rfl (S22.row 1 rfl) (by omega) (pl_c32 hx)) rfl ?_
                            refine L_y (y_conv is3 Try.underlying127 rfl (i_u64 hr0 (by omega))) rfl ?_
                            refine L_o (o_call Try.func68 rfl rfl (Oct.refbig (x.at_.toNat) 4 w22 (by omega) (by omega)) rfl rfl ?_)
                            rintro e23 w23 ⟨v23, rfl, l23, A23, m23, c23, rfl, O23⟩
                            refine ⟨_, rfl, ?_⟩
                            have S23 := S22.adopt l23 O23
                            have hm23 := (S23.row 3 rfl).lenb; rw [Oct.length_tl] at hm23
                            refine L_o (o_app te27 S23 2 rfl rfl rfl (by first | exact S23.row 1 rfl | exact S23.row 2 rfl | exact S23.row 3 rfl) (by first | exact bL_one _ | exact iL_one _ | (intro u hu; simp at hu; subst hu; rfl) | (simp; done) | (simp [Value.oneCell']; done)) rfl (by omega) (by omega) fun A24 c24 w24 S24 => ?_)
                            refine L_y (y_assign rfl) rfl ?_
                            refine L_nil ?_
                            refine hK48 _ _ ?_
                            refine T_region ?_
                            refine L_y (y_move rfl) rfl ?_
                            refine L_y (y_add rfl rfl (i64w (by omega))) rfl ?_
                            refine L_y (y_assign rfl) rfl ?_
                            refine L_nil ?_
                            have S91 := S24.sel [0, 1, 2] (by decide)
                            have S92 := S91.rowc 2 rfl (n' := 1032 + 36 * l.length + 4 * (k + 1)) (xs' := bL (headB ++ fanB zs 256 ++ idsB zs ++ smsB zs ++ atsB (zs.take (k + 1)))) (by omega) (by rw [bL_appI, List.append_assoc (headB ++ fanB zs 256 ++ idsB zs ++ smsB zs), ats_step hx])
                            refine ⟨k + 1, _, _, by omega, ⟨by omega, S92⟩, ?_⟩
                            exact (Sub.cons rfl (by first | rfl | exact congrArg (Value.int _) (by omega)) (Sub.cons rfl (by first | rfl | (congr 1; omega) | (congr 1)) (Sub.cons rfl rfl (Sub.cons rfl rfl (Sub.nil _)))))
                          ·
                            have hke : k = zs.length := by omega
                            subst hke
                            rw [List.take_length] at S22
                            refine T_exit ?_
                            refine hK44 _ _ ?_
                            refine T_seq fun K49 hK49 => ?_
                            refine T_region ?_
                            refine L_y (y_move rfl) rfl ?_
                            refine L_y (y_ldW Try.underlying23 rfl sz23 rfl (S22.blk 0 rfl) (id_whole of)) rfl ?_
                            refine L_o (o_call Try.func69 rfl rfl (rbytes of w22) rfl rfl ?_)
                            rintro e25 w25 ⟨v25, rfl, l25, A25, c25, rfl, O25⟩
                            refine ⟨_, rfl, ?_⟩
                            have S25 := S22.adopt l25 O25
                            refine L_o (o_app te27 S25 2 rfl rfl rfl (by first | exact S25.row 1 rfl | exact S25.row 2 rfl | exact S25.row 3 rfl) (by first | exact bL_one _ | exact iL_one _ | (intro u hu; simp at hu; subst hu; rfl) | (simp; done) | (simp [Value.oneCell']; done)) rfl (by omega) (by omega) fun A26 c26 w26 S26 => ?_)
                            refine L_o (o_call Try.func70 rfl rfl (rclosed _ _ _ (bodyB zs of) w26 (by rw [bodyB_eq, ← bL_appI]; exact S26.row 2 rfl) (by omega)) rfl rfl ?_)
                            rintro e27 w27 ⟨v27, rfl, l27, A27, c27, rfl, O27⟩
                            refine ⟨_, rfl, ?_⟩
                            have S27 := S26.adopt l27 O27
                            refine L_y (y_assign rfl) rfl ?_
                            refine L_y (y_assign rfl) rfl ?_
                            refine L_nil ?_
                            refine hK49 _ _ ?_
                            refine T_ret ?_
                            repeat (first | with_reducible refine up_then ?_ | with_reducible refine up_in ?_)
                            refine ret2 rfl rfl rfl ?_
                            have he : mkE l = 0 := by unfold mkE; rw [if_neg (by omega), if_neg (fun h => h hnd), if_neg (by rw [← any_perm hp, hfar]; decide)]
                            exact ⟨_, rfl, S27.like0, _, _, _, _, by rw [he], .inr ⟨he, zs, hp, hst, rfl⟩, S27.own 4 rfl⟩
end Go.Proofs.Ytgaklngnfecdaaa.Idx


/-
  What is laid is opened.
-/
namespace Go.Proofs.Ytgaklngnfecdaaa.Idx
open Go.RowKit Zk Zx
open Oid (idf idf_len cmpL)
set_option linter.unusedVariables false
set_option linter.unusedSimpArgs false

theorem be_all : ∀ (l : List UInt8) (a : Nat), l.foldl (fun n c => n * 256 + c.toNat) a = a * 256 ^ l.length + Oct.be l
  | [], a => by simp [Oct.be]
  | c :: l, a => by
    have e : Oct.be (c :: l) = c.toNat * 256 ^ l.length + Oct.be l := by
      rw [Oct.be, List.foldl_cons, be_all l]
      simp
    rw [List.foldl_cons, be_all l, e, List.length_cons, Nat.pow_succ, Nat.add_mul, Nat.mul_assoc a, Nat.mul_comm 256, Nat.add_assoc]
theorem be_cons (c : UInt8) (l : List UInt8) : Oct.be (c :: l) = c.toNat * 256 ^ l.length + Oct.be l := by
  rw [Oct.be, List.foldl_cons, be_all l]
  simp
theorem be_tl (v : Nat) : ∀ j, Oct.be (Oct.tl v j) = v % 256 ^ j
  | 0 => by simp [Oct.tl, Oct.be, Nat.mod_one]
  | j + 1 => by
    rw [Oct.tl, be_cons, Oct.length_tl, be_tl v j, UInt8.toNat_ofNat', Nat.mod_mod, Nat.pow_succ, Nat.mod_mul, Nat.add_comm, Nat.mul_comm]
theorem be_tl4 {v : Nat} (h : v < 4294967296) : Oct.be (Oct.tl v 4) = v := by
  rw [be_tl, Nat.mod_eq_of_lt (by simpa using h)]
/-- A chunk of many of one size. -/
theorem cutC {α : Type} (f : α → List UInt8) (s : Nat) (hf : ∀ x, (f x).length = s) : ∀ (l : List α) (k : Nat) (x : α), l[k]? = some x → ((l.flatMap f).drop (k * s)).take s = f x
  | [], k, x, h => by cases h
  | y :: l, 0, x, h => by
    cases h
    rw [List.flatMap_cons, Nat.zero_mul, List.drop_zero, List.take_append_of_le_length (by rw [hf]; omega), List.take_of_length_le (by rw [hf]; omega)]
  | y :: l, k + 1, x, h => by
    rw [List.flatMap_cons, show (k + 1) * s = (f y).length + k * s by rw [hf, Nat.succ_mul]; omega, ← List.drop_drop, List.drop_append_of_le_length (Nat.le_refl _), List.drop_of_length_le (Nat.le_refl _), List.nil_append]
    exact cutC f s hf l k x (by simpa using h)
/-- A part in the midst. -/
theorem midC {p q r : List UInt8} {a j s : Nat} (ha : a = p.length + j) (h : j + s ≤ q.length) : ((p ++ q ++ r).drop a).take s = (q.drop j).take s := by
  subst ha
  rw [List.append_assoc, ← List.drop_drop, List.drop_append_of_le_length (Nat.le_refl _), List.drop_of_length_le (Nat.le_refl _), List.nil_append, List.drop_append_of_le_length (by omega), List.take_append_of_le_length (by rw [List.length_drop]; omega)]
theorem idAt_of {t : List UInt8} {p : Nat} {z : Oid.Id} (h : (t.drop p).take 32 = z.l) : idAt t p = z := by
  unfold idAt
  rw [dif_pos (by rw [h]; exact z.h)]
  exact Oid.Id.ext h
theorem cl_all (l : List Row) : cl l 256 = l.length := by
  unfold cl
  rw [List.countP_eq_length]
  intro x _
  simpa using fb_lt x
section
variable {zs : List Row} {of : Oid.Id}
theorem layB_len : (layB zs of).length = 1096 + 40 * zs.length := by
  unfold layB
  rw [List.length_append, bodyB_len, Sha.length_ofL]
  omega
theorem lay_head : (layB zs of).take 4 = INDX := by
  unfold layB
  rw [bodyB_eq]
  unfold headB
  simp only [List.append_assoc]
  rfl
theorem lay_ver : b4 (layB zs of) 4 = 1 := by
  unfold b4 layB
  have h := midC (p := [73, 78, 68, 88]) (q := Oct.tl 1 4) (r := fanB zs 256 ++ idsB zs ++ smsB zs ++ atsB zs ++ of.l ++ Sha.ofL (bodyB zs of)) (a := 4) (j := 0) (s := 4) rfl (by rw [Oct.length_tl]; omega)
  have e : bodyB zs of ++ Sha.ofL (bodyB zs of) = [73, 78, 68, 88] ++ Oct.tl 1 4 ++ (fanB zs 256 ++ idsB zs ++ smsB zs ++ atsB zs ++ of.l ++ Sha.ofL (bodyB zs of)) := by
    rw [bodyB_eq]; unfold headB; simp only [List.append_assoc]
  rw [e, h, List.drop_zero, List.take_of_length_le (by rw [Oct.length_tl]; omega)]
  exact be_tl4 (by omega)
theorem lay_fan {c : Nat} (hc : c < 256) (hn : zs.length ≤ 600) : b4 (layB zs of) (8 + 4 * c) = cl zs (c + 1) := by
  unfold b4 layB
  have e : bodyB zs of ++ Sha.ofL (bodyB zs of) = headB ++ fanB zs 256 ++ (idsB zs ++ smsB zs ++ atsB zs ++ of.l ++ Sha.ofL (bodyB zs of)) := by
    rw [bodyB_eq]; simp only [List.append_assoc]
  have h := midC (p := headB) (q := fanB zs 256) (r := idsB zs ++ smsB zs ++ atsB zs ++ of.l ++ Sha.ofL (bodyB zs of)) (a := 8 + 4 * c) (j := 4 * c) (s := 4) (by rw [headB_len]) (by rw [fanB_len]; omega)
  rw [e, h, Nat.mul_comm 4 c]
  have h2 := cutC (fun c => Oct.tl (cl zs (c + 1)) 4) 4 (fun c => Oct.length_tl _ 4) (List.range 256) c c (by simp [hc])
  unfold fanB
  rw [h2]
  have := cl_le zs (c + 1)
  exact be_tl4 (by omega)
theorem lay_last (hn : zs.length ≤ 600) : lastN (layB zs of) = zs.length := by
  unfold lastN
  rw [show 1028 = 8 + 4 * 255 by omega, lay_fan (by omega) hn, show 255 + 1 = 256 by omega, cl_all]
theorem lay_id {i : Nat} {x : Row} (hx : zs[i]? = some x) : idAt ((layB zs of).drop 8) (1024 + 32 * i) = x.id := by
  refine idAt_of ?_
  have hi := (List.getElem?_eq_some_iff.1 hx).1
  rw [List.drop_drop]
  unfold layB
  have e : bodyB zs of ++ Sha.ofL (bodyB zs of) = (headB ++ fanB zs 256) ++ idsB zs ++ (smsB zs ++ atsB zs ++ of.l ++ Sha.ofL (bodyB zs of)) := by
    rw [bodyB_eq]; simp only [List.append_assoc]
  have h := midC (p := headB ++ fanB zs 256) (q := idsB zs) (r := smsB zs ++ atsB zs ++ of.l ++ Sha.ofL (bodyB zs of)) (a := 8 + (1024 + 32 * i)) (j := 32 * i) (s := 32) (by rw [List.length_append, headB_len, fanB_len]; omega) (by rw [idsB_len]; omega)
  rw [e, h, Nat.mul_comm 32 i]
  exact cutC (fun x : Row => x.id.l) 32 (fun x => x.id.h) zs i x hx
theorem lay_sm {i : Nat} {x : Row} (hx : zs[i]? = some x) (h0 : 0 ≤ x.sm) (h1 : x.sm ≤ 4294967295) : (b4 ((layB zs of).drop 8) (1024 + 32 * zs.length + 4 * i) : Int) = x.sm := by
  have hi := (List.getElem?_eq_some_iff.1 hx).1
  unfold b4
  rw [List.drop_drop]
  unfold layB
  have e : bodyB zs of ++ Sha.ofL (bodyB zs of) = (headB ++ fanB zs 256 ++ idsB zs) ++ smsB zs ++ (atsB zs ++ of.l ++ Sha.ofL (bodyB zs of)) := by
    rw [bodyB_eq]; simp only [List.append_assoc]
  have h := midC (p := headB ++ fanB zs 256 ++ idsB zs) (q := smsB zs) (r := atsB zs ++ of.l ++ Sha.ofL (bodyB zs of)) (a := 8 + (1024 + 32 * zs.length + 4 * i)) (j := 4 * i) (s := 4) (by rw [List.length_append, List.length_append, headB_len, fanB_len, idsB_len]; omega) (by rw [smsB_len]; omega)
  rw [e, h, Nat.mul_comm 4 i]
  have h2 := cutC (fun x : Row => Oct.tl x.sm.toNat 4) 4 (fun x => Oct.length_tl _ 4) zs i x hx
  unfold smsB
  rw [h2, be_tl4 (by omega)]
  omega
theorem lay_at {i : Nat} {x : Row} (hx : zs[i]? = some x) (h0 : 0 ≤ x.at_) (h1 : x.at_ ≤ 1048576) : (b4 ((layB zs of).drop 8) (1024 + 36 * zs.length + 4 * i) : Int) = x.at_ := by
  have hi := (List.getElem?_eq_some_iff.1 hx).1
  unfold b4
  rw [List.drop_drop]
  unfold layB
  have e : bodyB zs of ++ Sha.ofL (bodyB zs of) = (headB ++ fanB zs 256 ++ idsB zs ++ smsB zs) ++ atsB zs ++ (of.l ++ Sha.ofL (bodyB zs of)) := by
    rw [bodyB_eq]; simp only [List.append_assoc]
  have h := midC (p := headB ++ fanB zs 256 ++ idsB zs ++ smsB zs) (q := atsB zs) (r := of.l ++ Sha.ofL (bodyB zs of)) (a := 8 + (1024 + 36 * zs.length + 4 * i)) (j := 4 * i) (s := 4) (by rw [List.length_append, List.length_append, List.length_append, headB_len, fanB_len, idsB_len, smsB_len]; omega) (by rw [atsB_len]; omega)
  rw [e, h, Nat.mul_comm 4 i]
  have h2 := cutC (fun x : Row => Oct.tl x.at_.toNat 4) 4 (fun x => Oct.length_tl _ 4) zs i x hx
  unfold atsB
  rw [h2, be_tl4 (by omega)]
  omega
theorem lay_of (hn : zs.length ≤ 600) : ofB (layB zs of) = of := by
  unfold ofB
  rw [lay_last hn]
  refine idAt_of ?_
  rw [List.drop_drop]
  unfold layB
  have e : bodyB zs of ++ Sha.ofL (bodyB zs of) = (headB ++ fanB zs 256 ++ idsB zs ++ smsB zs ++ atsB zs) ++ of.l ++ Sha.ofL (bodyB zs of) := by
    rw [bodyB_eq]
  have h := midC (p := headB ++ fanB zs 256 ++ idsB zs ++ smsB zs ++ atsB zs) (q := of.l) (r := Sha.ofL (bodyB zs of)) (a := 8 + (1024 + 40 * zs.length)) (j := 0) (s := 32) (by rw [List.length_append, List.length_append, List.length_append, List.length_append, headB_len, fanB_len, idsB_len, smsB_len, atsB_len]; omega) (by rw [of.h]; omega)
  rw [e, h, List.drop_zero, List.take_of_length_le (by rw [of.h]; omega)]
theorem lay_rows (hn : zs.length ≤ 600) (hok : ∀ x ∈ zs, RowOk x) : rowsB (layB zs of) = zs := by
  unfold rowsB
  rw [lay_last hn]
  apply List.ext_getElem?
  intro i
  by_cases hi : i < zs.length
  · obtain ⟨x, hx⟩ : ∃ x, zs[i]? = some x := ⟨_, List.getElem?_eq_getElem hi⟩
    have hr := hok x (List.mem_of_getElem? hx)
    rw [rowsP_get hi, hx, if_pos hi, if_pos hi, if_pos hi, lay_id hx, lay_sm hx hr.s0 hr.s1, lay_at hx hr.a0 hr.a1]
  · rw [List.getElem?_eq_none (by rw [rowsP_len]; omega), List.getElem?_eq_none (by omega)]
/-- What is laid is opened. -/
theorem open_lay (hn : zs.length ≤ 600) (hok : ∀ x ∈ zs, RowOk x) (hs : StR zs) : openE (layB zs of) = 0 := by
  have hl := layB_len (zs := zs) (of := of)
  have hpre : Pre (layB zs of) := ⟨by omega, fun q => by rcases q with q | q; exact q lay_head; exact q lay_ver, by rw [lay_last hn]; omega, by rw [lay_last hn]; omega, by rw [lay_last hn]; omega⟩
  refine openE_0 hpre ?_ (by rw [lay_rows hn hok]; exact hs) (fun c hc => by rw [lay_rows hn hok]; have := lay_fan (of := of) hc hn; unfold b4 at this ⊢; rw [List.drop_drop, this]) ?_
  · have hb : (bodyB zs of).length = (layB zs of).length - 32 := by rw [bodyB_len]; omega
    unfold layB at hb ⊢
    rw [← hb, List.take_append_of_le_length (Nat.le_refl _), List.take_of_length_le (Nat.le_refl _), List.drop_append_of_le_length (Nat.le_refl _), List.drop_of_length_le (Nat.le_refl _), List.nil_append]
    exact fun q => q rfl
  · rw [lay_rows hn hok]
    exact no_far fun i x _ hx => by have := (hok x (List.mem_of_getElem? hx)).a1; omega
end
end Go.Proofs.Ytgaklngnfecdaaa.Idx


/-
  The law IndexMakes.
-/
namespace Go.Proofs.Ytgaklngnfecdaaa.Idx
open Go.RowKit Zk Zx
open Oid (idf idf_len cmpL)
set_option linter.unusedVariables false
set_option linter.unusedSimpArgs false

theorem made_uniq {l : List Row} {of : Oid.Id} {a b : List UInt8} (h1 : Made l of a) (h2 : Made l of b) : a = b := by
  rcases h1 with ⟨e1, rfl⟩ | ⟨e1, zs, p1, s1, rfl⟩ <;> rcases h2 with ⟨e2, rfl⟩ | ⟨e2, ys, p2, s2, rfl⟩
  · rfl
  · exact absurd e2 e1
  · exact absurd e1 e2
  · rw [s1.uniq s2 (p1.trans p2.symm)]
theorem openLay (B : Option Addr) (m d : Nat) (zs : List Row) (of : Oid.Id) (w0 : World) (hb : Rs w0 1 B m d (bL (layB zs of))) (hn : zs.length ≤ 600) (hok : ∀ x ∈ zs, RowOk x) (hs : StR zs) :
    Calls Try.prog 28 #[.slice B m d] w0 fun e w' => ∃ u, e = .returned u ∧ Like w0 w' ∧ ∃ g A, u = .tuple #[.pointer (some ⟨g, 0, none⟩), .int .i64 0] ∧ Zx.St w0 noM [Zx.row 119 34 A zs.length zs.length (zs.flatMap rowf), blk g 97 (idxf A zs.length zs.length zs of).toArray] w' :=
  (open_ B m d _ w0 hb).mono fun e w' ⟨u, h1, h2⟩ => by
    rcases h2 with ⟨h2, _⟩ | ⟨_, g, A, h3, h4⟩
    · exact absurd (open_lay hn hok hs) h2
    · rw [lay_rows hn hok, lay_of hn] at h4
      exact ⟨u, h1, h4.like0, g, A, h3, h4⟩
theorem found_yes {l : List Row} {k : Nat} {x : Row} {z : Oid.Id} {u : Value} (hs : StR l) (hx : l[k]? = some x) (hz : x.id = z) (h : Found l z u) : u = .tuple #[.agg (plf x).toArray, .bool true] := by
  rcases h with ⟨j, y, hy, e, rfl⟩ | ⟨h, _⟩
  · have e2 : x = y := by
      rcases Nat.lt_trichotomy k j with q | q | q
      · have := hs.at hx hy q
        rw [hz, ← e, Oid.lt_irr] at this
        cases this
      · subst q; rw [hx] at hy; cases hy; rfl
      · have := hs.at hy hx q
        rw [hz, ← e, Oid.lt_irr] at this
        cases this
    rw [e2]
  · exact absurd hz (h x (List.mem_of_getElem? hx))
def wI : Oid.Id := ⟨7 :: List.replicate 31 0, rfl⟩
def wO : Oid.Id := ⟨1 :: List.replicate 31 0, rfl⟩
def wR : Row := ⟨wI, 5, 12⟩
theorem made_w {bs : List UInt8} (h : Made [wR] wO bs) : mkE [wR] = 0 ∧ bs = layB [wR] wO := by
  have h0 : mkE [wR] = 0 := by decide +kernel
  rcases h with ⟨e, _⟩ | ⟨e, zs, hp, _, rfl⟩
  · exact absurd h0 e
  · exact ⟨h0, by rw [List.perm_singleton.1 hp]⟩
theorem w_ok : ∀ x ∈ [wR], RowOk x := fun x hx => by
  obtain rfl := List.mem_singleton.1 hx
  exact ⟨by decide, by decide, by decide, by decide⟩
theorem w_st : StR [wR] := List.pairwise_singleton _ _


set_option maxRecDepth 100000 in
theorem works  (w0 : World)  :
    Calls Try.prog 24 #[] w0 fun e w' => ∃ u, e = .returned u ∧ Like w0 w' ∧ u = .bool true := by
  refine enter1 (env := []) [] Try.func24 rfl Try.ntmps24 rfl rfl ?_
  have S0 := St.start w0 noM
  refine T_seq fun K1 hK1 => ?_
  refine T_region ?_
  refine L_y (y_assign rfl) rfl ?_
  refine L_nil ?_
  refine hK1 _ _ ?_
  refine T_seq fun K2 hK2 => ?_
  refine T_region ?_
  refine L_y (y_build rfl (show _ = some (idf wI).toArray by kernel_rfl)) rfl ?_
  refine L_y (y_build rfl (show _ = some (plf wR).toArray by kernel_rfl)) rfl ?_
  refine L_o (o_bsl (plf wR) te43 zz62 S0 rfl rfl rfl (by simp [Value.cells, plf_len]) (by simp [Value.cells]) rfl rfl rfl fun b1 w1 S1 => ?_)
  refine L_y (y_build rfl (show _ = some (idf wO).toArray by kernel_rfl)) rfl ?_
  refine L_o (o_call Try.func25 rfl rfl (make _ _ _ [wR] wO w1 (by have h := S1.row 0 rfl; simpa using h) (fun x hx => ⟨(w_ok x hx).s0, (w_ok x hx).s1⟩)) rfl rfl ?_)
  rintro e2 w2 ⟨v2, rfl, l2, A1, m1, c1, bs, rfl, hM, O2⟩
  refine ⟨_, rfl, ?_⟩
  have S2 := S1.adopt l2 O2
  obtain ⟨he, rfl⟩ := made_w hM
  rw [he]
  have hm1 := (S2.row 1 rfl).lenb; rw [layB_len] at hm1
  have hwl : [wR].length = 1 := rfl
  rw [hwl] at hm1
  refine L_y (y_move rfl) rfl ?_
  refine L_y (y_extract rfl rfl) rfl ?_
  refine L_y (y_extract rfl rfl) rfl ?_
  refine L_y (y_assign rfl) rfl ?_
  refine L_y (y_assign rfl) rfl ?_
  refine L_nil ?_
  refine hK2 _ _ ?_
  refine T_seq fun K3 hK3 => ?_
  refine T_region ?_
  refine L_y (y_move rfl) rfl ?_
  refine L_o (o_call Try.func28 rfl rfl (openLay _ _ _ [wR] wO w2 (S2.row 1 rfl) (by rw [hwl]; omega) w_ok w_st) rfl rfl ?_)
  rintro e3 w3 ⟨v3, rfl, l3, g2, A2, rfl, T3⟩
  refine ⟨_, rfl, ?_⟩
  have S3 := S2.adoptS T3
  refine L_y (y_move rfl) rfl ?_
  refine L_y (y_extract rfl rfl) rfl ?_
  refine L_y (y_extract rfl rfl) rfl ?_
  refine L_y (y_assign rfl) rfl ?_
  refine L_y (y_assign rfl) rfl ?_
  refine L_nil ?_
  refine hK3 _ _ ?_
  refine T_seq fun K4 hK4 => ?_
  refine T_region ?_
  refine L_y (y_move rfl) rfl ?_
  refine L_y (y_build rfl (show _ = some (idf wI).toArray by kernel_rfl)) rfl ?_
  refine L_o (o_call Try.func33 rfl rfl (find g2 A2 1 1 [wR] wO wI w3 (S3.blk 3 rfl) (S3.row 2 rfl) (S3.row_ne 2 3 rfl rfl rfl) w_st (by rw [hwl]; omega)) rfl rfl ?_)
  rintro e4 w4 ⟨v4, rfl, l4, hF4⟩
  refine ⟨_, rfl, ?_⟩
  have S4 := S3.like l4
  have hF := found_yes (k := 0) (x := wR) w_st rfl rfl hF4
  subst hF
  refine L_y (y_move rfl) rfl ?_
  refine L_y (y_extract rfl rfl) rfl ?_
  refine L_y (y_extract rfl rfl) rfl ?_
  refine L_o (o_alloc zz62 S4 rfl fun b5 w5 hb5 S5 => ?_)
  refine L_o (o_stW S5 4 rfl rfl rfl (by rw [plf_sz]; exact sz62) (by first | (rw [plf_sz, plf_sz]; done) | (rw [plf_sz]; rfl)) (fun u hu => plf_one _ u (by rw [List.toList_toArray] at hu; exact hu)) fun w6 S6 => ?_)
  refine L_y (y_assign rfl) rfl ?_
  refine L_nil ?_
  refine hK4 _ _ ?_
  refine T_seq fun K5 hK5 => ?_
  refine T_region ?_
  refine L_y (y_move rfl) rfl ?_
  refine L_y (y_eql rfl rfl) rfl ?_
  refine L_y (y_move rfl) rfl ?_
  refine L_split 28 rfl (fun h28 => ?_) (fun h28 => ?_)
  ·
    refine L_gyes rfl rfl ?_
    refine L_y (y_move rfl) rfl ?_
    refine L_gyes rfl rfl ?_
    refine L_y (y_eql rfl rfl) rfl ?_
    refine L_y ((by first | exact y_pickT rfl rfl | exact y_pickF rfl rfl)) rfl ?_
    refine L_y (y_move rfl) rfl ?_
    refine L_split 32 rfl (fun h32 => ?_) (fun h32 => ?_)
    ·
      refine L_gyes rfl rfl ?_
      refine L_y (y_move rfl) rfl ?_
      refine L_gyes rfl rfl ?_
      refine L_y (y_len Try.underlying27 rfl) rfl ?_
      refine L_gyes rfl rfl ?_
      refine L_y (y_eql rfl rfl) rfl ?_
      refine L_y ((by first | exact y_pickT rfl rfl | exact y_pickF rfl rfl)) rfl ?_
      refine L_y (y_move rfl) rfl ?_
      refine L_split 37 rfl (fun h37 => ?_) (fun h37 => ?_)
      ·
        refine L_gyes rfl rfl ?_
        refine L_y (y_move rfl) rfl ?_
        refine L_gyes rfl rfl ?_
        refine L_o (o_call Try.func31 rfl rfl (lenX g2 A2 1 1 [wR] wO w6 (S6.blk 3 rfl) (S6.row 2 rfl)) rfl rfl ?_)
        rintro e10 w10 ⟨v10, rfl, l10, rfl⟩
        refine ⟨_, rfl, ?_⟩
        have S10 := S6.like l10
        refine L_gyes rfl rfl ?_
        refine L_y (y_eql rfl rfl) rfl ?_
        refine L_y ((by first | exact y_pickT rfl rfl | exact y_pickF rfl rfl)) rfl ?_
        refine L_y (y_move rfl) rfl ?_
        refine L_split 42 rfl (fun h42 => ?_) (fun h42 => ?_)
        ·
          refine L_gyes rfl rfl ?_
          refine L_y (y_move rfl) rfl ?_
          refine L_y ((by first | exact y_pickT rfl rfl | exact y_pickF rfl rfl)) rfl ?_
          refine L_y (y_move rfl) rfl ?_
          refine L_gyes rfl rfl ?_
          refine L_y (y_fieldA 32 Try.underlying62 rfl sz3 rfl rfl rfl) rfl ?_
          refine L_gyes rfl rfl ?_
          refine L_y (y_ldc Try.underlying3 rfl rfl (((S10.blk 4 rfl).cell _).trans (pl32 wR))) rfl ?_
          refine L_gyes rfl rfl ?_
          refine L_y (y_eql rfl rfl) rfl ?_
          refine L_y ((by first | exact y_pickT rfl rfl | exact y_pickF rfl rfl)) rfl ?_
          refine L_y (y_move rfl) rfl ?_
          refine L_split 50 rfl (fun h50 => ?_) (fun h50 => ?_)
          ·
            refine L_gyes rfl rfl ?_
            refine L_y (y_move rfl) rfl ?_
            refine L_gyes rfl rfl ?_
            refine L_o (o_call Try.func32 rfl rfl (ofX g2 A2 1 1 [wR] wO w10 (S10.blk 3 rfl) (S10.row 2 rfl)) rfl rfl ?_)
            rintro e13 w13 ⟨v13, rfl, l13, rfl⟩
            refine ⟨_, rfl, ?_⟩
            have S13 := S10.like l13
            refine L_gyes rfl rfl ?_
            refine L_y (y_build rfl (show _ = some (idf wO).toArray by kernel_rfl)) rfl ?_
            refine L_gyes rfl rfl ?_
            refine L_y (y_eqB Try.underlying23 Try.underlying5 sz5 (by kernel_rfl) rfl rfl (Oid.Id.h wO) (Oid.Id.h wO)) rfl ?_
            refine L_y ((by first | exact y_pickT rfl rfl | exact y_pickF rfl rfl)) rfl ?_
            refine L_y (y_assign rfl) rfl ?_
            refine L_nil ?_
            refine hK5 _ _ ?_
            refine T_ret ?_
            repeat (first | with_reducible refine up_then ?_ | with_reducible refine up_in ?_)
            refine ret1 rfl rfl ?_
            exact ⟨_, rfl, S13.like0, by simp⟩
          ·
            exact absurd rfl h50
        ·
          exact absurd rfl h42
      ·
        exact absurd (by omega) h37
    ·
      exact absurd rfl h32
  ·
    exact absurd rfl h28


set_option maxRecDepth 100000 in
theorem makes (A : Option Addr) (n c : Nat) (l : List Row) (of : Oid.Id) (w0 : World) (hl : Rs w0 34 A n c (l.flatMap plf)) (hsm : ∀ x ∈ l, SumOk x) :
    Calls Try.prog 4 #[.slice A n c, .agg (idf of).toArray] w0 fun e w' => ∃ u, e = .returned u ∧ Like w0 w' ∧ u = .bool true := by
  refine enter1 (env := [(0, .slice A n c), (1, .agg (idf of).toArray)]) [.slice A n c, .agg (idf of).toArray] Try.func4 rfl Try.ntmps4 rfl rfl ?_
  have hn := places_len hl; have hcap := hl.cap; have hmax := hl.max
  have S0 := St.start w0 noM
  refine T_seq fun K1 hK1 => ?_
  refine T_region ?_
  refine L_o (o_box rfl S0 rfl fun b1 w1 hb1 S1 => ?_)
  refine L_y (y_assign rfl) rfl ?_
  refine L_nil ?_
  refine hK1 _ _ ?_
  refine T_seq fun K2 hK2 => ?_
  refine T_seq fun K3 hK3 => ?_
  refine T_region ?_
  refine L_y (y_move rfl) rfl ?_
  refine L_y (y_len Try.underlying43 rfl) rfl ?_
  refine L_y (y_gtr rfl rfl) rfl ?_
  refine L_nil ?_
  refine hK3 _ _ ?_
  refine T_cond rfl (fun h11 => ?_) (fun h11 => ?_)
  ·
    refine T_seq fun K4 hK4 => ?_
    refine T_region ?_
    refine L_o (o_call Try.func24 rfl rfl (works w1) rfl rfl ?_)
    rintro e2 w2 ⟨v2, rfl, l2, rfl⟩
    refine ⟨_, rfl, ?_⟩
    have S2 := S1.like l2
    refine L_y (y_assign rfl) rfl ?_
    refine L_nil ?_
    refine hK4 _ _ ?_
    refine T_ret ?_
    repeat (first | with_reducible refine up_then ?_ | with_reducible refine up_in ?_)
    refine ret1 rfl rfl ?_
    exact ⟨_, rfl, S2.like0, rfl⟩
  ·
    refine T_skip ?_
    refine hK2 _ _ ?_
    refine T_seq fun K5 hK5 => ?_
    refine T_region ?_
    refine L_y (y_move rfl) rfl ?_
    refine L_y (y_ldW Try.underlying23 rfl sz23 rfl (S1.blk 0 rfl) (id_whole of)) rfl ?_
    refine L_o (o_call Try.func25 rfl rfl (make A n c l of w1 (S1.rd hl) hsm) rfl rfl ?_)
    rintro e3 w3 ⟨v3, rfl, l3, A1, m1, c1, b1, rfl, hM1, O3⟩
    refine ⟨_, rfl, ?_⟩
    have S3 := S1.adopt l3 O3
    refine L_y (y_move rfl) rfl ?_
    refine L_y (y_extract rfl rfl) rfl ?_
    refine L_y (y_extract rfl rfl) rfl ?_
    refine L_y (y_assign rfl) rfl ?_
    refine L_y (y_assign rfl) rfl ?_
    refine L_nil ?_
    refine hK5 _ _ ?_
    refine T_seq fun K6 hK6 => ?_
    refine T_drawnL [(0, true), (2, true), (1, false), (3, false), (4, true), (5, true), (6, true), (7, true), (8, true)] hmix (by kernel_rfl) fun w4 l4 => ?_
    have S4 := S3.like l4
    refine DL_y rfl (y_move rfl) rfl ?_
    refine DL_y rfl (y_ldW Try.underlying23 rfl sz23 rfl (S4.blk 0 rfl) (id_whole of)) rfl ?_
    refine DL_o rfl (o_call Try.func27 rfl rfl (plain A n c l w4 (S4.rd hl) (by omega)) rfl rfl ?_)
    rintro e5 w5 ⟨v5, rfl, l5, A3, c3, rfl, O5⟩
    refine ⟨_, rfl, l5, ?_⟩
    have S5 := S4.adopt l5 O5
    have q5 := l5
    refine DL_o rfl (o_call Try.func26 rfl rfl (rmake A3 l.length c3 l of w5 (S5.row 2 rfl) hsm (by omega)) rfl rfl ?_)
    rintro e6 w6 ⟨v6, rfl, l6, A2, m2, c2, b2, rfl, hM2, O6⟩
    refine ⟨_, rfl, (Like.trans q5 l6), ?_⟩
    have S6 := S5.adopt l6 O6
    have q6 := (Like.trans q5 l6)
    refine DL_y rfl (y_move rfl) rfl ?_
    refine DL_y rfl (y_extract rfl rfl) rfl ?_
    refine DL_y rfl (y_extract rfl rfl) rfl ?_
    refine DL_y rfl (y_assign rfl) rfl ?_
    refine DL_y rfl (y_assign rfl) rfl ?_
    refine DL_nil ?_
    refine hK6 _ _ ?_
    refine T_seq fun K7 hK7 => ?_
    refine T_region ?_
    refine L_y (y_move rfl) rfl ?_
    refine L_y (y_move rfl) rfl ?_
    refine L_o (o_call Try.func18 rfl rfl (Oct.same _ _ _ _ _ _ _ _ w6 (S6.row 1 rfl) (S6.row 3 rfl)) rfl rfl ?_)
    rintro e7 w7 ⟨v7, rfl, l7, rfl⟩
    refine ⟨_, rfl, ?_⟩
    have S7 := S6.like l7
    refine L_y (y_move rfl) rfl ?_
    refine L_split 29 rfl (fun h29 => ?_) (fun h29 => ?_)
    ·
      refine L_gyes rfl rfl ?_
      refine L_y (y_move rfl) rfl ?_
      refine L_gyes rfl rfl ?_
      refine L_y (y_move rfl) rfl ?_
      refine L_gyes rfl rfl ?_
      refine L_y (y_eql rfl rfl) rfl ?_
      refine L_y ((by first | exact y_pickT rfl rfl | exact y_pickF rfl rfl)) rfl ?_
      refine L_y (y_move rfl) rfl ?_
      refine L_split 34 rfl (fun h34 => ?_) (fun h34 => ?_)
      ·
        refine L_gyes rfl rfl ?_
        refine L_o (o_call Try.func24 rfl rfl (works w7) rfl rfl ?_)
        rintro e10 w10 ⟨v10, rfl, l10, rfl⟩
        refine ⟨_, rfl, ?_⟩
        have S10 := S7.like l10
        refine L_y ((by first | exact y_pickT rfl rfl | exact y_pickF rfl rfl)) rfl ?_
        refine L_y (y_assign rfl) rfl ?_
        refine L_nil ?_
        refine hK7 _ _ ?_
        refine T_ret ?_
        repeat (first | with_reducible refine up_then ?_ | with_reducible refine up_in ?_)
        refine ret1 rfl rfl ?_
        exact ⟨_, rfl, S10.like0, rfl⟩
      ·
        exact absurd rfl h34
    ·
      exact absurd (made_uniq hM1 hM2) h29


theorem makes_law (A : Option Addr) (n c : Nat) (l : List Row) (of : Oid.Id) (w0 : World) (hl : Rs w0 34 A n c (l.flatMap plf)) (hsm : ∀ x ∈ l, SumOk x) :
    Calls Try.prog 4 #[.slice A n c, .agg (idf of).toArray] w0 fun e w' => e = .returned (.bool true) ∧ Below w0.heap.size w0 w' :=
  (makes A n c l of w0 hl hsm).mono fun e w' ⟨u, h1, h2, h3⟩ => by subst h3; exact ⟨h1, h2⟩
section
open Go.ChangeShapes Go.WideShapes Go.ChangeAt Go.Deep
set_option maxRecDepth 100000
variable {H : Type} {enc : TypeId × Value → H} {w : World} {base : Nat} {spare : Nat → Bool} {held : Bool}
theorem c23 : Try.prog.cellsOf 23 = 32 := by kernel_rfl
theorem c3 : Try.prog.cellsOf 3 = 1 := by kernel_rfl
theorem c60 : Try.prog.cellsOf 60 = 1 := by kernel_rfl
theorem u32_wf {v : Int} (h : (Lit.int .u32 v).wf = true) : 0 ≤ v ∧ v ≤ 4294967295 := by
  have hx : 0 ≤ v ∧ v ≤ 4294967295 := by simpa [Lit.wf, IntKind.min, IntKind.max, IntKind.signed, IntKind.bits] using h
  exact hx
theorem read_pl {fuel : Nat} {cs : List Value} {x : DataW H × List MemPlace} (hlen : cs.length = 34) (h : DataW.trod enc Try.prog w base spare held fuel 62 cs = some x) : ∃ y : Row, cs = plf y ∧ SumOk y := by
  obtain ⟨xs, n, _, hx, hl, hlen2, hg⟩ := DataW.trod_struct Try.underlying62 h
  have e0 := hg 0 _ rfl
  have e1 := hg 1 _ rfl
  have e2 := hg 2 _ rfl
  change DataW.trod enc Try.prog w base spare held n 23 ((cs.drop 0).take (Try.prog.cellsOf 23)) = _ at e0
  change DataW.trod enc Try.prog w base spare held n 3 ((cs.drop 32).take (Try.prog.cellsOf 3)) = _ at e1
  change DataW.trod enc Try.prog w base spare held n 60 ((cs.drop 33).take (Try.prog.cellsOf 60)) = _ at e2
  rw [c23] at e0
  rw [c3] at e1
  rw [c60] at e2
  have hxl : xs.length = 3 := hlen2
  match xs, hxl with
  | [y0, y1, y2], _ =>
    have e0 : DataW.trod enc Try.prog w base spare held n 23 ((cs.drop 0).take 32) = some y0 := e0
    have e1 : DataW.trod enc Try.prog w base spare held n 3 ((cs.drop 32).take 1) = some y1 := e1
    have e2 : DataW.trod enc Try.prog w base spare held n 60 ((cs.drop 33).take 1) = some y2 := e2
    obtain ⟨z, hz⟩ := Oid.read_id e0
    obtain ⟨k, ha, _, _⟩ := DataW.trod_int Try.underlying3 e1
    obtain ⟨s, hs, _, hw⟩ := DataW.trod_int Try.underlying60 e2
    have hw2 := u32_wf hw
    refine ⟨⟨z, s, k⟩, ?_, ⟨hw2.1, hw2.2⟩⟩
    rw [List.drop_zero] at hz
    have q : cs = cs.take 32 ++ ((cs.drop 32).take 1 ++ (cs.drop 33).take 1) := by
      have g : ∀ k, k < cs.length → cs.drop k = (cs.drop k).take 1 ++ cs.drop (k + 1) := fun k hk => by rw [List.drop_eq_getElem_cons hk]; rfl
      have g4 : (cs.drop 33).take 1 = cs.drop 33 := List.take_of_length_le (by rw [List.length_drop]; omega)
      rw [g4, ← g 32 (by omega), List.take_append_drop]
    rw [q, hz, ha, hs]
    rfl
theorem open_pls {r : Reach} {b0 : Nat} {v : Value} {d : DataW H} {p : List MemPlace} (hv : Value.okWide Try.prog w r b0 43 v) (h : DataW.Trod enc Try.prog w base spare held 43 v d p) : ∃ A n c, ∃ l : List Row, v = .slice A n c ∧ Rs w 34 A n c (l.flatMap plf) ∧ ∀ x ∈ l, SumOk x := by
  obtain ⟨fuel, hf⟩ := h
  obtain ⟨A, n, c, l, h1, h2, h3, _⟩ := read_rowN plf SumOk 34 Try.underlying43 (by kernel_rfl) (by decide) plf_len (fun k cs x hl hx => read_pl hl hx) hf
  exact ⟨A, n, c, l, slice_of_cells Try.underlying43 hv h1, h2, h3⟩
end
end Go.Proofs.Ytgaklngnfecdaaa.Idx
