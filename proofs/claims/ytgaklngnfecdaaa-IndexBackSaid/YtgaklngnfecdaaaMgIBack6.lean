import Derived.Test.YtgaklngnfecdaaaMgIBack5
import Derived.Test.YtgaklngnfecdaaaMgIBack2
import Derived.Laws.Small
import Derived.Test.YtgaklngnfecdaaaMgIBack4

/-
  Reading an index.
-/
namespace Go.Proofs.Ytgaklngnfecdaaa.Idx
open Go.RowKit Zk Zx
open Oid (idf idf_len cmpL)
set_option linter.unusedVariables false
set_option linter.unusedSimpArgs false

open Oct (rdr)
theorem rs_tail {w : World} {A : Option Addr} {n c : Nat} {b : List UInt8} (k : Nat) (h : Rs w 1 A n c (bL b)) (h1 : k ≤ n) : Rs w 1 (cutA A c k 1) (n - k) (c - k) (bL (b.drop k)) := by
  have h2 := h.cutb (l := k) (u := n) h1 (Nat.le_refl _)
  rwa [List.take_of_length_le (by rw [List.length_drop, h.lenb]; omega)] at h2
theorem flat_rep {x : Row} {n i : Nat} (h : i < n * 34) : ((List.replicate n x).flatMap rowf)[i]? = (rowf x)[i % 34]? := by
  have hd := Nat.div_add_mod i 34
  have hm := Nat.mod_lt i (y := 34) (by omega)
  have hk : i / 34 < n := by omega
  have e : i = i / 34 * 34 + i % 34 := by omega
  conv => lhs; rw [e]
  exact flat_at rowf 34 rowf_len _ _ x (by rw [List.getElem?_replicate, if_pos hk]) _ hm
theorem rows0 (t : List UInt8) (n : Nat) : List.replicate n zR = rowsP t n 0 0 0 := by
  apply List.ext_getElem?
  intro i
  by_cases h : i < n
  · rw [rowsP_get h, List.getElem?_replicate, if_pos h]; rfl
  · rw [List.getElem?_eq_none (by simp; omega), List.getElem?_eq_none (by rw [rowsP_len]; omega)]
theorem row_set32 (x : Row) (v : Int) : rowf { x with sm := v } = (rowf x).set 32 (.int .u32 v) := by
  unfold rowf
  rw [List.set_append_right _ _ (by rw [idf_len]; omega), idf_len]
  rfl
theorem row_set33 (x : Row) (v : Int) : rowf { x with at_ := v } = (rowf x).set 33 (.int .i64 v) := by
  unfold rowf
  rw [List.set_append_right _ _ (by rw [idf_len]; omega), idf_len]
  rfl
theorem rowsP_sm {t : List UInt8} {n k : Nat} {x : Row} (h : k < n) (hx : (rowsP t n n k 0)[k]? = some x) : (rowsP t n n k 0).set k { x with sm := (b4 t (1024 + 32 * n + 4 * k) : Int) } = rowsP t n n (k + 1) 0 := by
  rw [rowsP_get h] at hx
  cases hx
  apply List.ext_getElem?
  intro i
  rw [List.getElem?_set]
  by_cases hi : i < n
  · rw [rowsP_get hi, rowsP_get hi]
    by_cases e : k = i
    · subst e; simp [rowsP_len, h]
    · rw [if_neg e]
      have : (i < k + 1) ↔ (i < k) := by omega
      simp [this]
  · rw [List.getElem?_eq_none (by rw [rowsP_len]; omega), List.getElem?_eq_none (by rw [rowsP_len]; omega), if_neg (by omega)]
theorem rowsP_at {t : List UInt8} {n k : Nat} {x : Row} (h : k < n) (hx : (rowsP t n n n k)[k]? = some x) : (rowsP t n n n k).set k { x with at_ := (b4 t (1024 + 36 * n + 4 * k) : Int) } = rowsP t n n n (k + 1) := by
  rw [rowsP_get h] at hx
  cases hx
  apply List.ext_getElem?
  intro i
  rw [List.getElem?_set]
  by_cases hi : i < n
  · rw [rowsP_get hi, rowsP_get hi]
    by_cases e : k = i
    · subst e; simp [rowsP_len, h]
    · rw [if_neg e]
      have : (i < k + 1) ↔ (i < k) := by omega
      simp [this]
  · rw [List.getElem?_eq_none (by rw [rowsP_len]; omega), List.getElem?_eq_none (by rw [rowsP_len]; omega), if_neg (by omega)]
theorem idxG_row (A : Option Addr) (n c : Nat) (fs : List Value) (of : Oid.Id) : (idxG A n c fs of).toArray[0]? = some (.slice A n c) := rfl
theorem idxG_of {A : Option Addr} {n c : Nat} {fs : List Value} {of z : Oid.Id} (h : fs.length = 256) : ((idxG A n c fs of).toArray.toList.take 257 ++ (idf z).toArray.toList ++ (idxG A n c fs of).toArray.toList.drop (257 + (idf z).toArray.size)).toArray = (idxG A n c fs z).toArray := by
  congr 1
  rw [List.drop_of_length_le (by simp [idxG, h, idf_len]), List.append_nil]
  unfold idxG
  rw [List.toList_toArray, List.take_append_of_le_length (by simp [h]), List.take_of_length_le (by simp [h])]
theorem idxG_len {A : Option Addr} {n c : Nat} {fs : List Value} {of : Oid.Id} (h : fs.length = 256) : (idxG A n c fs of).toArray.size = 289 := by simp [idxG, h, idf_len]
theorem said_whole (f : Nat → Int) (i : Nat) (h : i ≤ 256) : ((arrG f i).toArray.toList.drop 0).take 256 = arrG f i ∧ (arrG f i).length = 256 := ⟨by rw [List.drop_zero]; exact List.take_of_length_le (by have := arrG_len f h; simp only [] at this ⊢; omega), arrG_len f h⟩
/-- What read answers. -/
def Red (w0 w' : World) (b : List UInt8) (n : Nat) (u : Value) : Prop := ∃ g A1, u = .tuple #[.pointer (some ⟨g, 0, none⟩), .agg (said (b.drop 8)).toArray] ∧ Zx.St w0 noM [Zx.row 119 34 A1 n n ((rowsP (b.drop 8) n n n n).flatMap rowf), blk g 97 (idxG A1 n n (List.replicate 256 (.int .i64 0)) (idAt (b.drop 8) (1024 + 40 * n))).toArray] w'

theorem zR_cells : (Value.agg #[.int .u8 0, .int .u8 0, .int .u8 0, .int .u8 0, .int .u8 0, .int .u8 0, .int .u8 0, .int .u8 0, .int .u8 0, .int .u8 0, .int .u8 0, .int .u8 0, .int .u8 0, .int .u8 0, .int .u8 0, .int .u8 0, .int .u8 0, .int .u8 0, .int .u8 0, .int .u8 0, .int .u8 0, .int .u8 0, .int .u8 0, .int .u8 0, .int .u8 0, .int .u8 0, .int .u8 0, .int .u8 0, .int .u8 0, .int .u8 0, .int .u8 0, .int .u8 0, .int .u32 0, .int .i64 0] : Value).cells = (rowf zR).toArray := by kernel_rfl


set_option maxRecDepth 100000 in
theorem read (B : Option Addr) (m d : Nat) (b : List UInt8) (n : Nat) (w0 : World) (hb : Rs w0 1 B m d (bL b)) (hl : b.length = 1096 + 40 * n) (hn : n ≤ 600) :
    Calls Try.prog 75 #[.slice B m d, .int .i64 (n : Int)] w0 fun e w' => ∃ u, e = .returned u ∧ Like w0 w' ∧ Red w0 w' b n u := by
  refine enter1 (env := [(0, .slice B m d), (1, .int .i64 (n : Int))]) [.slice B m d, .int .i64 (n : Int)] Try.func75 rfl Try.ntmps75 rfl rfl ?_
  have hm := hb.lenb; have hcap := hb.cap; have hmax := hb.max; have ht : (b.drop 8).length = 1088 + 40 * n := by rw [List.length_drop]; omega
  have S0 := St.start w0 noM
  refine T_seq fun K1 hK1 => ?_
  refine T_region ?_
  refine L_y (y_assign rfl) rfl ?_
  refine L_o (o_alloc zz95 S0 rfl fun b1 w1 hb1 S1 => ?_)
  refine L_nil ?_
  refine hK1 _ _ ?_
  refine T_seq fun K2 hK2 => ?_
  refine T_region ?_
  refine L_y (y_move rfl) rfl ?_
  refine L_y (y_sliceL Try.underlying27 sz5 rfl rfl inferInstance (by omega)) rfl ?_
  refine L_o (o_call Try.func71 rfl rfl (Oct.rnew _ _ _ (b.drop 8) w1 (rs_tail 8 (S1.rd hb) (by omega)) (by omega)) rfl rfl ?_)
  rintro e2 w2 ⟨v2, rfl, l2, g, A, c, rfl, hh2, dd2⟩
  refine ⟨_, rfl, ?_⟩
  have S2 := S1.new l2 _ hh2 dd2
  refine L_y (y_assign rfl) rfl ?_
  refine L_nil ?_
  refine hK2 _ _ ?_
  refine T_seq fun K3 hK3 => ?_
  refine T_region ?_
  refine L_o (o_alloc zz95 S2 rfl fun b3 w3 hb3 S3 => ?_)
  refine L_nil ?_
  refine hK3 _ _ ?_
  refine T_seq fun K4 hK4 => ?_
  refine T_seq fun K5 hK5 => ?_
  refine T_region ?_
  refine L_y (y_move rfl) rfl ?_
  refine L_nil ?_
  refine hK5 _ _ ?_
  refine T_block ?_
  refine T_loop1 [(1, _), (5, _), (6, _), (7, _)] (fun (i : Nat) => [(16, .int .i64 (i : Int))]) (fun (i : Nat) => 256 - i) (fun (i : Nat) (w : World) => i ≤ 256 ∧ Zx.St w0 noM [blk b1 95 (arrG (fun c => (b4 (b.drop 8) (4 * c) : Int)) 0).toArray, rdr g A (m - 8) c (b.drop 8) (4 * i) 0, blk b3 95 (arrG (fun c => (b4 (b.drop 8) (4 * c) : Int)) i).toArray] w) 0 (Sub.cons rfl (by first | rfl | exact congrArg (Value.int _) (by omega)) (Sub.nil _)) (Sub.cons rfl rfl (Sub.cons rfl rfl (Sub.cons rfl rfl (Sub.cons rfl rfl (Sub.nil _))))) ?_ ?_
  ·
    have S70 : Zx.St w0 noM [blk b1 95 (arrG (fun c => (b4 (b.drop 8) (4 * c) : Int)) 0).toArray, rdr g A (m - 8) c (b.drop 8) (4 * 0) 0, blk b3 95 (arrG (fun c => (b4 (b.drop 8) (4 * c) : Int)) 0).toArray] w3 := S3.cast (by kernel_rfl)
    exact ⟨by omega, S70⟩
  ·
    intro i w4 hrel
    obtain ⟨hi, S4⟩ := hrel
    refine T_seq fun K6 hK6 => ?_
    refine T_region ?_
    refine L_y (y_lss rfl rfl) rfl ?_
    refine L_nil ?_
    refine hK6 _ _ ?_
    refine T_seq fun K7 hK7 => ?_
    refine T_cond rfl (fun h17 => ?_) (fun h17 => ?_)
    ·
      refine T_skip ?_
      refine hK7 _ _ ?_
      refine T_seq fun K8 hK8 => ?_
      refine T_block ?_
      refine T_seq fun K9 hK9 => ?_
      refine T_region ?_
      refine L_y (y_move rfl) rfl ?_
      refine L_y (y_assign rfl) rfl ?_
      refine L_nil ?_
      refine hK9 _ _ ?_
      refine T_region ?_
      refine L_y (y_move rfl) rfl ?_
      refine L_y (y_move rfl) rfl ?_
      refine L_o (o_call Try.func73 rfl rfl (Oct.ru32 g A (m - 8) c (b.drop 8) (4 * i) 0 w4 (S4.get 1 rfl) (by omega) (by omega)) rfl rfl ?_)
      rintro e5 w5 ⟨v5, rfl, rfl, T5⟩
      refine ⟨_, rfl, ?_⟩
      have S5 := S4.turn 1 rfl T5
      obtain ⟨e1, e2, e3⟩ := rw_ok (l := b.drop 8) (p := 4 * i) (k := 4) (by omega)
      rw [e2, e3] at S5
      rw [e1]
      have hb4 : Oct.be (((b.drop 8).drop (4 * i)).take 4) < 4294967296 := b4_lt _ _
      rw [show 4 * i + 4 = 4 * (i + 1) by omega] at S5
      refine L_y (y_conv is60 Try.underlying3 rfl (i64w (by omega))) rfl ?_
      refine L_y (y_idxA0 Try.underlying95 sz3 rfl rfl inferInstance (by omega)) rfl ?_
      refine L_o (o_st1 S5 2 rfl rfl rfl rfl sz3 (by rw [List.size_toArray, arrG_len _ (by omega)]; omega) fun w6 S6 => ?_)
      have S90 := S6.blkc 2 rfl (arrG_set (fun c => (b4 (b.drop 8) (4 * c) : Int)) (i := i) (by omega))
      refine L_nil ?_
      refine hK8 _ _ ?_
      refine T_region ?_
      refine L_y (y_add rfl rfl (i64w (by omega))) rfl ?_
      refine L_y (y_move rfl) rfl ?_
      refine L_nil ?_
      refine ⟨i + 1, by omega, ⟨by omega, S90⟩, ?_⟩
      exact (Sub.cons rfl (by first | rfl | exact congrArg (Value.int _) (by omega)) (Sub.cons rfl rfl (Sub.cons rfl rfl (Sub.cons rfl rfl (Sub.cons rfl rfl (Sub.nil _))))))
    ·
      refine T_exit ?_
      refine hK4 _ _ ?_
      refine T_seq fun K10 hK10 => ?_
      obtain rfl : i = 256 := by omega
      refine T_region ?_
      refine L_y (y_move rfl) rfl ?_
      refine L_o (o_makeN te94 ((List.replicate n zR).flatMap rowf) (by rw [flat_len rowf 34 rowf_len, List.length_replicate]) (fun i hi => (flat_rep hi).trans (by rw [zR_cells, List.getElem?_toArray])) (by omega) S4 rfl rfl inferInstance inferInstance rfl (by omega) (by omega) (by omega) fun b7 w7 S7 => ?_)
      rw [rows0 (b.drop 8)] at S7
      refine L_y (y_build rfl (show _ = some (idxG (some ⟨b7, 0, none⟩) n n (List.replicate 256 (.int .i64 0)) zI).toArray by kernel_rfl)) rfl ?_
      refine L_o (o_box rfl S7 rfl fun b8 w8 hb8 S8 => ?_)
      refine L_y (y_assign rfl) rfl ?_
      refine L_nil ?_
      refine hK10 _ _ ?_
      refine T_seq fun K11 hK11 => ?_
      refine T_seq fun K12 hK12 => ?_
      refine T_region ?_
      refine L_y (y_move rfl) rfl ?_
      refine L_y (y_nilp rfl) rfl ?_
      refine L_y (y_fieldA 0 Try.underlying97 rfl sz94 rfl rfl rfl) rfl ?_
      refine L_y (y_ldc Try.underlying94 rfl rfl (((S8.blk 4 rfl).cell _).trans (idxG_row _ _ _ _ _))) rfl ?_
      refine L_y (y_len Try.underlying94 rfl) rfl ?_
      refine L_y (y_move rfl) rfl ?_
      refine L_nil ?_
      refine hK12 _ _ ?_
      refine T_block ?_
      refine T_loop1 [(5, _), (6, _), (7, _), (9, _), (33, _)] (fun (k : Nat) => [(34, .int .i64 (k : Int))]) (fun (k : Nat) => n - k) (fun (k : Nat) (w : World) => k ≤ n ∧ Zx.St w0 noM [blk b1 95 (arrG (fun c => (b4 (b.drop 8) (4 * c) : Int)) 0).toArray, rdr g A (m - 8) c (b.drop 8) (1024 + 32 * k) 0, blk b3 95 (arrG (fun c => (b4 (b.drop 8) (4 * c) : Int)) 256).toArray, Zx.row 119 34 (some ⟨b7, 0, none⟩) n n ((rowsP (b.drop 8) n k 0 0).flatMap rowf), blk b8 97 (idxG (some ⟨b7, 0, none⟩) n n (List.replicate 256 (.int .i64 0)) zI).toArray] w) 0 (Sub.cons rfl (by first | rfl | exact congrArg (Value.int _) (by omega)) (Sub.nil _)) (Sub.cons rfl rfl (Sub.cons rfl rfl (Sub.cons rfl rfl (Sub.cons rfl rfl (Sub.cons rfl rfl (Sub.nil _)))))) ?_ ?_
      ·
        exact ⟨by omega, S8⟩
      ·
        intro k w9 hrel
        obtain ⟨hk, S9⟩ := hrel
        refine T_seq fun K13 hK13 => ?_
        refine T_region ?_
        refine L_y (y_lss rfl rfl) rfl ?_
        refine L_nil ?_
        refine hK13 _ _ ?_
        refine T_seq fun K14 hK14 => ?_
        refine T_cond rfl (fun h35 => ?_) (fun h35 => ?_)
        ·
          obtain ⟨x, hx⟩ : ∃ x, (rowsP (b.drop 8) n k 0 0)[k]? = some x := ⟨_, List.getElem?_eq_getElem (by rw [rowsP_len]; omega)⟩
          refine T_skip ?_
          refine hK14 _ _ ?_
          refine T_seq fun K15 hK15 => ?_
          refine T_block ?_
          refine T_seq fun K16 hK16 => ?_
          refine T_region ?_
          refine L_y (y_move rfl) rfl ?_
          refine L_y (y_assign rfl) rfl ?_
          refine L_nil ?_
          refine hK16 _ _ ?_
          refine T_drawnX (fun w => Blk w b8 97 (idxG (some ⟨b7, 0, none⟩) n n (List.replicate 256 (.int .i64 0)) zI).toArray) hmix (by kernel_rfl) (fun w l => ((S9.like l).blk 4 rfl)) fun w10 l10 => ?_
          have S10 := S9.like l10
          refine DX_y 0 (by kernel_rfl) rfl (y_move rfl) rfl ?_
          refine DX_y 1 (by kernel_rfl) rfl (y_nilp rfl) rfl ?_
          refine DX_y 2 (by kernel_rfl) rfl (y_fieldA 0 Try.underlying97 rfl sz94 rfl rfl rfl) rfl ?_
          refine DX_y 3 (by kernel_rfl) rfl (y_of fun w hw => y_ldc Try.underlying94 rfl rfl ((hw.cell _).trans (idxG_row _ _ _ _ _))) rfl ?_
          refine DX_y 4 (by kernel_rfl) rfl (y_move rfl) rfl ?_
          refine DX_y 5 (by kernel_rfl) rfl (y_move rfl) rfl ?_
          refine DX_o1 6 (by kernel_rfl) rfl ?_
          refine o_call Try.func119 rfl rfl (take g A (m - 8) c (b.drop 8) (1024 + 32 * k) (idAt (b.drop 8) (1024 + 32 * k)) w10 (S10.get 1 rfl) (by omega) (by omega) (idAt_l (by omega))) rfl rfl ?_
          rintro e11 w11 ⟨v11, rfl, T11, rfl⟩
          refine ⟨_, rfl, ?_⟩
          have S11 := S10.turn 1 rfl T11
          rw [show 1024 + 32 * k + 32 = 1024 + 32 * (k + 1) by omega] at S11
          refine ⟨(S11.blk 4 rfl), ?_⟩
          refine DX_y 7 (by kernel_rfl) rfl (y_idx Try.underlying94 sz119 rfl rfl (S10.row 3 rfl) inferInstance (by omega)) rfl ?_
          refine DX_y 8 (by kernel_rfl) rfl (y_fieldR 0 Try.underlying119 rfl sz23 rfl rfl (S10.row 3 rfl) (by omega) rfl) rfl ?_
          refine DX_o1 9 (by kernel_rfl) rfl ?_
          refine o_strowF S11 3 rfl rfl rfl (fun u hu => bL_one _ u (by rw [List.toList_toArray] at hu; exact hu)) (by rw [List.size_toArray, idf_len]) sz23 (by omega) (by omega) fun w12 S12 => ?_
          refine ⟨(S12.blk 4 rfl), ?_⟩
          refine DX_nil (by kernel_rfl) ?_
          refine hK15 _ _ ?_
          refine T_region ?_
          refine L_y (y_add rfl rfl (i64w (by omega))) rfl ?_
          refine L_y (y_move rfl) rfl ?_
          refine L_nil ?_
          have S91 := S12.rowc 3 rfl rfl ((flat_id (idAt (b.drop 8) (1024 + 32 * k)) hx).trans (congrArg (fun q => q.flatMap rowf) (rowsP_id (by omega) hx)))
          refine ⟨k + 1, by omega, ⟨by omega, S91⟩, ?_⟩
          exact (Sub.cons rfl (by first | rfl | exact congrArg (Value.int _) (by omega)) (Sub.cons rfl rfl (Sub.cons rfl rfl (Sub.cons rfl rfl (Sub.cons rfl rfl (Sub.cons rfl rfl (Sub.nil _)))))))
        ·
          obtain rfl : n = k := by omega
          refine T_exit ?_
          refine hK11 _ _ ?_
          refine T_seq fun K17 hK17 => ?_
          refine T_seq fun K18 hK18 => ?_
          refine T_region ?_
          refine L_y (y_move rfl) rfl ?_
          refine L_y (y_nilp rfl) rfl ?_
          refine L_y (y_fieldA 0 Try.underlying97 rfl sz94 rfl rfl rfl) rfl ?_
          refine L_y (y_ldc Try.underlying94 rfl rfl (((S9.blk 4 rfl).cell _).trans (idxG_row _ _ _ _ _))) rfl ?_
          refine L_y (y_len Try.underlying94 rfl) rfl ?_
          refine L_y (y_move rfl) rfl ?_
          refine L_nil ?_
          refine hK18 _ _ ?_
          refine T_block ?_
          refine T_loop1 [(5, _), (6, _), (7, _), (9, _), (51, _)] (fun (k : Nat) => [(52, .int .i64 (k : Int))]) (fun (k : Nat) => n - k) (fun (k : Nat) (w : World) => k ≤ n ∧ Zx.St w0 noM [blk b1 95 (arrG (fun c => (b4 (b.drop 8) (4 * c) : Int)) 0).toArray, rdr g A (m - 8) c (b.drop 8) (1024 + 32 * n + 4 * k) 0, blk b3 95 (arrG (fun c => (b4 (b.drop 8) (4 * c) : Int)) 256).toArray, Zx.row 119 34 (some ⟨b7, 0, none⟩) n n ((rowsP (b.drop 8) n n k 0).flatMap rowf), blk b8 97 (idxG (some ⟨b7, 0, none⟩) n n (List.replicate 256 (.int .i64 0)) zI).toArray] w) 0 (Sub.cons rfl (by first | rfl | exact congrArg (Value.int _) (by omega)) (Sub.nil _)) (Sub.cons rfl rfl (Sub.cons rfl rfl (Sub.cons rfl rfl (Sub.cons rfl rfl (Sub.cons rfl rfl (Sub.nil _)))))) ?_ ?_
          ·
            exact ⟨by omega, S9⟩
          ·
            intro k w13 hrel
            obtain ⟨hk, S13⟩ := hrel
            refine T_seq fun K19 hK19 => ?_
            refine T_region ?_
            refine L_y (y_lss rfl rfl) rfl ?_
            refine L_nil ?_
            refine hK19 _ _ ?_
            refine T_seq fun K20 hK20 => ?_
            refine T_cond rfl (fun h53 => ?_) (fun h53 => ?_)
            ·
              obtain ⟨x, hx⟩ : ∃ x, (rowsP (b.drop 8) n n k 0)[k]? = some x := ⟨_, List.getElem?_eq_getElem (by rw [rowsP_len]; omega)⟩
              refine T_skip ?_
              refine hK20 _ _ ?_
              refine T_seq fun K21 hK21 => ?_
              refine T_block ?_
              refine T_seq fun K22 hK22 => ?_
              refine T_region ?_
              refine L_y (y_move rfl) rfl ?_
              refine L_y (y_assign rfl) rfl ?_
              refine L_nil ?_
              refine hK22 _ _ ?_
              refine T_drawnX (fun w => Blk w b8 97 (idxG (some ⟨b7, 0, none⟩) n n (List.replicate 256 (.int .i64 0)) zI).toArray) hmix (by kernel_rfl) (fun w l => ((S13.like l).blk 4 rfl)) fun w14 l14 => ?_
              have S14 := S13.like l14
              refine DX_y 0 (by kernel_rfl) rfl (y_move rfl) rfl ?_
              refine DX_y 1 (by kernel_rfl) rfl (y_nilp rfl) rfl ?_
              refine DX_y 2 (by kernel_rfl) rfl (y_fieldA 0 Try.underlying97 rfl sz94 rfl rfl rfl) rfl ?_
              refine DX_y 3 (by kernel_rfl) rfl (y_of fun w hw => y_ldc Try.underlying94 rfl rfl ((hw.cell _).trans (idxG_row _ _ _ _ _))) rfl ?_
              refine DX_y 4 (by kernel_rfl) rfl (y_move rfl) rfl ?_
              refine DX_y 5 (by kernel_rfl) rfl (y_move rfl) rfl ?_
              refine DX_o1 6 (by kernel_rfl) rfl ?_
              refine o_call Try.func73 rfl rfl (Oct.ru32 g A (m - 8) c (b.drop 8) (1024 + 32 * n + 4 * k) 0 w14 (S14.get 1 rfl) (by omega) (by omega)) rfl rfl ?_
              rintro e15 w15 ⟨v15, rfl, rfl, T15⟩
              refine ⟨_, rfl, ?_⟩
              have S15 := S14.turn 1 rfl T15
              obtain ⟨e1, e2, e3⟩ := rw_ok (l := b.drop 8) (p := 1024 + 32 * n + 4 * k) (k := 4) (by omega)
              rw [e2, e3] at S15
              rw [e1]
              have hb4 : Oct.be (((b.drop 8).drop (1024 + 32 * n + 4 * k)).take 4) < 4294967296 := b4_lt _ _
              rw [show 1024 + 32 * n + 4 * k + 4 = 1024 + 32 * n + 4 * (k + 1) by omega] at S15
              refine ⟨(S15.blk 4 rfl), ?_⟩
              refine DX_y 7 (by kernel_rfl) rfl (y_idx Try.underlying94 sz119 rfl rfl (S14.row 3 rfl) inferInstance (by omega)) rfl ?_
              refine DX_y 8 (by kernel_rfl) rfl (y_fieldR 32 Try.underlying119 rfl sz60 rfl rfl (S14.row 3 rfl) (by omega) rfl) rfl ?_
              refine DX_o1 9 (by kernel_rfl) rfl ?_
              refine o_strowN S15 3 rfl rfl rfl rfl sz60 (by omega) fun w16 S16 => ?_
              refine ⟨(S16.blk 4 rfl), ?_⟩
              refine DX_nil (by kernel_rfl) ?_
              refine hK21 _ _ ?_
              refine T_region ?_
              refine L_y (y_add rfl rfl (i64w (by omega))) rfl ?_
              refine L_y (y_move rfl) rfl ?_
              refine L_nil ?_
              have S91 := S16.rowc 3 rfl rfl ((flat_fld (y := { x with sm := (b4 (b.drop 8) (1024 + 32 * n + 4 * k) : Int) }) hx (by omega) (row_set32 x _)).trans (congrArg (fun q => q.flatMap rowf) (rowsP_sm (by omega) hx)))
              refine ⟨k + 1, by omega, ⟨by omega, S91⟩, ?_⟩
              exact (Sub.cons rfl (by first | rfl | exact congrArg (Value.int _) (by omega)) (Sub.cons rfl rfl (Sub.cons rfl rfl (Sub.cons rfl rfl (Sub.cons rfl rfl (Sub.cons rfl rfl (Sub.nil _)))))))
            ·
              obtain rfl : n = k := by omega
              refine T_exit ?_
              refine hK17 _ _ ?_
              refine T_seq fun K23 hK23 => ?_
              refine T_seq fun K24 hK24 => ?_
              refine T_region ?_
              refine L_y (y_move rfl) rfl ?_
              refine L_y (y_nilp rfl) rfl ?_
              refine L_y (y_fieldA 0 Try.underlying97 rfl sz94 rfl rfl rfl) rfl ?_
              refine L_y (y_ldc Try.underlying94 rfl rfl (((S13.blk 4 rfl).cell _).trans (idxG_row _ _ _ _ _))) rfl ?_
              refine L_y (y_len Try.underlying94 rfl) rfl ?_
              refine L_y (y_move rfl) rfl ?_
              refine L_nil ?_
              refine hK24 _ _ ?_
              refine T_block ?_
              refine T_loop1 [(5, _), (6, _), (7, _), (9, _), (69, _)] (fun (k : Nat) => [(70, .int .i64 (k : Int))]) (fun (k : Nat) => n - k) (fun (k : Nat) (w : World) => k ≤ n ∧ Zx.St w0 noM [blk b1 95 (arrG (fun c => (b4 (b.drop 8) (4 * c) : Int)) 0).toArray, rdr g A (m - 8) c (b.drop 8) (1024 + 36 * n + 4 * k) 0, blk b3 95 (arrG (fun c => (b4 (b.drop 8) (4 * c) : Int)) 256).toArray, Zx.row 119 34 (some ⟨b7, 0, none⟩) n n ((rowsP (b.drop 8) n n n k).flatMap rowf), blk b8 97 (idxG (some ⟨b7, 0, none⟩) n n (List.replicate 256 (.int .i64 0)) zI).toArray] w) 0 (Sub.cons rfl (by first | rfl | exact congrArg (Value.int _) (by omega)) (Sub.nil _)) (Sub.cons rfl rfl (Sub.cons rfl rfl (Sub.cons rfl rfl (Sub.cons rfl rfl (Sub.cons rfl rfl (Sub.nil _)))))) ?_ ?_
              ·
                rw [show 1024 + 32 * n + 4 * n = 1024 + 36 * n + 4 * 0 by omega] at S13
                exact ⟨by omega, S13⟩
              ·
                intro k w17 hrel
                obtain ⟨hk, S17⟩ := hrel
                refine T_seq fun K25 hK25 => ?_
                refine T_region ?_
                refine L_y (y_lss rfl rfl) rfl ?_
                refine L_nil ?_
                refine hK25 _ _ ?_
                refine T_seq fun K26 hK26 => ?_
                refine T_cond rfl (fun h71 => ?_) (fun h71 => ?_)
                ·
                  obtain ⟨x, hx⟩ : ∃ x, (rowsP (b.drop 8) n n n k)[k]? = some x := ⟨_, List.getElem?_eq_getElem (by rw [rowsP_len]; omega)⟩
                  refine T_skip ?_
                  refine hK26 _ _ ?_
                  refine T_seq fun K27 hK27 => ?_
                  refine T_block ?_
                  refine T_seq fun K28 hK28 => ?_
                  refine T_region ?_
                  refine L_y (y_move rfl) rfl ?_
                  refine L_y (y_assign rfl) rfl ?_
                  refine L_nil ?_
                  refine hK28 _ _ ?_
                  refine T_drawnX (fun w => Blk w b8 97 (idxG (some ⟨b7, 0, none⟩) n n (List.replicate 256 (.int .i64 0)) zI).toArray) hmix (by kernel_rfl) (fun w l => ((S17.like l).blk 4 rfl)) fun w18 l18 => ?_
                  have S18 := S17.like l18
                  refine DX_y 0 (by kernel_rfl) rfl (y_move rfl) rfl ?_
                  refine DX_y 1 (by kernel_rfl) rfl (y_nilp rfl) rfl ?_
                  refine DX_y 2 (by kernel_rfl) rfl (y_fieldA 0 Try.underlying97 rfl sz94 rfl rfl rfl) rfl ?_
                  refine DX_y 3 (by kernel_rfl) rfl (y_of fun w hw => y_ldc Try.underlying94 rfl rfl ((hw.cell _).trans (idxG_row _ _ _ _ _))) rfl ?_
                  refine DX_y 4 (by kernel_rfl) rfl (y_move rfl) rfl ?_
                  refine DX_y 5 (by kernel_rfl) rfl (y_move rfl) rfl ?_
                  refine DX_o1 6 (by kernel_rfl) rfl ?_
                  refine o_call Try.func73 rfl rfl (Oct.ru32 g A (m - 8) c (b.drop 8) (1024 + 36 * n + 4 * k) 0 w18 (S18.get 1 rfl) (by omega) (by omega)) rfl rfl ?_
                  rintro e19 w19 ⟨v19, rfl, rfl, T19⟩
                  refine ⟨_, rfl, ?_⟩
                  have S19 := S18.turn 1 rfl T19
                  obtain ⟨e1, e2, e3⟩ := rw_ok (l := b.drop 8) (p := 1024 + 36 * n + 4 * k) (k := 4) (by omega)
                  rw [e2, e3] at S19
                  rw [e1]
                  have hb4 : Oct.be (((b.drop 8).drop (1024 + 36 * n + 4 * k)).take 4) < 4294967296 := b4_lt _ _
                  rw [show 1024 + 36 * n + 4 * k + 4 = 1024 + 36 * n + 4 * (k + 1) by omega] at S19
                  refine ⟨(S19.blk 4 rfl), ?_⟩
                  refine DX_y 7 (by kernel_rfl) rfl (y_conv is60 Try.underlying3 rfl (i64w (by omega))) rfl ?_
                  refine DX_y 8 (by kernel_rfl) rfl (y_idx Try.underlying94 sz119 rfl rfl (S18.row 3 rfl) inferInstance (by omega)) rfl ?_
                  refine DX_y 9 (by kernel_rfl) rfl (y_fieldR 33 Try.underlying119 rfl sz3 rfl rfl (S18.row 3 rfl) (by omega) rfl) rfl ?_
                  refine DX_o1 10 (by kernel_rfl) rfl ?_
                  refine o_strowN S19 3 rfl rfl rfl rfl sz3 (by omega) fun w20 S20 => ?_
                  refine ⟨(S20.blk 4 rfl), ?_⟩
                  refine DX_nil (by kernel_rfl) ?_
                  refine hK27 _ _ ?_
                  refine T_region ?_
                  refine L_y (y_add rfl rfl (i64w (by omega))) rfl ?_
                  refine L_y (y_move rfl) rfl ?_
                  refine L_nil ?_
                  have S91 := S20.rowc 3 rfl rfl ((flat_fld (y := { x with at_ := (b4 (b.drop 8) (1024 + 36 * n + 4 * k) : Int) }) hx (by omega) (row_set33 x _)).trans (congrArg (fun q => q.flatMap rowf) (rowsP_at (by omega) hx)))
                  refine ⟨k + 1, by omega, ⟨by omega, S91⟩, ?_⟩
                  exact (Sub.cons rfl (by first | rfl | exact congrArg (Value.int _) (by omega)) (Sub.cons rfl rfl (Sub.cons rfl rfl (Sub.cons rfl rfl (Sub.cons rfl rfl (Sub.cons rfl rfl (Sub.nil _)))))))
                ·
                  obtain rfl : n = k := by omega
                  rw [show 1024 + 36 * n + 4 * n = 1024 + 40 * n by omega] at S17
                  refine T_exit ?_
                  refine hK23 _ _ ?_
                  refine T_seq fun K29 hK29 => ?_
                  refine T_region ?_
                  refine L_y (y_move rfl) rfl ?_
                  refine L_y (y_move rfl) rfl ?_
                  refine L_o (o_call Try.func119 rfl rfl (take g A (m - 8) c (b.drop 8) (1024 + 40 * n) (idAt (b.drop 8) (1024 + 40 * n)) w17 (S17.get 1 rfl) (by omega) (by omega) (idAt_l (by omega))) rfl rfl ?_)
                  rintro e21 w21 ⟨v21, rfl, T21, rfl⟩
                  refine ⟨_, rfl, ?_⟩
                  have S21 := S17.turn 1 rfl T21
                  refine L_y (y_nilp rfl) rfl ?_
                  refine L_y (y_fieldA 257 Try.underlying97 rfl sz23 rfl rfl rfl) rfl ?_
                  refine L_o (o_stR S21 4 rfl rfl rfl (by rw [List.size_toArray, idf_len]; exact sz23) (by rw [idxG_len (by simp), List.size_toArray, idf_len]; omega) (fun u hu => bL_one _ u (by rw [List.toList_toArray] at hu; exact hu)) fun w22 S22 => ?_)
                  have S90 := S22.blkc 4 rfl (idxG_of (by simp))
                  refine L_nil ?_
                  refine hK29 _ _ ?_
                  refine T_seq fun K30 hK30 => ?_
                  refine T_tail 3 hmix (by kernel_rfl) fun w23 l23 K31 hK31 => ?_
                  have S23 := S90.like l23
                  refine HL_y (y_move rfl) rfl ?_
                  refine HL_y (y_ldW Try.underlying95 rfl sz95 rfl (S23.blk 2 rfl) (said_whole _ 256 (Nat.le_refl _))) rfl ?_
                  refine HL_y (y_assign rfl) rfl ?_
                  refine HL_nil ?_
                  refine hK31 _ ?_
                  refine L_o (o_stW S23 0 rfl rfl rfl (by rw [List.size_toArray, arrG_len _ (by omega)]; exact sz95) (by rw [List.size_toArray, List.size_toArray, arrG_len _ (by omega), arrG_len _ (by omega)]) (fun u hu => arrG_one _ _ u (by rw [List.toList_toArray] at hu; exact hu)) fun w24 S24 => ?_)
                  refine L_nil ?_
                  refine hK30 _ _ ?_
                  refine T_ret ?_
                  repeat (first | with_reducible refine up_then ?_ | with_reducible refine up_in ?_)
                  refine rettc rfl rfl rfl (S24.blk 0 rfl) Try.underlying95 rfl (by rw [List.size_toArray, arrG_len _ (by omega)]; exact sz95) ?_
                  exact ⟨_, rfl, S24.like0, b8, _, rfl, S24.sel [3, 4] (by decide)⟩
end Go.Proofs.Ytgaklngnfecdaaa.Idx


/-
  Open.
-/
namespace Go.Proofs.Ytgaklngnfecdaaa.Idx
open Go.RowKit Zk Zx
open Oid (idf idf_len cmpL)
set_option linter.unusedVariables false
set_option linter.unusedSimpArgs false

open Oct (rdr)
def INDX : List UInt8 := [73, 78, 68, 88]
theorem indx_ne (l : List UInt8) : ((⟨l.toArray⟩ : ByteArray) ≠ ⟨#[73, 78, 68, 88]⟩) ↔ l ≠ INDX := by
  constructor
  · intro h e; exact h (by rw [e]; rfl)
  · intro h e
    have e2 : l.toArray = #[73, 78, 68, 88] := congrArg ByteArray.data e
    exact h (by have := congrArg Array.toList e2; simpa [INDX] using this)
/-- What bytes say: how many rows, the rows, the trailer, the fan-out. -/
def lastN (b : List UInt8) : Nat := b4 b 1028
def rowsB (b : List UInt8) : List Row := rowsP (b.drop 8) (lastN b) (lastN b) (lastN b) (lastN b)
def ofB (b : List UInt8) : Oid.Id := idAt (b.drop 8) (1024 + 40 * lastN b)
def FanOk (b : List UInt8) (l : List Row) : Prop := ∀ c, c < 256 → (cl l (c + 1) : Int) = (b4 (b.drop 8) (4 * c) : Int)
instance (b : List UInt8) (l : List Row) : Decidable (FanOk b l) := by unfold FanOk; infer_instance
instance (l : List Row) : Decidable (StR l) := by unfold StR; infer_instance
def openE (b : List UInt8) : Int :=
  if b.length < 1096 then 10 else if b.take 4 ≠ INDX ∨ b4 b 4 ≠ 1 then 12 else if 600 < lastN b then 5 else if b.length < 1096 + 40 * lastN b then 10 else if 1096 + 40 * lastN b < b.length then 11
  else if Sha.ofL (b.take (b.length - 32)) ≠ b.drop (b.length - 32) then 13 else if ¬ StR (rowsB b) then 18 else if ¬ FanOk b (rowsB b) then 18 else if (rowsB b).any (fun x => decide (1048576 < x.at_)) then 2 else 0
section
variable {b : List UInt8}
theorem openE_10 (h : b.length < 1096) : openE b = 10 := by unfold openE; rw [if_pos h]
theorem openE_12 (h : ¬ b.length < 1096) (h2 : b.take 4 ≠ INDX ∨ b4 b 4 ≠ 1) : openE b = 12 := by unfold openE; rw [if_neg h, if_pos h2]
theorem openE_5 (h : ¬ b.length < 1096) (h2 : ¬ (b.take 4 ≠ INDX ∨ b4 b 4 ≠ 1)) (h3 : 600 < lastN b) : openE b = 5 := by unfold openE; rw [if_neg h, if_neg h2, if_pos h3]
theorem openE_10b (h : ¬ b.length < 1096) (h2 : ¬ (b.take 4 ≠ INDX ∨ b4 b 4 ≠ 1)) (h3 : ¬ 600 < lastN b) (h4 : b.length < 1096 + 40 * lastN b) : openE b = 10 := by unfold openE; rw [if_neg h, if_neg h2, if_neg h3, if_pos h4]
theorem openE_11 (h : ¬ b.length < 1096) (h2 : ¬ (b.take 4 ≠ INDX ∨ b4 b 4 ≠ 1)) (h3 : ¬ 600 < lastN b) (h4 : ¬ b.length < 1096 + 40 * lastN b) (h5 : 1096 + 40 * lastN b < b.length) : openE b = 11 := by unfold openE; rw [if_neg h, if_neg h2, if_neg h3, if_neg h4, if_pos h5]
/-- All that is asked ahead of the sum. -/
structure Pre (b : List UInt8) : Prop where
  h1 : ¬ b.length < 1096
  h2 : ¬ (b.take 4 ≠ INDX ∨ b4 b 4 ≠ 1)
  h3 : ¬ 600 < lastN b
  h4 : ¬ b.length < 1096 + 40 * lastN b
  h5 : ¬ 1096 + 40 * lastN b < b.length
theorem openE_pre (h : Pre b) : openE b = if Sha.ofL (b.take (b.length - 32)) ≠ b.drop (b.length - 32) then 13 else if ¬ StR (rowsB b) then 18 else if ¬ FanOk b (rowsB b) then 18 else if (rowsB b).any (fun x => decide (1048576 < x.at_)) then 2 else 0 := by
  unfold openE; rw [if_neg h.h1, if_neg h.h2, if_neg h.h3, if_neg h.h4, if_neg h.h5]
theorem openE_13 (h : Pre b) (h6 : Sha.ofL (b.take (b.length - 32)) ≠ b.drop (b.length - 32)) : openE b = 13 := by rw [openE_pre h, if_pos h6]
theorem openE_18 (h : Pre b) (h6 : ¬ Sha.ofL (b.take (b.length - 32)) ≠ b.drop (b.length - 32)) (h7 : ¬ StR (rowsB b)) : openE b = 18 := by rw [openE_pre h, if_neg h6, if_pos h7]
theorem openE_18b (h : Pre b) (h6 : ¬ Sha.ofL (b.take (b.length - 32)) ≠ b.drop (b.length - 32)) (h7 : StR (rowsB b)) (h8 : ¬ FanOk b (rowsB b)) : openE b = 18 := by rw [openE_pre h, if_neg h6, if_neg (fun q => q h7), if_pos h8]
theorem openE_2 (h : Pre b) (h6 : ¬ Sha.ofL (b.take (b.length - 32)) ≠ b.drop (b.length - 32)) (h7 : StR (rowsB b)) (h8 : FanOk b (rowsB b)) (h9 : (rowsB b).any (fun x => decide (1048576 < x.at_)) = true) : openE b = 2 := by rw [openE_pre h, if_neg h6, if_neg (fun q => q h7), if_neg (fun q => q h8), if_pos h9]
theorem openE_0 (h : Pre b) (h6 : ¬ Sha.ofL (b.take (b.length - 32)) ≠ b.drop (b.length - 32)) (h7 : StR (rowsB b)) (h8 : FanOk b (rowsB b)) (h9 : ¬ (rowsB b).any (fun x => decide (1048576 < x.at_)) = true) : openE b = 0 := by rw [openE_pre h, if_neg h6, if_neg (fun q => q h7), if_neg (fun q => q h8), if_neg h9]
end
/-- What Open answers. -/
def Opened (w0 w' : World) (b : List UInt8) (u : Value) : Prop := (openE b ≠ 0 ∧ Like w0 w' ∧ u = .tuple #[.pointer none, .int .i64 (openE b)]) ∨ (openE b = 0 ∧ ∃ g A, u = .tuple #[.pointer (some ⟨g, 0, none⟩), .int .i64 0] ∧ Zx.St w0 noM [Zx.row 119 34 A (rowsB b).length (rowsB b).length ((rowsB b).flatMap rowf), blk g 97 (idxf A (rowsB b).length (rowsB b).length (rowsB b) (ofB b)).toArray] w')
theorem said_at (b : List UInt8) {i : Nat} (h : i < 256) : (said (b.drop 8)).toArray[i]? = some (.int .i64 (b4 (b.drop 8) (4 * i) : Int)) := by
  rw [List.getElem?_toArray]
  unfold said arrG
  rw [List.getElem?_append_left (by simpa using h)]
  simp [h]
theorem said_len (t : List UInt8) : (said t).length = 256 := arrG_len _ (Nat.le_refl _)
theorem said_one (t : List UInt8) : ∀ u ∈ said t, u.oneCell' = true := arrG_one _ _
theorem idxG_fan {A : Option Addr} {n c : Nat} {fs : List Value} {l : List Row} {of : Oid.Id} (h : fs.length = 256) : ((idxG A n c fs of).toArray.toList.take 1 ++ (fanF l).toArray.toList ++ (idxG A n c fs of).toArray.toList.drop (1 + (fanF l).toArray.size)).toArray = (idxf A n c l of).toArray := by
  refine congrArg List.toArray ?_
  unfold idxG idxf
  rw [List.size_toArray, fanF_len, List.toList_toArray, List.toList_toArray]
  have e1 : ([Value.slice A n c] ++ fs ++ idf of).take 1 = [.slice A n c] := rfl
  have e2 : ([Value.slice A n c] ++ fs ++ idf of).drop (1 + 256) = idf of := by
    rw [List.append_assoc, ← List.drop_drop, show ([Value.slice A n c] ++ (fs ++ idf of)).drop 1 = fs ++ idf of from rfl, List.drop_append_of_le_length (by omega), List.drop_of_length_le (by omega), List.nil_append]
  rw [e1, e2]
theorem idxf_fan (A : Option Addr) (n c : Nat) (l : List Row) (of : Oid.Id) : ((idxf A n c l of).toArray.toList.drop 1).take 256 = fanF l ∧ (fanF l).length = 256 := by
  refine ⟨?_, fanF_len l⟩
  unfold idxf
  rw [List.toList_toArray, show ([Value.slice A n c] ++ fanF l ++ idf of).drop 1 = fanF l ++ idf of from rfl, List.take_append_of_le_length (by rw [fanF_len]; omega), List.take_of_length_le (by rw [fanF_len]; omega)]
theorem fan_at (l : List Row) {i : Nat} (h : i < 256) : (fanF l).toArray[i]? = some (.int .i64 (cl l (i + 1) : Int)) := fan_cell l i h
theorem str_of_adj {l : List Row} (h : ∀ i x y, i + 1 < l.length → l[i]? = some x → l[i + 1]? = some y → Oid.lt x.id y.id = true) : StR l := by
  unfold StR
  rw [List.pairwise_iff_getElem]
  intro i j hi hj hij
  obtain ⟨d, rfl⟩ : ∃ d, j = i + 1 + d := ⟨j - (i + 1), by omega⟩
  clear hij
  induction d with
  | zero => exact h i _ _ hj (List.getElem?_eq_getElem hi) (List.getElem?_eq_getElem hj)
  | succ d ih =>
    have h1 := ih (by omega)
    have h2 := h (i + 1 + d) l[i + 1 + d] l[i + 1 + (d + 1)] (by omega) (List.getElem?_eq_getElem (by omega)) (by rw [show i + 1 + d + 1 = i + 1 + (d + 1) by omega]; exact List.getElem?_eq_getElem (by omega))
    exact Oid.lt_trans _ _ _ h1 h2
theorem not_str {l : List Row} {i : Nat} {x y : Row} (hx : l[i]? = some x) (hy : l[i + 1]? = some y) (h : Oid.lt x.id y.id = false) : ¬ StR l := fun hs => by
  unfold StR at hs
  rw [List.pairwise_iff_getElem] at hs
  obtain ⟨h1, h2⟩ := List.getElem?_eq_some_iff.1 hx
  obtain ⟨h3, h4⟩ := List.getElem?_eq_some_iff.1 hy
  have := hs i (i + 1) h1 h3 (by omega)
  rw [h2, h4, h] at this
  cases this
theorem head4 (b : List UInt8) : ((b.take 1032).drop 0).take 4 = b.take 4 := by rw [List.drop_zero, List.take_take]; rfl
theorem b4_take (b : List UInt8) : Oct.be (((b.take 1032).drop (0 + 4)).take 4) = b4 b 4 := by
  unfold b4
  rw [List.drop_take, List.take_take]
  rfl
theorem b4_last (b : List UInt8) : Oct.be (((((b.drop 1028).take (1032 - 1028)).drop 0)).take 4) = lastN b := by
  unfold lastN b4
  rw [List.drop_zero, List.take_take]
  rfl
theorem any_far {l : List Row} {k : Nat} {x : Row} (hx : l[k]? = some x) (h : 1048576 < x.at_) : l.any (fun x => decide (1048576 < x.at_)) = true := by
  rw [List.any_eq_true]
  exact ⟨x, List.mem_of_getElem? hx, decide_eq_true h⟩
theorem no_far {l : List Row} (h : ∀ i x, i < l.length → l[i]? = some x → ¬ 1048576 < x.at_) : ¬ l.any (fun x => decide (1048576 < x.at_)) = true := fun q => by
  rw [List.any_eq_true] at q
  obtain ⟨x, hx, q⟩ := q
  obtain ⟨i, hi⟩ := List.mem_iff_getElem?.1 hx
  exact h i x (List.getElem?_eq_some_iff.1 hi).1 hi (of_decide_eq_true q)


set_option maxRecDepth 100000 in
theorem open_ (B : Option Addr) (m d : Nat) (b : List UInt8) (w0 : World) (hb : Rs w0 1 B m d (bL b)) :
    Calls Try.prog 28 #[.slice B m d] w0 fun e w' => ∃ u, e = .returned u ∧ Opened w0 w' b u := by
  refine enter1 (env := [(0, .slice B m d)]) [.slice B m d] Try.func28 rfl Try.ntmps28 rfl rfl ?_
  have hm := hb.lenb; have hcap := hb.cap; have hmax := hb.max
  have S0 := St.start w0 noM
  refine T_seq fun K1 hK1 => ?_
  refine T_region ?_
  refine L_y (y_assign rfl) rfl ?_
  refine L_y (y_assign rfl) rfl ?_
  refine L_nil ?_
  refine hK1 _ _ ?_
  refine T_seq fun K2 hK2 => ?_
  refine T_seq fun K3 hK3 => ?_
  refine T_region ?_
  refine L_y (y_move rfl) rfl ?_
  refine L_y (y_len Try.underlying27 rfl) rfl ?_
  refine L_y (y_lss rfl rfl) rfl ?_
  refine L_nil ?_
  refine hK3 _ _ ?_
  refine T_cond rfl (fun h15 => ?_) (fun h15 => ?_)
  ·
    refine T_seq fun K4 hK4 => ?_
    refine T_region ?_
    refine L_y (y_assign rfl) rfl ?_
    refine L_y (y_assign rfl) rfl ?_
    refine L_nil ?_
    refine hK4 _ _ ?_
    refine T_ret ?_
    repeat (first | with_reducible refine up_then ?_ | with_reducible refine up_in ?_)
    refine ret2 rfl rfl rfl ?_
    have he : openE b = 10 := openE_10 (by omega)
    exact ⟨_, rfl, .inl ⟨by rw [he]; decide, S0.like0, by rw [he]⟩⟩
  ·
    refine T_skip ?_
    refine hK2 _ _ ?_
    refine T_seq fun K5 hK5 => ?_
    refine T_region ?_
    refine L_y (y_move rfl) rfl ?_
    refine L_y (y_sliceH Try.underlying27 sz5 rfl rfl inferInstance (by omega)) rfl ?_
    refine L_o (o_call Try.func71 rfl rfl (Oct.rnew _ _ _ (b.take 1032) w0 ((S0.rd hb).cutb (l := 0) (u := 1032) (by omega) (by omega)) (by omega)) rfl rfl ?_)
    rintro e1 w1 ⟨v1, rfl, l1, g1, A1, c1, rfl, hh1, dd1⟩
    refine ⟨_, rfl, ?_⟩
    have S1 := S0.new l1 _ hh1 dd1
    refine L_y (y_assign rfl) rfl ?_
    refine L_nil ?_
    refine hK5 _ _ ?_
    refine T_seq fun K6 hK6 => ?_
    refine T_seq fun K7 hK7 => ?_
    refine T_region ?_
    refine L_y (y_move rfl) rfl ?_
    refine L_o (o_call Try.func72 rfl rfl (Oct.rraw g1 A1 (1032 - 0) c1 (b.take 1032) 0 0 (4 : Nat) w1 (S1.get 0 rfl) (by omega) (by omega) (by omega)) rfl rfl ?_)
    rintro e2 w2 ⟨v2, rfl, T2, B7, d7, rfl, hr2, hd2⟩
    refine ⟨_, rfl, ?_⟩
    have S2 := S1.turn 0 rfl T2
    obtain ⟨e1, e2, e3⟩ := Oct.rn_ok (l := b.take 1032) (p := 0) (k := 4) (by rw [List.length_take]; omega)
    rw [e1, head4] at hr2 hd2
    rw [e2, e3] at S2
    rw [e1, head4]
    refine L_y (y_bstr Try.underlying27 Try.underlying5 Try.underlying9 rfl (by first | exact S2.rd hb | exact rs_of_row hr2 | exact S2.row 0 rfl)) rfl ?_
    refine L_y (y_sneq rfl rfl) rfl ?_
    refine L_y (y_move rfl) rfl ?_
    refine L_split 23 rfl (fun h23 => ?_) (fun h23 => ?_)
    ·
      refine L_gno rfl rfl rfl ?_
      refine L_gno rfl rfl rfl ?_
      refine L_gno rfl rfl rfl ?_
      refine L_y ((by first | exact y_pickT rfl rfl | exact y_pickF rfl rfl)) rfl ?_
      refine L_nil ?_
      refine hK7 _ _ ?_
      refine T_true rfl ?_
      refine T_seq fun K8 hK8 => ?_
      refine T_region ?_
      refine L_y (y_assign rfl) rfl ?_
      refine L_y (y_assign rfl) rfl ?_
      refine L_nil ?_
      refine hK8 _ _ ?_
      refine T_ret ?_
      repeat (first | with_reducible refine up_then ?_ | with_reducible refine up_in ?_)
      refine ret2 rfl rfl rfl ?_
      have he : openE b = 12 := openE_12 (by omega) (by first | exact .inl ((indx_ne _).1 h23) | exact .inr (fun q => h27 (by have h9 := b4_take b; omega)))
      exact ⟨_, rfl, .inl ⟨by rw [he]; decide, S2.like0, by rw [he]⟩⟩
    ·
      have hx0 : b.take 4 = INDX := by by_cases q : b.take 4 = INDX; exact q; exact absurd ((indx_ne _).2 q) h23
      refine L_gyes rfl rfl ?_
      refine L_y (y_move rfl) rfl ?_
      refine L_gyes rfl rfl ?_
      refine L_o (o_call Try.func73 rfl rfl (Oct.ru32 g1 A1 (1032 - 0) c1 (b.take 1032) (0 + 4) 0 w2 (S2.get 0 rfl) (by rw [List.length_take]; omega) (by omega)) rfl rfl ?_)
      rintro e4 w4 ⟨v4, rfl, rfl, T4⟩
      refine ⟨_, rfl, ?_⟩
      have S4 := S2.turn 0 rfl T4
      obtain ⟨e1, e2, e3⟩ := rw_ok (l := b.take 1032) (p := 0 + 4) (k := 4) (by rw [List.length_take]; omega)
      rw [e1]
      refine L_gyes rfl rfl ?_
      refine L_y (y_neq rfl rfl) rfl ?_
      refine L_y ((by first | exact y_pickT rfl rfl | exact y_pickF rfl rfl)) rfl ?_
      refine L_nil ?_
      refine hK7 _ _ ?_
      refine T_cond rfl (fun h27 => ?_) (fun h27 => ?_)
      ·
        refine T_seq fun K9 hK9 => ?_
        refine T_region ?_
        refine L_y (y_assign rfl) rfl ?_
        refine L_y (y_assign rfl) rfl ?_
        refine L_nil ?_
        refine hK9 _ _ ?_
        refine T_ret ?_
        repeat (first | with_reducible refine up_then ?_ | with_reducible refine up_in ?_)
        refine ret2 rfl rfl rfl ?_
        have he : openE b = 12 := openE_12 (by omega) (by first | exact .inl ((indx_ne _).1 h23) | exact .inr (fun q => h27 (by have h9 := b4_take b; omega)))
        exact ⟨_, rfl, .inl ⟨by rw [he]; decide, S4.like0, by rw [he]⟩⟩
      ·
        have hform : ¬ (b.take 4 ≠ INDX ∨ b4 b 4 ≠ 1) := fun q => by rcases q with q | q; exact q hx0; exact q (by have h9 := b4_take b; omega)
        refine T_skip ?_
        refine hK6 _ _ ?_
        refine T_seq fun K10 hK10 => ?_
        refine T_region ?_
        refine L_y (y_move rfl) rfl ?_
        refine L_y (y_slice Try.underlying27 sz5 rfl rfl rfl inferInstance inferInstance (by omega) (by omega)) rfl ?_
        refine L_o (o_call Try.func71 rfl rfl (Oct.rnew _ _ _ ((b.drop 1028).take (1032 - 1028)) w4 ((S4.rd hb).cutb (l := 1028) (u := 1032) (by omega) (by omega)) (by omega)) rfl rfl ?_)
        rintro e5 w5 ⟨v5, rfl, l5, g3, A3, c3, rfl, hh5, dd5⟩
        refine ⟨_, rfl, ?_⟩
        have S5 := S4.new l5 _ hh5 dd5
        refine L_o (o_call Try.func73 rfl rfl (Oct.ru32 g3 A3 (1032 - 1028) c3 ((b.drop 1028).take (1032 - 1028)) 0 0 w5 (S5.get 1 rfl) (by omega) (by omega)) rfl rfl ?_)
        rintro e6 w6 ⟨v6, rfl, rfl, T6⟩
        refine ⟨_, rfl, ?_⟩
        have S6 := S5.turn 1 rfl T6
        obtain ⟨e1, e2, e3⟩ := rw_ok (l := (b.drop 1028).take (1032 - 1028)) (p := 0) (k := 4) (by rw [List.length_take, List.length_drop]; omega)
        rw [e1, b4_last]
        have hlast : lastN b < 4294967296 := b4_lt _ _
        refine L_y (y_assign rfl) rfl ?_
        refine L_nil ?_
        refine hK10 _ _ ?_
        refine T_seq fun K11 hK11 => ?_
        refine T_seq fun K12 hK12 => ?_
        refine T_region ?_
        refine L_y (y_move rfl) rfl ?_
        refine L_y (y_gtr rfl rfl) rfl ?_
        refine L_nil ?_
        refine hK12 _ _ ?_
        refine T_cond rfl (fun h33 => ?_) (fun h33 => ?_)
        ·
          refine T_seq fun K13 hK13 => ?_
          refine T_region ?_
          refine L_y (y_assign rfl) rfl ?_
          refine L_y (y_assign rfl) rfl ?_
          refine L_nil ?_
          refine hK13 _ _ ?_
          refine T_ret ?_
          repeat (first | with_reducible refine up_then ?_ | with_reducible refine up_in ?_)
          refine ret2 rfl rfl rfl ?_
          have he : openE b = 5 := openE_5 (by omega) hform (by omega)
          exact ⟨_, rfl, .inl ⟨by rw [he]; decide, S6.like0, by rw [he]⟩⟩
        ·
          refine T_skip ?_
          refine hK11 _ _ ?_
          refine T_seq fun K14 hK14 => ?_
          refine T_region ?_
          refine L_y (y_move rfl) rfl ?_
          refine L_y (y_conv is60 Try.underlying3 rfl (i64w (by omega))) rfl ?_
          refine L_y (y_assign rfl) rfl ?_
          refine L_nil ?_
          refine hK14 _ _ ?_
          refine T_seq fun K15 hK15 => ?_
          refine T_seq fun K16 hK16 => ?_
          refine T_region ?_
          refine L_y (y_move rfl) rfl ?_
          refine L_y (y_mul rfl rfl (i64w (by omega))) rfl ?_
          refine L_y (y_add rfl rfl (i64w (by omega))) rfl ?_
          refine L_y (y_add rfl rfl (i64w (by omega))) rfl ?_
          refine L_y (y_assign rfl) rfl ?_
          refine L_nil ?_
          refine hK16 _ _ ?_
          refine T_block ?_
          refine T_seq fun K17 hK17 => ?_
          refine T_region ?_
          refine L_y (y_move rfl) rfl ?_
          refine L_y (y_len Try.underlying27 rfl) rfl ?_
          refine L_y (y_move rfl) rfl ?_
          refine L_y (y_lss rfl rfl) rfl ?_
          refine L_y (y_assign rfl) rfl ?_
          refine L_nil ?_
          refine hK17 _ _ ?_
          refine T_cond rfl (fun h40 => ?_) (fun h40 => ?_)
          ·
            refine T_seq fun K18 hK18 => ?_
            refine T_region ?_
            refine L_y (y_assign rfl) rfl ?_
            refine L_y (y_assign rfl) rfl ?_
            refine L_nil ?_
            refine hK18 _ _ ?_
            refine T_ret ?_
            repeat (first | with_reducible refine up_then ?_ | with_reducible refine up_in ?_)
            refine ret2 rfl rfl rfl ?_
            have he : openE b = 10 := openE_10b (by omega) hform (by omega) (by omega)
            exact ⟨_, rfl, .inl ⟨by rw [he]; decide, S6.like0, by rw [he]⟩⟩
          ·
            refine T_seq fun K19 hK19 => ?_
            refine T_region ?_
            refine L_y (y_move rfl) rfl ?_
            refine L_y (y_len Try.underlying27 rfl) rfl ?_
            refine L_y (y_move rfl) rfl ?_
            refine L_y (y_gtr rfl rfl) rfl ?_
            refine L_y (y_assign rfl) rfl ?_
            refine L_nil ?_
            refine hK19 _ _ ?_
            refine T_cond rfl (fun h45 => ?_) (fun h45 => ?_)
            ·
              refine T_seq fun K20 hK20 => ?_
              refine T_region ?_
              refine L_y (y_assign rfl) rfl ?_
              refine L_y (y_assign rfl) rfl ?_
              refine L_nil ?_
              refine hK20 _ _ ?_
              refine T_ret ?_
              repeat (first | with_reducible refine up_then ?_ | with_reducible refine up_in ?_)
              refine ret2 rfl rfl rfl ?_
              have he : openE b = 11 := openE_11 (by omega) hform (by omega) (by omega) (by omega)
              exact ⟨_, rfl, .inl ⟨by rw [he]; decide, S6.like0, by rw [he]⟩⟩
            ·
              have hpre : Pre b := ⟨by omega, hform, by omega, by omega, by omega⟩
              have hbl : b.length = 1096 + 40 * lastN b := by omega
              refine T_skip ?_
              refine hK15 _ _ ?_
              refine T_seq fun K21 hK21 => ?_
              refine T_seq fun K22 hK22 => ?_
              have e32 : (b.drop (b.length - 32)).take 32 = b.drop (b.length - 32) := List.take_of_length_le (by rw [List.length_drop]; omega)
              refine T_drawnL [(0, true), (1, true), (2, true), (3, true), (4, true), (7, true), (8, true), (9, true), (10, true), (11, true), (12, true), (13, true), (5, false), (6, false), (14, true)] hmix (by kernel_rfl) fun w7 l7 => ?_
              have S7 := S6.like l7
              refine DL_y rfl (y_move rfl) rfl ?_
              refine DL_y rfl (y_move rfl) rfl ?_
              refine DL_y rfl (y_len Try.underlying27 rfl) rfl ?_
              refine DL_y rfl (y_sub rfl rfl (i64w (by omega))) rfl ?_
              refine DL_y rfl (y_sliceH Try.underlying27 sz5 rfl rfl (Nt.mk (by omega) : Nt _ (b.length - 32)) (by omega)) rfl ?_
              refine DL_y rfl (y_move rfl) rfl ?_
              refine DL_y rfl (y_move rfl) rfl ?_
              refine DL_y rfl (y_len Try.underlying27 rfl) rfl ?_
              refine DL_y rfl (y_sub rfl rfl (i64w (by omega))) rfl ?_
              refine DL_y rfl (y_sliceL Try.underlying27 sz5 rfl rfl (Nt.mk (by omega) : Nt _ (b.length - 32)) (by omega)) rfl ?_
              refine DL_y rfl (y_arrAt Try.underlying23 rfl (by omega)) rfl ?_
              refine DL_y rfl (y_ldArr Try.underlying23 sz23 rfl (rs_tail (b.length - 32) (S7.rd hb) (by omega)) (by omega) (by omega)) rfl ?_
              refine DL_o rfl (o_bslL [_] te177 zz27 S7 rfl rfl rfl rfl rfl rfl rfl rfl fun b8 w8 l8 S8 => ?_)
              have q8 := l8
              refine ⟨q8, ?_⟩
              refine DL_o rfl (o_call Try.func74 rfl rfl (Sha.shaof [⟨_, _, _, b.take (b.length - 32)⟩] _ _ _ w8 (S8.row 2 rfl) (fun p hp => by obtain rfl := List.mem_singleton.1 hp; exact (S8.rd hb).cutb (l := 0) (u := b.length - 32) (by omega) (by omega)) (by rw [cat1, List.length_take]; omega) (by simp)) rfl rfl ?_)
              rintro e9 w9 ⟨v9, rfl, l9, hu9⟩
              refine ⟨_, rfl, (Like.trans q8 l9), ?_⟩
              have S9 := S8.like l9
              rw [cat1] at hu9
              subst hu9
              have q9 := (Like.trans q8 l9)
              refine DL_y rfl (y_neB Try.underlying23 Try.underlying5 sz5 (by kernel_rfl) rfl rfl (Sha.length_ofL _) (by rw [List.length_take, List.length_drop]; omega)) rfl ?_
              refine DL_nil ?_
              refine hK22 _ _ ?_
              refine T_cond rfl (fun h64 => ?_) (fun h64 => ?_)
              ·
                rw [e32] at h64
                refine T_seq fun K23 hK23 => ?_
                refine T_region ?_
                refine L_y (y_assign rfl) rfl ?_
                refine L_y (y_assign rfl) rfl ?_
                refine L_nil ?_
                refine hK23 _ _ ?_
                refine T_ret ?_
                repeat (first | with_reducible refine up_then ?_ | with_reducible refine up_in ?_)
                refine ret2 rfl rfl rfl ?_
                have he : openE b = 13 := openE_13 hpre h64
                exact ⟨_, rfl, .inl ⟨by rw [he]; decide, S9.like0, by rw [he]⟩⟩
              ·
                rw [e32] at h64
                refine T_skip ?_
                refine hK21 _ _ ?_
                refine T_seq fun K24 hK24 => ?_
                refine T_region ?_
                refine L_y (y_move rfl) rfl ?_
                refine L_y (y_move rfl) rfl ?_
                refine L_o (o_call Try.func75 rfl rfl (read B m d b (lastN b) w9 (S9.rd hb) hbl (by omega)) rfl rfl ?_)
                rintro e10 w10 ⟨v10, rfl, l10, g5, A5, rfl, T10⟩
                refine ⟨_, rfl, ?_⟩
                have S10 := S9.adoptS T10
                have hlen : (rowsB b).length = lastN b := rowsP_len _ _ _ _ _
                refine L_y (y_move rfl) rfl ?_
                refine L_y (y_extract rfl rfl) rfl ?_
                refine L_y (y_extract rfl rfl) rfl ?_
                refine L_o (o_alloc zz95 S10 rfl fun b11 w11 hb11 S11 => ?_)
                refine L_y (y_assign rfl) rfl ?_
                refine L_o (o_stW S11 5 rfl rfl rfl (by rw [List.size_toArray, said_len]; exact sz95) (by rw [List.size_toArray, said_len]; rfl) (fun u hu => said_one _ u (by rw [List.toList_toArray] at hu; exact hu)) fun w12 S12 => ?_)
                refine L_nil ?_
                refine hK24 _ _ ?_
                refine T_seq fun K25 hK25 => ?_
                refine T_seq fun K26 hK26 => ?_
                refine T_region ?_
                refine L_y (y_assign rfl) rfl ?_
                refine L_nil ?_
                refine hK26 _ _ ?_
                refine T_block ?_
                refine T_loop1 [(6, _), (8, _), (9, _)] (fun (j : Nat) => [(10, .int .i64 (j : Int))]) (fun (j : Nat) => (lastN b) - j) (fun (j : Nat) (w : World) => (1 ≤ j ∧ ∀ i x y, i + 1 < j → (rowsB b)[i]? = some x → (rowsB b)[i + 1]? = some y → Oid.lt x.id y.id = true) ∧ Zx.St w0 noM [Zx.row 119 34 A5 (lastN b) (lastN b) ((rowsB b).flatMap rowf), blk g5 97 (idxG A5 (lastN b) (lastN b) (List.replicate 256 (.int .i64 0)) (ofB b)).toArray, blk b11 95 (said (b.drop 8)).toArray] w) 1 (Sub.cons rfl (by first | rfl | exact congrArg (Value.int _) (by omega)) (Sub.nil _)) (Sub.cons rfl rfl (Sub.cons rfl rfl (Sub.cons rfl rfl (Sub.nil _)))) ?_ ?_
                ·
                  have S71 : Zx.St w0 noM [Zx.row 119 34 A5 (lastN b) (lastN b) ((rowsB b).flatMap rowf), blk g5 97 (idxG A5 (lastN b) (lastN b) (List.replicate 256 (.int .i64 0)) (ofB b)).toArray, blk b11 95 (said (b.drop 8)).toArray] w12 := S12.sel [3, 4, 5] (by decide)
                  exact ⟨⟨by omega, fun i x y hi => by omega⟩, S71⟩
                ·
                  intro j w13 hrel
                  obtain ⟨⟨hj, hasc⟩, S13⟩ := hrel
                  refine T_seq fun K27 hK27 => ?_
                  refine T_seq fun K28 hK28 => ?_
                  refine T_region ?_
                  refine L_y (y_move rfl) rfl ?_
                  refine L_y (y_move rfl) rfl ?_
                  refine L_y (y_lss rfl rfl) rfl ?_
                  refine L_nil ?_
                  refine hK28 _ _ ?_
                  refine T_cond rfl (fun h73 => ?_) (fun h73 => ?_)
                  ·
                    obtain ⟨p, hx1⟩ : ∃ x, (rowsB b)[j - 1]? = some x := ⟨_, List.getElem?_eq_getElem (by omega)⟩
                    obtain ⟨q, hx2⟩ : ∃ x, (rowsB b)[j]? = some x := ⟨_, List.getElem?_eq_getElem (by omega)⟩
                    refine T_skip ?_
                    refine hK27 _ _ ?_
                    refine T_seq fun K29 hK29 => ?_
                    refine T_block ?_
                    refine T_seq fun K30 hK30 => ?_
                    refine T_tail 15 hmix (by kernel_rfl) fun w14 l14 K31 hK31 => ?_
                    have S14 := S13.like l14
                    refine HL_y (y_move rfl) rfl ?_
                    refine HL_y (y_nilp rfl) rfl ?_
                    refine HL_y (y_fieldA 0 Try.underlying97 rfl sz94 rfl rfl rfl) rfl ?_
                    refine HL_y (y_ldc Try.underlying94 rfl rfl (((S14.blk 1 rfl).cell _).trans (idxG_row _ _ _ _ _))) rfl ?_
                    refine HL_y (y_move rfl) rfl ?_
                    refine HL_y (y_sub rfl rfl (i64w (by omega))) rfl ?_
                    refine HL_y (y_idx Try.underlying94 sz119 rfl rfl (S14.row 0 rfl) (Nt.mk (by omega) : Nt _ (j - 1)) (by omega)) rfl ?_
                    refine HL_y (y_ldp (f := rowf) rowf_len Try.underlying119 rfl sz119 rfl (S14.row 0 rfl) (by omega) hx1) rfl ?_
                    refine HL_y (y_move rfl) rfl ?_
                    refine HL_y (y_nilp rfl) rfl ?_
                    refine HL_y (y_fieldA 0 Try.underlying97 rfl sz94 rfl rfl rfl) rfl ?_
                    refine HL_y (y_ldc Try.underlying94 rfl rfl (((S14.blk 1 rfl).cell _).trans (idxG_row _ _ _ _ _))) rfl ?_
                    refine HL_y (y_move rfl) rfl ?_
                    refine HL_y (y_idx Try.underlying94 sz119 rfl rfl (S14.row 0 rfl) inferInstance (by omega)) rfl ?_
                    refine HL_y (y_ldp (f := rowf) rowf_len Try.underlying119 rfl sz119 rfl (S14.row 0 rfl) (by omega) hx2) rfl ?_
                    refine HL_nil ?_
                    refine hK31 _ ?_
                    refine L_o (o_call Try.func64 rfl rfl (cmpR p q w14) rfl rfl ?_)
                    rintro e15 w15 ⟨v15, rfl, l15, rfl⟩
                    refine ⟨_, rfl, ?_⟩
                    have S15 := S14.like l15
                    refine L_y (y_geq rfl rfl) rfl ?_
                    refine L_nil ?_
                    refine hK30 _ _ ?_
                    refine T_cond rfl (fun h92 => ?_) (fun h92 => ?_)
                    ·
                      refine T_seq fun K32 hK32 => ?_
                      refine T_region ?_
                      refine L_y (y_assign rfl) rfl ?_
                      refine L_y (y_assign rfl) rfl ?_
                      refine L_nil ?_
                      refine hK32 _ _ ?_
                      refine T_ret ?_
                      repeat (first | with_reducible refine up_then ?_ | with_reducible refine up_in ?_)
                      refine ret2 rfl rfl rfl ?_
                      have he : openE b = 18 := openE_18 hpre h64 (not_str hx1 (by rw [show j - 1 + 1 = j by omega]; exact hx2) ((Oid.cmp_ge _ _).1 (by omega)))
                      exact ⟨_, rfl, .inl ⟨by rw [he]; decide, S15.like0, by rw [he]⟩⟩
                    ·
                      refine T_skip ?_
                      refine hK29 _ _ ?_
                      refine T_region ?_
                      refine L_y (y_move rfl) rfl ?_
                      refine L_y (y_add rfl rfl (i64w (by omega))) rfl ?_
                      refine L_y (y_assign rfl) rfl ?_
                      refine L_nil ?_
                      refine ⟨j + 1, by omega, ⟨⟨by omega, fun i x y hi hx hy => by rcases Nat.lt_or_ge (i + 1) j with q | q; exact hasc i x y q hx hy; (have e9 : i = j - 1 := by omega); subst e9; rw [hx1] at hx; cases hx; rw [show j - 1 + 1 = j by omega, hx2] at hy; cases hy; exact (Oid.cmp_lt _ _).1 (by omega)⟩, S15⟩, ?_⟩
                      exact (Sub.cons rfl (by first | rfl | exact congrArg (Value.int _) (by omega)) (Sub.cons rfl rfl (Sub.cons rfl rfl (Sub.cons rfl rfl (Sub.nil _)))))
                  ·
                    have hst : StR (rowsB b) := str_of_adj (fun i x y hi hx hy => hasc i x y (by omega) hx hy)
                    refine T_exit ?_
                    refine hK25 _ _ ?_
                    refine T_seq fun K33 hK33 => ?_
                    refine T_region ?_
                    refine L_y (y_move rfl) rfl ?_
                    refine L_y (y_move rfl) rfl ?_
                    refine L_y (y_nilp rfl) rfl ?_
                    refine L_y (y_fieldA 0 Try.underlying97 rfl sz94 rfl rfl rfl) rfl ?_
                    refine L_y (y_ldc Try.underlying94 rfl rfl (((S13.blk 1 rfl).cell _).trans (idxG_row _ _ _ _ _))) rfl ?_
                    refine L_o (o_call Try.func76 rfl rfl (fanC A5 (lastN b) (lastN b) (rowsB b) w13 (S13.row 0 rfl) (StR.fs hst)) rfl rfl ?_)
                    rintro e16 w16 ⟨v16, rfl, l16, rfl⟩
                    refine ⟨_, rfl, ?_⟩
                    have S16 := S13.like l16
                    refine L_y (y_nilp rfl) rfl ?_
                    refine L_y (y_fieldA 1 Try.underlying97 rfl sz95 rfl rfl rfl) rfl ?_
                    refine L_o (o_stR S16 1 rfl rfl rfl (by rw [List.size_toArray, fanF_len]; exact sz95) (by rw [idxG_len (by simp), List.size_toArray, fanF_len]; omega) (fun u hu => fanA_one _ _ u (by rw [List.toList_toArray] at hu; exact hu)) fun w17 S17 => ?_)
                    have S90 := S17.blkc 1 rfl (idxG_fan (by simp))
                    refine L_nil ?_
                    refine hK33 _ _ ?_
                    refine T_seq fun K34 hK34 => ?_
                    refine T_seq fun K35 hK35 => ?_
                    refine T_drawnL [(0, true), (1, true), (2, true), (3, true), (4, true), (5, true)] hmix (by kernel_rfl) fun w18 l18 => ?_
                    have S18 := S90.like l18
                    refine DL_y rfl (y_move rfl) rfl ?_
                    refine DL_y rfl (y_nilp rfl) rfl ?_
                    refine DL_y rfl (y_fieldA 1 Try.underlying97 rfl sz95 rfl rfl rfl) rfl ?_
                    refine DL_y rfl (y_ldW Try.underlying95 rfl sz95 rfl (S18.blk 1 rfl) (idxf_fan _ _ _ _ _)) rfl ?_
                    refine DL_y rfl (y_ldW Try.underlying95 rfl sz95 rfl (S18.blk 2 rfl) (said_whole _ 256 (Nat.le_refl _))) rfl ?_
                    refine DL_y rfl (y_neA (fun i => (cl (rowsB b) (i + 1) : Int)) (fun i => (b4 (b.drop 8) (4 * i) : Int)) Try.underlying95 Try.underlying3 sz3 (by kernel_rfl) rfl rfl (fun i hi => fan_at _ hi) (fun i hi => said_at b hi)) rfl ?_
                    refine DL_nil ?_
                    refine hK35 _ _ ?_
                    refine T_condB rfl (fun h106 => ?_) (fun h106 => ?_)
                    ·
                      refine T_seq fun K36 hK36 => ?_
                      refine T_region ?_
                      refine L_y (y_assign rfl) rfl ?_
                      refine L_y (y_assign rfl) rfl ?_
                      refine L_nil ?_
                      refine hK36 _ _ ?_
                      refine T_ret ?_
                      repeat (first | with_reducible refine up_then ?_ | with_reducible refine up_in ?_)
                      refine ret2 rfl rfl rfl ?_
                      have he : openE b = 18 := openE_18b hpre h64 hst (all_ne.1 h106)
                      exact ⟨_, rfl, .inl ⟨by rw [he]; decide, S18.like0, by rw [he]⟩⟩
                    ·
                      have hfan : FanOk b (rowsB b) := by by_cases q : FanOk b (rowsB b); exact q; exact absurd (all_ne.2 q) (by rw [h106]; decide)
                      refine T_skip ?_
                      refine hK34 _ _ ?_
                      refine T_seq fun K37 hK37 => ?_
                      refine T_seq fun K38 hK38 => ?_
                      refine T_region ?_
                      refine L_y (y_move rfl) rfl ?_
                      refine L_y (y_nilp rfl) rfl ?_
                      refine L_y (y_fieldA 0 Try.underlying97 rfl sz94 rfl rfl rfl) rfl ?_
                      refine L_y (y_ldc Try.underlying94 rfl rfl (((S18.blk 1 rfl).cell _).trans (idx_row _ _ _ _ _))) rfl ?_
                      refine L_y (y_len Try.underlying94 rfl) rfl ?_
                      refine L_y (y_move rfl) rfl ?_
                      refine L_nil ?_
                      refine hK38 _ _ ?_
                      refine T_block ?_
                      refine T_loop1 [(8, _), (110, _), (111, _)] (fun (k : Nat) => [(112, .int .i64 (k : Int))]) (fun (k : Nat) => (lastN b) - k) (fun (k : Nat) (w : World) => (k ≤ lastN b ∧ ∀ i x, i < k → (rowsB b)[i]? = some x → ¬ 1048576 < x.at_) ∧ Zx.St w0 noM [Zx.row 119 34 A5 (lastN b) (lastN b) ((rowsB b).flatMap rowf), blk g5 97 (idxf A5 (lastN b) (lastN b) (rowsB b) (ofB b)).toArray, blk b11 95 (said (b.drop 8)).toArray] w) 0 (Sub.cons rfl (by first | rfl | exact congrArg (Value.int _) (by omega)) (Sub.nil _)) (Sub.cons rfl rfl (Sub.cons rfl rfl (Sub.cons rfl rfl (Sub.nil _)))) ?_ ?_
                      ·
                        exact ⟨⟨by omega, fun i x hi => by omega⟩, S18⟩
                      ·
                        intro k w19 hrel
                        obtain ⟨⟨hk, hno⟩, S19⟩ := hrel
                        refine T_seq fun K39 hK39 => ?_
                        refine T_region ?_
                        refine L_y (y_lss rfl rfl) rfl ?_
                        refine L_nil ?_
                        refine hK39 _ _ ?_
                        refine T_seq fun K40 hK40 => ?_
                        refine T_cond rfl (fun h113 => ?_) (fun h113 => ?_)
                        ·
                          obtain ⟨x, hx⟩ : ∃ x, (rowsB b)[k]? = some x := ⟨_, List.getElem?_eq_getElem (by omega)⟩
                          refine T_skip ?_
                          refine hK40 _ _ ?_
                          refine T_seq fun K41 hK41 => ?_
                          refine T_block ?_
                          refine T_seq fun K42 hK42 => ?_
                          refine T_region ?_
                          refine L_y (y_idx Try.underlying94 sz119 rfl rfl (S19.row 0 rfl) inferInstance (by omega)) rfl ?_
                          refine L_y (y_ldp (f := rowf) rowf_len Try.underlying119 rfl sz119 rfl (S19.row 0 rfl) (by omega) hx) rfl ?_
                          refine L_o (o_alloc zz119 S19 rfl fun b20 w20 hb20 S20 => ?_)
                          refine L_o (o_stW S20 3 rfl rfl rfl (by rw [rowf_sz]; exact sz119) (by rw [rowf_sz]; rfl) (fun u hu => rowf_one _ u (by rw [List.toList_toArray] at hu; exact hu)) fun w21 S21 => ?_)
                          refine L_nil ?_
                          refine hK42 _ _ ?_
                          refine T_seq fun K43 hK43 => ?_
                          refine T_region ?_
                          refine L_y (y_fieldA 33 Try.underlying119 rfl sz3 rfl rfl rfl) rfl ?_
                          refine L_y (y_ldc Try.underlying3 rfl rfl (((S21.blk 3 rfl).cell _).trans (row33 x))) rfl ?_
                          refine L_y (y_gtr rfl rfl) rfl ?_
                          refine L_nil ?_
                          refine hK43 _ _ ?_
                          refine T_cond rfl (fun h118 => ?_) (fun h118 => ?_)
                          ·
                            refine T_seq fun K44 hK44 => ?_
                            refine T_region ?_
                            refine L_y (y_assign rfl) rfl ?_
                            refine L_y (y_assign rfl) rfl ?_
                            refine L_nil ?_
                            refine hK44 _ _ ?_
                            refine T_ret ?_
                            repeat (first | with_reducible refine up_then ?_ | with_reducible refine up_in ?_)
                            refine ret2 rfl rfl rfl ?_
                            have he : openE b = 2 := openE_2 hpre h64 hst hfan (any_far hx (by omega))
                            exact ⟨_, rfl, .inl ⟨by rw [he]; decide, S21.like0, by rw [he]⟩⟩
                          ·
                            refine T_skip ?_
                            refine hK41 _ _ ?_
                            refine T_region ?_
                            refine L_y (y_add rfl rfl (i64w (by omega))) rfl ?_
                            refine L_y (y_move rfl) rfl ?_
                            refine L_nil ?_
                            have S91 := S21.sel [0, 1, 2] (by decide)
                            refine ⟨k + 1, by omega, ⟨⟨by omega, fun i y hi hy => by rcases Nat.lt_or_ge i k with q | q; exact hno i y q hy; (have e9 : i = k := by omega); subst e9; rw [hx] at hy; cases hy; omega⟩, S91⟩, ?_⟩
                            exact (Sub.cons rfl (by first | rfl | exact congrArg (Value.int _) (by omega)) (Sub.cons rfl rfl (Sub.cons rfl rfl (Sub.cons rfl rfl (Sub.nil _)))))
                        ·
                          refine T_exit ?_
                          refine hK37 _ _ ?_
                          refine T_seq fun K45 hK45 => ?_
                          refine T_region ?_
                          refine L_y (y_move rfl) rfl ?_
                          refine L_y (y_assign rfl) rfl ?_
                          refine L_y (y_assign rfl) rfl ?_
                          refine L_nil ?_
                          refine hK45 _ _ ?_
                          refine T_ret ?_
                          repeat (first | with_reducible refine up_then ?_ | with_reducible refine up_in ?_)
                          refine ret2 rfl rfl rfl ?_
                          have he : openE b = 0 := openE_0 hpre h64 hst hfan (no_far fun i x hi hx => hno i x (by omega) hx)
                          rw [← hlen] at S19
                          exact ⟨_, rfl, .inr ⟨he, g5, A5, rfl, S19.sel [0, 1] (by decide)⟩⟩
end Go.Proofs.Ytgaklngnfecdaaa.Idx


/-
  Of the document: Join, bytes, Closed.
-/
namespace Go.Proofs.Ytgaklngnfecdaaa.Idx
open Go.RowKit Zk Zx
open Oid (idf idf_len cmpL)
set_option linter.unusedVariables false
set_option linter.unusedSimpArgs false

def okP (w : World) (B : Nat) (ps : List Part) : Prop := ∀ p ∈ ps, p.ok w ∧ p.n ≤ B
theorem okP.nil (w : World) (B : Nat) : okP w B [] := fun p hp => by cases hp
theorem okP.cons {w : World} {B : Nat} {p : Part} {ps : List Part} (h1 : p.ok w) (h2 : p.n ≤ B) (h : okP w B ps) : okP w B (p :: ps) := fun q hq => by
  rcases List.mem_cons.1 hq with rfl | hq
  · exact ⟨h1, h2⟩
  · exact h q hq
end Go.Proofs.Ytgaklngnfecdaaa.Idx


/-
  Places sorted by the document.
-/
namespace Go.Proofs.Ytgaklngnfecdaaa.Idx
open Go.RowKit Zk Zx
open Oid (idf idf_len cmpL)
set_option linter.unusedVariables false
set_option linter.unusedSimpArgs false

theorem pl_part {l : List Row} {k : Nat} {x : Row} (h : l[k]? = some x) : ((l.flatMap plf).drop (k * 34 + 0)).take 32 = idf x.id := by
  rw [flat_part plf 34 plf_len l k 0 32 x h (by omega)]
  exact (pl_id x).1
theorem getD_of {l : List Row} {k : Nat} {x : Row} (h : l[k]? = some x) : l.getD k zR = x := by rw [List.getD_eq_getElem?_getD, h]; rfl


end Go.Proofs.Ytgaklngnfecdaaa.Idx


/-
  Make of the document.
-/
namespace Go.Proofs.Ytgaklngnfecdaaa.Idx
open Go.RowKit Zk Zx
open Oid (idf idf_len cmpL)
set_option linter.unusedVariables false
set_option linter.unusedSimpArgs false

end Go.Proofs.Ytgaklngnfecdaaa.Idx


/-
  What is laid is opened.
-/
namespace Go.Proofs.Ytgaklngnfecdaaa.Idx
open Go.RowKit Zk Zx
open Oid (idf idf_len cmpL)
set_option linter.unusedVariables false
set_option linter.unusedSimpArgs false

theorem be_all : ∀ (l : List UInt8) (a : Nat), l.foldl (fun n c => n * 256 + c.toNat) a = a * 256 ^ l.length + Oct.be l
  | [], a => by simp [Oct.be]
  | c :: l, a => by
    have e : Oct.be (c :: l) = c.toNat * 256 ^ l.length + Oct.be l := by
      rw [Oct.be, List.foldl_cons, be_all l]
      simp
    rw [List.foldl_cons, be_all l, e, List.length_cons, Nat.pow_succ, Nat.add_mul, Nat.mul_assoc a, Nat.mul_comm 256, Nat.add_assoc]
theorem be_cons (c : UInt8) (l : List UInt8) : Oct.be (c :: l) = c.toNat * 256 ^ l.length + Oct.be l := by
  rw [Oct.be, List.foldl_cons, be_all l]
  simp
theorem be_tl (v : Nat) : ∀ j, Oct.be (Oct.tl v j) = v % 256 ^ j
  | 0 => by simp [Oct.tl, Oct.be, Nat.mod_one]
  | j + 1 => by
    rw [Oct.tl, be_cons, Oct.length_tl, be_tl v j, UInt8.toNat_ofNat', Nat.mod_mod, Nat.pow_succ, Nat.mod_mul, Nat.add_comm, Nat.mul_comm]
theorem be_tl4 {v : Nat} (h : v < 4294967296) : Oct.be (Oct.tl v 4) = v := by
  rw [be_tl, Nat.mod_eq_of_lt (by simpa using h)]
theorem tl_be4 {l : List UInt8} (h : l.length = 4) : Oct.tl (Oct.be l) 4 = l := by
  match l, h with
  | [a, b, c, d], _ =>
    have ha := a.toNat_lt
    have hb := b.toNat_lt
    have hc := c.toNat_lt
    have hd := d.toNat_lt
    simp only [Oct.be, Oct.tl, List.foldl_cons, List.foldl_nil, Nat.zero_mul, Nat.zero_add]
    have e1 : (((a.toNat * 256 + b.toNat) * 256 + c.toNat) * 256 + d.toNat) / 256 ^ 3 % 256 = a.toNat := by omega
    have e2 : (((a.toNat * 256 + b.toNat) * 256 + c.toNat) * 256 + d.toNat) / 256 ^ 2 % 256 = b.toNat := by omega
    have e3 : (((a.toNat * 256 + b.toNat) * 256 + c.toNat) * 256 + d.toNat) / 256 ^ 1 % 256 = c.toNat := by omega
    have e4 : (((a.toNat * 256 + b.toNat) * 256 + c.toNat) * 256 + d.toNat) / 256 ^ 0 % 256 = d.toNat := by omega
    rw [e1, e2, e3, e4]
    simp
/-- A chunk of many of one size. -/
theorem cutC {α : Type} (f : α → List UInt8) (s : Nat) (hf : ∀ x, (f x).length = s) : ∀ (l : List α) (k : Nat) (x : α), l[k]? = some x → ((l.flatMap f).drop (k * s)).take s = f x
  | [], k, x, h => by cases h
  | y :: l, 0, x, h => by
    cases h
    rw [List.flatMap_cons, Nat.zero_mul, List.drop_zero, List.take_append_of_le_length (by rw [hf]; omega), List.take_of_length_le (by rw [hf]; omega)]
  | y :: l, k + 1, x, h => by
    rw [List.flatMap_cons, show (k + 1) * s = (f y).length + k * s by rw [hf, Nat.succ_mul]; omega, ← List.drop_drop, List.drop_append_of_le_length (Nat.le_refl _), List.drop_of_length_le (Nat.le_refl _), List.nil_append]
    exact cutC f s hf l k x (by simpa using h)
/-- A part in the midst. -/
theorem midC {p q r : List UInt8} {a j s : Nat} (ha : a = p.length + j) (h : j + s ≤ q.length) : ((p ++ q ++ r).drop a).take s = (q.drop j).take s := by
  subst ha
  rw [List.append_assoc, ← List.drop_drop, List.drop_append_of_le_length (Nat.le_refl _), List.drop_of_length_le (Nat.le_refl _), List.nil_append, List.drop_append_of_le_length (by omega), List.take_append_of_le_length (by rw [List.length_drop]; omega)]
theorem idAt_of {t : List UInt8} {p : Nat} {z : Oid.Id} (h : (t.drop p).take 32 = z.l) : idAt t p = z := by
  unfold idAt
  rw [dif_pos (by rw [h]; exact z.h)]
  exact Oid.Id.ext h
theorem cl_all (l : List Row) : cl l 256 = l.length := by
  unfold cl
  rw [List.countP_eq_length]
  intro x _
  simpa using fb_lt x
section
variable {zs : List Row} {of : Oid.Id}
theorem layB_len : (layB zs of).length = 1096 + 40 * zs.length := by
  unfold layB
  rw [List.length_append, bodyB_len, Sha.length_ofL]
  omega
theorem lay_head : (layB zs of).take 4 = INDX := by
  unfold layB
  rw [bodyB_eq]
  unfold headB
  simp only [List.append_assoc]
  rfl
theorem lay_ver : b4 (layB zs of) 4 = 1 := by
  unfold b4 layB
  have h := midC (p := [73, 78, 68, 88]) (q := Oct.tl 1 4) (r := fanB zs 256 ++ idsB zs ++ smsB zs ++ atsB zs ++ of.l ++ Sha.ofL (bodyB zs of)) (a := 4) (j := 0) (s := 4) rfl (by rw [Oct.length_tl]; omega)
  have e : bodyB zs of ++ Sha.ofL (bodyB zs of) = [73, 78, 68, 88] ++ Oct.tl 1 4 ++ (fanB zs 256 ++ idsB zs ++ smsB zs ++ atsB zs ++ of.l ++ Sha.ofL (bodyB zs of)) := by
    rw [bodyB_eq]; unfold headB; simp only [List.append_assoc]
  rw [e, h, List.drop_zero, List.take_of_length_le (by rw [Oct.length_tl]; omega)]
  exact be_tl4 (by omega)
theorem lay_fan {c : Nat} (hc : c < 256) (hn : zs.length ≤ 600) : b4 (layB zs of) (8 + 4 * c) = cl zs (c + 1) := by
  unfold b4 layB
  have e : bodyB zs of ++ Sha.ofL (bodyB zs of) = headB ++ fanB zs 256 ++ (idsB zs ++ smsB zs ++ atsB zs ++ of.l ++ Sha.ofL (bodyB zs of)) := by
    rw [bodyB_eq]; simp only [List.append_assoc]
  have h := midC (p := headB) (q := fanB zs 256) (r := idsB zs ++ smsB zs ++ atsB zs ++ of.l ++ Sha.ofL (bodyB zs of)) (a := 8 + 4 * c) (j := 4 * c) (s := 4) (by rw [headB_len]) (by rw [fanB_len]; omega)
  rw [e, h, Nat.mul_comm 4 c]
  have h2 := cutC (fun c => Oct.tl (cl zs (c + 1)) 4) 4 (fun c => Oct.length_tl _ 4) (List.range 256) c c (by simp [hc])
  unfold fanB
  rw [h2]
  have := cl_le zs (c + 1)
  exact be_tl4 (by omega)
theorem lay_last (hn : zs.length ≤ 600) : lastN (layB zs of) = zs.length := by
  unfold lastN
  rw [show 1028 = 8 + 4 * 255 by omega, lay_fan (by omega) hn, show 255 + 1 = 256 by omega, cl_all]
theorem lay_id {i : Nat} {x : Row} (hx : zs[i]? = some x) : idAt ((layB zs of).drop 8) (1024 + 32 * i) = x.id := by
  refine idAt_of ?_
  have hi := (List.getElem?_eq_some_iff.1 hx).1
  rw [List.drop_drop]
  unfold layB
  have e : bodyB zs of ++ Sha.ofL (bodyB zs of) = (headB ++ fanB zs 256) ++ idsB zs ++ (smsB zs ++ atsB zs ++ of.l ++ Sha.ofL (bodyB zs of)) := by
    rw [bodyB_eq]; simp only [List.append_assoc]
  have h := midC (p := headB ++ fanB zs 256) (q := idsB zs) (r := smsB zs ++ atsB zs ++ of.l ++ Sha.ofL (bodyB zs of)) (a := 8 + (1024 + 32 * i)) (j := 32 * i) (s := 32) (by rw [List.length_append, headB_len, fanB_len]; omega) (by rw [idsB_len]; omega)
  rw [e, h, Nat.mul_comm 32 i]
  exact cutC (fun x : Row => x.id.l) 32 (fun x => x.id.h) zs i x hx
theorem lay_sm {i : Nat} {x : Row} (hx : zs[i]? = some x) (h0 : 0 ≤ x.sm) (h1 : x.sm ≤ 4294967295) : (b4 ((layB zs of).drop 8) (1024 + 32 * zs.length + 4 * i) : Int) = x.sm := by
  have hi := (List.getElem?_eq_some_iff.1 hx).1
  unfold b4
  rw [List.drop_drop]
  unfold layB
  have e : bodyB zs of ++ Sha.ofL (bodyB zs of) = (headB ++ fanB zs 256 ++ idsB zs) ++ smsB zs ++ (atsB zs ++ of.l ++ Sha.ofL (bodyB zs of)) := by
    rw [bodyB_eq]; simp only [List.append_assoc]
  have h := midC (p := headB ++ fanB zs 256 ++ idsB zs) (q := smsB zs) (r := atsB zs ++ of.l ++ Sha.ofL (bodyB zs of)) (a := 8 + (1024 + 32 * zs.length + 4 * i)) (j := 4 * i) (s := 4) (by rw [List.length_append, List.length_append, headB_len, fanB_len, idsB_len]; omega) (by rw [smsB_len]; omega)
  rw [e, h, Nat.mul_comm 4 i]
  have h2 := cutC (fun x : Row => Oct.tl x.sm.toNat 4) 4 (fun x => Oct.length_tl _ 4) zs i x hx
  unfold smsB
  rw [h2, be_tl4 (by omega)]
  omega
theorem lay_at {i : Nat} {x : Row} (hx : zs[i]? = some x) (h0 : 0 ≤ x.at_) (h1 : x.at_ ≤ 1048576) : (b4 ((layB zs of).drop 8) (1024 + 36 * zs.length + 4 * i) : Int) = x.at_ := by
  have hi := (List.getElem?_eq_some_iff.1 hx).1
  unfold b4
  rw [List.drop_drop]
  unfold layB
  have e : bodyB zs of ++ Sha.ofL (bodyB zs of) = (headB ++ fanB zs 256 ++ idsB zs ++ smsB zs) ++ atsB zs ++ (of.l ++ Sha.ofL (bodyB zs of)) := by
    rw [bodyB_eq]; simp only [List.append_assoc]
  have h := midC (p := headB ++ fanB zs 256 ++ idsB zs ++ smsB zs) (q := atsB zs) (r := of.l ++ Sha.ofL (bodyB zs of)) (a := 8 + (1024 + 36 * zs.length + 4 * i)) (j := 4 * i) (s := 4) (by rw [List.length_append, List.length_append, List.length_append, headB_len, fanB_len, idsB_len, smsB_len]; omega) (by rw [atsB_len]; omega)
  rw [e, h, Nat.mul_comm 4 i]
  have h2 := cutC (fun x : Row => Oct.tl x.at_.toNat 4) 4 (fun x => Oct.length_tl _ 4) zs i x hx
  unfold atsB
  rw [h2, be_tl4 (by omega)]
  omega
theorem lay_of (hn : zs.length ≤ 600) : ofB (layB zs of) = of := by
  unfold ofB
  rw [lay_last hn]
  refine idAt_of ?_
  rw [List.drop_drop]
  unfold layB
  have e : bodyB zs of ++ Sha.ofL (bodyB zs of) = (headB ++ fanB zs 256 ++ idsB zs ++ smsB zs ++ atsB zs) ++ of.l ++ Sha.ofL (bodyB zs of) := by
    rw [bodyB_eq]
  have h := midC (p := headB ++ fanB zs 256 ++ idsB zs ++ smsB zs ++ atsB zs) (q := of.l) (r := Sha.ofL (bodyB zs of)) (a := 8 + (1024 + 40 * zs.length)) (j := 0) (s := 32) (by rw [List.length_append, List.length_append, List.length_append, List.length_append, headB_len, fanB_len, idsB_len, smsB_len, atsB_len]; omega) (by rw [of.h]; omega)
  rw [e, h, List.drop_zero, List.take_of_length_le (by rw [of.h]; omega)]
theorem lay_rows (hn : zs.length ≤ 600) (hok : ∀ x ∈ zs, RowOk x) : rowsB (layB zs of) = zs := by
  unfold rowsB
  rw [lay_last hn]
  apply List.ext_getElem?
  intro i
  by_cases hi : i < zs.length
  · obtain ⟨x, hx⟩ : ∃ x, zs[i]? = some x := ⟨_, List.getElem?_eq_getElem hi⟩
    have hr := hok x (List.mem_of_getElem? hx)
    rw [rowsP_get hi, hx, if_pos hi, if_pos hi, if_pos hi, lay_id hx, lay_sm hx hr.s0 hr.s1, lay_at hx hr.a0 hr.a1]
  · rw [List.getElem?_eq_none (by rw [rowsP_len]; omega), List.getElem?_eq_none (by omega)]
/-- What is laid is opened. -/
theorem open_lay (hn : zs.length ≤ 600) (hok : ∀ x ∈ zs, RowOk x) (hs : StR zs) : openE (layB zs of) = 0 := by
  have hl := layB_len (zs := zs) (of := of)
  have hpre : Pre (layB zs of) := ⟨by omega, fun q => by rcases q with q | q; exact q lay_head; exact q lay_ver, by rw [lay_last hn]; omega, by rw [lay_last hn]; omega, by rw [lay_last hn]; omega⟩
  refine openE_0 hpre ?_ (by rw [lay_rows hn hok]; exact hs) (fun c hc => by rw [lay_rows hn hok]; have := lay_fan (of := of) hc hn; unfold b4 at this ⊢; rw [List.drop_drop, this]) ?_
  · have hb : (bodyB zs of).length = (layB zs of).length - 32 := by rw [bodyB_len]; omega
    unfold layB at hb ⊢
    rw [← hb, List.take_append_of_le_length (Nat.le_refl _), List.take_of_length_le (Nat.le_refl _), List.drop_append_of_le_length (Nat.le_refl _), List.drop_of_length_le (Nat.le_refl _), List.nil_append]
    exact fun q => q rfl
  · rw [lay_rows hn hok]
    exact no_far fun i x _ hx => by have := (hok x (List.mem_of_getElem? hx)).a1; omega
end
end Go.Proofs.Ytgaklngnfecdaaa.Idx


/-
  The law IndexMakes.
-/
namespace Go.Proofs.Ytgaklngnfecdaaa.Idx
open Go.RowKit Zk Zx
open Oid (idf idf_len cmpL)
set_option linter.unusedVariables false
set_option linter.unusedSimpArgs false

theorem mk0 {l : List Row} (h : mkE l = 0) : l.length ≤ 600 ∧ (l.map Row.id).Nodup ∧ l.any farB = false := by
  unfold mkE at h
  split at h
  · cases h
  · rename_i h1
    split at h
    · cases h
    · rename_i h2
      split at h
      · cases h
      · rename_i h3
        refine ⟨by omega, Classical.byContradiction fun q => h2 q, by simpa using h3⟩
theorem openLay (B : Option Addr) (m d : Nat) (zs : List Row) (of : Oid.Id) (w0 : World) (hb : Rs w0 1 B m d (bL (layB zs of))) (hn : zs.length ≤ 600) (hok : ∀ x ∈ zs, RowOk x) (hs : StR zs) :
    Calls Try.prog 28 #[.slice B m d] w0 fun e w' => ∃ u, e = .returned u ∧ Like w0 w' ∧ ∃ g A, u = .tuple #[.pointer (some ⟨g, 0, none⟩), .int .i64 0] ∧ Zx.St w0 noM [Zx.row 119 34 A zs.length zs.length (zs.flatMap rowf), blk g 97 (idxf A zs.length zs.length zs of).toArray] w' :=
  (open_ B m d _ w0 hb).mono fun e w' ⟨u, h1, h2⟩ => by
    rcases h2 with ⟨h2, _⟩ | ⟨_, g, A, h3, h4⟩
    · exact absurd (open_lay hn hok hs) h2
    · rw [lay_rows hn hok, lay_of hn] at h4
      exact ⟨u, h1, h4.like0, g, A, h3, h4⟩
theorem found_yes {l : List Row} {k : Nat} {x : Row} {z : Oid.Id} {u : Value} (hs : StR l) (hx : l[k]? = some x) (hz : x.id = z) (h : Found l z u) : u = .tuple #[.agg (plf x).toArray, .bool true] := by
  rcases h with ⟨j, y, hy, e, rfl⟩ | ⟨h, _⟩
  · have e2 : x = y := by
      rcases Nat.lt_trichotomy k j with q | q | q
      · have := hs.at hx hy q
        rw [hz, ← e, Oid.lt_irr] at this
        cases this
      · subst q; rw [hx] at hy; cases hy; rfl
      · have := hs.at hy hx q
        rw [hz, ← e, Oid.lt_irr] at this
        cases this
    rw [e2]
  · exact absurd hz (h x (List.mem_of_getElem? hx))
def wI : Oid.Id := ⟨7 :: List.replicate 31 0, rfl⟩
def wO : Oid.Id := ⟨1 :: List.replicate 31 0, rfl⟩
def wR : Row := ⟨wI, 5, 12⟩
theorem made_w {bs : List UInt8} (h : Made [wR] wO bs) : mkE [wR] = 0 ∧ bs = layB [wR] wO := by
  have h0 : mkE [wR] = 0 := by decide +kernel
  rcases h with ⟨e, _⟩ | ⟨e, zs, hp, _, rfl⟩
  · exact absurd h0 e
  · exact ⟨h0, by rw [List.perm_singleton.1 hp]⟩
theorem w_ok : ∀ x ∈ [wR], RowOk x := fun x hx => by
  obtain rfl := List.mem_singleton.1 hx
  exact ⟨by decide, by decide, by decide, by decide⟩
theorem w_st : StR [wR] := List.pairwise_singleton _ _


set_option maxRecDepth 100000 in
theorem works  (w0 : World)  :
    Calls Try.prog 24 #[] w0 fun e w' => ∃ u, e = .returned u ∧ Like w0 w' ∧ u = .bool true := by
  refine enter1 (env := []) [] Try.func24 rfl Try.ntmps24 rfl rfl ?_
  have S0 := St.start w0 noM
  refine T_seq fun K1 hK1 => ?_
  refine T_region ?_
  refine L_y (y_assign rfl) rfl ?_
  refine L_nil ?_
  refine hK1 _ _ ?_
  refine T_seq fun K2 hK2 => ?_
  refine T_region ?_
  refine L_y (y_build rfl (show _ = some (idf wI).toArray by kernel_rfl)) rfl ?_
  refine L_y (y_build rfl (show _ = some (plf wR).toArray by kernel_rfl)) rfl ?_
  refine L_o (o_bsl (plf wR) te43 zz62 S0 rfl rfl rfl (by simp [Value.cells, plf_len]) (by simp [Value.cells]) rfl rfl rfl fun b1 w1 S1 => ?_)
  refine L_y (y_build rfl (show _ = some (idf wO).toArray by kernel_rfl)) rfl ?_
  refine L_o (o_call Try.func25 rfl rfl (make _ _ _ [wR] wO w1 (by have h := S1.row 0 rfl; simpa using h) (fun x hx => ⟨(w_ok x hx).s0, (w_ok x hx).s1⟩)) rfl rfl ?_)
  rintro e2 w2 ⟨v2, rfl, l2, A1, m1, c1, bs, rfl, hM, O2⟩
  refine ⟨_, rfl, ?_⟩
  have S2 := S1.adopt l2 O2
  obtain ⟨he, rfl⟩ := made_w hM
  rw [he]
  have hm1 := (S2.row 1 rfl).lenb; rw [layB_len] at hm1
  have hwl : [wR].length = 1 := rfl
  rw [hwl] at hm1
  refine L_y (y_move rfl) rfl ?_
  refine L_y (y_extract rfl rfl) rfl ?_
  refine L_y (y_extract rfl rfl) rfl ?_
  refine L_y (y_assign rfl) rfl ?_
  refine L_y (y_assign rfl) rfl ?_
  refine L_nil ?_
  refine hK2 _ _ ?_
  refine T_seq fun K3 hK3 => ?_
  refine T_region ?_
  refine L_y (y_move rfl) rfl ?_
  refine L_o (o_call Try.func28 rfl rfl (openLay _ _ _ [wR] wO w2 (S2.row 1 rfl) (by rw [hwl]; omega) w_ok w_st) rfl rfl ?_)
  rintro e3 w3 ⟨v3, rfl, l3, g2, A2, rfl, T3⟩
  refine ⟨_, rfl, ?_⟩
  have S3 := S2.adoptS T3
  refine L_y (y_move rfl) rfl ?_
  refine L_y (y_extract rfl rfl) rfl ?_
  refine L_y (y_extract rfl rfl) rfl ?_
  refine L_y (y_assign rfl) rfl ?_
  refine L_y (y_assign rfl) rfl ?_
  refine L_nil ?_
  refine hK3 _ _ ?_
  refine T_seq fun K4 hK4 => ?_
  refine T_region ?_
  refine L_y (y_move rfl) rfl ?_
  refine L_y (y_build rfl (show _ = some (idf wI).toArray by kernel_rfl)) rfl ?_
  refine L_o (o_call Try.func33 rfl rfl (find g2 A2 1 1 [wR] wO wI w3 (S3.blk 3 rfl) (S3.row 2 rfl) (S3.row_ne 2 3 rfl rfl rfl) w_st (by rw [hwl]; omega)) rfl rfl ?_)
  rintro e4 w4 ⟨v4, rfl, l4, hF4⟩
  refine ⟨_, rfl, ?_⟩
  have S4 := S3.like l4
  have hF := found_yes (k := 0) (x := wR) w_st rfl rfl hF4
  subst hF
  refine L_y (y_move rfl) rfl ?_
  refine L_y (y_extract rfl rfl) rfl ?_
  refine L_y (y_extract rfl rfl) rfl ?_
  refine L_o (o_alloc zz62 S4 rfl fun b5 w5 hb5 S5 => ?_)
  refine L_o (o_stW S5 4 rfl rfl rfl (by rw [plf_sz]; exact sz62) (by first | (rw [plf_sz, plf_sz]; done) | (rw [plf_sz]; rfl)) (fun u hu => plf_one _ u (by rw [List.toList_toArray] at hu; exact hu)) fun w6 S6 => ?_)
  refine L_y (y_assign rfl) rfl ?_
  refine L_nil ?_
  refine hK4 _ _ ?_
  refine T_seq fun K5 hK5 => ?_
  refine T_region ?_
  refine L_y (y_move rfl) rfl ?_
  refine L_y (y_eql rfl rfl) rfl ?_
  refine L_y (y_move rfl) rfl ?_
  refine L_split 28 rfl (fun h28 => ?_) (fun h28 => ?_)
  ·
    refine L_gyes rfl rfl ?_
    refine L_y (y_move rfl) rfl ?_
    refine L_gyes rfl rfl ?_
    refine L_y (y_eql rfl rfl) rfl ?_
    refine L_y ((by first | exact y_pickT rfl rfl | exact y_pickF rfl rfl)) rfl ?_
    refine L_y (y_move rfl) rfl ?_
    refine L_split 32 rfl (fun h32 => ?_) (fun h32 => ?_)
    ·
      refine L_gyes rfl rfl ?_
      refine L_y (y_move rfl) rfl ?_
      refine L_gyes rfl rfl ?_
      refine L_y (y_len Try.underlying27 rfl) rfl ?_
      refine L_gyes rfl rfl ?_
      refine L_y (y_eql rfl rfl) rfl ?_
      refine L_y ((by first | exact y_pickT rfl rfl | exact y_pickF rfl rfl)) rfl ?_
      refine L_y (y_move rfl) rfl ?_
      refine L_split 37 rfl (fun h37 => ?_) (fun h37 => ?_)
      ·
        refine L_gyes rfl rfl ?_
        refine L_y (y_move rfl) rfl ?_
        refine L_gyes rfl rfl ?_
        refine L_o (o_call Try.func31 rfl rfl (lenX g2 A2 1 1 [wR] wO w6 (S6.blk 3 rfl) (S6.row 2 rfl)) rfl rfl ?_)
        rintro e10 w10 ⟨v10, rfl, l10, rfl⟩
        refine ⟨_, rfl, ?_⟩
        have S10 := S6.like l10
        refine L_gyes rfl rfl ?_
        refine L_y (y_eql rfl rfl) rfl ?_
        refine L_y ((by first | exact y_pickT rfl rfl | exact y_pickF rfl rfl)) rfl ?_
        refine L_y (y_move rfl) rfl ?_
        refine L_split 42 rfl (fun h42 => ?_) (fun h42 => ?_)
        ·
          refine L_gyes rfl rfl ?_
          refine L_y (y_move rfl) rfl ?_
          refine L_y ((by first | exact y_pickT rfl rfl | exact y_pickF rfl rfl)) rfl ?_
          refine L_y (y_move rfl) rfl ?_
          refine L_gyes rfl rfl ?_
          refine L_y (y_fieldA 32 Try.underlying62 rfl sz3 rfl rfl rfl) rfl ?_
          refine L_gyes rfl rfl ?_
          refine L_y (y_ldc Try.underlying3 rfl rfl (((S10.blk 4 rfl).cell _).trans (pl32 wR))) rfl ?_
          refine L_gyes rfl rfl ?_
          refine L_y (y_eql rfl rfl) rfl ?_
          refine L_y ((by first | exact y_pickT rfl rfl | exact y_pickF rfl rfl)) rfl ?_
          refine L_y (y_move rfl) rfl ?_
          refine L_split 50 rfl (fun h50 => ?_) (fun h50 => ?_)
          ·
            refine L_gyes rfl rfl ?_
            refine L_y (y_move rfl) rfl ?_
            refine L_gyes rfl rfl ?_
            refine L_o (o_call Try.func32 rfl rfl (ofX g2 A2 1 1 [wR] wO w10 (S10.blk 3 rfl) (S10.row 2 rfl)) rfl rfl ?_)
            rintro e13 w13 ⟨v13, rfl, l13, rfl⟩
            refine ⟨_, rfl, ?_⟩
            have S13 := S10.like l13
            refine L_gyes rfl rfl ?_
            refine L_y (y_build rfl (show _ = some (idf wO).toArray by kernel_rfl)) rfl ?_
            refine L_gyes rfl rfl ?_
            refine L_y (y_eqB Try.underlying23 Try.underlying5 sz5 (by kernel_rfl) rfl rfl (Oid.Id.h wO) (Oid.Id.h wO)) rfl ?_
            refine L_y ((by first | exact y_pickT rfl rfl | exact y_pickF rfl rfl)) rfl ?_
            refine L_y (y_assign rfl) rfl ?_
            refine L_nil ?_
            refine hK5 _ _ ?_
            refine T_ret ?_
            repeat (first | with_reducible refine up_then ?_ | with_reducible refine up_in ?_)
            refine ret1 rfl rfl ?_
            exact ⟨_, rfl, S13.like0, by simp⟩
          ·
            exact absurd rfl h50
        ·
          exact absurd rfl h42
      ·
        exact absurd (by omega) h37
    ·
      exact absurd rfl h32
  ·
    exact absurd rfl h28


section
open Go.ChangeShapes Go.WideShapes Go.ChangeAt Go.Deep
set_option maxRecDepth 100000
variable {H : Type} {enc : TypeId × Value → H} {w : World} {base : Nat} {spare : Nat → Bool} {held : Bool}
theorem c23 : Try.prog.cellsOf 23 = 32 := by kernel_rfl
theorem c3 : Try.prog.cellsOf 3 = 1 := by kernel_rfl
theorem c60 : Try.prog.cellsOf 60 = 1 := by kernel_rfl
theorem u32_wf {v : Int} (h : (Lit.int .u32 v).wf = true) : 0 ≤ v ∧ v ≤ 4294967295 := by
  have hx : 0 ≤ v ∧ v ≤ 4294967295 := by simpa [Lit.wf, IntKind.min, IntKind.max, IntKind.signed, IntKind.bits] using h
  exact hx
theorem read_pl {fuel : Nat} {cs : List Value} {x : DataW H × List MemPlace} (hlen : cs.length = 34) (h : DataW.trod enc Try.prog w base spare held fuel 62 cs = some x) : ∃ y : Row, cs = plf y ∧ SumOk y := by
  obtain ⟨xs, n, _, hx, hl, hlen2, hg⟩ := DataW.trod_struct Try.underlying62 h
  have e0 := hg 0 _ rfl
  have e1 := hg 1 _ rfl
  have e2 := hg 2 _ rfl
  change DataW.trod enc Try.prog w base spare held n 23 ((cs.drop 0).take (Try.prog.cellsOf 23)) = _ at e0
  change DataW.trod enc Try.prog w base spare held n 3 ((cs.drop 32).take (Try.prog.cellsOf 3)) = _ at e1
  change DataW.trod enc Try.prog w base spare held n 60 ((cs.drop 33).take (Try.prog.cellsOf 60)) = _ at e2
  rw [c23] at e0
  rw [c3] at e1
  rw [c60] at e2
  have hxl : xs.length = 3 := hlen2
  match xs, hxl with
  | [y0, y1, y2], _ =>
    have e0 : DataW.trod enc Try.prog w base spare held n 23 ((cs.drop 0).take 32) = some y0 := e0
    have e1 : DataW.trod enc Try.prog w base spare held n 3 ((cs.drop 32).take 1) = some y1 := e1
    have e2 : DataW.trod enc Try.prog w base spare held n 60 ((cs.drop 33).take 1) = some y2 := e2
    obtain ⟨z, hz⟩ := Oid.read_id e0
    obtain ⟨k, ha, _, _⟩ := DataW.trod_int Try.underlying3 e1
    obtain ⟨s, hs, _, hw⟩ := DataW.trod_int Try.underlying60 e2
    have hw2 := u32_wf hw
    refine ⟨⟨z, s, k⟩, ?_, ⟨hw2.1, hw2.2⟩⟩
    rw [List.drop_zero] at hz
    have q : cs = cs.take 32 ++ ((cs.drop 32).take 1 ++ (cs.drop 33).take 1) := by
      have g : ∀ k, k < cs.length → cs.drop k = (cs.drop k).take 1 ++ cs.drop (k + 1) := fun k hk => by rw [List.drop_eq_getElem_cons hk]; rfl
      have g4 : (cs.drop 33).take 1 = cs.drop 33 := List.take_of_length_le (by rw [List.length_drop]; omega)
      rw [g4, ← g 32 (by omega), List.take_append_drop]
    rw [q, hz, ha, hs]
    rfl
theorem open_pls {r : Reach} {b0 : Nat} {v : Value} {d : DataW H} {p : List MemPlace} (hv : Value.okWide Try.prog w r b0 43 v) (h : DataW.Trod enc Try.prog w base spare held 43 v d p) : ∃ A n c, ∃ l : List Row, v = .slice A n c ∧ Rs w 34 A n c (l.flatMap plf) ∧ ∀ x ∈ l, SumOk x := by
  obtain ⟨fuel, hf⟩ := h
  obtain ⟨A, n, c, l, h1, h2, h3, _⟩ := read_rowN plf SumOk 34 Try.underlying43 (by kernel_rfl) (by decide) plf_len (fun k cs x hl hx => read_pl hl hx) hf
  exact ⟨A, n, c, l, slice_of_cells Try.underlying43 hv h1, h2, h3⟩
end
end Go.Proofs.Ytgaklngnfecdaaa.Idx


/-
  An id of the document's reader.
-/
namespace Go.Proofs.Ytgaklngnfecdaaa.Idx
open Go.RowKit Zk Zx
open Oid (idf idf_len cmpL)
set_option linter.unusedVariables false
set_option linter.unusedSimpArgs false

open Oct (xr xr_lt)
end Go.Proofs.Ytgaklngnfecdaaa.Idx


/-
  Open of the document.
-/
namespace Go.Proofs.Ytgaklngnfecdaaa.Idx
open Go.RowKit Zk Zx
open Oid (idf idf_len cmpL)
set_option linter.unusedVariables false
set_option linter.unusedSimpArgs false

open Oct (xr xr_lt)
theorem idAt_8 (b : List UInt8) (p : Nat) : idAt (b.drop 8) p = idAt b (8 + p) := by unfold idAt; simp only [List.drop_drop]
theorem b4_8 (b : List UInt8) (p : Nat) : b4 (b.drop 8) p = b4 b (8 + p) := by unfold b4; rw [List.drop_drop]
end Go.Proofs.Ytgaklngnfecdaaa.Idx


/-
  '!=' on truth values; bytes turned.
-/
namespace Go.Proofs.Ytgaklngnfecdaaa.Zx
open Go.RowKit Zk
set_option linter.unusedVariables false
set_option linter.unusedSimpArgs false
section
variable {P : Program} {env : Env} {S : World → Prop} {dst : Option Tmp} {ty : TypeId} {pos : String} {after : Array Edge} {g : Option (Nat × Bool)}
end
end Go.Proofs.Ytgaklngnfecdaaa.Zx


/-
  The law IndexOpens.
-/
namespace Go.Proofs.Ytgaklngnfecdaaa.Idx
open Go.RowKit Zk Zx
open Oid (idf idf_len cmpL)
set_option linter.unusedVariables false
set_option linter.unusedSimpArgs false

theorem pl_xid (x : Row) : (plf x).toArray.extract 0 (0 + 32) = bA x.id.l := by
  apply Array.ext'
  rw [Array.toList_extract]
  simp only [plf, bA]
  rw [List.extract_eq_take_drop]
  show List.take 32 (bL x.id.l ++ _) = bL x.id.l
  rw [List.take_append_of_le_length (by rw [length_bL, x.id.h]; exact Nat.le_refl _)]
  exact List.take_of_length_le (by rw [length_bL, x.id.h]; exact Nat.le_refl _)
def peq (x y : Row) : Bool := decide (x.id.l = y.id.l) && (decide (x.at_ = y.at_) && (decide (x.sm = y.sm) && true))
theorem peq_refl (x : Row) : peq x x = true := by simp [peq]
theorem pl_eq (x y : Row) {fs : Array Field} (hfs : Try.prog.underlying 62 = some (.struct fs)) : EqFs Try.prog 9999 (plf x).toArray (plf y).toArray fs.toList (peq x y) := by
  have h2 := Try.underlying62
  rw [hfs] at h2
  injection h2 with h2
  injection h2 with h2
  subst h2
  unfold peq
  exact .cons (FE_bytes (by decide) Try.underlying23 Try.underlying5 sz5 Try.sizeOf23 x.id.h y.id.h (pl_xid x) (pl_xid y)) (.cons (FE_int (by decide) Try.underlying3 (pl32 x) (pl32 y)) (.cons (FE_int (by decide) Try.underlying60 (pl33 x) (pl33 y)) .nil))
theorem openBad (B : Option Addr) (m d : Nat) (b : List UInt8) (w0 : World) (hb : Rs w0 1 B m d (bL b)) (he : openE b ≠ 0) : Calls Try.prog 28 #[.slice B m d] w0 fun e w' => ∃ u, e = .returned u ∧ Like w0 w' ∧ u = .tuple #[.pointer none, .int .i64 (openE b)] :=
  (open_ B m d _ w0 hb).mono fun e w' ⟨u, h1, h2⟩ => by
    rcases h2 with ⟨_, l, h⟩ | ⟨h, _⟩
    · exact ⟨u, h1, l, h⟩
    · exact absurd h he
theorem openGood (B : Option Addr) (m d : Nat) (b : List UInt8) (w0 : World) (hb : Rs w0 1 B m d (bL b)) (he : openE b = 0) : Calls Try.prog 28 #[.slice B m d] w0 fun e w' => ∃ u, e = .returned u ∧ Like w0 w' ∧ ∃ g A, u = .tuple #[.pointer (some ⟨g, 0, none⟩), .int .i64 0] ∧ Zx.St w0 noM [Zx.row 119 34 A (rowsB b).length (rowsB b).length ((rowsB b).flatMap rowf), blk g 97 (idxf A (rowsB b).length (rowsB b).length (rowsB b) (ofB b)).toArray] w' :=
  (open_ B m d _ w0 hb).mono fun e w' ⟨u, h1, h2⟩ => by
    rcases h2 with ⟨h, _⟩ | ⟨_, g, A, h3, h4⟩
    · exact absurd he h
    · exact ⟨u, h1, h4.like0, g, A, h3, h4⟩
end Go.Proofs.Ytgaklngnfecdaaa.Idx


/-
  Find and Begins.
-/
namespace Go.Proofs.Ytgaklngnfecdaaa.Idx
open Go.RowKit Zk Zx
open Oid (idf idf_len cmpL)
set_option linter.unusedVariables false
set_option linter.unusedSimpArgs false

open Oid (fit pfA ris)
theorem made_ok {l : List Row} {of : Oid.Id} {bs : List UInt8} (h : Made l of bs) (h0 : mkE l = 0) : ∃ zs : List Row, zs.Perm l ∧ StR zs ∧ bs = layB zs of := by
  rcases h with ⟨e, _⟩ | ⟨_, zs, hp, hs, rfl⟩
  · exact absurd h0 e
  · exact ⟨zs, hp, hs, rfl⟩
end Go.Proofs.Ytgaklngnfecdaaa.Idx


/-
  The law IndexBack.
-/
namespace Go.Proofs.Ytgaklngnfecdaaa.Idx
open Go.RowKit Zk Zx
open Oid (idf idf_len cmpL)
set_option linter.unusedVariables false
set_option linter.unusedSimpArgs false

theorem chunks {s : Nat} : ∀ (n : Nat) (f : Nat → List UInt8) (q : List UInt8), q.length = n * s → (∀ i, i < n → f i = (q.drop (i * s)).take s) → (List.range n).flatMap f = q
  | 0, f, q, h, _ => by
    rw [Nat.zero_mul] at h
    rw [List.length_eq_zero_iff.1 h]
    rfl
  | n + 1, f, q, h, hf => by
    rw [List.range_succ, List.flatMap_append]
    have hq : (q.take (n * s)).length = n * s := by rw [List.length_take, h, Nat.succ_mul]; omega
    have h1 := chunks n f (q.take (n * s)) hq (fun i hi => by
      rw [hf i (by omega), List.drop_take, List.take_take]
      congr 1
      have : (i + 1) * s ≤ n * s := Nat.mul_le_mul_right _ hi
      rw [Nat.succ_mul] at this
      omega)
    rw [h1]
    have h2 : [n].flatMap f = q.drop (n * s) := by
      simp only [List.flatMap_cons, List.flatMap_nil, List.append_nil]
      rw [hf n (by omega)]
      exact List.take_of_length_le (by rw [List.length_drop, h, Nat.succ_mul]; omega)
    rw [h2, List.take_append_drop]
theorem take_add' (b : List UInt8) (a k : Nat) : b.take (a + k) = b.take a ++ (b.drop a).take k := List.take_add ..
structure Good (b : List UInt8) : Prop where
  pre : Pre b
  sum : Sha.ofL (b.take (b.length - 32)) = b.drop (b.length - 32)
  str : StR (rowsB b)
  fan : FanOk b (rowsB b)
  far : ¬ (rowsB b).any (fun x => decide (1048576 < x.at_)) = true
theorem good_of {b : List UInt8} (h : openE b = 0) : Good b := by
  by_cases h1 : b.length < 1096
  · rw [openE_10 h1] at h; cases h
  by_cases h2 : b.take 4 ≠ INDX ∨ b4 b 4 ≠ 1
  · rw [openE_12 h1 h2] at h; cases h
  by_cases h3 : 600 < lastN b
  · rw [openE_5 h1 h2 h3] at h; cases h
  by_cases h4 : b.length < 1096 + 40 * lastN b
  · rw [openE_10b h1 h2 h3 h4] at h; cases h
  by_cases h5 : 1096 + 40 * lastN b < b.length
  · rw [openE_11 h1 h2 h3 h4 h5] at h; cases h
  have hp : Pre b := ⟨h1, h2, h3, h4, h5⟩
  by_cases h6 : Sha.ofL (b.take (b.length - 32)) ≠ b.drop (b.length - 32)
  · rw [openE_13 hp h6] at h; cases h
  by_cases h7 : StR (rowsB b)
  · by_cases h8 : FanOk b (rowsB b)
    · by_cases h9 : (rowsB b).any (fun x => decide (1048576 < x.at_)) = true
      · rw [openE_2 hp h6 h7 h8 h9] at h; cases h
      · exact ⟨hp, Classical.not_not.1 h6, h7, h8, h9⟩
    · rw [openE_18b hp h6 h7 h8] at h; cases h
  · rw [openE_18 hp h6 h7] at h; cases h
theorem rows_get {b : List UInt8} {i : Nat} (h : i < lastN b) : (rowsB b)[i]? = some ⟨idAt b (1032 + 32 * i), (b4 b (1032 + 32 * lastN b + 4 * i) : Int), (b4 b (1032 + 36 * lastN b + 4 * i) : Int)⟩ := by
  unfold rowsB
  rw [rowsP_get h, if_pos h, if_pos h, if_pos h, idAt_8, b4_8, b4_8, show 8 + (1024 + 32 * i) = 1032 + 32 * i by omega, show 8 + (1024 + 32 * lastN b + 4 * i) = 1032 + 32 * lastN b + 4 * i by omega, show 8 + (1024 + 36 * lastN b + 4 * i) = 1032 + 36 * lastN b + 4 * i by omega]
theorem rows_flat {b : List UInt8} (f : Row → List UInt8) : (rowsB b).flatMap f = (List.range (lastN b)).flatMap fun i => f ((rowsB b).getD i zR) := by
  have e : rowsB b = (List.range (lastN b)).map fun i => (rowsB b).getD i zR := by
    apply List.ext_getElem?
    intro i
    by_cases hi : i < lastN b
    · rw [List.getElem?_map, List.getElem?_range hi, Option.map_some, List.getD_eq_getElem?_getD, rows_get hi]
      rfl
    · rw [List.getElem?_eq_none (by rw [show (rowsB b).length = lastN b from rowsP_len _ _ _ _ _]; omega), List.getElem?_eq_none (by simp; omega)]
  conv => lhs; rw [e]
  rw [List.flatMap_map]
theorem tl_b4 {b : List UInt8} {p : Nat} (h : p + 4 ≤ b.length) : Oct.tl (b4 b p) 4 = (b.drop p).take 4 := tl_be4 (by rw [List.length_take, List.length_drop]; omega)
theorem lay_back {b : List UInt8} (h : openE b = 0) : layB (rowsB b) (ofB b) = b := by
  have hg := good_of h
  have hn := hg.pre.h3
  have hl : b.length = 1096 + 40 * lastN b := by have := hg.pre.h4; have := hg.pre.h5; omega
  have hb : bodyB (rowsB b) (ofB b) = b.take (b.length - 32) := by
    have e4 : b.take 4 = INDX := Classical.byContradiction fun q => hg.pre.h2 (.inl q)
    have ev : b4 b 4 = 1 := Classical.byContradiction fun q => hg.pre.h2 (.inr q)
    have e8 : b.take 8 = headB := by rw [show 8 = 4 + 4 from rfl, take_add', e4, ← tl_b4 (by omega), ev]; rfl
    have ef : (b.drop 8).take 1024 = fanB (rowsB b) 256 := by
      refine (chunks (s := 4) 256 _ _ (by rw [List.length_take, List.length_drop]; omega) fun i hi => ?_).symm
      have h1 := hg.fan i hi
      rw [b4_8] at h1
      have h2 : cl (rowsB b) (i + 1) = b4 b (8 + 4 * i) := by omega
      rw [h2, tl_b4 (by omega), List.drop_take, List.take_take, List.drop_drop, Nat.min_eq_left (by omega), Nat.mul_comm i 4]
    have ei : (b.drop 1032).take (32 * lastN b) = idsB (rowsB b) := by
      unfold idsB
      rw [rows_flat]
      refine (chunks (s := 32) _ _ _ (by rw [List.length_take, List.length_drop]; omega) fun i hi => ?_).symm
      rw [getD_of (rows_get hi)]
      show (idAt b (1032 + 32 * i)).l = _
      rw [idAt_l (by omega), List.drop_take, List.take_take, List.drop_drop, Nat.min_eq_left (by omega), Nat.mul_comm i 32]
    have es : (b.drop (1032 + 32 * lastN b)).take (4 * lastN b) = smsB (rowsB b) := by
      unfold smsB
      rw [rows_flat]
      refine (chunks (s := 4) _ _ _ (by rw [List.length_take, List.length_drop]; omega) fun i hi => ?_).symm
      rw [getD_of (rows_get hi)]
      show Oct.tl ((b4 b (1032 + 32 * lastN b + 4 * i) : Int)).toNat 4 = _
      rw [Int.toNat_natCast, tl_b4 (by omega), List.drop_take, List.take_take, List.drop_drop, Nat.min_eq_left (by omega), Nat.mul_comm i 4]
    have ea : (b.drop (1032 + 36 * lastN b)).take (4 * lastN b) = atsB (rowsB b) := by
      unfold atsB
      rw [rows_flat]
      refine (chunks (s := 4) _ _ _ (by rw [List.length_take, List.length_drop]; omega) fun i hi => ?_).symm
      rw [getD_of (rows_get hi)]
      show Oct.tl ((b4 b (1032 + 36 * lastN b + 4 * i) : Int)).toNat 4 = _
      rw [Int.toNat_natCast, tl_b4 (by omega), List.drop_take, List.take_take, List.drop_drop, Nat.min_eq_left (by omega), Nat.mul_comm i 4]
    have eo : (b.drop (1032 + 40 * lastN b)).take 32 = (ofB b).l := by
      unfold ofB
      rw [idAt_8, show 8 + (1024 + 40 * lastN b) = 1032 + 40 * lastN b by omega]
      exact (idAt_l (by omega)).symm
    rw [bodyB_eq, show b.length - 32 = (((((8 + 1024) + 32 * lastN b) + 4 * lastN b) + 4 * lastN b) + 32) by omega, take_add', take_add', take_add', take_add', take_add', e8, ef, show 8 + 1024 = 1032 from rfl, ei, es, show 1032 + 32 * lastN b + 4 * lastN b = 1032 + 36 * lastN b by omega, ea, show 1032 + 36 * lastN b + 4 * lastN b = 1032 + 40 * lastN b by omega, eo]
  unfold layB
  rw [hb, hg.sum, List.take_append_drop]
theorem rows_ok {b : List UInt8} (h : openE b = 0) : ∀ x ∈ rowsB b, RowOk x := fun x hx => by
  have hg := good_of h
  obtain ⟨i, hi⟩ := List.mem_iff_getElem?.1 hx
  have hl : (rowsB b).length = lastN b := rowsP_len _ _ _ _ _
  have hil := (List.getElem?_eq_some_iff.1 hi).1
  have hfar : ¬ 1048576 < x.at_ := fun q => hg.far (any_far hi q)
  rw [rows_get (by omega)] at hi
  cases hi
  have h1 := b4_lt b (1032 + 32 * lastN b + 4 * i)
  exact ⟨by simp, by simp only []; omega, by simp, by simp only [] at hfar ⊢; omega⟩
theorem no_farB {l : List Row} (h : ∀ x ∈ l, RowOk x) : l.any farB = false := by
  rw [List.any_eq_false]
  intro x hx
  have := h x hx
  have h0 := this.a0
  have h1 := this.a1
  simp [farB]
  omega
theorem rows_mk {b : List UInt8} (h : openE b = 0) : mkE (rowsB b) = 0 := by
  have hg := good_of h
  have hl : (rowsB b).length = lastN b := rowsP_len _ _ _ _ _
  have hn := hg.pre.h3
  unfold mkE
  rw [if_neg (by omega), if_neg (fun q => q hg.str.nodup), if_neg (by rw [no_farB (rows_ok h)]; decide)]
theorem rows_made {b bs : List UInt8} (h : openE b = 0) (hM : Made (rowsB b) (ofB b) bs) : bs = b := by
  obtain ⟨zs, hp, hs, rfl⟩ := made_ok hM (rows_mk h)
  rw [hs.uniq (good_of h).str hp]
  exact lay_back h
theorem found_mem {l zs : List Row} {k : Nat} {y : Row} {u : Value} (hs : StR zs) (hp : zs.Perm l) (hy : l[k]? = some y) (h : Found zs y.id u) : u = .tuple #[.agg (plf y).toArray, .bool true] := by
  obtain ⟨j, hj⟩ := List.mem_iff_getElem?.1 (hp.mem_iff.2 (List.mem_of_getElem? hy))
  exact found_yes hs hj rfl h


set_option maxRecDepth 100000 in
theorem back1 (A : Option Addr) (n c : Nat) (l : List Row) (of : Oid.Id) (B : Option Addr) (m d : Nat) (b : List UInt8) (w0 : World) (hl : Rs w0 34 A n c (l.flatMap plf)) (hsm : ∀ x ∈ l, SumOk x) (hb : Rs w0 1 B m d (bL b)) (he : openE b = 0) :
    Calls Try.prog 6 #[.slice A n c, .agg (idf of).toArray, .slice B m d] w0 fun e w' => ∃ u, e = .returned u ∧ Like w0 w' ∧ u = .bool true := by
  refine enter1 (env := [(0, .slice A n c), (1, .agg (idf of).toArray), (2, .slice B m d)]) [.slice A n c, .agg (idf of).toArray, .slice B m d] Try.func6 rfl Try.ntmps6 rfl rfl ?_
  have hn := places_len hl; have hcap := hl.cap; have hmax := hl.max; have hm := hb.lenb; have hcb := hb.cap; have hmb := hb.max
  have S0 := St.start w0 noM
  have hrl : (rowsB b).length = lastN b := rowsP_len _ _ _ _ _; have hr6 := (good_of he).pre.h3
  refine T_seq fun K1 hK1 => ?_
  refine T_region ?_
  refine L_o (o_box rfl S0 rfl fun b1 w1 hb1 S1 => ?_)
  refine L_y (y_assign rfl) rfl ?_
  refine L_nil ?_
  refine hK1 _ _ ?_
  refine T_seq fun K2 hK2 => ?_
  refine T_seq fun K3 hK3 => ?_
  refine T_region ?_
  refine L_y (y_move rfl) rfl ?_
  refine L_y (y_len Try.underlying43 rfl) rfl ?_
  refine L_y (y_gtr rfl rfl) rfl ?_
  refine L_y (y_move rfl) rfl ?_
  refine L_split 23 rfl (fun h23 => ?_) (fun h23 => ?_)
  ·
    refine L_gno rfl rfl rfl ?_
    refine L_gno rfl rfl rfl ?_
    refine L_gno rfl rfl rfl ?_
    refine L_y ((by first | exact y_pickT rfl rfl | exact y_pickF rfl rfl)) rfl ?_
    refine L_nil ?_
    refine hK3 _ _ ?_
    refine T_true rfl ?_
    refine T_seq fun K4 hK4 => ?_
    refine T_region ?_
    refine L_o (o_call Try.func24 rfl rfl (works w1) rfl rfl ?_)
    rintro e3 w3 ⟨v3, rfl, l3, rfl⟩
    refine ⟨_, rfl, ?_⟩
    have S3 := S1.like l3
    refine L_y (y_assign rfl) rfl ?_
    refine L_nil ?_
    refine hK4 _ _ ?_
    refine T_ret ?_
    repeat (first | with_reducible refine up_then ?_ | with_reducible refine up_in ?_)
    refine ret1 rfl rfl ?_
    exact ⟨_, rfl, S3.like0, rfl⟩
  ·
    refine L_gyes rfl rfl ?_
    refine L_y (y_move rfl) rfl ?_
    refine L_gyes rfl rfl ?_
    refine L_y (y_len Try.underlying27 rfl) rfl ?_
    refine L_gyes rfl rfl ?_
    refine L_y (y_gtr rfl rfl) rfl ?_
    refine L_y ((by first | exact y_pickT rfl rfl | exact y_pickF rfl rfl)) rfl ?_
    refine L_nil ?_
    refine hK3 _ _ ?_
    refine T_cond rfl (fun h27 => ?_) (fun h27 => ?_)
    ·
      refine T_seq fun K5 hK5 => ?_
      refine T_region ?_
      refine L_o (o_call Try.func24 rfl rfl (works w1) rfl rfl ?_)
      rintro e4 w4 ⟨v4, rfl, l4, rfl⟩
      refine ⟨_, rfl, ?_⟩
      have S4 := S1.like l4
      refine L_y (y_assign rfl) rfl ?_
      refine L_nil ?_
      refine hK5 _ _ ?_
      refine T_ret ?_
      repeat (first | with_reducible refine up_then ?_ | with_reducible refine up_in ?_)
      refine ret1 rfl rfl ?_
      exact ⟨_, rfl, S4.like0, rfl⟩
    ·
      refine T_skip ?_
      refine hK2 _ _ ?_
      refine T_seq fun K6 hK6 => ?_
      refine T_region ?_
      refine L_y (y_move rfl) rfl ?_
      refine L_y (y_ldW Try.underlying23 rfl sz23 rfl (S1.blk 0 rfl) (id_whole of)) rfl ?_
      refine L_o (o_call Try.func25 rfl rfl (make A n c l of w1 (S1.rd hl) hsm) rfl rfl ?_)
      rintro e5 w5 ⟨v5, rfl, l5, A4, m4, c4, bs, rfl, hM, O5⟩
      refine ⟨_, rfl, ?_⟩
      have S5 := S1.adopt l5 O5
      refine L_y (y_move rfl) rfl ?_
      refine L_y (y_extract rfl rfl) rfl ?_
      refine L_y (y_extract rfl rfl) rfl ?_
      refine L_y (y_assign rfl) rfl ?_
      refine L_y (y_assign rfl) rfl ?_
      refine L_nil ?_
      refine hK6 _ _ ?_
      refine T_seq fun K7 hK7 => ?_
      refine T_seq fun K8 hK8 => ?_
      refine T_region ?_
      refine L_y (y_move rfl) rfl ?_
      refine L_y (y_eql rfl rfl) rfl ?_
      refine L_nil ?_
      refine hK8 _ _ ?_
      refine T_cond rfl (fun h36 => ?_) (fun h36 => ?_)
      ·
        obtain ⟨zs, hp, hst, rfl⟩ := made_ok hM h36
        have hk0 := mk0 h36
        have hzl : zs.length = l.length := hp.length_eq
        have hok : ∀ x ∈ zs, RowOk x := fun x hx => rowOk_of hsm hk0.2.2 x (hp.mem_iff.1 hx)
        refine T_seq fun K9 hK9 => ?_
        refine T_region ?_
        refine L_y (y_move rfl) rfl ?_
        refine L_o (o_call Try.func28 rfl rfl (openLay _ _ _ zs of w5 (S5.row 1 rfl) (by omega) hok hst) rfl rfl ?_)
        rintro e6 w6 ⟨v6, rfl, l6, g5, A5, rfl, T6⟩
        refine ⟨_, rfl, ?_⟩
        have S6 := S5.adoptS T6
        refine L_y (y_move rfl) rfl ?_
        refine L_y (y_extract rfl rfl) rfl ?_
        refine L_y (y_extract rfl rfl) rfl ?_
        refine L_y (y_assign rfl) rfl ?_
        refine L_y (y_assign rfl) rfl ?_
        refine L_nil ?_
        refine hK9 _ _ ?_
        refine T_seq fun K10 hK10 => ?_
        refine T_seq fun K11 hK11 => ?_
        refine T_drawnL [(0, true), (1, true), (2, true), (3, true), (5, true), (6, true), (4, false), (7, true), (8, true), (9, true), (10, true), (12, true), (11, false), (13, true), (14, true)] hmix (by kernel_rfl) fun w7 l7 => ?_
        have S7 := S6.like l7
        refine DL_y rfl (y_move rfl) rfl ?_
        refine DL_y rfl (y_neq rfl rfl) rfl ?_
        refine DL_y rfl (y_move rfl) rfl ?_
        refine DL_split 44 rfl (fun h44 => ?_) (fun h44 => ?_)
        ·
          exact absurd rfl h44
        ·
          refine DL_gyes rfl rfl rfl (y_move rfl) rfl ?_
          refine DL_gyes rfl rfl rfl (y_move rfl) rfl ?_
          refine DL_gyes rfl rfl rfl (y_len Try.underlying43 rfl) rfl ?_
          refine DL_ogyes rfl rfl rfl (o_call Try.func31 rfl rfl (lenX g5 A5 _ _ zs of w7 (S7.blk 3 rfl) (S7.row 2 rfl)) rfl rfl ?_)
          rintro e8 w8 ⟨v8, rfl, l8, rfl⟩
          refine ⟨_, rfl, l8, ?_⟩
          have S8 := S7.like l8
          have q8 := l8
          refine DL_gyes rfl rfl rfl (y_neq rfl rfl) rfl ?_
          refine DL_y rfl ((by first | exact y_pickT rfl rfl | exact y_pickF rfl rfl)) rfl ?_
          refine DL_y rfl (y_move rfl) rfl ?_
          refine DL_split 51 rfl (fun h51 => ?_) (fun h51 => ?_)
          ·
            exact absurd (by omega) h51
          ·
            refine DL_gyes rfl rfl rfl (y_move rfl) rfl ?_
            refine DL_gyes rfl rfl rfl (y_ldW Try.underlying23 rfl sz23 rfl (S7.blk 0 rfl) (id_whole of)) rfl ?_
            refine DL_ogyes rfl rfl rfl (o_call Try.func32 rfl rfl (ofX g5 A5 _ _ zs of w8 (S8.blk 3 rfl) (S8.row 2 rfl)) rfl rfl ?_)
            rintro e9 w9 ⟨v9, rfl, l9, rfl⟩
            refine ⟨_, rfl, (Like.trans q8 l9), ?_⟩
            have S9 := S8.like l9
            have q9 := (Like.trans q8 l9)
            refine DL_gyes rfl rfl rfl (y_neB Try.underlying23 Try.underlying5 sz5 (by kernel_rfl) rfl rfl (Oid.Id.h _) (Oid.Id.h _)) rfl ?_
            refine DL_y rfl ((by first | exact y_pickT rfl rfl | exact y_pickF rfl rfl)) rfl ?_
            refine DL_nil ?_
            refine hK11 _ _ ?_
            refine T_cond rfl (fun h56 => ?_) (fun h56 => ?_)
            ·
              exact absurd rfl h56
            ·
              refine T_skip ?_
              refine hK10 _ _ ?_
              refine T_seq fun K12 hK12 => ?_
              refine T_region ?_
              refine L_y (y_assign rfl) rfl ?_
              refine L_nil ?_
              refine hK12 _ _ ?_
              refine T_block ?_
              refine T_loop1 [(0, _), (2, _), (9, _)] (fun (k : Nat) => [(11, .int .i64 (k : Int))]) (fun (k : Nat) => l.length - k) (fun (k : Nat) (w : World) => k ≤ l.length ∧ Zx.St w0 noM [blk b1 23 (idf of).toArray, Zx.row 119 34 A5 zs.length zs.length (zs.flatMap rowf), blk g5 97 (idxf A5 zs.length zs.length zs of).toArray] w) 0 (Sub.cons rfl (by first | rfl | exact congrArg (Value.int _) (by omega)) (Sub.nil _)) (Sub.cons rfl rfl (Sub.cons rfl rfl (Sub.cons rfl rfl (Sub.nil _)))) ?_ ?_
              ·
                have S70 : Zx.St w0 noM [blk b1 23 (idf of).toArray, Zx.row 119 34 A5 zs.length zs.length (zs.flatMap rowf), blk g5 97 (idxf A5 zs.length zs.length zs of).toArray] w9 := S9.sel [0, 2, 3] (by decide)
                exact ⟨by omega, S70⟩
              ·
                intro k w10 hrel
                obtain ⟨hk, S10⟩ := hrel
                refine T_seq fun K13 hK13 => ?_
                refine T_seq fun K14 hK14 => ?_
                refine T_region ?_
                refine L_y (y_move rfl) rfl ?_
                refine L_y (y_move rfl) rfl ?_
                refine L_y (y_len Try.underlying43 rfl) rfl ?_
                refine L_y (y_lss rfl rfl) rfl ?_
                refine L_nil ?_
                refine hK14 _ _ ?_
                refine T_cond rfl (fun h60 => ?_) (fun h60 => ?_)
                ·
                  obtain ⟨y, hy⟩ : ∃ y, l[k]? = some y := ⟨_, List.getElem?_eq_getElem (by omega)⟩
                  refine T_skip ?_
                  refine hK13 _ _ ?_
                  refine T_seq fun K15 hK15 => ?_
                  refine T_block ?_
                  refine T_seq fun K16 hK16 => ?_
                  refine T_region ?_
                  refine L_y (y_move rfl) rfl ?_
                  refine L_y (y_move rfl) rfl ?_
                  refine L_y (y_move rfl) rfl ?_
                  refine L_y (y_idx Try.underlying43 sz62 rfl rfl (S10.rd hl) inferInstance (by omega)) rfl ?_
                  refine L_y (y_fieldR 0 Try.underlying62 rfl sz23 rfl rfl (S10.rd hl) (by omega) rfl) rfl ?_
                  refine L_y (y_ldfN Try.underlying23 rfl sz23 rfl (S10.rd hl) (by omega) (pl_part hy) (idf_len _)) rfl ?_
                  refine L_o (o_call Try.func33 rfl rfl (find g5 A5 _ _ zs of y.id w10 (S10.blk 2 rfl) (S10.row 1 rfl) (S10.row_ne 1 2 rfl rfl rfl) hst (by omega)) rfl rfl ?_)
                  rintro e11 w11 ⟨v11, rfl, l11, hF11⟩
                  refine ⟨_, rfl, ?_⟩
                  have S11 := S10.like l11
                  have hu11 := found_mem hst hp hy hF11
                  subst hu11
                  refine L_y (y_move rfl) rfl ?_
                  refine L_y (y_extract rfl rfl) rfl ?_
                  refine L_y (y_extract rfl rfl) rfl ?_
                  refine L_o (o_alloc zz62 S11 rfl fun b12 w12 hb12 S12 => ?_)
                  refine L_o (o_stW S12 3 rfl rfl rfl (by rw [plf_sz]; exact sz62) (by first | (rw [plf_sz, plf_sz]; done) | (rw [plf_sz]; rfl) | (rw [plf_sz])) (fun u hu => plf_one _ u (by rw [List.toList_toArray] at hu; exact hu)) fun w13 S13 => ?_)
                  refine L_y (y_assign rfl) rfl ?_
                  refine L_nil ?_
                  refine hK16 _ _ ?_
                  refine T_seq fun K17 hK17 => ?_
                  refine T_drawnL [(0, true), (1, true), (2, true), (3, true), (4, true), (5, true), (6, true), (7, true), (8, true), (9, true)] hmix (by kernel_rfl) fun w14 l14 => ?_
                  have S14 := S13.like l14
                  refine DL_y rfl (y_move rfl) rfl ?_
                  refine DL_y rfl ((by first | exact y_notD rfl | exact y_not rfl)) rfl ?_
                  refine DL_y rfl (y_move rfl) rfl ?_
                  refine DL_gyes rfl rfl rfl (y_ldW Try.underlying62 rfl sz62 rfl (S14.blk 3 rfl) (pl_whole _)) rfl ?_
                  refine DL_gyes rfl rfl rfl (y_move rfl) rfl ?_
                  refine DL_gyes rfl rfl rfl (y_move rfl) rfl ?_
                  refine DL_gyes rfl rfl rfl (y_idx Try.underlying43 sz62 rfl rfl (S14.rd hl) inferInstance (by omega)) rfl ?_
                  refine DL_gyes rfl rfl rfl (y_ldp (f := plf) plf_len Try.underlying62 rfl sz62 rfl (S14.rd hl) (by omega) hy) rfl ?_
                  refine DL_gyes rfl rfl rfl (y_neS Try.underlying62 (by kernel_rfl) (by kernel_rfl) (pl_eq y y Try.underlying62) rfl rfl) rfl ?_
                  rw [peq_refl]
                  refine DL_y rfl ((by first | exact y_pickT rfl rfl | exact y_pickF rfl rfl)) rfl ?_
                  refine DL_nil ?_
                  refine hK17 _ _ ?_
                  refine T_condB rfl (fun h82 => ?_) (fun h82 => ?_)
                  ·
                    cases h82
                  ·
                    refine T_skip ?_
                    refine hK15 _ _ ?_
                    refine T_region ?_
                    refine L_y (y_move rfl) rfl ?_
                    refine L_y (y_add rfl rfl (i64w (by omega))) rfl ?_
                    refine L_y (y_assign rfl) rfl ?_
                    refine L_nil ?_
                    have S91 := S14.sel [0, 1, 2] (by decide)
                    refine ⟨k + 1, by omega, ⟨by omega, S91⟩, ?_⟩
                    exact (Sub.cons rfl (by first | rfl | exact congrArg (Value.int _) (by omega)) (Sub.cons rfl rfl (Sub.cons rfl rfl (Sub.cons rfl rfl (Sub.nil _)))))
                ·
                  refine T_exit ?_
                  refine hK7 _ _ ?_
                  refine T_seq fun K18 hK18 => ?_
                  refine T_region ?_
                  refine L_y (y_move rfl) rfl ?_
                  refine L_o (o_call Try.func28 rfl rfl (openGood B m d b w10 (S10.rd hb) he) rfl rfl ?_)
                  rintro e15 w15 ⟨v15, rfl, l15, g7, A7, rfl, T15⟩
                  refine ⟨_, rfl, ?_⟩
                  have S15 := S10.adoptS T15
                  refine L_y (y_move rfl) rfl ?_
                  refine L_y (y_extract rfl rfl) rfl ?_
                  refine L_y (y_extract rfl rfl) rfl ?_
                  refine L_y (y_assign rfl) rfl ?_
                  refine L_y (y_assign rfl) rfl ?_
                  refine L_nil ?_
                  refine hK18 _ _ ?_
                  refine T_seq fun K19 hK19 => ?_
                  refine T_seq fun K20 hK20 => ?_
                  refine T_region ?_
                  refine L_y (y_move rfl) rfl ?_
                  refine L_y (y_neq rfl rfl) rfl ?_
                  refine L_nil ?_
                  refine hK20 _ _ ?_
                  refine T_cond rfl (fun h89 => ?_) (fun h89 => ?_)
                  ·
                    exact absurd rfl h89
                  ·
                    refine T_skip ?_
                    refine hK19 _ _ ?_
                    refine T_seq fun K21 hK21 => ?_
                    refine T_region ?_
                    have S16 := S15.nilrow 62 34
                    refine L_y (y_assign rfl) rfl ?_
                    refine L_nil ?_
                    refine hK21 _ _ ?_
                    refine T_seq fun K22 hK22 => ?_
                    refine T_seq fun K23 hK23 => ?_
                    refine T_region ?_
                    refine L_y (y_assign rfl) rfl ?_
                    refine L_nil ?_
                    refine hK23 _ _ ?_
                    refine T_block ?_
                    refine T_loop3 [(2, _), (14, _)] (fun (k : Nat) (A8 : Option Addr) (c8 : Nat) => [(17, .int .i64 (k : Int)), (16, .slice A8 k c8)]) (fun (k : Nat) (A8 : Option Addr) (c8 : Nat) => (rowsB b).length - k) (fun (k : Nat) (A8 : Option Addr) (c8 : Nat) (w : World) => k ≤ (rowsB b).length ∧ Zx.St w0 noM [Zx.row 119 34 A7 (rowsB b).length (rowsB b).length ((rowsB b).flatMap rowf), blk g7 97 (idxf A7 (rowsB b).length (rowsB b).length (rowsB b) (ofB b)).toArray, Zx.row 62 34 A8 k c8 (((rowsB b).take k).flatMap plf)] w) 0 none 0 (Sub.cons rfl (by first | rfl | exact congrArg (Value.int _) (by omega)) (Sub.cons rfl (by first | rfl | exact congrArg (Value.int _) (by omega)) (Sub.nil _))) (Sub.cons rfl rfl (Sub.cons rfl rfl (Sub.nil _))) ?_ ?_
                    ·
                      have S70 := S16.sel [3, 4, 5] (by decide)
                      have S71 : Zx.St w0 noM [Zx.row 119 34 A7 (rowsB b).length (rowsB b).length ((rowsB b).flatMap rowf), blk g7 97 (idxf A7 (rowsB b).length (rowsB b).length (rowsB b) (ofB b)).toArray, Zx.row 62 34 none 0 0 (((rowsB b).take 0).flatMap plf)] w15 := S70.cast (by rw [List.take_zero]; rfl)
                      exact ⟨by omega, S71⟩
                    ·
                      intro k A8 c8 w17 hrel
                      obtain ⟨hk, S17⟩ := hrel
                      refine T_seq fun K24 hK24 => ?_
                      refine T_seq fun K25 hK25 => ?_
                      refine T_region ?_
                      refine L_y (y_move rfl) rfl ?_
                      refine L_y (y_move rfl) rfl ?_
                      refine L_o (o_call Try.func31 rfl rfl (lenX g7 A7 _ _ (rowsB b) (ofB b) w17 (S17.blk 1 rfl) (S17.row 0 rfl)) rfl rfl ?_)
                      rintro e18 w18 ⟨v18, rfl, l18, rfl⟩
                      refine ⟨_, rfl, ?_⟩
                      have S18 := S17.like l18
                      refine L_y (y_lss rfl rfl) rfl ?_
                      refine L_nil ?_
                      refine hK25 _ _ ?_
                      refine T_cond rfl (fun h98 => ?_) (fun h98 => ?_)
                      ·
                        obtain ⟨x9, hx9⟩ : ∃ x9, (rowsB b)[k]? = some x9 := ⟨_, List.getElem?_eq_getElem (by omega)⟩
                        have hat : atR (rowsB b) (k : Int) = x9 := atR_yes (by omega) (by rw [Int.toNat_natCast]; exact hx9)
                        refine T_skip ?_
                        refine hK24 _ _ ?_
                        refine T_seq fun K26 hK26 => ?_
                        refine T_block ?_
                        refine T_region ?_
                        refine L_y (y_move rfl) rfl ?_
                        refine L_y (y_move rfl) rfl ?_
                        refine L_y (y_move rfl) rfl ?_
                        refine L_o (o_call Try.func34 rfl rfl (atX g7 A7 _ _ (rowsB b) (ofB b) (k : Int) w18 (S18.blk 1 rfl) (S18.row 0 rfl) (S18.row_ne 0 1 rfl rfl rfl)) rfl rfl ?_)
                        rintro e19 w19 ⟨v19, rfl, l19, rfl⟩
                        refine ⟨_, rfl, ?_⟩
                        have S19 := S18.like l19
                        rw [hat]
                        refine L_o (o_bsl (plf x9) te43 zz62 S19 rfl rfl rfl (by simp [Value.cells, plf_len]) (by simp [Value.cells]) rfl rfl rfl fun b20 w20 S20 => ?_)
                        refine L_o (o_app te43 S20 2 rfl rfl rfl (by first | exact S20.row 0 rfl | exact S20.row 2 rfl | exact S20.row 3 rfl) (plf_one _) rfl (by omega) (by omega) fun A21 c21 w21 S21 => ?_)
                        have S21d := S21.drop (rs' := [_, _, _]) (.cons_cons _ (.cons_cons _ (.cons_cons _ (.cons _ (.refl _)))))
                        refine L_y (y_assign rfl) rfl ?_
                        refine L_nil ?_
                        refine hK26 _ _ ?_
                        refine T_region ?_
                        refine L_y (y_move rfl) rfl ?_
                        refine L_y (y_add rfl rfl (i64w (by omega))) rfl ?_
                        refine L_y (y_assign rfl) rfl ?_
                        refine L_nil ?_
                        have S91 := S21d.sel [0, 1, 2] (by decide)
                        have S92 := S91.rowc 2 rfl (n' := k + 1) (xs' := ((rowsB b).take (k + 1)).flatMap plf) rfl (take1 plf hx9).symm
                        refine ⟨k + 1, _, _, by omega, ⟨by omega, S92⟩, ?_⟩
                        exact (Sub.cons rfl (by first | rfl | exact congrArg (Value.int _) (by omega)) (Sub.cons rfl (by first | rfl | exact congrArg (Value.int _) (by omega)) (Sub.cons rfl rfl (Sub.cons rfl rfl (Sub.nil _)))))
                      ·
                        have hke : k = (rowsB b).length := by omega
                        subst hke
                        rw [List.take_length] at S18
                        refine T_exit ?_
                        refine hK22 _ _ ?_
                        refine T_seq fun K27 hK27 => ?_
                        refine T_region ?_
                        refine L_y (y_move rfl) rfl ?_
                        refine L_y (y_move rfl) rfl ?_
                        refine L_o (o_call Try.func32 rfl rfl (ofX g7 A7 _ _ (rowsB b) (ofB b) w18 (S18.blk 1 rfl) (S18.row 0 rfl)) rfl rfl ?_)
                        rintro e22 w22 ⟨v22, rfl, l22, rfl⟩
                        refine ⟨_, rfl, ?_⟩
                        have S22 := S18.like l22
                        refine L_o (o_call Try.func25 rfl rfl (make A8 _ c8 (rowsB b) (ofB b) w22 (S22.row 2 rfl) (fun x hx => ⟨(rows_ok he x hx).s0, (rows_ok he x hx).s1⟩)) rfl rfl ?_)
                        rintro e23 w23 ⟨v23, rfl, l23, A9, m9, c9, bs9, rfl, hM9, O23⟩
                        refine ⟨_, rfl, ?_⟩
                        have S23 := S22.adopt l23 O23
                        have hbs := rows_made he hM9
                        rw [rows_mk he]
                        refine L_y (y_move rfl) rfl ?_
                        refine L_y (y_extract rfl rfl) rfl ?_
                        refine L_y (y_extract rfl rfl) rfl ?_
                        refine L_y (y_assign rfl) rfl ?_
                        refine L_y (y_assign rfl) rfl ?_
                        refine L_nil ?_
                        refine hK27 _ _ ?_
                        refine T_seq fun K28 hK28 => ?_
                        refine T_region ?_
                        refine L_y (y_move rfl) rfl ?_
                        refine L_y (y_eql rfl rfl) rfl ?_
                        refine L_y (y_move rfl) rfl ?_
                        refine L_split 116 rfl (fun h116 => ?_) (fun h116 => ?_)
                        ·
                          refine L_gyes rfl rfl ?_
                          refine L_y (y_move rfl) rfl ?_
                          refine L_gyes rfl rfl ?_
                          refine L_y (y_move rfl) rfl ?_
                          refine L_gyes rfl rfl ?_
                          refine L_o (o_call Try.func18 rfl rfl (Oct.same _ _ _ _ _ _ _ _ w23 (S23.row 3 rfl) (S23.rd hb)) rfl rfl ?_)
                          rintro e25 w25 ⟨v25, rfl, l25, rfl⟩
                          refine ⟨_, rfl, ?_⟩
                          have S25 := S23.like l25
                          refine L_y ((by first | exact y_pickT rfl rfl | exact y_pickF rfl rfl)) rfl ?_
                          refine L_y (y_move rfl) rfl ?_
                          refine L_split 121 rfl (fun h121 => ?_) (fun h121 => ?_)
                          ·
                            refine L_gyes rfl rfl ?_
                            refine L_o (o_call Try.func24 rfl rfl (works w25) rfl rfl ?_)
                            rintro e27 w27 ⟨v27, rfl, l27, rfl⟩
                            refine ⟨_, rfl, ?_⟩
                            have S27 := S25.like l27
                            refine L_y ((by first | exact y_pickT rfl rfl | exact y_pickF rfl rfl)) rfl ?_
                            refine L_y (y_assign rfl) rfl ?_
                            refine L_nil ?_
                            refine hK28 _ _ ?_
                            refine T_ret ?_
                            repeat (first | with_reducible refine up_then ?_ | with_reducible refine up_in ?_)
                            refine ret1 rfl rfl ?_
                            exact ⟨_, rfl, S27.like0, rfl⟩
                          ·
                            exact absurd hbs h121
                        ·
                          exact absurd rfl h116
      ·
        refine T_skip ?_
        refine hK7 _ _ ?_
        refine T_seq fun K29 hK29 => ?_
        refine T_region ?_
        refine L_y (y_move rfl) rfl ?_
        refine L_o (o_call Try.func28 rfl rfl (openGood B m d b w5 (S5.rd hb) he) rfl rfl ?_)
        rintro e28 w28 ⟨v28, rfl, l28, g7, A7, rfl, T28⟩
        refine ⟨_, rfl, ?_⟩
        have S28 := S5.adoptS T28
        refine L_y (y_move rfl) rfl ?_
        refine L_y (y_extract rfl rfl) rfl ?_
        refine L_y (y_extract rfl rfl) rfl ?_
        refine L_y (y_assign rfl) rfl ?_
        refine L_y (y_assign rfl) rfl ?_
        refine L_nil ?_
        refine hK29 _ _ ?_
        refine T_seq fun K30 hK30 => ?_
        refine T_seq fun K31 hK31 => ?_
        refine T_region ?_
        refine L_y (y_move rfl) rfl ?_
        refine L_y (y_neq rfl rfl) rfl ?_
        refine L_nil ?_
        refine hK31 _ _ ?_
        refine T_cond rfl (fun h89 => ?_) (fun h89 => ?_)
        ·
          exact absurd rfl h89
        ·
          refine T_skip ?_
          refine hK30 _ _ ?_
          refine T_seq fun K32 hK32 => ?_
          refine T_region ?_
          have S29 := S28.nilrow 62 34
          refine L_y (y_assign rfl) rfl ?_
          refine L_nil ?_
          refine hK32 _ _ ?_
          refine T_seq fun K33 hK33 => ?_
          refine T_seq fun K34 hK34 => ?_
          refine T_region ?_
          refine L_y (y_assign rfl) rfl ?_
          refine L_nil ?_
          refine hK34 _ _ ?_
          refine T_block ?_
          refine T_loop3 [(2, _), (14, _)] (fun (k : Nat) (A8 : Option Addr) (c8 : Nat) => [(17, .int .i64 (k : Int)), (16, .slice A8 k c8)]) (fun (k : Nat) (A8 : Option Addr) (c8 : Nat) => (rowsB b).length - k) (fun (k : Nat) (A8 : Option Addr) (c8 : Nat) (w : World) => k ≤ (rowsB b).length ∧ Zx.St w0 noM [Zx.row 119 34 A7 (rowsB b).length (rowsB b).length ((rowsB b).flatMap rowf), blk g7 97 (idxf A7 (rowsB b).length (rowsB b).length (rowsB b) (ofB b)).toArray, Zx.row 62 34 A8 k c8 (((rowsB b).take k).flatMap plf)] w) 0 none 0 (Sub.cons rfl (by first | rfl | exact congrArg (Value.int _) (by omega)) (Sub.cons rfl (by first | rfl | exact congrArg (Value.int _) (by omega)) (Sub.nil _))) (Sub.cons rfl rfl (Sub.cons rfl rfl (Sub.nil _))) ?_ ?_
          ·
            have S70 := S29.sel [2, 3, 4] (by decide)
            have S71 : Zx.St w0 noM [Zx.row 119 34 A7 (rowsB b).length (rowsB b).length ((rowsB b).flatMap rowf), blk g7 97 (idxf A7 (rowsB b).length (rowsB b).length (rowsB b) (ofB b)).toArray, Zx.row 62 34 none 0 0 (((rowsB b).take 0).flatMap plf)] w28 := S70.cast (by rw [List.take_zero]; rfl)
            exact ⟨by omega, S71⟩
          ·
            intro k A8 c8 w30 hrel
            obtain ⟨hk, S30⟩ := hrel
            refine T_seq fun K35 hK35 => ?_
            refine T_seq fun K36 hK36 => ?_
            refine T_region ?_
            refine L_y (y_move rfl) rfl ?_
            refine L_y (y_move rfl) rfl ?_
            refine L_o (o_call Try.func31 rfl rfl (lenX g7 A7 _ _ (rowsB b) (ofB b) w30 (S30.blk 1 rfl) (S30.row 0 rfl)) rfl rfl ?_)
            rintro e31 w31 ⟨v31, rfl, l31, rfl⟩
            refine ⟨_, rfl, ?_⟩
            have S31 := S30.like l31
            refine L_y (y_lss rfl rfl) rfl ?_
            refine L_nil ?_
            refine hK36 _ _ ?_
            refine T_cond rfl (fun h98 => ?_) (fun h98 => ?_)
            ·
              obtain ⟨x9, hx9⟩ : ∃ x9, (rowsB b)[k]? = some x9 := ⟨_, List.getElem?_eq_getElem (by omega)⟩
              have hat : atR (rowsB b) (k : Int) = x9 := atR_yes (by omega) (by rw [Int.toNat_natCast]; exact hx9)
              refine T_skip ?_
              refine hK35 _ _ ?_
              refine T_seq fun K37 hK37 => ?_
              refine T_block ?_
              refine T_region ?_
              refine L_y (y_move rfl) rfl ?_
              refine L_y (y_move rfl) rfl ?_
              refine L_y (y_move rfl) rfl ?_
              refine L_o (o_call Try.func34 rfl rfl (atX g7 A7 _ _ (rowsB b) (ofB b) (k : Int) w31 (S31.blk 1 rfl) (S31.row 0 rfl) (S31.row_ne 0 1 rfl rfl rfl)) rfl rfl ?_)
              rintro e32 w32 ⟨v32, rfl, l32, rfl⟩
              refine ⟨_, rfl, ?_⟩
              have S32 := S31.like l32
              rw [hat]
              refine L_o (o_bsl (plf x9) te43 zz62 S32 rfl rfl rfl (by simp [Value.cells, plf_len]) (by simp [Value.cells]) rfl rfl rfl fun b33 w33 S33 => ?_)
              refine L_o (o_app te43 S33 2 rfl rfl rfl (by first | exact S33.row 0 rfl | exact S33.row 2 rfl | exact S33.row 3 rfl) (plf_one _) rfl (by omega) (by omega) fun A34 c34 w34 S34 => ?_)
              have S34d := S34.drop (rs' := [_, _, _]) (.cons_cons _ (.cons_cons _ (.cons_cons _ (.cons _ (.refl _)))))
              refine L_y (y_assign rfl) rfl ?_
              refine L_nil ?_
              refine hK37 _ _ ?_
              refine T_region ?_
              refine L_y (y_move rfl) rfl ?_
              refine L_y (y_add rfl rfl (i64w (by omega))) rfl ?_
              refine L_y (y_assign rfl) rfl ?_
              refine L_nil ?_
              have S91 := S34d.sel [0, 1, 2] (by decide)
              have S92 := S91.rowc 2 rfl (n' := k + 1) (xs' := ((rowsB b).take (k + 1)).flatMap plf) rfl (take1 plf hx9).symm
              refine ⟨k + 1, _, _, by omega, ⟨by omega, S92⟩, ?_⟩
              exact (Sub.cons rfl (by first | rfl | exact congrArg (Value.int _) (by omega)) (Sub.cons rfl (by first | rfl | exact congrArg (Value.int _) (by omega)) (Sub.cons rfl rfl (Sub.cons rfl rfl (Sub.nil _)))))
            ·
              have hke : k = (rowsB b).length := by omega
              subst hke
              rw [List.take_length] at S31
              refine T_exit ?_
              refine hK33 _ _ ?_
              refine T_seq fun K38 hK38 => ?_
              refine T_region ?_
              refine L_y (y_move rfl) rfl ?_
              refine L_y (y_move rfl) rfl ?_
              refine L_o (o_call Try.func32 rfl rfl (ofX g7 A7 _ _ (rowsB b) (ofB b) w31 (S31.blk 1 rfl) (S31.row 0 rfl)) rfl rfl ?_)
              rintro e35 w35 ⟨v35, rfl, l35, rfl⟩
              refine ⟨_, rfl, ?_⟩
              have S35 := S31.like l35
              refine L_o (o_call Try.func25 rfl rfl (make A8 _ c8 (rowsB b) (ofB b) w35 (S35.row 2 rfl) (fun x hx => ⟨(rows_ok he x hx).s0, (rows_ok he x hx).s1⟩)) rfl rfl ?_)
              rintro e36 w36 ⟨v36, rfl, l36, A9, m9, c9, bs9, rfl, hM9, O36⟩
              refine ⟨_, rfl, ?_⟩
              have S36 := S35.adopt l36 O36
              have hbs := rows_made he hM9
              rw [rows_mk he]
              refine L_y (y_move rfl) rfl ?_
              refine L_y (y_extract rfl rfl) rfl ?_
              refine L_y (y_extract rfl rfl) rfl ?_
              refine L_y (y_assign rfl) rfl ?_
              refine L_y (y_assign rfl) rfl ?_
              refine L_nil ?_
              refine hK38 _ _ ?_
              refine T_seq fun K39 hK39 => ?_
              refine T_region ?_
              refine L_y (y_move rfl) rfl ?_
              refine L_y (y_eql rfl rfl) rfl ?_
              refine L_y (y_move rfl) rfl ?_
              refine L_split 116 rfl (fun h116 => ?_) (fun h116 => ?_)
              ·
                refine L_gyes rfl rfl ?_
                refine L_y (y_move rfl) rfl ?_
                refine L_gyes rfl rfl ?_
                refine L_y (y_move rfl) rfl ?_
                refine L_gyes rfl rfl ?_
                refine L_o (o_call Try.func18 rfl rfl (Oct.same _ _ _ _ _ _ _ _ w36 (S36.row 3 rfl) (S36.rd hb)) rfl rfl ?_)
                rintro e38 w38 ⟨v38, rfl, l38, rfl⟩
                refine ⟨_, rfl, ?_⟩
                have S38 := S36.like l38
                refine L_y ((by first | exact y_pickT rfl rfl | exact y_pickF rfl rfl)) rfl ?_
                refine L_y (y_move rfl) rfl ?_
                refine L_split 121 rfl (fun h121 => ?_) (fun h121 => ?_)
                ·
                  refine L_gyes rfl rfl ?_
                  refine L_o (o_call Try.func24 rfl rfl (works w38) rfl rfl ?_)
                  rintro e40 w40 ⟨v40, rfl, l40, rfl⟩
                  refine ⟨_, rfl, ?_⟩
                  have S40 := S38.like l40
                  refine L_y ((by first | exact y_pickT rfl rfl | exact y_pickF rfl rfl)) rfl ?_
                  refine L_y (y_assign rfl) rfl ?_
                  refine L_nil ?_
                  refine hK39 _ _ ?_
                  refine T_ret ?_
                  repeat (first | with_reducible refine up_then ?_ | with_reducible refine up_in ?_)
                  refine ret1 rfl rfl ?_
                  exact ⟨_, rfl, S40.like0, rfl⟩
                ·
                  exact absurd hbs h121
              ·
                exact absurd rfl h116


set_option maxRecDepth 100000 in
theorem back0 (A : Option Addr) (n c : Nat) (l : List Row) (of : Oid.Id) (B : Option Addr) (m d : Nat) (b : List UInt8) (w0 : World) (hl : Rs w0 34 A n c (l.flatMap plf)) (hsm : ∀ x ∈ l, SumOk x) (hb : Rs w0 1 B m d (bL b)) (he : openE b ≠ 0) :
    Calls Try.prog 6 #[.slice A n c, .agg (idf of).toArray, .slice B m d] w0 fun e w' => ∃ u, e = .returned u ∧ Like w0 w' ∧ u = .bool true := by
  refine enter1 (env := [(0, .slice A n c), (1, .agg (idf of).toArray), (2, .slice B m d)]) [.slice A n c, .agg (idf of).toArray, .slice B m d] Try.func6 rfl Try.ntmps6 rfl rfl ?_
  have hn := places_len hl; have hcap := hl.cap; have hmax := hl.max; have hm := hb.lenb; have hcb := hb.cap; have hmb := hb.max
  have S0 := St.start w0 noM
  refine T_seq fun K1 hK1 => ?_
  refine T_region ?_
  refine L_o (o_box rfl S0 rfl fun b1 w1 hb1 S1 => ?_)
  refine L_y (y_assign rfl) rfl ?_
  refine L_nil ?_
  refine hK1 _ _ ?_
  refine T_seq fun K2 hK2 => ?_
  refine T_seq fun K3 hK3 => ?_
  refine T_region ?_
  refine L_y (y_move rfl) rfl ?_
  refine L_y (y_len Try.underlying43 rfl) rfl ?_
  refine L_y (y_gtr rfl rfl) rfl ?_
  refine L_y (y_move rfl) rfl ?_
  refine L_split 23 rfl (fun h23 => ?_) (fun h23 => ?_)
  ·
    refine L_gno rfl rfl rfl ?_
    refine L_gno rfl rfl rfl ?_
    refine L_gno rfl rfl rfl ?_
    refine L_y ((by first | exact y_pickT rfl rfl | exact y_pickF rfl rfl)) rfl ?_
    refine L_nil ?_
    refine hK3 _ _ ?_
    refine T_true rfl ?_
    refine T_seq fun K4 hK4 => ?_
    refine T_region ?_
    refine L_o (o_call Try.func24 rfl rfl (works w1) rfl rfl ?_)
    rintro e3 w3 ⟨v3, rfl, l3, rfl⟩
    refine ⟨_, rfl, ?_⟩
    have S3 := S1.like l3
    refine L_y (y_assign rfl) rfl ?_
    refine L_nil ?_
    refine hK4 _ _ ?_
    refine T_ret ?_
    repeat (first | with_reducible refine up_then ?_ | with_reducible refine up_in ?_)
    refine ret1 rfl rfl ?_
    exact ⟨_, rfl, S3.like0, rfl⟩
  ·
    refine L_gyes rfl rfl ?_
    refine L_y (y_move rfl) rfl ?_
    refine L_gyes rfl rfl ?_
    refine L_y (y_len Try.underlying27 rfl) rfl ?_
    refine L_gyes rfl rfl ?_
    refine L_y (y_gtr rfl rfl) rfl ?_
    refine L_y ((by first | exact y_pickT rfl rfl | exact y_pickF rfl rfl)) rfl ?_
    refine L_nil ?_
    refine hK3 _ _ ?_
    refine T_cond rfl (fun h27 => ?_) (fun h27 => ?_)
    ·
      refine T_seq fun K5 hK5 => ?_
      refine T_region ?_
      refine L_o (o_call Try.func24 rfl rfl (works w1) rfl rfl ?_)
      rintro e4 w4 ⟨v4, rfl, l4, rfl⟩
      refine ⟨_, rfl, ?_⟩
      have S4 := S1.like l4
      refine L_y (y_assign rfl) rfl ?_
      refine L_nil ?_
      refine hK5 _ _ ?_
      refine T_ret ?_
      repeat (first | with_reducible refine up_then ?_ | with_reducible refine up_in ?_)
      refine ret1 rfl rfl ?_
      exact ⟨_, rfl, S4.like0, rfl⟩
    ·
      refine T_skip ?_
      refine hK2 _ _ ?_
      refine T_seq fun K6 hK6 => ?_
      refine T_region ?_
      refine L_y (y_move rfl) rfl ?_
      refine L_y (y_ldW Try.underlying23 rfl sz23 rfl (S1.blk 0 rfl) (id_whole of)) rfl ?_
      refine L_o (o_call Try.func25 rfl rfl (make A n c l of w1 (S1.rd hl) hsm) rfl rfl ?_)
      rintro e5 w5 ⟨v5, rfl, l5, A4, m4, c4, bs, rfl, hM, O5⟩
      refine ⟨_, rfl, ?_⟩
      have S5 := S1.adopt l5 O5
      refine L_y (y_move rfl) rfl ?_
      refine L_y (y_extract rfl rfl) rfl ?_
      refine L_y (y_extract rfl rfl) rfl ?_
      refine L_y (y_assign rfl) rfl ?_
      refine L_y (y_assign rfl) rfl ?_
      refine L_nil ?_
      refine hK6 _ _ ?_
      refine T_seq fun K7 hK7 => ?_
      refine T_seq fun K8 hK8 => ?_
      refine T_region ?_
      refine L_y (y_move rfl) rfl ?_
      refine L_y (y_eql rfl rfl) rfl ?_
      refine L_nil ?_
      refine hK8 _ _ ?_
      refine T_cond rfl (fun h36 => ?_) (fun h36 => ?_)
      ·
        obtain ⟨zs, hp, hst, rfl⟩ := made_ok hM h36
        have hk0 := mk0 h36
        have hzl : zs.length = l.length := hp.length_eq
        have hok : ∀ x ∈ zs, RowOk x := fun x hx => rowOk_of hsm hk0.2.2 x (hp.mem_iff.1 hx)
        refine T_seq fun K9 hK9 => ?_
        refine T_region ?_
        refine L_y (y_move rfl) rfl ?_
        refine L_o (o_call Try.func28 rfl rfl (openLay _ _ _ zs of w5 (S5.row 1 rfl) (by omega) hok hst) rfl rfl ?_)
        rintro e6 w6 ⟨v6, rfl, l6, g5, A5, rfl, T6⟩
        refine ⟨_, rfl, ?_⟩
        have S6 := S5.adoptS T6
        refine L_y (y_move rfl) rfl ?_
        refine L_y (y_extract rfl rfl) rfl ?_
        refine L_y (y_extract rfl rfl) rfl ?_
        refine L_y (y_assign rfl) rfl ?_
        refine L_y (y_assign rfl) rfl ?_
        refine L_nil ?_
        refine hK9 _ _ ?_
        refine T_seq fun K10 hK10 => ?_
        refine T_seq fun K11 hK11 => ?_
        refine T_drawnL [(0, true), (1, true), (2, true), (3, true), (5, true), (6, true), (4, false), (7, true), (8, true), (9, true), (10, true), (12, true), (11, false), (13, true), (14, true)] hmix (by kernel_rfl) fun w7 l7 => ?_
        have S7 := S6.like l7
        refine DL_y rfl (y_move rfl) rfl ?_
        refine DL_y rfl (y_neq rfl rfl) rfl ?_
        refine DL_y rfl (y_move rfl) rfl ?_
        refine DL_split 44 rfl (fun h44 => ?_) (fun h44 => ?_)
        ·
          exact absurd rfl h44
        ·
          refine DL_gyes rfl rfl rfl (y_move rfl) rfl ?_
          refine DL_gyes rfl rfl rfl (y_move rfl) rfl ?_
          refine DL_gyes rfl rfl rfl (y_len Try.underlying43 rfl) rfl ?_
          refine DL_ogyes rfl rfl rfl (o_call Try.func31 rfl rfl (lenX g5 A5 _ _ zs of w7 (S7.blk 3 rfl) (S7.row 2 rfl)) rfl rfl ?_)
          rintro e8 w8 ⟨v8, rfl, l8, rfl⟩
          refine ⟨_, rfl, l8, ?_⟩
          have S8 := S7.like l8
          have q8 := l8
          refine DL_gyes rfl rfl rfl (y_neq rfl rfl) rfl ?_
          refine DL_y rfl ((by first | exact y_pickT rfl rfl | exact y_pickF rfl rfl)) rfl ?_
          refine DL_y rfl (y_move rfl) rfl ?_
          refine DL_split 51 rfl (fun h51 => ?_) (fun h51 => ?_)
          ·
            exact absurd (by omega) h51
          ·
            refine DL_gyes rfl rfl rfl (y_move rfl) rfl ?_
            refine DL_gyes rfl rfl rfl (y_ldW Try.underlying23 rfl sz23 rfl (S7.blk 0 rfl) (id_whole of)) rfl ?_
            refine DL_ogyes rfl rfl rfl (o_call Try.func32 rfl rfl (ofX g5 A5 _ _ zs of w8 (S8.blk 3 rfl) (S8.row 2 rfl)) rfl rfl ?_)
            rintro e9 w9 ⟨v9, rfl, l9, rfl⟩
            refine ⟨_, rfl, (Like.trans q8 l9), ?_⟩
            have S9 := S8.like l9
            have q9 := (Like.trans q8 l9)
            refine DL_gyes rfl rfl rfl (y_neB Try.underlying23 Try.underlying5 sz5 (by kernel_rfl) rfl rfl (Oid.Id.h _) (Oid.Id.h _)) rfl ?_
            refine DL_y rfl ((by first | exact y_pickT rfl rfl | exact y_pickF rfl rfl)) rfl ?_
            refine DL_nil ?_
            refine hK11 _ _ ?_
            refine T_cond rfl (fun h56 => ?_) (fun h56 => ?_)
            ·
              exact absurd rfl h56
            ·
              refine T_skip ?_
              refine hK10 _ _ ?_
              refine T_seq fun K12 hK12 => ?_
              refine T_region ?_
              refine L_y (y_assign rfl) rfl ?_
              refine L_nil ?_
              refine hK12 _ _ ?_
              refine T_block ?_
              refine T_loop1 [(0, _), (2, _), (9, _)] (fun (k : Nat) => [(11, .int .i64 (k : Int))]) (fun (k : Nat) => l.length - k) (fun (k : Nat) (w : World) => k ≤ l.length ∧ Zx.St w0 noM [blk b1 23 (idf of).toArray, Zx.row 119 34 A5 zs.length zs.length (zs.flatMap rowf), blk g5 97 (idxf A5 zs.length zs.length zs of).toArray] w) 0 (Sub.cons rfl (by first | rfl | exact congrArg (Value.int _) (by omega)) (Sub.nil _)) (Sub.cons rfl rfl (Sub.cons rfl rfl (Sub.cons rfl rfl (Sub.nil _)))) ?_ ?_
              ·
                have S70 : Zx.St w0 noM [blk b1 23 (idf of).toArray, Zx.row 119 34 A5 zs.length zs.length (zs.flatMap rowf), blk g5 97 (idxf A5 zs.length zs.length zs of).toArray] w9 := S9.sel [0, 2, 3] (by decide)
                exact ⟨by omega, S70⟩
              ·
                intro k w10 hrel
                obtain ⟨hk, S10⟩ := hrel
                refine T_seq fun K13 hK13 => ?_
                refine T_seq fun K14 hK14 => ?_
                refine T_region ?_
                refine L_y (y_move rfl) rfl ?_
                refine L_y (y_move rfl) rfl ?_
                refine L_y (y_len Try.underlying43 rfl) rfl ?_
                refine L_y (y_lss rfl rfl) rfl ?_
                refine L_nil ?_
                refine hK14 _ _ ?_
                refine T_cond rfl (fun h60 => ?_) (fun h60 => ?_)
                ·
                  obtain ⟨y, hy⟩ : ∃ y, l[k]? = some y := ⟨_, List.getElem?_eq_getElem (by omega)⟩
                  refine T_skip ?_
                  refine hK13 _ _ ?_
                  refine T_seq fun K15 hK15 => ?_
                  refine T_block ?_
                  refine T_seq fun K16 hK16 => ?_
                  refine T_region ?_
                  refine L_y (y_move rfl) rfl ?_
                  refine L_y (y_move rfl) rfl ?_
                  refine L_y (y_move rfl) rfl ?_
                  refine L_y (y_idx Try.underlying43 sz62 rfl rfl (S10.rd hl) inferInstance (by omega)) rfl ?_
                  refine L_y (y_fieldR 0 Try.underlying62 rfl sz23 rfl rfl (S10.rd hl) (by omega) rfl) rfl ?_
                  refine L_y (y_ldfN Try.underlying23 rfl sz23 rfl (S10.rd hl) (by omega) (pl_part hy) (idf_len _)) rfl ?_
                  refine L_o (o_call Try.func33 rfl rfl (find g5 A5 _ _ zs of y.id w10 (S10.blk 2 rfl) (S10.row 1 rfl) (S10.row_ne 1 2 rfl rfl rfl) hst (by omega)) rfl rfl ?_)
                  rintro e11 w11 ⟨v11, rfl, l11, hF11⟩
                  refine ⟨_, rfl, ?_⟩
                  have S11 := S10.like l11
                  have hu11 := found_mem hst hp hy hF11
                  subst hu11
                  refine L_y (y_move rfl) rfl ?_
                  refine L_y (y_extract rfl rfl) rfl ?_
                  refine L_y (y_extract rfl rfl) rfl ?_
                  refine L_o (o_alloc zz62 S11 rfl fun b12 w12 hb12 S12 => ?_)
                  refine L_o (o_stW S12 3 rfl rfl rfl (by rw [plf_sz]; exact sz62) (by first | (rw [plf_sz, plf_sz]; done) | (rw [plf_sz]; rfl) | (rw [plf_sz])) (fun u hu => plf_one _ u (by rw [List.toList_toArray] at hu; exact hu)) fun w13 S13 => ?_)
                  refine L_y (y_assign rfl) rfl ?_
                  refine L_nil ?_
                  refine hK16 _ _ ?_
                  refine T_seq fun K17 hK17 => ?_
                  refine T_drawnL [(0, true), (1, true), (2, true), (3, true), (4, true), (5, true), (6, true), (7, true), (8, true), (9, true)] hmix (by kernel_rfl) fun w14 l14 => ?_
                  have S14 := S13.like l14
                  refine DL_y rfl (y_move rfl) rfl ?_
                  refine DL_y rfl ((by first | exact y_notD rfl | exact y_not rfl)) rfl ?_
                  refine DL_y rfl (y_move rfl) rfl ?_
                  refine DL_gyes rfl rfl rfl (y_ldW Try.underlying62 rfl sz62 rfl (S14.blk 3 rfl) (pl_whole _)) rfl ?_
                  refine DL_gyes rfl rfl rfl (y_move rfl) rfl ?_
                  refine DL_gyes rfl rfl rfl (y_move rfl) rfl ?_
                  refine DL_gyes rfl rfl rfl (y_idx Try.underlying43 sz62 rfl rfl (S14.rd hl) inferInstance (by omega)) rfl ?_
                  refine DL_gyes rfl rfl rfl (y_ldp (f := plf) plf_len Try.underlying62 rfl sz62 rfl (S14.rd hl) (by omega) hy) rfl ?_
                  refine DL_gyes rfl rfl rfl (y_neS Try.underlying62 (by kernel_rfl) (by kernel_rfl) (pl_eq y y Try.underlying62) rfl rfl) rfl ?_
                  rw [peq_refl]
                  refine DL_y rfl ((by first | exact y_pickT rfl rfl | exact y_pickF rfl rfl)) rfl ?_
                  refine DL_nil ?_
                  refine hK17 _ _ ?_
                  refine T_condB rfl (fun h82 => ?_) (fun h82 => ?_)
                  ·
                    cases h82
                  ·
                    refine T_skip ?_
                    refine hK15 _ _ ?_
                    refine T_region ?_
                    refine L_y (y_move rfl) rfl ?_
                    refine L_y (y_add rfl rfl (i64w (by omega))) rfl ?_
                    refine L_y (y_assign rfl) rfl ?_
                    refine L_nil ?_
                    have S91 := S14.sel [0, 1, 2] (by decide)
                    refine ⟨k + 1, by omega, ⟨by omega, S91⟩, ?_⟩
                    exact (Sub.cons rfl (by first | rfl | exact congrArg (Value.int _) (by omega)) (Sub.cons rfl rfl (Sub.cons rfl rfl (Sub.cons rfl rfl (Sub.nil _)))))
                ·
                  refine T_exit ?_
                  refine hK7 _ _ ?_
                  refine T_seq fun K18 hK18 => ?_
                  refine T_region ?_
                  refine L_y (y_move rfl) rfl ?_
                  refine L_o (o_call Try.func28 rfl rfl (openBad B m d b w10 (S10.rd hb) he) rfl rfl ?_)
                  rintro e15 w15 ⟨v15, rfl, l15, rfl⟩
                  refine ⟨_, rfl, ?_⟩
                  have S15 := S10.like l15
                  refine L_y (y_move rfl) rfl ?_
                  refine L_y (y_extract rfl rfl) rfl ?_
                  refine L_y (y_extract rfl rfl) rfl ?_
                  refine L_y (y_assign rfl) rfl ?_
                  refine L_y (y_assign rfl) rfl ?_
                  refine L_nil ?_
                  refine hK18 _ _ ?_
                  refine T_seq fun K19 hK19 => ?_
                  refine T_seq fun K20 hK20 => ?_
                  refine T_region ?_
                  refine L_y (y_move rfl) rfl ?_
                  refine L_y (y_neq rfl rfl) rfl ?_
                  refine L_nil ?_
                  refine hK20 _ _ ?_
                  refine T_cond rfl (fun h89 => ?_) (fun h89 => ?_)
                  ·
                    refine T_seq fun K21 hK21 => ?_
                    refine T_region ?_
                    refine L_y (y_move rfl) rfl ?_
                    refine L_y (y_peqn Try.underlying49 rfl) rfl ?_
                    refine L_y (y_move rfl) rfl ?_
                    refine L_gyes rfl rfl ?_
                    refine L_o (o_call Try.func24 rfl rfl (works w15) rfl rfl ?_)
                    rintro e16 w16 ⟨v16, rfl, l16, rfl⟩
                    refine ⟨_, rfl, ?_⟩
                    have S16 := S15.like l16
                    refine L_y ((by first | exact y_pickT rfl rfl | exact y_pickF rfl rfl)) rfl ?_
                    refine L_y (y_assign rfl) rfl ?_
                    refine L_nil ?_
                    refine hK21 _ _ ?_
                    refine T_ret ?_
                    repeat (first | with_reducible refine up_then ?_ | with_reducible refine up_in ?_)
                    refine ret1 rfl rfl ?_
                    exact ⟨_, rfl, S16.like0, rfl⟩
                  ·
                    exact absurd he h89
      ·
        refine T_skip ?_
        refine hK7 _ _ ?_
        refine T_seq fun K22 hK22 => ?_
        refine T_region ?_
        refine L_y (y_move rfl) rfl ?_
        refine L_o (o_call Try.func28 rfl rfl (openBad B m d b w5 (S5.rd hb) he) rfl rfl ?_)
        rintro e17 w17 ⟨v17, rfl, l17, rfl⟩
        refine ⟨_, rfl, ?_⟩
        have S17 := S5.like l17
        refine L_y (y_move rfl) rfl ?_
        refine L_y (y_extract rfl rfl) rfl ?_
        refine L_y (y_extract rfl rfl) rfl ?_
        refine L_y (y_assign rfl) rfl ?_
        refine L_y (y_assign rfl) rfl ?_
        refine L_nil ?_
        refine hK22 _ _ ?_
        refine T_seq fun K23 hK23 => ?_
        refine T_seq fun K24 hK24 => ?_
        refine T_region ?_
        refine L_y (y_move rfl) rfl ?_
        refine L_y (y_neq rfl rfl) rfl ?_
        refine L_nil ?_
        refine hK24 _ _ ?_
        refine T_cond rfl (fun h89 => ?_) (fun h89 => ?_)
        ·
          refine T_seq fun K25 hK25 => ?_
          refine T_region ?_
          refine L_y (y_move rfl) rfl ?_
          refine L_y (y_peqn Try.underlying49 rfl) rfl ?_
          refine L_y (y_move rfl) rfl ?_
          refine L_gyes rfl rfl ?_
          refine L_o (o_call Try.func24 rfl rfl (works w17) rfl rfl ?_)
          rintro e18 w18 ⟨v18, rfl, l18, rfl⟩
          refine ⟨_, rfl, ?_⟩
          have S18 := S17.like l18
          refine L_y ((by first | exact y_pickT rfl rfl | exact y_pickF rfl rfl)) rfl ?_
          refine L_y (y_assign rfl) rfl ?_
          refine L_nil ?_
          refine hK25 _ _ ?_
          refine T_ret ?_
          repeat (first | with_reducible refine up_then ?_ | with_reducible refine up_in ?_)
          refine ret1 rfl rfl ?_
          exact ⟨_, rfl, S18.like0, rfl⟩
        ·
          exact absurd he h89


theorem back_law (A : Option Addr) (n c : Nat) (l : List Row) (of : Oid.Id) (B : Option Addr) (m d : Nat) (b : List UInt8) (w0 : World) (hl : Rs w0 34 A n c (l.flatMap plf)) (hsm : ∀ x ∈ l, SumOk x) (hb : Rs w0 1 B m d (bL b)) :
    Calls Try.prog 6 #[.slice A n c, .agg (idf of).toArray, .slice B m d] w0 fun e w' => e = .returned (.bool true) ∧ Below w0.heap.size w0 w' := by
  by_cases he : openE b = 0
  · exact (back1 A n c l of B m d b w0 hl hsm hb he).mono fun e w' ⟨u, h1, h2, h3⟩ => by subst h3; exact ⟨h1, h2⟩
  · exact (back0 A n c l of B m d b w0 hl hsm hb he).mono fun e w' ⟨u, h1, h2, h3⟩ => by subst h3; exact ⟨h1, h2⟩
end Go.Proofs.Ytgaklngnfecdaaa.Idx
