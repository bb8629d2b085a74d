import Derived.Test.YtgaklngnfecdaaaMgIOpens5
import Derived.Test.YtgaklngnfecdaaaMgIOpens2
import Derived.Laws.Small

/-
  Find.
-/
namespace Go.Proofs.Ytgaklngnfecdaaa.Idx
open Go.RowKit Zk Zx
open Oid (idf idf_len cmpL)
set_option linter.unusedVariables false
set_option linter.unusedSimpArgs false

theorem built_id (z : Oid.Id) : Try.prog.built 119 [(0, .agg (idf z).toArray)] = some (rowf ⟨z, 0, 0⟩).toArray := by
  obtain ⟨l, h⟩ := z
  obtain ⟨a0, a1, a2, a3, a4, a5, a6, a7, a8, a9, a10, a11, a12, a13, a14, a15, a16, a17, a18, a19, a20, a21, a22, a23, a24, a25, a26, a27, a28, a29, a30, a31, rfl⟩ := list32 l h
  kernel_rfl
theorem flat_drop (l : List Row) : ∀ a, (l.flatMap rowf).drop (a * 34) = (l.drop a).flatMap rowf
  | 0 => by simp
  | a + 1 => by
    cases l with
    | nil => simp
    | cons x l =>
      rw [List.flatMap_cons, List.drop_succ_cons, ← flat_drop l a, show (a + 1) * 34 = (rowf x).length + a * 34 by rw [rowf_len]; omega, List.drop_append]
      simp
theorem flat_sub (l : List Row) (a b : Nat) : ((l.flatMap rowf).drop (a * 34)).take ((b - a) * 34) = (sub l a b).flatMap rowf := by
  rw [flat_drop, flat_take rowf rowf_len]
  rfl
theorem sub_rs {w : World} {A : Option Addr} {n c a b : Nat} {l : List Row} (h : Rs w 34 A n c (l.flatMap rowf)) (h1 : a ≤ b) (h2 : b ≤ n) : Rs w 34 (cutA A c a 34) (b - a) (c - a) ((sub l a b).flatMap rowf) := by
  have := h.cut h1 h2
  rwa [flat_sub] at this
theorem sub_len (l : List Row) (a b : Nat) : (sub l a b).length ≤ l.length := by unfold sub; rw [List.length_take, List.length_drop]; omega


set_option maxRecDepth 100000 in
theorem find (g : Nat) (A : Option Addr) (n c : Nat) (l : List Row) (of : Oid.Id) (z : Oid.Id) (w0 : World) (hx : Blk w0 g 97 (idxf A n c l of).toArray) (hl : Rs w0 34 A n c (l.flatMap rowf)) (hne : ∀ ad, 0 < n → A = some ad → ad.block ≠ g) (hs : StR l) (h9 : l.length ≤ 100000) :
    Calls Try.prog 33 #[.pointer (some ⟨g, 0, none⟩), .agg (idf z).toArray] w0 fun e w' => ∃ u, e = .returned u ∧ Like w0 w' ∧ Found l z u := by
  refine enter1 (env := [(0, .pointer (some ⟨g, 0, none⟩)), (1, .agg (idf z).toArray)]) [.pointer (some ⟨g, 0, none⟩), .agg (idf z).toArray] Try.func33 rfl Try.ntmps33 rfl rfl ?_
  have hn := rows_len hl; have hcap := hl.cap; have hmax := hl.max
  have hfz := fz_lt z; have hle1 := cl_mono (StR.fs hs) (fz z); have hle2 := cl_le l (fz z + 1)
  have S0 := St.borrow1 (blk g 97 (idxf A n c l of).toArray) hx (blk_ilt hx)
  refine T_seq fun K1 hK1 => ?_
  refine T_region ?_
  refine L_o (o_box rfl S0 rfl fun b1 w1 hb1 S1 => ?_)
  refine L_o (o_alloc zz62 S1 rfl fun b2 w2 hb2 S2 => ?_)
  refine L_y (y_assign rfl) rfl ?_
  refine L_nil ?_
  refine hK1 _ _ ?_
  refine T_seq fun K2 hK2 => ?_
  refine T_seq fun K3 hK3 => ?_
  refine T_region ?_
  refine L_y (y_move rfl) rfl ?_
  refine L_y (y_peqn Try.underlying49 rfl) rfl ?_
  refine L_nil ?_
  refine hK3 _ _ ?_
  refine T_false rfl ?_
  refine T_skip ?_
  refine hK2 _ _ ?_
  refine T_seq fun K4 hK4 => ?_
  refine T_drawnL [(0, true), (1, true), (2, true), (3, true), (4, true), (5, true), (6, true), (7, true), (8, true)] hmix (by kernel_rfl) fun w3 l3 => ?_
  have S3 := S2.like l3
  refine DL_y rfl (y_move rfl) rfl ?_
  refine DL_y rfl (y_idxA0 Try.underlying23 sz5 rfl rfl inferInstance (by omega)) rfl ?_
  refine DL_y rfl (y_ldc Try.underlying5 rfl rfl (((S3.blk 1 rfl).cell _).trans (cell_fz z))) rfl ?_
  refine DL_y rfl (y_nilp rfl) rfl ?_
  refine DL_y rfl (y_fieldA 1 Try.underlying97 rfl sz95 rfl rfl rfl) rfl ?_
  refine DL_y rfl (y_idxA1 Try.underlying95 sz3 rfl rfl (Nt.mk rfl : Nt _ (fz z)) (by omega)) rfl ?_
  refine DL_y rfl (y_ldc Try.underlying3 rfl rfl (((S3.blk 0 rfl).cell _).trans (idx_fan _ _ _ _ _ (fz_lt z)))) rfl ?_
  refine DL_y rfl (y_assign rfl) rfl ?_
  refine DL_y rfl (y_assign rfl) rfl ?_
  refine DL_nil ?_
  refine hK4 _ _ ?_
  refine T_seq fun K5 hK5 => ?_
  refine T_seq fun K6 hK6 => ?_
  refine T_region ?_
  refine L_y (y_idxA0 Try.underlying23 sz5 rfl rfl inferInstance (by omega)) rfl ?_
  refine L_y (y_ldc Try.underlying5 rfl rfl (((S3.blk 1 rfl).cell _).trans (cell_fz z))) rfl ?_
  refine L_y (y_gtr rfl rfl) rfl ?_
  refine L_nil ?_
  refine hK6 _ _ ?_
  refine T_cond rfl (fun h23 => ?_) (fun h23 => ?_)
  ·
    have hfr : cl l (fz z - 1 + 1) = cl l (fz z) := by rw [show fz z - 1 + 1 = fz z by omega]
    refine T_drawnL [(0, true), (1, true), (2, true), (3, true), (4, true), (5, true), (6, true), (7, true), (8, true)] hmix (by kernel_rfl) fun w4 l4 => ?_
    have S4 := S3.like l4
    refine DL_y rfl (y_move rfl) rfl ?_
    refine DL_y rfl (y_idxA0 Try.underlying23 sz5 rfl rfl inferInstance (by omega)) rfl ?_
    refine DL_y rfl (y_ldc Try.underlying5 rfl rfl (((S4.blk 1 rfl).cell _).trans (cell_fz z))) rfl ?_
    refine DL_y rfl (y_sub rfl rfl (u8w (by omega))) rfl ?_
    refine DL_y rfl (y_nilp rfl) rfl ?_
    refine DL_y rfl (y_fieldA 1 Try.underlying97 rfl sz95 rfl rfl rfl) rfl ?_
    refine DL_y rfl (y_idxA1 Try.underlying95 sz3 rfl rfl (Nt.mk (by omega) : Nt _ (fz z - 1)) (by omega)) rfl ?_
    refine DL_y rfl (y_ldc Try.underlying3 rfl rfl (((S4.blk 0 rfl).cell _).trans (idx_fan _ _ _ _ _ (by omega)))) rfl ?_
    refine DL_y rfl (y_assign rfl) rfl ?_
    refine DL_nil ?_
    refine hK5 _ _ ?_
    refine T_seq fun K7 hK7 => ?_
    refine T_region ?_
    refine L_y (y_move rfl) rfl ?_
    refine L_y (y_nilp rfl) rfl ?_
    refine L_y (y_fieldA 0 Try.underlying97 rfl sz94 rfl rfl rfl) rfl ?_
    refine L_y (y_ldc Try.underlying94 rfl rfl (((S4.blk 0 rfl).cell _).trans (idx_row _ _ _ _ _))) rfl ?_
    refine L_y (y_move rfl) rfl ?_
    refine L_y (y_move rfl) rfl ?_
    refine L_y (y_slice Try.underlying94 sz119 rfl rfl rfl (Nt.mk (by omega) : Nt _ (cl l (fz z))) (Nt.mk (by omega) : Nt _ (cl l (fz z + 1))) (by omega) (by omega)) rfl ?_
    refine L_y (y_assign rfl) rfl ?_
    refine L_nil ?_
    refine hK7 _ _ ?_
    refine T_seq fun K8 hK8 => ?_
    refine T_region ?_
    refine L_y (y_move rfl) rfl ?_
    refine L_y (y_ldW Try.underlying23 rfl sz23 rfl (S4.blk 1 rfl) (id_whole z)) rfl ?_
    refine L_y (y_build rfl (built_id z)) rfl ?_
    refine L_o (o_call Try.func81 rfl rfl (bsearch _ _ _ (sub l (cl l (fz z)) (cl l (fz z + 1))) ⟨z, 0, 0⟩ w4 (sub_rs (S4.rdM hl hne) (by omega) (by omega)) (sub_str hs _ _) (Nat.le_trans (sub_len _ _ _) h9)) rfl rfl ?_)
    rintro e5 w5 ⟨v5, rfl, l5, p, hat, rfl⟩
    refine ⟨_, rfl, ?_⟩
    have S5 := S4.like l5
    refine L_y (y_move rfl) rfl ?_
    refine L_y (y_extract rfl rfl) rfl ?_
    refine L_y (y_extract rfl rfl) rfl ?_
    refine L_y (y_assign rfl) rfl ?_
    refine L_y (y_assign rfl) rfl ?_
    refine L_nil ?_
    refine hK8 _ _ ?_
    refine T_seq fun K9 hK9 => ?_
    refine T_seq fun K10 hK10 => ?_
    refine T_region ?_
    refine L_y (y_move rfl) rfl ?_
    refine L_y ((by first | exact y_notD rfl | exact y_not rfl)) rfl ?_
    refine L_nil ?_
    refine hK10 _ _ ?_
    refine T_condB rfl (fun h47 => ?_) (fun h47 => ?_)
    ·
      refine T_seq fun K11 hK11 => ?_
      refine T_region ?_
      refine L_y (y_build rfl (show _ = some (plf zR).toArray by kernel_rfl)) rfl ?_
      refine L_o (o_stW S5 2 rfl rfl rfl (by rw [plf_sz]; exact sz62) (by first | (rw [plf_sz, plf_sz]; done) | (rw [plf_sz]; rfl)) (fun u hu => plf_one _ u (by rw [List.toList_toArray] at hu; exact hu)) fun w6 S6 => ?_)
      refine L_y (y_assign rfl) rfl ?_
      refine L_nil ?_
      refine hK11 _ _ ?_
      refine T_ret ?_
      repeat (first | with_reducible refine up_then ?_ | with_reducible refine up_in ?_)
      refine retct rfl rfl rfl (S6.blk 2 rfl) Try.underlying62 rfl (by rw [plf_sz]; exact sz62) ?_
      exact ⟨_, rfl, like_same hx (S6.turned1 0 rfl), .inr ⟨no_find hs hat (by simpa using h47), rfl⟩⟩
    ·
      refine T_skip ?_
      refine hK9 _ _ ?_
      refine T_seq fun K12 hK12 => ?_
      obtain ⟨x, hx8⟩ : ∃ x, (sub l (cl l (fz z)) (cl l (fz z + 1)))[p]? = some x := by cases e : (sub l (cl l (fz z)) (cl l (fz z + 1)))[p]? with | none => simp [e] at h47 | some x => exact ⟨x, rfl⟩
      have hx9 := sub_get hx8
      refine T_region ?_
      refine L_y (y_move rfl) rfl ?_
      refine L_y (y_move rfl) rfl ?_
      refine L_y (y_idx Try.underlying94 sz119 rfl rfl (sub_rs (S5.rdM hl hne) (by omega) (by omega)) (Nt.mk (by omega) : Nt _ (p)) (by omega)) rfl ?_
      refine L_y (y_ldp (f := rowf) rowf_len Try.underlying119 rfl sz119 rfl (sub_rs (S5.rdM hl hne) (by omega) (by omega)) (by omega) hx8) rfl ?_
      refine L_o (o_call Try.func82 rfl rfl (place x w5) rfl rfl ?_)
      rintro e7 w7 ⟨v7, rfl, l7, rfl⟩
      refine ⟨_, rfl, ?_⟩
      have S7 := S5.like l7
      refine L_o (o_stW S7 2 rfl rfl rfl (by rw [plf_sz]; exact sz62) (by first | (rw [plf_sz, plf_sz]; done) | (rw [plf_sz]; rfl)) (fun u hu => plf_one _ u (by rw [List.toList_toArray] at hu; exact hu)) fun w8 S8 => ?_)
      refine L_y (y_assign rfl) rfl ?_
      refine L_nil ?_
      refine hK12 _ _ ?_
      refine T_ret ?_
      repeat (first | with_reducible refine up_then ?_ | with_reducible refine up_in ?_)
      refine retct rfl rfl rfl (S8.blk 2 rfl) Try.underlying62 rfl (by rw [plf_sz]; exact sz62) ?_
      exact ⟨_, rfl, like_same hx (S8.turned1 0 rfl), .inl ⟨_, x, hx9.1, by simpa [hx8] using h47, rfl⟩⟩
  ·
    have hfr : cl l (fz z) = 0 := by rw [show fz z = 0 by omega, cl_zero]
    refine T_skip ?_
    refine hK5 _ _ ?_
    refine T_seq fun K13 hK13 => ?_
    refine T_region ?_
    refine L_y (y_move rfl) rfl ?_
    refine L_y (y_nilp rfl) rfl ?_
    refine L_y (y_fieldA 0 Try.underlying97 rfl sz94 rfl rfl rfl) rfl ?_
    refine L_y (y_ldc Try.underlying94 rfl rfl (((S3.blk 0 rfl).cell _).trans (idx_row _ _ _ _ _))) rfl ?_
    refine L_y (y_move rfl) rfl ?_
    refine L_y (y_move rfl) rfl ?_
    refine L_y (y_slice Try.underlying94 sz119 rfl rfl rfl (Nt.mk (by omega) : Nt _ (cl l (fz z))) (Nt.mk (by omega) : Nt _ (cl l (fz z + 1))) (by omega) (by omega)) rfl ?_
    refine L_y (y_assign rfl) rfl ?_
    refine L_nil ?_
    refine hK13 _ _ ?_
    refine T_seq fun K14 hK14 => ?_
    refine T_region ?_
    refine L_y (y_move rfl) rfl ?_
    refine L_y (y_ldW Try.underlying23 rfl sz23 rfl (S3.blk 1 rfl) (id_whole z)) rfl ?_
    refine L_y (y_build rfl (built_id z)) rfl ?_
    refine L_o (o_call Try.func81 rfl rfl (bsearch _ _ _ (sub l (cl l (fz z)) (cl l (fz z + 1))) ⟨z, 0, 0⟩ w3 (sub_rs (S3.rdM hl hne) (by omega) (by omega)) (sub_str hs _ _) (Nat.le_trans (sub_len _ _ _) h9)) rfl rfl ?_)
    rintro e9 w9 ⟨v9, rfl, l9, p, hat, rfl⟩
    refine ⟨_, rfl, ?_⟩
    have S9 := S3.like l9
    refine L_y (y_move rfl) rfl ?_
    refine L_y (y_extract rfl rfl) rfl ?_
    refine L_y (y_extract rfl rfl) rfl ?_
    refine L_y (y_assign rfl) rfl ?_
    refine L_y (y_assign rfl) rfl ?_
    refine L_nil ?_
    refine hK14 _ _ ?_
    refine T_seq fun K15 hK15 => ?_
    refine T_seq fun K16 hK16 => ?_
    refine T_region ?_
    refine L_y (y_move rfl) rfl ?_
    refine L_y ((by first | exact y_notD rfl | exact y_not rfl)) rfl ?_
    refine L_nil ?_
    refine hK16 _ _ ?_
    refine T_condB rfl (fun h47 => ?_) (fun h47 => ?_)
    ·
      refine T_seq fun K17 hK17 => ?_
      refine T_region ?_
      refine L_y (y_build rfl (show _ = some (plf zR).toArray by kernel_rfl)) rfl ?_
      refine L_o (o_stW S9 2 rfl rfl rfl (by rw [plf_sz]; exact sz62) (by first | (rw [plf_sz, plf_sz]; done) | (rw [plf_sz]; rfl)) (fun u hu => plf_one _ u (by rw [List.toList_toArray] at hu; exact hu)) fun w10 S10 => ?_)
      refine L_y (y_assign rfl) rfl ?_
      refine L_nil ?_
      refine hK17 _ _ ?_
      refine T_ret ?_
      repeat (first | with_reducible refine up_then ?_ | with_reducible refine up_in ?_)
      refine retct rfl rfl rfl (S10.blk 2 rfl) Try.underlying62 rfl (by rw [plf_sz]; exact sz62) ?_
      exact ⟨_, rfl, like_same hx (S10.turned1 0 rfl), .inr ⟨no_find hs hat (by simpa using h47), rfl⟩⟩
    ·
      refine T_skip ?_
      refine hK15 _ _ ?_
      refine T_seq fun K18 hK18 => ?_
      obtain ⟨x, hx8⟩ : ∃ x, (sub l (cl l (fz z)) (cl l (fz z + 1)))[p]? = some x := by cases e : (sub l (cl l (fz z)) (cl l (fz z + 1)))[p]? with | none => simp [e] at h47 | some x => exact ⟨x, rfl⟩
      have hx9 := sub_get hx8
      refine T_region ?_
      refine L_y (y_move rfl) rfl ?_
      refine L_y (y_move rfl) rfl ?_
      refine L_y (y_idx Try.underlying94 sz119 rfl rfl (sub_rs (S9.rdM hl hne) (by omega) (by omega)) (Nt.mk (by omega) : Nt _ (p)) (by omega)) rfl ?_
      refine L_y (y_ldp (f := rowf) rowf_len Try.underlying119 rfl sz119 rfl (sub_rs (S9.rdM hl hne) (by omega) (by omega)) (by omega) hx8) rfl ?_
      refine L_o (o_call Try.func82 rfl rfl (place x w9) rfl rfl ?_)
      rintro e11 w11 ⟨v11, rfl, l11, rfl⟩
      refine ⟨_, rfl, ?_⟩
      have S11 := S9.like l11
      refine L_o (o_stW S11 2 rfl rfl rfl (by rw [plf_sz]; exact sz62) (by first | (rw [plf_sz, plf_sz]; done) | (rw [plf_sz]; rfl)) (fun u hu => plf_one _ u (by rw [List.toList_toArray] at hu; exact hu)) fun w12 S12 => ?_)
      refine L_y (y_assign rfl) rfl ?_
      refine L_nil ?_
      refine hK18 _ _ ?_
      refine T_ret ?_
      repeat (first | with_reducible refine up_then ?_ | with_reducible refine up_in ?_)
      refine retct rfl rfl rfl (S12.blk 2 rfl) Try.underlying62 rfl (by rw [plf_sz]; exact sz62) ?_
      exact ⟨_, rfl, like_same hx (S12.turned1 0 rfl), .inl ⟨_, x, hx9.1, by simpa [hx8] using h47, rfl⟩⟩
end Go.Proofs.Ytgaklngnfecdaaa.Idx


/-
  Reading an index: plain laws.
-/
namespace Go.Proofs.Ytgaklngnfecdaaa.Idx
open Go.RowKit Zk Zx
open Oid (idf idf_len cmpL)
set_option linter.unusedVariables false
set_option linter.unusedSimpArgs false

/-- What stands at a place: an id, a number of four bytes. -/
def idAt (t : List UInt8) (p : Nat) : Oid.Id := if h : ((t.drop p).take 32).length = 32 then ⟨(t.drop p).take 32, h⟩ else zI
def b4 (t : List UInt8) (p : Nat) : Nat := Oct.be ((t.drop p).take 4)
theorem idAt_l {t : List UInt8} {p : Nat} (h : p + 32 ≤ t.length) : (idAt t p).l = (t.drop p).take 32 := by
  unfold idAt
  rw [dif_pos (by rw [List.length_take, List.length_drop]; omega)]
theorem b4_lt (t : List UInt8) (p : Nat) : b4 t p < 4294967296 := by
  unfold b4
  have h := Oct.be_lt ((t.drop p).take 4)
  have h2 : 256 ^ ((t.drop p).take 4).length ≤ 256 ^ 4 := Nat.pow_le_pow_right (by omega) (by rw [List.length_take]; omega)
  have h3 : (256 : Nat) ^ 4 = 4294967296 := by decide
  omega
/-- The rows read so far. -/
def rowsP (t : List UInt8) (n k1 k2 k3 : Nat) : List Row := (List.range n).map fun i => ⟨if i < k1 then idAt t (1024 + 32 * i) else zI, if i < k2 then (b4 t (1024 + 32 * n + 4 * i) : Int) else 0, if i < k3 then (b4 t (1024 + 36 * n + 4 * i) : Int) else 0⟩
theorem rowsP_len (t : List UInt8) (n k1 k2 k3 : Nat) : (rowsP t n k1 k2 k3).length = n := by simp [rowsP]
theorem rowsP_get {t : List UInt8} {n k1 k2 k3 i : Nat} (h : i < n) : (rowsP t n k1 k2 k3)[i]? = some ⟨if i < k1 then idAt t (1024 + 32 * i) else zI, if i < k2 then (b4 t (1024 + 32 * n + 4 * i) : Int) else 0, if i < k3 then (b4 t (1024 + 36 * n + 4 * i) : Int) else 0⟩ := by
  simp [rowsP, h]
theorem rowsP_id {t : List UInt8} {n k : Nat} {x : Row} (h : k < n) (hx : (rowsP t n k 0 0)[k]? = some x) : (rowsP t n k 0 0).set k { x with id := idAt t (1024 + 32 * k) } = rowsP t n (k + 1) 0 0 := by
  rw [rowsP_get h] at hx
  cases hx
  apply List.ext_getElem?
  intro i
  rw [List.getElem?_set]
  by_cases hi : i < n
  · rw [rowsP_get hi, rowsP_get hi]
    by_cases e : k = i
    · subst e; simp [rowsP_len, h]
    · rw [if_neg e]
      have : (i < k + 1) ↔ (i < k) := by omega
      simp [this]
  · rw [List.getElem?_eq_none (by rw [rowsP_len]; omega), List.getElem?_eq_none (by rw [rowsP_len]; omega), if_neg (by omega)]
/-- A field stored in a row of the flat cells. -/
theorem flat_id {L : List Row} {k : Nat} {x : Row} (z : Oid.Id) (hx : L[k]? = some x) : (L.flatMap rowf).take (k * 34 + 0) ++ (idf z) ++ (L.flatMap rowf).drop (k * 34 + 0 + 32) = (L.set k { x with id := z }).flatMap rowf := by
  have hk := (List.getElem?_eq_some_iff.1 hx).1
  rw [← flat_set rowf rowf_len L k _ hk, Nat.add_zero]
  have e : (L.flatMap rowf).drop (k * 34 + 32) = (rowf x).drop 32 ++ (L.flatMap rowf).drop ((k + 1) * 34) := by
    have h1 := flat_cut rowf 34 rowf_len L k x hx
    rw [← h1, List.drop_take, List.drop_drop, show (k + 1) * 34 = k * 34 + 32 + 2 by omega]
    rw [← List.drop_drop (i := 2) (j := k * 34 + 32), List.take_append_drop]
  rw [e]
  unfold rowf
  rw [List.drop_append_of_le_length (by rw [idf_len]; omega), List.drop_of_length_le (by rw [idf_len]; omega)]
  simp
theorem flat_fld {L : List Row} {k o : Nat} {x y : Row} {v : Value} (hx : L[k]? = some x) (ho : o < 34) (hy : rowf y = (rowf x).set o v) : (L.flatMap rowf).set (k * 34 + o) v = (L.set k y).flatMap rowf := by
  have hk := (List.getElem?_eq_some_iff.1 hx).1
  have hself : L.set k x = L := by
    obtain ⟨h1, h2⟩ := List.getElem?_eq_some_iff.1 hx
    rw [← h2, List.set_getElem_self]
  have e0 := flat_set rowf rowf_len L k x hk
  rw [hself] at e0
  rw [← flat_set rowf rowf_len L k _ hk, hy]
  have hT : ((L.flatMap rowf).take (k * 34)).length = k * 34 := by
    rw [List.length_take, flat_len rowf 34 rowf_len]
    have : (k + 1) * 34 ≤ L.length * 34 := Nat.mul_le_mul_right _ hk
    omega
  conv => lhs; rw [← e0]
  rw [List.set_append_left _ _ (by rw [List.length_append, hT, rowf_len]; omega), List.set_append_right _ _ (by rw [hT]; omega), hT, show k * 34 + o - k * 34 = o by omega]
end Go.Proofs.Ytgaklngnfecdaaa.Idx


/-
  Reading an index: more laws.
-/
namespace Go.Proofs.Ytgaklngnfecdaaa.Idx
open Go.RowKit Zk Zx
open Oid (idf idf_len cmpL)
set_option linter.unusedVariables false
set_option linter.unusedSimpArgs false

open Oct (rdr)
theorem rw_ok {l : List UInt8} {p k : Nat} (h : p + k ≤ l.length) : Oct.rwL l p 0 k = (l.drop p).take k ∧ Oct.rwP l p 0 k = p + k ∧ Oct.rwE l p 0 k = 0 := by
  have h2 : k ≤ l.length - p := by omega
  exact ⟨by rw [Oct.rwL, if_pos rfl, Oct.tkL, if_pos h2], by rw [Oct.rwP, if_pos rfl, Oct.tkP, if_pos h2], by rw [Oct.rwE, if_pos rfl, Oct.tkE_ok h2]⟩
/-- 256 numbers, so many of them given. -/
def arrG (f : Nat → Int) (i : Nat) : List Value := ((List.range i).map fun c => Value.int .i64 (f c)) ++ List.replicate (256 - i) (.int .i64 0)
theorem arrG_len (f : Nat → Int) {i : Nat} (h : i ≤ 256) : (arrG f i).length = 256 := by simp [arrG]; omega
theorem arrG_one (f : Nat → Int) (i : Nat) : ∀ u ∈ arrG f i, u.oneCell' = true := fun u hu => by
  unfold arrG at hu
  rcases List.mem_append.1 hu with h | h
  · obtain ⟨c, _, rfl⟩ := List.mem_map.1 h; rfl
  · rw [(List.mem_replicate.1 h).2]; rfl
theorem arrG_set (f : Nat → Int) {i : Nat} (h : i < 256) : (arrG f i).toArray.setIfInBounds i (.int .i64 (f i)) = (arrG f (i + 1)).toArray := by
  rw [List.setIfInBounds_toArray]
  congr 1
  unfold arrG
  rw [List.set_append_right _ _ (by simp), List.range_succ, List.map_append, List.append_assoc]
  congr 1
  rw [show 256 - i = (256 - (i + 1)) + 1 by omega, List.replicate_succ]
  simp
/-- An index' block while it is read. -/
def idxG (A : Option Addr) (n c : Nat) (fs : List Value) (of : Oid.Id) : List Value := [.slice A n c] ++ fs ++ idf of
def said (t : List UInt8) : List Value := arrG (fun c => (b4 t (4 * c) : Int)) 256
end Go.Proofs.Ytgaklngnfecdaaa.Idx


/-
  Results, one of them in a variable; a callee's state taken over whole.
-/
namespace Go.Proofs.Ytgaklngnfecdaaa.Zx
open Go.RowKit Zk
set_option linter.unusedVariables false
set_option linter.unusedSimpArgs false
theorem St.adoptS {w0 w w' : World} {M : Nat → Prop} {rs qs : List Res} (S : St w0 M rs w) (T : St w noM qs w') : St w0 M (rs ++ qs) w' := by
  have S' := S.like T.like0
  refine ⟨S'.os, S'.tape, S'.output, S'.size, S'.old, fun q hq => ?_, ?_⟩
  · rcases List.mem_append.1 hq with hq | hq
    · exact S'.res q hq
    · refine ⟨(T.res q hq).1, fun i hi => ?_⟩
      have h := (T.res q hq).2 i hi
      refine ⟨h.1, .inl ?_⟩
      rcases h.2 with h2 | h2
      · exact Nat.le_trans S.size h2
      · exact h2.elim
  · rw [List.pairwise_append]
    refine ⟨S'.apart, T.apart, fun q hq s hs i hi hsi => ?_⟩
    have h1 := ((S.res q hq).2 i hi).1
    have h2 := ((T.res s hs).2 i hsi).2
    rcases h2 with h2 | h2
    · omega
    · exact h2
section
variable {P : Program} {N : Nat} {Q : Exit → Env → World → Prop} {env : Env} {w w0 : World}
theorem resT_B {fn : Func} {p q : Tmp} {ty : TypeId} (h : fn.results = #[.tmp q, .cell p ty]) (tmps : Array Value) {g : Nat} {t : TypeId} {cs : Array Value}
    (hp : tmps.getD p undef = .pointer (some ⟨g, 0, none⟩)) (hb : Blk w g t cs) (d : TypeDesc) (hu : P.underlying ty = some d) (hd : d.isRow = true) (hi : (P.info? ty).map (·.size) = some cs.size) :
    (results fn tmps).run P w = .ok (.tuple #[tmps.getD q undef, .agg cs]) w := by
  have hp' : tmps[p]?.getD undef = .pointer (some ⟨g, 0, none⟩) := by simpa using hp
  simp [results, h, hp', asAddr, run_loadB hb d hu hd hi]
theorem rettc {fn : Func} {R : Ending → World → Prop} {p q : Tmp} {lt b t : Nat} {cs : Array Value} {d : TypeDesc} {v : Value} (hr : fn.results = #[.tmp q, .cell p lt]) (hp : look env p = some (.pointer (some ⟨b, 0, none⟩))) (hq : look env q = some v) (hb : Blk w b t cs) (hd : P.underlying lt = some d) (hrow : d.isRow = true)
    (hsz : (P.info? lt).map (·.size) = some cs.size) (h : R (.returned (.tuple #[v, .agg cs])) w) (hd0 : dfs env = [] := by rfl) : bodyQ P fn R .ret env w :=
  ⟨hd0, _, fun N a ha => by rw [resT_B hr a.tmps (ha.getD hp) hb d hd hrow hsz, ha.getD hq], h⟩
variable {S : World → Prop} {dst : Option Tmp} {ty : TypeId} {pos : String} {after : Array Edge} {gd : Option (Nat × Bool)}
/-- '!=' on arrays of ints. -/
theorem y_neA {x y : Operand} {t e u : TypeId} {n : Nat} {xs ys : Array Value} (f g : Nat → Int) (ht : P.underlying t = some (.array n e)) (he : P.underlying e = some (.int .i64)) (hs : (P.info? e).map (·.size) = some 1) (hm : P.eqGuardType P.depth t = false)
    (hx : ev env x = some (.agg xs)) (hy : ev env y = some (.agg ys)) (hf : ∀ i, i < n → xs[i]? = some (.int .i64 (f i))) (hg : ∀ i, i < n → ys[i]? = some (.int .i64 (g i))) :
    Y P S env ⟨dst, .binOp .neq t x y u, ty, pos, after, gd⟩ (.bool (!((List.range n).all fun i => f i == g i))) := fun N a w ha _ => by
  have h1 := run_neq_struct (P := P) w t xs ys
  rw [run_equalIn_arr' w 9999 ht _ he rfl hs xs ys f g hf hg (fun x y => run_equalIn_int w 9998 e .i64 .i64 x y he), Result.andThen_ok] at h1
  simp only [execOp, ha.eval hx, ha.eval hy, Sem.run_bind, eqGuard_run .neq x y _ _ hm w, Result.andThen_ok, h1, Sem.run_pure]
theorem all_ne {n : Nat} {f g : Nat → Int} : (!((List.range n).all fun i => f i == g i)) = true ↔ ¬ ∀ i, i < n → f i = g i := by
  rw [Bool.not_eq_true', Bool.eq_false_iff, ne_eq, List.all_eq_true]
  simp
end
end Go.Proofs.Ytgaklngnfecdaaa.Zx


/-
  Reading an index.
-/
namespace Go.Proofs.Ytgaklngnfecdaaa.Idx
open Go.RowKit Zk Zx
open Oid (idf idf_len cmpL)
set_option linter.unusedVariables false
set_option linter.unusedSimpArgs false

open Oct (rdr)
theorem rs_tail {w : World} {A : Option Addr} {n c : Nat} {b : List UInt8} (k : Nat) (h : Rs w 1 A n c (bL b)) (h1 : k ≤ n) : Rs w 1 (cutA A c k 1) (n - k) (c - k) (bL (b.drop k)) := by
  have h2 := h.cutb (l := k) (u := n) h1 (Nat.le_refl _)
  rwa [List.take_of_length_le (by rw [List.length_drop, h.lenb]; omega)] at h2
theorem flat_rep {x : Row} {n i : Nat} (h : i < n * 34) : ((List.replicate n x).flatMap rowf)[i]? = (rowf x)[i % 34]? := by
  have hd := Nat.div_add_mod i 34
  have hm := Nat.mod_lt i (y := 34) (by omega)
  have hk : i / 34 < n := by omega
  have e : i = i / 34 * 34 + i % 34 := by omega
  conv => lhs; rw [e]
  exact flat_at rowf 34 rowf_len _ _ x (by rw [List.getElem?_replicate, if_pos hk]) _ hm
theorem rows0 (t : List UInt8) (n : Nat) : List.replicate n zR = rowsP t n 0 0 0 := by
  apply List.ext_getElem?
  intro i
  by_cases h : i < n
  · rw [rowsP_get h, List.getElem?_replicate, if_pos h]; rfl
  · rw [List.getElem?_eq_none (by simp; omega), List.getElem?_eq_none (by rw [rowsP_len]; omega)]
theorem row_set32 (x : Row) (v : Int) : rowf { x with sm := v } = (rowf x).set 32 (.int .u32 v) := by
  unfold rowf
  rw [List.set_append_right _ _ (by rw [idf_len]; omega), idf_len]
  rfl
theorem row_set33 (x : Row) (v : Int) : rowf { x with at_ := v } = (rowf x).set 33 (.int .i64 v) := by
  unfold rowf
  rw [List.set_append_right _ _ (by rw [idf_len]; omega), idf_len]
  rfl
theorem rowsP_sm {t : List UInt8} {n k : Nat} {x : Row} (h : k < n) (hx : (rowsP t n n k 0)[k]? = some x) : (rowsP t n n k 0).set k { x with sm := (b4 t (1024 + 32 * n + 4 * k) : Int) } = rowsP t n n (k + 1) 0 := by
  rw [rowsP_get h] at hx
  cases hx
  apply List.ext_getElem?
  intro i
  rw [List.getElem?_set]
  by_cases hi : i < n
  · rw [rowsP_get hi, rowsP_get hi]
    by_cases e : k = i
    · subst e; simp [rowsP_len, h]
    · rw [if_neg e]
      have : (i < k + 1) ↔ (i < k) := by omega
      simp [this]
  · rw [List.getElem?_eq_none (by rw [rowsP_len]; omega), List.getElem?_eq_none (by rw [rowsP_len]; omega), if_neg (by omega)]
theorem rowsP_at {t : List UInt8} {n k : Nat} {x : Row} (h : k < n) (hx : (rowsP t n n n k)[k]? = some x) : (rowsP t n n n k).set k { x with at_ := (b4 t (1024 + 36 * n + 4 * k) : Int) } = rowsP t n n n (k + 1) := by
  rw [rowsP_get h] at hx
  cases hx
  apply List.ext_getElem?
  intro i
  rw [List.getElem?_set]
  by_cases hi : i < n
  · rw [rowsP_get hi, rowsP_get hi]
    by_cases e : k = i
    · subst e; simp [rowsP_len, h]
    · rw [if_neg e]
      have : (i < k + 1) ↔ (i < k) := by omega
      simp [this]
  · rw [List.getElem?_eq_none (by rw [rowsP_len]; omega), List.getElem?_eq_none (by rw [rowsP_len]; omega), if_neg (by omega)]
theorem idxG_row (A : Option Addr) (n c : Nat) (fs : List Value) (of : Oid.Id) : (idxG A n c fs of).toArray[0]? = some (.slice A n c) := rfl
theorem idxG_of {A : Option Addr} {n c : Nat} {fs : List Value} {of z : Oid.Id} (h : fs.length = 256) : ((idxG A n c fs of).toArray.toList.take 257 ++ (idf z).toArray.toList ++ (idxG A n c fs of).toArray.toList.drop (257 + (idf z).toArray.size)).toArray = (idxG A n c fs z).toArray := by
  congr 1
  rw [List.drop_of_length_le (by simp [idxG, h, idf_len]), List.append_nil]
  unfold idxG
  rw [List.toList_toArray, List.take_append_of_le_length (by simp [h]), List.take_of_length_le (by simp [h])]
theorem idxG_len {A : Option Addr} {n c : Nat} {fs : List Value} {of : Oid.Id} (h : fs.length = 256) : (idxG A n c fs of).toArray.size = 289 := by simp [idxG, h, idf_len]
theorem said_whole (f : Nat → Int) (i : Nat) (h : i ≤ 256) : ((arrG f i).toArray.toList.drop 0).take 256 = arrG f i ∧ (arrG f i).length = 256 := ⟨by rw [List.drop_zero]; exact List.take_of_length_le (by have := arrG_len f h; simp only [] at this ⊢; omega), arrG_len f h⟩
/-- What read answers. -/
def Red (w0 w' : World) (b : List UInt8) (n : Nat) (u : Value) : Prop := ∃ g A1, u = .tuple #[.pointer (some ⟨g, 0, none⟩), .agg (said (b.drop 8)).toArray] ∧ Zx.St w0 noM [Zx.row 119 34 A1 n n ((rowsP (b.drop 8) n n n n).flatMap rowf), blk g 97 (idxG A1 n n (List.replicate 256 (.int .i64 0)) (idAt (b.drop 8) (1024 + 40 * n))).toArray] w'

theorem zR_cells : (Value.agg #[.int .u8 0, .int .u8 0, .int .u8 0, .int .u8 0, .int .u8 0, .int .u8 0, .int .u8 0, .int .u8 0, .int .u8 0, .int .u8 0, .int .u8 0, .int .u8 0, .int .u8 0, .int .u8 0, .int .u8 0, .int .u8 0, .int .u8 0, .int .u8 0, .int .u8 0, .int .u8 0, .int .u8 0, .int .u8 0, .int .u8 0, .int .u8 0, .int .u8 0, .int .u8 0, .int .u8 0, .int .u8 0, .int .u8 0, .int .u8 0, .int .u8 0, .int .u8 0, .int .u32 0, .int .i64 0] : Value).cells = (rowf zR).toArray := by kernel_rfl


set_option maxRecDepth 100000 in
theorem read (B : Option Addr) (m d : Nat) (b : List UInt8) (n : Nat) (w0 : World) (hb : Rs w0 1 B m d (bL b)) (hl : b.length = 1096 + 40 * n) (hn : n ≤ 600) :
    Calls Try.prog 75 #[.slice B m d, .int .i64 (n : Int)] w0 fun e w' => ∃ u, e = .returned u ∧ Like w0 w' ∧ Red w0 w' b n u := by
  refine enter1 (env := [(0, .slice B m d), (1, .int .i64 (n : Int))]) [.slice B m d, .int .i64 (n : Int)] Try.func75 rfl Try.ntmps75 rfl rfl ?_
  have hm := hb.lenb; have hcap := hb.cap; have hmax := hb.max; have ht : (b.drop 8).length = 1088 + 40 * n := by rw [List.length_drop]; omega
  have S0 := St.start w0 noM
  refine T_seq fun K1 hK1 => ?_
  refine T_region ?_
  refine L_y (y_assign rfl) rfl ?_
  refine L_o (o_alloc zz95 S0 rfl fun b1 w1 hb1 S1 => ?_)
  refine L_nil ?_
  refine hK1 _ _ ?_
  refine T_seq fun K2 hK2 => ?_
  refine T_region ?_
  refine L_y (y_move rfl) rfl ?_
  refine L_y (y_sliceL Try.underlying27 sz5 rfl rfl inferInstance (by omega)) rfl ?_
  refine L_o (o_call Try.func71 rfl rfl (Oct.rnew _ _ _ (b.drop 8) w1 (rs_tail 8 (S1.rd hb) (by omega)) (by omega)) rfl rfl ?_)
  rintro e2 w2 ⟨v2, rfl, l2, g, A, c, rfl, hh2, dd2⟩
  refine ⟨_, rfl, ?_⟩
  have S2 := S1.new l2 _ hh2 dd2
  refine L_y (y_assign rfl) rfl ?_
  refine L_nil ?_
  refine hK2 _ _ ?_
  refine T_seq fun K3 hK3 => ?_
  refine T_region ?_
  refine L_o (o_alloc zz95 S2 rfl fun b3 w3 hb3 S3 => ?_)
  refine L_nil ?_
  refine hK3 _ _ ?_
  refine T_seq fun K4 hK4 => ?_
  refine T_seq fun K5 hK5 => ?_
  refine T_region ?_
  refine L_y (y_move rfl) rfl ?_
  refine L_nil ?_
  refine hK5 _ _ ?_
  refine T_block ?_
  refine T_loop1 [(1, _), (5, _), (6, _), (7, _)] (fun (i : Nat) => [(16, .int .i64 (i : Int))]) (fun (i : Nat) => 256 - i) (fun (i : Nat) (w : World) => i ≤ 256 ∧ Zx.St w0 noM [blk b1 95 (arrG (fun c => (b4 (b.drop 8) (4 * c) : Int)) 0).toArray, rdr g A (m - 8) c (b.drop 8) (4 * i) 0, blk b3 95 (arrG (fun c => (b4 (b.drop 8) (4 * c) : Int)) i).toArray] w) 0 (Sub.cons rfl (by first | rfl | exact congrArg (Value.int _) (by omega)) (Sub.nil _)) (Sub.cons rfl rfl (Sub.cons rfl rfl (Sub.cons rfl rfl (Sub.cons rfl rfl (Sub.nil _))))) ?_ ?_
  ·
    have S70 : Zx.St w0 noM [blk b1 95 (arrG (fun c => (b4 (b.drop 8) (4 * c) : Int)) 0).toArray, rdr g A (m - 8) c (b.drop 8) (4 * 0) 0, blk b3 95 (arrG (fun c => (b4 (b.drop 8) (4 * c) : Int)) 0).toArray] w3 := S3.cast (by kernel_rfl)
    exact ⟨by omega, S70⟩
  ·
    intro i w4 hrel
    obtain ⟨hi, S4⟩ := hrel
    refine T_seq fun K6 hK6 => ?_
    refine T_region ?_
    refine L_y (y_lss rfl rfl) rfl ?_
    refine L_nil ?_
    refine hK6 _ _ ?_
    refine T_seq fun K7 hK7 => ?_
    refine T_cond rfl (fun h17 => ?_) (fun h17 => ?_)
    ·
      refine T_skip ?_
      refine hK7 _ _ ?_
      refine T_seq fun K8 hK8 => ?_
      refine T_block ?_
      refine T_seq fun K9 hK9 => ?_
      refine T_region ?_
      refine L_y (y_move rfl) rfl ?_
      refine L_y (y_assign rfl) rfl ?_
      refine L_nil ?_
      refine hK9 _ _ ?_
      refine T_region ?_
      refine L_y (y_move rfl) rfl ?_
      refine L_y (y_move rfl) rfl ?_
      refine L_o (o_call Try.func73 rfl rfl (Oct.ru32 g A (m - 8) c (b.drop 8) (4 * i) 0 w4 (S4.get 1 rfl) (by omega) (by omega)) rfl rfl ?_)
      rintro e5 w5 ⟨v5, rfl, rfl, T5⟩
      refine ⟨_, rfl, ?_⟩
      have S5 := S4.turn 1 rfl T5
      obtain ⟨e1, e2, e3⟩ := rw_ok (l := b.drop 8) (p := 4 * i) (k := 4) (by omega)
      rw [e2, e3] at S5
      rw [e1]
      have hb4 : Oct.be (((b.drop 8).drop (4 * i)).take 4) < 4294967296 := b4_lt _ _
      rw [show 4 * i + 4 = 4 * (i + 1) by omega] at S5
      refine L_y (y_conv is60 Try.underlying3 rfl (i64w (by omega))) rfl ?_
      refine L_y (y_idxA0 Try.underlying95 sz3 rfl rfl inferInstance (by omega)) rfl ?_
      refine L_o (o_st1 S5 2 rfl rfl rfl rfl sz3 (by rw [List.size_toArray, arrG_len _ (by omega)]; omega) fun w6 S6 => ?_)
      have S90 := S6.blkc 2 rfl (arrG_set (fun c => (b4 (b.drop 8) (4 * c) : Int)) (i := i) (by omega))
      refine L_nil ?_
      refine hK8 _ _ ?_
      refine T_region ?_
      refine L_y (y_add rfl rfl (i64w (by omega))) rfl ?_
      refine L_y (y_move rfl) rfl ?_
      refine L_nil ?_
      refine ⟨i + 1, by omega, ⟨by omega, S90⟩, ?_⟩
      exact (Sub.cons rfl (by first | rfl | exact congrArg (Value.int _) (by omega)) (Sub.cons rfl rfl (Sub.cons rfl rfl (Sub.cons rfl rfl (Sub.cons rfl rfl (Sub.nil _))))))
    ·
      refine T_exit ?_
      refine hK4 _ _ ?_
      refine T_seq fun K10 hK10 => ?_
      obtain rfl : i = 256 := by omega
      refine T_region ?_
      refine L_y (y_move rfl) rfl ?_
      refine L_o (o_makeN te94 ((List.replicate n zR).flatMap rowf) (by rw [flat_len rowf 34 rowf_len, List.length_replicate]) (fun i hi => (flat_rep hi).trans (by rw [zR_cells, List.getElem?_toArray])) (by omega) S4 rfl rfl inferInstance inferInstance rfl (by omega) (by omega) (by omega) fun b7 w7 S7 => ?_)
      rw [rows0 (b.drop 8)] at S7
      refine L_y (y_build rfl (show _ = some (idxG (some ⟨b7, 0, none⟩) n n (List.replicate 256 (.int .i64 0)) zI).toArray by kernel_rfl)) rfl ?_
      refine L_o (o_box rfl S7 rfl fun b8 w8 hb8 S8 => ?_)
      refine L_y (y_assign rfl) rfl ?_
      refine L_nil ?_
      refine hK10 _ _ ?_
      refine T_seq fun K11 hK11 => ?_
      refine T_seq fun K12 hK12 => ?_
      refine T_region ?_
      refine L_y (y_move rfl) rfl ?_
      refine L_y (y_nilp rfl) rfl ?_
      refine L_y (y_fieldA 0 Try.underlying97 rfl sz94 rfl rfl rfl) rfl ?_
      refine L_y (y_ldc Try.underlying94 rfl rfl (((S8.blk 4 rfl).cell _).trans (idxG_row _ _ _ _ _))) rfl ?_
      refine L_y (y_len Try.underlying94 rfl) rfl ?_
      refine L_y (y_move rfl) rfl ?_
      refine L_nil ?_
      refine hK12 _ _ ?_
      refine T_block ?_
      refine T_loop1 [(5, _), (6, _), (7, _), (9, _), (33, _)] (fun (k : Nat) => [(34, .int .i64 (k : Int))]) (fun (k : Nat) => n - k) (fun (k : Nat) (w : World) => k ≤ n ∧ Zx.St w0 noM [blk b1 95 (arrG (fun c => (b4 (b.drop 8) (4 * c) : Int)) 0).toArray, rdr g A (m - 8) c (b.drop 8) (1024 + 32 * k) 0, blk b3 95 (arrG (fun c => (b4 (b.drop 8) (4 * c) : Int)) 256).toArray, Zx.row 119 34 (some ⟨b7, 0, none⟩) n n ((rowsP (b.drop 8) n k 0 0).flatMap rowf), blk b8 97 (idxG (some ⟨b7, 0, none⟩) n n (List.replicate 256 (.int .i64 0)) zI).toArray] w) 0 (Sub.cons rfl (by first | rfl | exact congrArg (Value.int _) (by omega)) (Sub.nil _)) (Sub.cons rfl rfl (Sub.cons rfl rfl (Sub.cons rfl rfl (Sub.cons rfl rfl (Sub.cons rfl rfl (Sub.nil _)))))) ?_ ?_
      ·
        exact ⟨by omega, S8⟩
      ·
        intro k w9 hrel
        obtain ⟨hk, S9⟩ := hrel
        refine T_seq fun K13 hK13 => ?_
        refine T_region ?_
        refine L_y (y_lss rfl rfl) rfl ?_
        refine L_nil ?_
        refine hK13 _ _ ?_
        refine T_seq fun K14 hK14 => ?_
        refine T_cond rfl (fun h35 => ?_) (fun h35 => ?_)
        ·
          obtain ⟨x, hx⟩ : ∃ x, (rowsP (b.drop 8) n k 0 0)[k]? = some x := ⟨_, List.getElem?_eq_getElem (by rw [rowsP_len]; omega)⟩
          refine T_skip ?_
          refine hK14 _ _ ?_
          refine T_seq fun K15 hK15 => ?_
          refine T_block ?_
          refine T_seq fun K16 hK16 => ?_
          refine T_region ?_
          refine L_y (y_move rfl) rfl ?_
          refine L_y (y_assign rfl) rfl ?_
          refine L_nil ?_
          refine hK16 _ _ ?_
          refine T_drawnX (fun w => Blk w b8 97 (idxG (some ⟨b7, 0, none⟩) n n (List.replicate 256 (.int .i64 0)) zI).toArray) hmix (by kernel_rfl) (fun w l => ((S9.like l).blk 4 rfl)) fun w10 l10 => ?_
          have S10 := S9.like l10
          refine DX_y 0 (by kernel_rfl) rfl (y_move rfl) rfl ?_
          refine DX_y 1 (by kernel_rfl) rfl (y_nilp rfl) rfl ?_
          refine DX_y 2 (by kernel_rfl) rfl (y_fieldA 0 Try.underlying97 rfl sz94 rfl rfl rfl) rfl ?_
          refine DX_y 3 (by kernel_rfl) rfl (y_of fun w hw => y_ldc Try.underlying94 rfl rfl ((hw.cell _).trans (idxG_row _ _ _ _ _))) rfl ?_
          refine DX_y 4 (by kernel_rfl) rfl (y_move rfl) rfl ?_
          refine DX_y 5 (by kernel_rfl) rfl (y_move rfl) rfl ?_
          refine DX_o1 6 (by kernel_rfl) rfl ?_
          refine o_call Try.func119 rfl rfl (take g A (m - 8) c (b.drop 8) (1024 + 32 * k) (idAt (b.drop 8) (1024 + 32 * k)) w10 (S10.get 1 rfl) (by omega) (by omega) (idAt_l (by omega))) rfl rfl ?_
          rintro e11 w11 ⟨v11, rfl, T11, rfl⟩
          refine ⟨_, rfl, ?_⟩
          have S11 := S10.turn 1 rfl T11
          rw [show 1024 + 32 * k + 32 = 1024 + 32 * (k + 1) by omega] at S11
          refine ⟨(S11.blk 4 rfl), ?_⟩
          refine DX_y 7 (by kernel_rfl) rfl (y_idx Try.underlying94 sz119 rfl rfl (S10.row 3 rfl) inferInstance (by omega)) rfl ?_
          refine DX_y 8 (by kernel_rfl) rfl (y_fieldR 0 Try.underlying119 rfl sz23 rfl rfl (S10.row 3 rfl) (by omega) rfl) rfl ?_
          refine DX_o1 9 (by kernel_rfl) rfl ?_
          refine o_strowF S11 3 rfl rfl rfl (fun u hu => bL_one _ u (by rw [List.toList_toArray] at hu; exact hu)) (by rw [List.size_toArray, idf_len]) sz23 (by omega) (by omega) fun w12 S12 => ?_
          refine ⟨(S12.blk 4 rfl), ?_⟩
          refine DX_nil (by kernel_rfl) ?_
          refine hK15 _ _ ?_
          refine T_region ?_
          refine L_y (y_add rfl rfl (i64w (by omega))) rfl ?_
          refine L_y (y_move rfl) rfl ?_
          refine L_nil ?_
          have S91 := S12.rowc 3 rfl rfl ((flat_id (idAt (b.drop 8) (1024 + 32 * k)) hx).trans (congrArg (fun q => q.flatMap rowf) (rowsP_id (by omega) hx)))
          refine ⟨k + 1, by omega, ⟨by omega, S91⟩, ?_⟩
          exact (Sub.cons rfl (by first | rfl | exact congrArg (Value.int _) (by omega)) (Sub.cons rfl rfl (Sub.cons rfl rfl (Sub.cons rfl rfl (Sub.cons rfl rfl (Sub.cons rfl rfl (Sub.nil _)))))))
        ·
          obtain rfl : n = k := by omega
          refine T_exit ?_
          refine hK11 _ _ ?_
          refine T_seq fun K17 hK17 => ?_
          refine T_seq fun K18 hK18 => ?_
          refine T_region ?_
          refine L_y (y_move rfl) rfl ?_
          refine L_y (y_nilp rfl) rfl ?_
          refine L_y (y_fieldA 0 Try.underlying97 rfl sz94 rfl rfl rfl) rfl ?_
          refine L_y (y_ldc Try.underlying94 rfl rfl (((S9.blk 4 rfl).cell _).trans (idxG_row _ _ _ _ _))) rfl ?_
          refine L_y (y_len Try.underlying94 rfl) rfl ?_
          refine L_y (y_move rfl) rfl ?_
          refine L_nil ?_
          refine hK18 _ _ ?_
          refine T_block ?_
          refine T_loop1 [(5, _), (6, _), (7, _), (9, _), (51, _)] (fun (k : Nat) => [(52, .int .i64 (k : Int))]) (fun (k : Nat) => n - k) (fun (k : Nat) (w : World) => k ≤ n ∧ Zx.St w0 noM [blk b1 95 (arrG (fun c => (b4 (b.drop 8) (4 * c) : Int)) 0).toArray, rdr g A (m - 8) c (b.drop 8) (1024 + 32 * n + 4 * k) 0, blk b3 95 (arrG (fun c => (b4 (b.drop 8) (4 * c) : Int)) 256).toArray, Zx.row 119 34 (some ⟨b7, 0, none⟩) n n ((rowsP (b.drop 8) n n k 0).flatMap rowf), blk b8 97 (idxG (some ⟨b7, 0, none⟩) n n (List.replicate 256 (.int .i64 0)) zI).toArray] w) 0 (Sub.cons rfl (by first | rfl | exact congrArg (Value.int _) (by omega)) (Sub.nil _)) (Sub.cons rfl rfl (Sub.cons rfl rfl (Sub.cons rfl rfl (Sub.cons rfl rfl (Sub.cons rfl rfl (Sub.nil _)))))) ?_ ?_
          ·
            exact ⟨by omega, S9⟩
          ·
            intro k w13 hrel
            obtain ⟨hk, S13⟩ := hrel
            refine T_seq fun K19 hK19 => ?_
            refine T_region ?_
            refine L_y (y_lss rfl rfl) rfl ?_
            refine L_nil ?_
            refine hK19 _ _ ?_
            refine T_seq fun K20 hK20 => ?_
            refine T_cond rfl (fun h53 => ?_) (fun h53 => ?_)
            ·
              obtain ⟨x, hx⟩ : ∃ x, (rowsP (b.drop 8) n n k 0)[k]? = some x := ⟨_, List.getElem?_eq_getElem (by rw [rowsP_len]; omega)⟩
              refine T_skip ?_
              refine hK20 _ _ ?_
              refine T_seq fun K21 hK21 => ?_
              refine T_block ?_
              refine T_seq fun K22 hK22 => ?_
              refine T_region ?_
              refine L_y (y_move rfl) rfl ?_
              refine L_y (y_assign rfl) rfl ?_
              refine L_nil ?_
              refine hK22 _ _ ?_
              refine T_drawnX (fun w => Blk w b8 97 (idxG (some ⟨b7, 0, none⟩) n n (List.replicate 256 (.int .i64 0)) zI).toArray) hmix (by kernel_rfl) (fun w l => ((S13.like l).blk 4 rfl)) fun w14 l14 => ?_
              have S14 := S13.like l14
              refine DX_y 0 (by kernel_rfl) rfl (y_move rfl) rfl ?_
              refine DX_y 1 (by kernel_rfl) rfl (y_nilp rfl) rfl ?_
              refine DX_y 2 (by kernel_rfl) rfl (y_fieldA 0 Try.underlying97 rfl sz94 rfl rfl rfl) rfl ?_
              refine DX_y 3 (by kernel_rfl) rfl (y_of fun w hw => y_ldc Try.underlying94 rfl rfl ((hw.cell _).trans (idxG_row _ _ _ _ _))) rfl ?_
              refine DX_y 4 (by kernel_rfl) rfl (y_move rfl) rfl ?_
              refine DX_y 5 (by kernel_rfl) rfl (y_move rfl) rfl ?_
              refine DX_o1 6 (by kernel_rfl) rfl ?_
              refine o_call Try.func73 rfl rfl (Oct.ru32 g A (m - 8) c (b.drop 8) (1024 + 32 * n + 4 * k) 0 w14 (S14.get 1 rfl) (by omega) (by omega)) rfl rfl ?_
              rintro e15 w15 ⟨v15, rfl, rfl, T15⟩
              refine ⟨_, rfl, ?_⟩
              have S15 := S14.turn 1 rfl T15
              obtain ⟨e1, e2, e3⟩ := rw_ok (l := b.drop 8) (p := 1024 + 32 * n + 4 * k) (k := 4) (by omega)
              rw [e2, e3] at S15
              rw [e1]
              have hb4 : Oct.be (((b.drop 8).drop (1024 + 32 * n + 4 * k)).take 4) < 4294967296 := b4_lt _ _
              rw [show 1024 + 32 * n + 4 * k + 4 = 1024 + 32 * n + 4 * (k + 1) by omega] at S15
              refine ⟨(S15.blk 4 rfl), ?_⟩
              refine DX_y 7 (by kernel_rfl) rfl (y_idx Try.underlying94 sz119 rfl rfl (S14.row 3 rfl) inferInstance (by omega)) rfl ?_
              refine DX_y 8 (by kernel_rfl) rfl (y_fieldR 32 Try.underlying119 rfl sz60 rfl rfl (S14.row 3 rfl) (by omega) rfl) rfl ?_
              refine DX_o1 9 (by kernel_rfl) rfl ?_
              refine o_strowN S15 3 rfl rfl rfl rfl sz60 (by omega) fun w16 S16 => ?_
              refine ⟨(S16.blk 4 rfl), ?_⟩
              refine DX_nil (by kernel_rfl) ?_
              refine hK21 _ _ ?_
              refine T_region ?_
              refine L_y (y_add rfl rfl (i64w (by omega))) rfl ?_
              refine L_y (y_move rfl) rfl ?_
              refine L_nil ?_
              have S91 := S16.rowc 3 rfl rfl ((flat_fld (y := { x with sm := (b4 (b.drop 8) (1024 + 32 * n + 4 * k) : Int) }) hx (by omega) (row_set32 x _)).trans (congrArg (fun q => q.flatMap rowf) (rowsP_sm (by omega) hx)))
              refine ⟨k + 1, by omega, ⟨by omega, S91⟩, ?_⟩
              exact (Sub.cons rfl (by first | rfl | exact congrArg (Value.int _) (by omega)) (Sub.cons rfl rfl (Sub.cons rfl rfl (Sub.cons rfl rfl (Sub.cons rfl rfl (Sub.cons rfl rfl (Sub.nil _)))))))
            ·
              obtain rfl : n = k := by omega
              refine T_exit ?_
              refine hK17 _ _ ?_
              refine T_seq fun K23 hK23 => ?_
              refine T_seq fun K24 hK24 => ?_
              refine T_region ?_
              refine L_y (y_move rfl) rfl ?_
              refine L_y (y_nilp rfl) rfl ?_
              refine L_y (y_fieldA 0 Try.underlying97 rfl sz94 rfl rfl rfl) rfl ?_
              refine L_y (y_ldc Try.underlying94 rfl rfl (((S13.blk 4 rfl).cell _).trans (idxG_row _ _ _ _ _))) rfl ?_
              refine L_y (y_len Try.underlying94 rfl) rfl ?_
              refine L_y (y_move rfl) rfl ?_
              refine L_nil ?_
              refine hK24 _ _ ?_
              refine T_block ?_
              refine T_loop1 [(5, _), (6, _), (7, _), (9, _), (69, _)] (fun (k : Nat) => [(70, .int .i64 (k : Int))]) (fun (k : Nat) => n - k) (fun (k : Nat) (w : World) => k ≤ n ∧ Zx.St w0 noM [blk b1 95 (arrG (fun c => (b4 (b.drop 8) (4 * c) : Int)) 0).toArray, rdr g A (m - 8) c (b.drop 8) (1024 + 36 * n + 4 * k) 0, blk b3 95 (arrG (fun c => (b4 (b.drop 8) (4 * c) : Int)) 256).toArray, Zx.row 119 34 (some ⟨b7, 0, none⟩) n n ((rowsP (b.drop 8) n n n k).flatMap rowf), blk b8 97 (idxG (some ⟨b7, 0, none⟩) n n (List.replicate 256 (.int .i64 0)) zI).toArray] w) 0 (Sub.cons rfl (by first | rfl | exact congrArg (Value.int _) (by omega)) (Sub.nil _)) (Sub.cons rfl rfl (Sub.cons rfl rfl (Sub.cons rfl rfl (Sub.cons rfl rfl (Sub.cons rfl rfl (Sub.nil _)))))) ?_ ?_
              ·
                rw [show 1024 + 32 * n + 4 * n = 1024 + 36 * n + 4 * 0 by omega] at S13
                exact ⟨by omega, S13⟩
              ·
                intro k w17 hrel
                obtain ⟨hk, S17⟩ := hrel
                refine T_seq fun K25 hK25 => ?_
                refine T_region ?_
                refine L_y (y_lss rfl rfl) rfl ?_
                refine L_nil ?_
                refine hK25 _ _ ?_
                refine T_seq fun K26 hK26 => ?_
                refine T_cond rfl (fun h71 => ?_) (fun h71 => ?_)
                ·
                  obtain ⟨x, hx⟩ : ∃ x, (rowsP (b.drop 8) n n n k)[k]? = some x := ⟨_, List.getElem?_eq_getElem (by rw [rowsP_len]; omega)⟩
                  refine T_skip ?_
                  refine hK26 _ _ ?_
                  refine T_seq fun K27 hK27 => ?_
                  refine T_block ?_
                  refine T_seq fun K28 hK28 => ?_
                  refine T_region ?_
                  refine L_y (y_move rfl) rfl ?_
                  refine L_y (y_assign rfl) rfl ?_
                  refine L_nil ?_
                  refine hK28 _ _ ?_
                  refine T_drawnX (fun w => Blk w b8 97 (idxG (some ⟨b7, 0, none⟩) n n (List.replicate 256 (.int .i64 0)) zI).toArray) hmix (by kernel_rfl) (fun w l => ((S17.like l).blk 4 rfl)) fun w18 l18 => ?_
                  have S18 := S17.like l18
                  refine DX_y 0 (by kernel_rfl) rfl (y_move rfl) rfl ?_
                  refine DX_y 1 (by kernel_rfl) rfl (y_nilp rfl) rfl ?_
                  refine DX_y 2 (by kernel_rfl) rfl (y_fieldA 0 Try.underlying97 rfl sz94 rfl rfl rfl) rfl ?_
                  refine DX_y 3 (by kernel_rfl) rfl (y_of fun w hw => y_ldc Try.underlying94 rfl rfl ((hw.cell _).trans (idxG_row _ _ _ _ _))) rfl ?_
                  refine DX_y 4 (by kernel_rfl) rfl (y_move rfl) rfl ?_
                  refine DX_y 5 (by kernel_rfl) rfl (y_move rfl) rfl ?_
                  refine DX_o1 6 (by kernel_rfl) rfl ?_
                  refine o_call Try.func73 rfl rfl (Oct.ru32 g A (m - 8) c (b.drop 8) (1024 + 36 * n + 4 * k) 0 w18 (S18.get 1 rfl) (by omega) (by omega)) rfl rfl ?_
                  rintro e19 w19 ⟨v19, rfl, rfl, T19⟩
                  refine ⟨_, rfl, ?_⟩
                  have S19 := S18.turn 1 rfl T19
                  obtain ⟨e1, e2, e3⟩ := rw_ok (l := b.drop 8) (p := 1024 + 36 * n + 4 * k) (k := 4) (by omega)
                  rw [e2, e3] at S19
                  rw [e1]
                  have hb4 : Oct.be (((b.drop 8).drop (1024 + 36 * n + 4 * k)).take 4) < 4294967296 := b4_lt _ _
                  rw [show 1024 + 36 * n + 4 * k + 4 = 1024 + 36 * n + 4 * (k + 1) by omega] at S19
                  refine ⟨(S19.blk 4 rfl), ?_⟩
                  refine DX_y 7 (by kernel_rfl) rfl (y_conv is60 Try.underlying3 rfl (i64w (by omega))) rfl ?_
                  refine DX_y 8 (by kernel_rfl) rfl (y_idx Try.underlying94 sz119 rfl rfl (S18.row 3 rfl) inferInstance (by omega)) rfl ?_
                  refine DX_y 9 (by kernel_rfl) rfl (y_fieldR 33 Try.underlying119 rfl sz3 rfl rfl (S18.row 3 rfl) (by omega) rfl) rfl ?_
                  refine DX_o1 10 (by kernel_rfl) rfl ?_
                  refine o_strowN S19 3 rfl rfl rfl rfl sz3 (by omega) fun w20 S20 => ?_
                  refine ⟨(S20.blk 4 rfl), ?_⟩
                  refine DX_nil (by kernel_rfl) ?_
                  refine hK27 _ _ ?_
                  refine T_region ?_
                  refine L_y (y_add rfl rfl (i64w (by omega))) rfl ?_
                  refine L_y (y_move rfl) rfl ?_
                  refine L_nil ?_
                  have S91 := S20.rowc 3 rfl rfl ((flat_fld (y := { x with at_ := (b4 (b.drop 8) (1024 + 36 * n + 4 * k) : Int) }) hx (by omega) (row_set33 x _)).trans (congrArg (fun q => q.flatMap rowf) (rowsP_at (by omega) hx)))
                  refine ⟨k + 1, by omega, ⟨by omega, S91⟩, ?_⟩
                  exact (Sub.cons rfl (by first | rfl | exact congrArg (Value.int _) (by omega)) (Sub.cons rfl rfl (Sub.cons rfl rfl (Sub.cons rfl rfl (Sub.cons rfl rfl (Sub.cons rfl rfl (Sub.nil _)))))))
                ·
                  obtain rfl : n = k := by omega
                  rw [show 1024 + 36 * n + 4 * n = 1024 + 40 * n by omega] at S17
                  refine T_exit ?_
                  refine hK23 _ _ ?_
                  refine T_seq fun K29 hK29 => ?_
                  refine T_region ?_
                  refine L_y (y_move rfl) rfl ?_
                  refine L_y (y_move rfl) rfl ?_
                  refine L_o (o_call Try.func119 rfl rfl (take g A (m - 8) c (b.drop 8) (1024 + 40 * n) (idAt (b.drop 8) (1024 + 40 * n)) w17 (S17.get 1 rfl) (by omega) (by omega) (idAt_l (by omega))) rfl rfl ?_)
                  rintro e21 w21 ⟨v21, rfl, T21, rfl⟩
                  refine ⟨_, rfl, ?_⟩
                  have S21 := S17.turn 1 rfl T21
                  refine L_y (y_nilp rfl) rfl ?_
                  refine L_y (y_fieldA 257 Try.underlying97 rfl sz23 rfl rfl rfl) rfl ?_
                  refine L_o (o_stR S21 4 rfl rfl rfl (by rw [List.size_toArray, idf_len]; exact sz23) (by rw [idxG_len (by simp), List.size_toArray, idf_len]; omega) (fun u hu => bL_one _ u (by rw [List.toList_toArray] at hu; exact hu)) fun w22 S22 => ?_)
                  have S90 := S22.blkc 4 rfl (idxG_of (by simp))
                  refine L_nil ?_
                  refine hK29 _ _ ?_
                  refine T_seq fun K30 hK30 => ?_
                  refine T_tail 3 hmix (by kernel_rfl) fun w23 l23 K31 hK31 => ?_
                  have S23 := S90.like l23
                  refine HL_y (y_move rfl) rfl ?_
                  refine HL_y (y_ldW Try.underlying95 rfl sz95 rfl (S23.blk 2 rfl) (said_whole _ 256 (Nat.le_refl _))) rfl ?_
                  refine HL_y (y_assign rfl) rfl ?_
                  refine HL_nil ?_
                  refine hK31 _ ?_
                  refine L_o (o_stW S23 0 rfl rfl rfl (by rw [List.size_toArray, arrG_len _ (by omega)]; exact sz95) (by rw [List.size_toArray, List.size_toArray, arrG_len _ (by omega), arrG_len _ (by omega)]) (fun u hu => arrG_one _ _ u (by rw [List.toList_toArray] at hu; exact hu)) fun w24 S24 => ?_)
                  refine L_nil ?_
                  refine hK30 _ _ ?_
                  refine T_ret ?_
                  repeat (first | with_reducible refine up_then ?_ | with_reducible refine up_in ?_)
                  refine rettc rfl rfl rfl (S24.blk 0 rfl) Try.underlying95 rfl (by rw [List.size_toArray, arrG_len _ (by omega)]; exact sz95) ?_
                  exact ⟨_, rfl, S24.like0, b8, _, rfl, S24.sel [3, 4] (by decide)⟩
end Go.Proofs.Ytgaklngnfecdaaa.Idx


/-
  Open.
-/
namespace Go.Proofs.Ytgaklngnfecdaaa.Idx
open Go.RowKit Zk Zx
open Oid (idf idf_len cmpL)
set_option linter.unusedVariables false
set_option linter.unusedSimpArgs false

open Oct (rdr)
def INDX : List UInt8 := [73, 78, 68, 88]
theorem indx_ne (l : List UInt8) : ((⟨l.toArray⟩ : ByteArray) ≠ ⟨#[73, 78, 68, 88]⟩) ↔ l ≠ INDX := by
  constructor
  · intro h e; exact h (by rw [e]; rfl)
  · intro h e
    have e2 : l.toArray = #[73, 78, 68, 88] := congrArg ByteArray.data e
    exact h (by have := congrArg Array.toList e2; simpa [INDX] using this)
/-- What bytes say: how many rows, the rows, the trailer, the fan-out. -/
def lastN (b : List UInt8) : Nat := b4 b 1028
def rowsB (b : List UInt8) : List Row := rowsP (b.drop 8) (lastN b) (lastN b) (lastN b) (lastN b)
def ofB (b : List UInt8) : Oid.Id := idAt (b.drop 8) (1024 + 40 * lastN b)
def FanOk (b : List UInt8) (l : List Row) : Prop := ∀ c, c < 256 → (cl l (c + 1) : Int) = (b4 (b.drop 8) (4 * c) : Int)
instance (b : List UInt8) (l : List Row) : Decidable (FanOk b l) := by unfold FanOk; infer_instance
instance (l : List Row) : Decidable (StR l) := by unfold StR; infer_instance
def openE (b : List UInt8) : Int :=
  if b.length < 1096 then 10 else if b.take 4 ≠ INDX ∨ b4 b 4 ≠ 1 then 12 else if 600 < lastN b then 5 else if b.length < 1096 + 40 * lastN b then 10 else if 1096 + 40 * lastN b < b.length then 11
  else if Sha.ofL (b.take (b.length - 32)) ≠ b.drop (b.length - 32) then 13 else if ¬ StR (rowsB b) then 18 else if ¬ FanOk b (rowsB b) then 18 else if (rowsB b).any (fun x => decide (1048576 < x.at_)) then 2 else 0
section
variable {b : List UInt8}
theorem openE_10 (h : b.length < 1096) : openE b = 10 := by unfold openE; rw [if_pos h]
theorem openE_12 (h : ¬ b.length < 1096) (h2 : b.take 4 ≠ INDX ∨ b4 b 4 ≠ 1) : openE b = 12 := by unfold openE; rw [if_neg h, if_pos h2]
theorem openE_5 (h : ¬ b.length < 1096) (h2 : ¬ (b.take 4 ≠ INDX ∨ b4 b 4 ≠ 1)) (h3 : 600 < lastN b) : openE b = 5 := by unfold openE; rw [if_neg h, if_neg h2, if_pos h3]
theorem openE_10b (h : ¬ b.length < 1096) (h2 : ¬ (b.take 4 ≠ INDX ∨ b4 b 4 ≠ 1)) (h3 : ¬ 600 < lastN b) (h4 : b.length < 1096 + 40 * lastN b) : openE b = 10 := by unfold openE; rw [if_neg h, if_neg h2, if_neg h3, if_pos h4]
theorem openE_11 (h : ¬ b.length < 1096) (h2 : ¬ (b.take 4 ≠ INDX ∨ b4 b 4 ≠ 1)) (h3 : ¬ 600 < lastN b) (h4 : ¬ b.length < 1096 + 40 * lastN b) (h5 : 1096 + 40 * lastN b < b.length) : openE b = 11 := by unfold openE; rw [if_neg h, if_neg h2, if_neg h3, if_neg h4, if_pos h5]
/-- All that is asked ahead of the sum. -/
structure Pre (b : List UInt8) : Prop where
  h1 : ¬ b.length < 1096
  h2 : ¬ (b.take 4 ≠ INDX ∨ b4 b 4 ≠ 1)
  h3 : ¬ 600 < lastN b
  h4 : ¬ b.length < 1096 + 40 * lastN b
  h5 : ¬ 1096 + 40 * lastN b < b.length
theorem openE_pre (h : Pre b) : openE b = if Sha.ofL (b.take (b.length - 32)) ≠ b.drop (b.length - 32) then 13 else if ¬ StR (rowsB b) then 18 else if ¬ FanOk b (rowsB b) then 18 else if (rowsB b).any (fun x => decide (1048576 < x.at_)) then 2 else 0 := by
  unfold openE; rw [if_neg h.h1, if_neg h.h2, if_neg h.h3, if_neg h.h4, if_neg h.h5]
theorem openE_13 (h : Pre b) (h6 : Sha.ofL (b.take (b.length - 32)) ≠ b.drop (b.length - 32)) : openE b = 13 := by rw [openE_pre h, if_pos h6]
theorem openE_18 (h : Pre b) (h6 : ¬ Sha.ofL (b.take (b.length - 32)) ≠ b.drop (b.length - 32)) (h7 : ¬ StR (rowsB b)) : openE b = 18 := by rw [openE_pre h, if_neg h6, if_pos h7]
theorem openE_18b (h : Pre b) (h6 : ¬ Sha.ofL (b.take (b.length - 32)) ≠ b.drop (b.length - 32)) (h7 : StR (rowsB b)) (h8 : ¬ FanOk b (rowsB b)) : openE b = 18 := by rw [openE_pre h, if_neg h6, if_neg (fun q => q h7), if_pos h8]
theorem openE_2 (h : Pre b) (h6 : ¬ Sha.ofL (b.take (b.length - 32)) ≠ b.drop (b.length - 32)) (h7 : StR (rowsB b)) (h8 : FanOk b (rowsB b)) (h9 : (rowsB b).any (fun x => decide (1048576 < x.at_)) = true) : openE b = 2 := by rw [openE_pre h, if_neg h6, if_neg (fun q => q h7), if_neg (fun q => q h8), if_pos h9]
theorem openE_0 (h : Pre b) (h6 : ¬ Sha.ofL (b.take (b.length - 32)) ≠ b.drop (b.length - 32)) (h7 : StR (rowsB b)) (h8 : FanOk b (rowsB b)) (h9 : ¬ (rowsB b).any (fun x => decide (1048576 < x.at_)) = true) : openE b = 0 := by rw [openE_pre h, if_neg h6, if_neg (fun q => q h7), if_neg (fun q => q h8), if_neg h9]
end
/-- What Open answers. -/
def Opened (w0 w' : World) (b : List UInt8) (u : Value) : Prop := (openE b ≠ 0 ∧ Like w0 w' ∧ u = .tuple #[.pointer none, .int .i64 (openE b)]) ∨ (openE b = 0 ∧ ∃ g A, u = .tuple #[.pointer (some ⟨g, 0, none⟩), .int .i64 0] ∧ Zx.St w0 noM [Zx.row 119 34 A (rowsB b).length (rowsB b).length ((rowsB b).flatMap rowf), blk g 97 (idxf A (rowsB b).length (rowsB b).length (rowsB b) (ofB b)).toArray] w')
theorem said_at (b : List UInt8) {i : Nat} (h : i < 256) : (said (b.drop 8)).toArray[i]? = some (.int .i64 (b4 (b.drop 8) (4 * i) : Int)) := by
  rw [List.getElem?_toArray]
  unfold said arrG
  rw [List.getElem?_append_left (by simpa using h)]
  simp [h]
theorem said_len (t : List UInt8) : (said t).length = 256 := arrG_len _ (Nat.le_refl _)
theorem said_one (t : List UInt8) : ∀ u ∈ said t, u.oneCell' = true := arrG_one _ _
theorem idxG_fan {A : Option Addr} {n c : Nat} {fs : List Value} {l : List Row} {of : Oid.Id} (h : fs.length = 256) : ((idxG A n c fs of).toArray.toList.take 1 ++ (fanF l).toArray.toList ++ (idxG A n c fs of).toArray.toList.drop (1 + (fanF l).toArray.size)).toArray = (idxf A n c l of).toArray := by
  refine congrArg List.toArray ?_
  unfold idxG idxf
  rw [List.size_toArray, fanF_len, List.toList_toArray, List.toList_toArray]
  have e1 : ([Value.slice A n c] ++ fs ++ idf of).take 1 = [.slice A n c] := rfl
  have e2 : ([Value.slice A n c] ++ fs ++ idf of).drop (1 + 256) = idf of := by
    rw [List.append_assoc, ← List.drop_drop, show ([Value.slice A n c] ++ (fs ++ idf of)).drop 1 = fs ++ idf of from rfl, List.drop_append_of_le_length (by omega), List.drop_of_length_le (by omega), List.nil_append]
  rw [e1, e2]
theorem idxf_fan (A : Option Addr) (n c : Nat) (l : List Row) (of : Oid.Id) : ((idxf A n c l of).toArray.toList.drop 1).take 256 = fanF l ∧ (fanF l).length = 256 := by
  refine ⟨?_, fanF_len l⟩
  unfold idxf
  rw [List.toList_toArray, show ([Value.slice A n c] ++ fanF l ++ idf of).drop 1 = fanF l ++ idf of from rfl, List.take_append_of_le_length (by rw [fanF_len]; omega), List.take_of_length_le (by rw [fanF_len]; omega)]
theorem fan_at (l : List Row) {i : Nat} (h : i < 256) : (fanF l).toArray[i]? = some (.int .i64 (cl l (i + 1) : Int)) := fan_cell l i h
theorem str_of_adj {l : List Row} (h : ∀ i x y, i + 1 < l.length → l[i]? = some x → l[i + 1]? = some y → Oid.lt x.id y.id = true) : StR l := by
  unfold StR
  rw [List.pairwise_iff_getElem]
  intro i j hi hj hij
  obtain ⟨d, rfl⟩ : ∃ d, j = i + 1 + d := ⟨j - (i + 1), by omega⟩
  clear hij
  induction d with
  | zero => exact h i _ _ hj (List.getElem?_eq_getElem hi) (List.getElem?_eq_getElem hj)
  | succ d ih =>
    have h1 := ih (by omega)
    have h2 := h (i + 1 + d) l[i + 1 + d] l[i + 1 + (d + 1)] (by omega) (List.getElem?_eq_getElem (by omega)) (by rw [show i + 1 + d + 1 = i + 1 + (d + 1) by omega]; exact List.getElem?_eq_getElem (by omega))
    exact Oid.lt_trans _ _ _ h1 h2
theorem not_str {l : List Row} {i : Nat} {x y : Row} (hx : l[i]? = some x) (hy : l[i + 1]? = some y) (h : Oid.lt x.id y.id = false) : ¬ StR l := fun hs => by
  unfold StR at hs
  rw [List.pairwise_iff_getElem] at hs
  obtain ⟨h1, h2⟩ := List.getElem?_eq_some_iff.1 hx
  obtain ⟨h3, h4⟩ := List.getElem?_eq_some_iff.1 hy
  have := hs i (i + 1) h1 h3 (by omega)
  rw [h2, h4, h] at this
  cases this
theorem head4 (b : List UInt8) : ((b.take 1032).drop 0).take 4 = b.take 4 := by rw [List.drop_zero, List.take_take]; rfl
theorem b4_take (b : List UInt8) : Oct.be (((b.take 1032).drop (0 + 4)).take 4) = b4 b 4 := by
  unfold b4
  rw [List.drop_take, List.take_take]
  rfl
theorem b4_last (b : List UInt8) : Oct.be (((((b.drop 1028).take (1032 - 1028)).drop 0)).take 4) = lastN b := by
  unfold lastN b4
  rw [List.drop_zero, List.take_take]
  rfl
theorem any_far {l : List Row} {k : Nat} {x : Row} (hx : l[k]? = some x) (h : 1048576 < x.at_) : l.any (fun x => decide (1048576 < x.at_)) = true := by
  rw [List.any_eq_true]
  exact ⟨x, List.mem_of_getElem? hx, decide_eq_true h⟩
theorem no_far {l : List Row} (h : ∀ i x, i < l.length → l[i]? = some x → ¬ 1048576 < x.at_) : ¬ l.any (fun x => decide (1048576 < x.at_)) = true := fun q => by
  rw [List.any_eq_true] at q
  obtain ⟨x, hx, q⟩ := q
  obtain ⟨i, hi⟩ := List.mem_iff_getElem?.1 hx
  exact h i x (List.getElem?_eq_some_iff.1 hi).1 hi (of_decide_eq_true q)


set_option maxRecDepth 100000 in
theorem open_ (B : Option Addr) (m d : Nat) (b : List UInt8) (w0 : World) (hb : Rs w0 1 B m d (bL b)) :
    Calls Try.prog 28 #[.slice B m d] w0 fun e w' => ∃ u, e = .returned u ∧ Opened w0 w' b u := by
  refine enter1 (env := [(0, .slice B m d)]) [.slice B m d] Try.func28 rfl Try.ntmps28 rfl rfl ?_
  have hm := hb.lenb; have hcap := hb.cap; have hmax := hb.max
  have S0 := St.start w0 noM
  refine T_seq fun K1 hK1 => ?_
  refine T_region ?_
  refine L_y (y_assign rfl) rfl ?_
  refine L_y (y_assign rfl) rfl ?_
  refine L_nil ?_
  refine hK1 _ _ ?_
  refine T_seq fun K2 hK2 => ?_
  refine T_seq fun K3 hK3 => ?_
  refine T_region ?_
  refine L_y (y_move rfl) rfl ?_
  refine L_y (y_len Try.underlying27 rfl) rfl ?_
  refine L_y (y_lss rfl rfl) rfl ?_
  refine L_nil ?_
  refine hK3 _ _ ?_
  refine T_cond rfl (fun h15 => ?_) (fun h15 => ?_)
  ·
    refine T_seq fun K4 hK4 => ?_
    refine T_region ?_
    refine L_y (y_assign rfl) rfl ?_
    refine L_y (y_assign rfl) rfl ?_
    refine L_nil ?_
    refine hK4 _ _ ?_
    refine T_ret ?_
    repeat (first | with_reducible refine up_then ?_ | with_reducible refine up_in ?_)
    refine ret2 rfl rfl rfl ?_
    have he : openE b = 10 := openE_10 (by omega)
    exact ⟨_, rfl, .inl ⟨by rw [he]; decide, S0.like0, by rw [he]⟩⟩
  ·
    refine T_skip ?_
    refine hK2 _ _ ?_
    refine T_seq fun K5 hK5 => ?_
    refine T_region ?_
    refine L_y (y_move rfl) rfl ?_
    refine L_y (y_sliceH Try.underlying27 sz5 rfl rfl inferInstance (by omega)) rfl ?_
    refine L_o (o_call Try.func71 rfl rfl (Oct.rnew _ _ _ (b.take 1032) w0 ((S0.rd hb).cutb (l := 0) (u := 1032) (by omega) (by omega)) (by omega)) rfl rfl ?_)
    rintro e1 w1 ⟨v1, rfl, l1, g1, A1, c1, rfl, hh1, dd1⟩
    refine ⟨_, rfl, ?_⟩
    have S1 := S0.new l1 _ hh1 dd1
    refine L_y (y_assign rfl) rfl ?_
    refine L_nil ?_
    refine hK5 _ _ ?_
    refine T_seq fun K6 hK6 => ?_
    refine T_seq fun K7 hK7 => ?_
    refine T_region ?_
    refine L_y (y_move rfl) rfl ?_
    refine L_o (o_call Try.func72 rfl rfl (Oct.rraw g1 A1 (1032 - 0) c1 (b.take 1032) 0 0 (4 : Nat) w1 (S1.get 0 rfl) (by omega) (by omega) (by omega)) rfl rfl ?_)
    rintro e2 w2 ⟨v2, rfl, T2, B7, d7, rfl, hr2, hd2⟩
    refine ⟨_, rfl, ?_⟩
    have S2 := S1.turn 0 rfl T2
    obtain ⟨e1, e2, e3⟩ := Oct.rn_ok (l := b.take 1032) (p := 0) (k := 4) (by rw [List.length_take]; omega)
    rw [e1, head4] at hr2 hd2
    rw [e2, e3] at S2
    rw [e1, head4]
    refine L_y (y_bstr Try.underlying27 Try.underlying5 Try.underlying9 rfl (by first | exact S2.rd hb | exact rs_of_row hr2 | exact S2.row 0 rfl)) rfl ?_
    refine L_y (y_sneq rfl rfl) rfl ?_
    refine L_y (y_move rfl) rfl ?_
    refine L_split 23 rfl (fun h23 => ?_) (fun h23 => ?_)
    ·
      refine L_gno rfl rfl rfl ?_
      refine L_gno rfl rfl rfl ?_
      refine L_gno rfl rfl rfl ?_
      refine L_y ((by first | exact y_pickT rfl rfl | exact y_pickF rfl rfl)) rfl ?_
      refine L_nil ?_
      refine hK7 _ _ ?_
      refine T_true rfl ?_
      refine T_seq fun K8 hK8 => ?_
      refine T_region ?_
      refine L_y (y_assign rfl) rfl ?_
      refine L_y (y_assign rfl) rfl ?_
      refine L_nil ?_
      refine hK8 _ _ ?_
      refine T_ret ?_
      repeat (first | with_reducible refine up_then ?_ | with_reducible refine up_in ?_)
      refine ret2 rfl rfl rfl ?_
      have he : openE b = 12 := openE_12 (by omega) (by first | exact .inl ((indx_ne _).1 h23) | exact .inr (fun q => h27 (by have h9 := b4_take b; omega)))
      exact ⟨_, rfl, .inl ⟨by rw [he]; decide, S2.like0, by rw [he]⟩⟩
    ·
      have hx0 : b.take 4 = INDX := by by_cases q : b.take 4 = INDX; exact q; exact absurd ((indx_ne _).2 q) h23
      refine L_gyes rfl rfl ?_
      refine L_y (y_move rfl) rfl ?_
      refine L_gyes rfl rfl ?_
      refine L_o (o_call Try.func73 rfl rfl (Oct.ru32 g1 A1 (1032 - 0) c1 (b.take 1032) (0 + 4) 0 w2 (S2.get 0 rfl) (by rw [List.length_take]; omega) (by omega)) rfl rfl ?_)
      rintro e4 w4 ⟨v4, rfl, rfl, T4⟩
      refine ⟨_, rfl, ?_⟩
      have S4 := S2.turn 0 rfl T4
      obtain ⟨e1, e2, e3⟩ := rw_ok (l := b.take 1032) (p := 0 + 4) (k := 4) (by rw [List.length_take]; omega)
      rw [e1]
      refine L_gyes rfl rfl ?_
      refine L_y (y_neq rfl rfl) rfl ?_
      refine L_y ((by first | exact y_pickT rfl rfl | exact y_pickF rfl rfl)) rfl ?_
      refine L_nil ?_
      refine hK7 _ _ ?_
      refine T_cond rfl (fun h27 => ?_) (fun h27 => ?_)
      ·
        refine T_seq fun K9 hK9 => ?_
        refine T_region ?_
        refine L_y (y_assign rfl) rfl ?_
        refine L_y (y_assign rfl) rfl ?_
        refine L_nil ?_
        refine hK9 _ _ ?_
        refine T_ret ?_
        repeat (first | with_reducible refine up_then ?_ | with_reducible refine up_in ?_)
        refine ret2 rfl rfl rfl ?_
        have he : openE b = 12 := openE_12 (by omega) (by first | exact .inl ((indx_ne _).1 h23) | exact .inr (fun q => h27 (by have h9 := b4_take b; omega)))
        exact ⟨_, rfl, .inl ⟨by rw [he]; decide, S4.like0, by rw [he]⟩⟩
      ·
        have hform : ¬ (b.take 4 ≠ INDX ∨ b4 b 4 ≠ 1) := fun q => by rcases q with q | q; exact q hx0; exact q (by have h9 := b4_take b; omega)
        refine T_skip ?_
        refine hK6 _ _ ?_
        refine T_seq fun K10 hK10 => ?_
        refine T_region ?_
        refine L_y (y_move rfl) rfl ?_
        refine L_y (y_slice Try.underlying27 sz5 rfl rfl rfl inferInstance inferInstance (by omega) (by omega)) rfl ?_
        refine L_o (o_call Try.func71 rfl rfl (Oct.rnew _ _ _ ((b.drop 1028).take (1032 - 1028)) w4 ((S4.rd hb).cutb (l := 1028) (u := 1032) (by omega) (by omega)) (by omega)) rfl rfl ?_)
        rintro e5 w5 ⟨v5, rfl, l5, g3, A3, c3, rfl, hh5, dd5⟩
        refine ⟨_, rfl, ?_⟩
        have S5 := S4.new l5 _ hh5 dd5
        refine L_o (o_call Try.func73 rfl rfl (Oct.ru32 g3 A3 (1032 - 1028) c3 ((b.drop 1028).take (1032 - 1028)) 0 0 w5 (S5.get 1 rfl) (by omega) (by omega)) rfl rfl ?_)
        rintro e6 w6 ⟨v6, rfl, rfl, T6⟩
        refine ⟨_, rfl, ?_⟩
        have S6 := S5.turn 1 rfl T6
        obtain ⟨e1, e2, e3⟩ := rw_ok (l := (b.drop 1028).take (1032 - 1028)) (p := 0) (k := 4) (by rw [List.length_take, List.length_drop]; omega)
        rw [e1, b4_last]
        have hlast : lastN b < 4294967296 := b4_lt _ _
        refine L_y (y_assign rfl) rfl ?_
        refine L_nil ?_
        refine hK10 _ _ ?_
        refine T_seq fun K11 hK11 => ?_
        refine T_seq fun K12 hK12 => ?_
        refine T_region ?_
        refine L_y (y_move rfl) rfl ?_
        refine L_y (y_gtr rfl rfl) rfl ?_
        refine L_nil ?_
        refine hK12 _ _ ?_
        refine T_cond rfl (fun h33 => ?_) (fun h33 => ?_)
        ·
          refine T_seq fun K13 hK13 => ?_
          refine T_region ?_
          refine L_y (y_assign rfl) rfl ?_
          refine L_y (y_assign rfl) rfl ?_
          refine L_nil ?_
          refine hK13 _ _ ?_
          refine T_ret ?_
          repeat (first | with_reducible refine up_then ?_ | with_reducible refine up_in ?_)
          refine ret2 rfl rfl rfl ?_
          have he : openE b = 5 := openE_5 (by omega) hform (by omega)
          exact ⟨_, rfl, .inl ⟨by rw [he]; decide, S6.like0, by rw [he]⟩⟩
        ·
          refine T_skip ?_
          refine hK11 _ _ ?_
          refine T_seq fun K14 hK14 => ?_
          refine T_region ?_
          refine L_y (y_move rfl) rfl ?_
          refine L_y (y_conv is60 Try.underlying3 rfl (i64w (by omega))) rfl ?_
          refine L_y (y_assign rfl) rfl ?_
          refine L_nil ?_
          refine hK14 _ _ ?_
          refine T_seq fun K15 hK15 => ?_
          refine T_seq fun K16 hK16 => ?_
          refine T_region ?_
          refine L_y (y_move rfl) rfl ?_
          refine L_y (y_mul rfl rfl (i64w (by omega))) rfl ?_
          refine L_y (y_add rfl rfl (i64w (by omega))) rfl ?_
          refine L_y (y_add rfl rfl (i64w (by omega))) rfl ?_
          refine L_y (y_assign rfl) rfl ?_
          refine L_nil ?_
          refine hK16 _ _ ?_
          refine T_block ?_
          refine T_seq fun K17 hK17 => ?_
          refine T_region ?_
          refine L_y (y_move rfl) rfl ?_
          refine L_y (y_len Try.underlying27 rfl) rfl ?_
          refine L_y (y_move rfl) rfl ?_
          refine L_y (y_lss rfl rfl) rfl ?_
          refine L_y (y_assign rfl) rfl ?_
          refine L_nil ?_
          refine hK17 _ _ ?_
          refine T_cond rfl (fun h40 => ?_) (fun h40 => ?_)
          ·
            refine T_seq fun K18 hK18 => ?_
            refine T_region ?_
            refine L_y (y_assign rfl) rfl ?_
            refine L_y (y_assign rfl) rfl ?_
            refine L_nil ?_
            refine hK18 _ _ ?_
            refine T_ret ?_
            repeat (first | with_reducible refine up_then ?_ | with_reducible refine up_in ?_)
            refine ret2 rfl rfl rfl ?_
            have he : openE b = 10 := openE_10b (by omega) hform (by omega) (by omega)
            exact ⟨_, rfl, .inl ⟨by rw [he]; decide, S6.like0, by rw [he]⟩⟩
          ·
            refine T_seq fun K19 hK19 => ?_
            refine T_region ?_
            refine L_y (y_move rfl) rfl ?_
            refine L_y (y_len Try.underlying27 rfl) rfl ?_
            refine L_y (y_move rfl) rfl ?_
            refine L_y (y_gtr rfl rfl) rfl ?_
            refine L_y (y_assign rfl) rfl ?_
            refine L_nil ?_
            refine hK19 _ _ ?_
            refine T_cond rfl (fun h45 => ?_) (fun h45 => ?_)
            ·
              refine T_seq fun K20 hK20 => ?_
              refine T_region ?_
              refine L_y (y_assign rfl) rfl ?_
              refine L_y (y_assign rfl) rfl ?_
              refine L_nil ?_
              refine hK20 _ _ ?_
              refine T_ret ?_
              repeat (first | with_reducible refine up_then ?_ | with_reducible refine up_in ?_)
              refine ret2 rfl rfl rfl ?_
              have he : openE b = 11 := openE_11 (by omega) hform (by omega) (by omega) (by omega)
              exact ⟨_, rfl, .inl ⟨by rw [he]; decide, S6.like0, by rw [he]⟩⟩
            ·
              have hpre : Pre b := ⟨by omega, hform, by omega, by omega, by omega⟩
              have hbl : b.length = 1096 + 40 * lastN b := by omega
              refine T_skip ?_
              refine hK15 _ _ ?_
              refine T_seq fun K21 hK21 => ?_
              refine T_seq fun K22 hK22 => ?_
              have e32 : (b.drop (b.length - 32)).take 32 = b.drop (b.length - 32) := List.take_of_length_le (by rw [List.length_drop]; omega)
              refine T_drawnL [(0, true), (1, true), (2, true), (3, true), (4, true), (7, true), (8, true), (9, true), (10, true), (11, true), (12, true), (13, true), (5, false), (6, false), (14, true)] hmix (by kernel_rfl) fun w7 l7 => ?_
              have S7 := S6.like l7
              refine DL_y rfl (y_move rfl) rfl ?_
              refine DL_y rfl (y_move rfl) rfl ?_
              refine DL_y rfl (y_len Try.underlying27 rfl) rfl ?_
              refine DL_y rfl (y_sub rfl rfl (i64w (by omega))) rfl ?_
              refine DL_y rfl (y_sliceH Try.underlying27 sz5 rfl rfl (Nt.mk (by omega) : Nt _ (b.length - 32)) (by omega)) rfl ?_
              refine DL_y rfl (y_move rfl) rfl ?_
              refine DL_y rfl (y_move rfl) rfl ?_
              refine DL_y rfl (y_len Try.underlying27 rfl) rfl ?_
              refine DL_y rfl (y_sub rfl rfl (i64w (by omega))) rfl ?_
              refine DL_y rfl (y_sliceL Try.underlying27 sz5 rfl rfl (Nt.mk (by omega) : Nt _ (b.length - 32)) (by omega)) rfl ?_
              refine DL_y rfl (y_arrAt Try.underlying23 rfl (by omega)) rfl ?_
              refine DL_y rfl (y_ldArr Try.underlying23 sz23 rfl (rs_tail (b.length - 32) (S7.rd hb) (by omega)) (by omega) (by omega)) rfl ?_
              refine DL_o rfl (o_bslL [_] te177 zz27 S7 rfl rfl rfl rfl rfl rfl rfl rfl fun b8 w8 l8 S8 => ?_)
              have q8 := l8
              refine ⟨q8, ?_⟩
              refine DL_o rfl (o_call Try.func74 rfl rfl (Sha.shaof [⟨_, _, _, b.take (b.length - 32)⟩] _ _ _ w8 (S8.row 2 rfl) (fun p hp => by obtain rfl := List.mem_singleton.1 hp; exact (S8.rd hb).cutb (l := 0) (u := b.length - 32) (by omega) (by omega)) (by rw [cat1, List.length_take]; omega) (by simp)) rfl rfl ?_)
              rintro e9 w9 ⟨v9, rfl, l9, hu9⟩
              refine ⟨_, rfl, (Like.trans q8 l9), ?_⟩
              have S9 := S8.like l9
              rw [cat1] at hu9
              subst hu9
              have q9 := (Like.trans q8 l9)
              refine DL_y rfl (y_neB Try.underlying23 Try.underlying5 sz5 (by kernel_rfl) rfl rfl (Sha.length_ofL _) (by rw [List.length_take, List.length_drop]; omega)) rfl ?_
              refine DL_nil ?_
              refine hK22 _ _ ?_
              refine T_cond rfl (fun h64 => ?_) (fun h64 => ?_)
              ·
                rw [e32] at h64
                refine T_seq fun K23 hK23 => ?_
                refine T_region ?_
                refine L_y (y_assign rfl) rfl ?_
                refine L_y (y_assign rfl) rfl ?_
                refine L_nil ?_
                refine hK23 _ _ ?_
                refine T_ret ?_
                repeat (first | with_reducible refine up_then ?_ | with_reducible refine up_in ?_)
                refine ret2 rfl rfl rfl ?_
                have he : openE b = 13 := openE_13 hpre h64
                exact ⟨_, rfl, .inl ⟨by rw [he]; decide, S9.like0, by rw [he]⟩⟩
              ·
                rw [e32] at h64
                refine T_skip ?_
                refine hK21 _ _ ?_
                refine T_seq fun K24 hK24 => ?_
                refine T_region ?_
                refine L_y (y_move rfl) rfl ?_
                refine L_y (y_move rfl) rfl ?_
                refine L_o (o_call Try.func75 rfl rfl (read B m d b (lastN b) w9 (S9.rd hb) hbl (by omega)) rfl rfl ?_)
                rintro e10 w10 ⟨v10, rfl, l10, g5, A5, rfl, T10⟩
                refine ⟨_, rfl, ?_⟩
                have S10 := S9.adoptS T10
                have hlen : (rowsB b).length = lastN b := rowsP_len _ _ _ _ _
                refine L_y (y_move rfl) rfl ?_
                refine L_y (y_extract rfl rfl) rfl ?_
                refine L_y (y_extract rfl rfl) rfl ?_
                refine L_o (o_alloc zz95 S10 rfl fun b11 w11 hb11 S11 => ?_)
                refine L_y (y_assign rfl) rfl ?_
                refine L_o (o_stW S11 5 rfl rfl rfl (by rw [List.size_toArray, said_len]; exact sz95) (by rw [List.size_toArray, said_len]; rfl) (fun u hu => said_one _ u (by rw [List.toList_toArray] at hu; exact hu)) fun w12 S12 => ?_)
                refine L_nil ?_
                refine hK24 _ _ ?_
                refine T_seq fun K25 hK25 => ?_
                refine T_seq fun K26 hK26 => ?_
                refine T_region ?_
                refine L_y (y_assign rfl) rfl ?_
                refine L_nil ?_
                refine hK26 _ _ ?_
                refine T_block ?_
                refine T_loop1 [(6, _), (8, _), (9, _)] (fun (j : Nat) => [(10, .int .i64 (j : Int))]) (fun (j : Nat) => (lastN b) - j) (fun (j : Nat) (w : World) => (1 ≤ j ∧ ∀ i x y, i + 1 < j → (rowsB b)[i]? = some x → (rowsB b)[i + 1]? = some y → Oid.lt x.id y.id = true) ∧ Zx.St w0 noM [Zx.row 119 34 A5 (lastN b) (lastN b) ((rowsB b).flatMap rowf), blk g5 97 (idxG A5 (lastN b) (lastN b) (List.replicate 256 (.int .i64 0)) (ofB b)).toArray, blk b11 95 (said (b.drop 8)).toArray] w) 1 (Sub.cons rfl (by first | rfl | exact congrArg (Value.int _) (by omega)) (Sub.nil _)) (Sub.cons rfl rfl (Sub.cons rfl rfl (Sub.cons rfl rfl (Sub.nil _)))) ?_ ?_
                ·
                  have S71 : Zx.St w0 noM [Zx.row 119 34 A5 (lastN b) (lastN b) ((rowsB b).flatMap rowf), blk g5 97 (idxG A5 (lastN b) (lastN b) (List.replicate 256 (.int .i64 0)) (ofB b)).toArray, blk b11 95 (said (b.drop 8)).toArray] w12 := S12.sel [3, 4, 5] (by decide)
                  exact ⟨⟨by omega, fun i x y hi => by omega⟩, S71⟩
                ·
                  intro j w13 hrel
                  obtain ⟨⟨hj, hasc⟩, S13⟩ := hrel
                  refine T_seq fun K27 hK27 => ?_
                  refine T_seq fun K28 hK28 => ?_
                  refine T_region ?_
                  refine L_y (y_move rfl) rfl ?_
                  refine L_y (y_move rfl) rfl ?_
                  refine L_y (y_lss rfl rfl) rfl ?_
                  refine L_nil ?_
                  refine hK28 _ _ ?_
                  refine T_cond rfl (fun h73 => ?_) (fun h73 => ?_)
                  ·
                    obtain ⟨p, hx1⟩ : ∃ x, (rowsB b)[j - 1]? = some x := ⟨_, List.getElem?_eq_getElem (by omega)⟩
                    obtain ⟨q, hx2⟩ : ∃ x, (rowsB b)[j]? = some x := ⟨_, List.getElem?_eq_getElem (by omega)⟩
                    refine T_skip ?_
                    refine hK27 _ _ ?_
                    refine T_seq fun K29 hK29 => ?_
                    refine T_block ?_
                    refine T_seq fun K30 hK30 => ?_
                    refine T_tail 15 hmix (by kernel_rfl) fun w14 l14 K31 hK31 => ?_
                    have S14 := S13.like l14
                    refine HL_y (y_move rfl) rfl ?_
                    refine HL_y (y_nilp rfl) rfl ?_
                    refine HL_y (y_fieldA 0 Try.underlying97 rfl sz94 rfl rfl rfl) rfl ?_
                    refine HL_y (y_ldc Try.underlying94 rfl rfl (((S14.blk 1 rfl).cell _).trans (idxG_row _ _ _ _ _))) rfl ?_
                    refine HL_y (y_move rfl) rfl ?_
                    refine HL_y (y_sub rfl rfl (i64w (by omega))) rfl ?_
                    refine HL_y (y_idx Try.underlying94 sz119 rfl rfl (S14.row 0 rfl) (Nt.mk (by omega) : Nt _ (j - 1)) (by omega)) rfl ?_
                    refine HL_y (y_ldp (f := rowf) rowf_len Try.underlying119 rfl sz119 rfl (S14.row 0 rfl) (by omega) hx1) rfl ?_
                    refine HL_y (y_move rfl) rfl ?_
                    refine HL_y (y_nilp rfl) rfl ?_
                    refine HL_y (y_fieldA 0 Try.underlying97 rfl sz94 rfl rfl rfl) rfl ?_
                    refine HL_y (y_ldc Try.underlying94 rfl rfl (((S14.blk 1 rfl).cell _).trans (idxG_row _ _ _ _ _))) rfl ?_
                    refine HL_y (y_move rfl) rfl ?_
                    refine HL_y (y_idx Try.underlying94 sz119 rfl rfl (S14.row 0 rfl) inferInstance (by omega)) rfl ?_
                    refine HL_y (y_ldp (f := rowf) rowf_len Try.underlying119 rfl sz119 rfl (S14.row 0 rfl) (by omega) hx2) rfl ?_
                    refine HL_nil ?_
                    refine hK31 _ ?_
                    refine L_o (o_call Try.func64 rfl rfl (cmpR p q w14) rfl rfl ?_)
                    rintro e15 w15 ⟨v15, rfl, l15, rfl⟩
                    refine ⟨_, rfl, ?_⟩
                    have S15 := S14.like l15
                    refine L_y (y_geq rfl rfl) rfl ?_
                    refine L_nil ?_
                    refine hK30 _ _ ?_
                    refine T_cond rfl (fun h92 => ?_) (fun h92 => ?_)
                    ·
                      refine T_seq fun K32 hK32 => ?_
                      refine T_region ?_
                      refine L_y (y_assign rfl) rfl ?_
                      refine L_y (y_assign rfl) rfl ?_
                      refine L_nil ?_
                      refine hK32 _ _ ?_
                      refine T_ret ?_
                      repeat (first | with_reducible refine up_then ?_ | with_reducible refine up_in ?_)
                      refine ret2 rfl rfl rfl ?_
                      have he : openE b = 18 := openE_18 hpre h64 (not_str hx1 (by rw [show j - 1 + 1 = j by omega]; exact hx2) ((Oid.cmp_ge _ _).1 (by omega)))
                      exact ⟨_, rfl, .inl ⟨by rw [he]; decide, S15.like0, by rw [he]⟩⟩
                    ·
                      refine T_skip ?_
                      refine hK29 _ _ ?_
                      refine T_region ?_
                      refine L_y (y_move rfl) rfl ?_
                      refine L_y (y_add rfl rfl (i64w (by omega))) rfl ?_
                      refine L_y (y_assign rfl) rfl ?_
                      refine L_nil ?_
                      refine ⟨j + 1, by omega, ⟨⟨by omega, fun i x y hi hx hy => by rcases Nat.lt_or_ge (i + 1) j with q | q; exact hasc i x y q hx hy; (have e9 : i = j - 1 := by omega); subst e9; rw [hx1] at hx; cases hx; rw [show j - 1 + 1 = j by omega, hx2] at hy; cases hy; exact (Oid.cmp_lt _ _).1 (by omega)⟩, S15⟩, ?_⟩
                      exact (Sub.cons rfl (by first | rfl | exact congrArg (Value.int _) (by omega)) (Sub.cons rfl rfl (Sub.cons rfl rfl (Sub.cons rfl rfl (Sub.nil _)))))
                  ·
                    have hst : StR (rowsB b) := str_of_adj (fun i x y hi hx hy => hasc i x y (by omega) hx hy)
                    refine T_exit ?_
                    refine hK25 _ _ ?_
                    refine T_seq fun K33 hK33 => ?_
                    refine T_region ?_
                    refine L_y (y_move rfl) rfl ?_
                    refine L_y (y_move rfl) rfl ?_
                    refine L_y (y_nilp rfl) rfl ?_
                    refine L_y (y_fieldA 0 Try.underlying97 rfl sz94 rfl rfl rfl) rfl ?_
                    refine L_y (y_ldc Try.underlying94 rfl rfl (((S13.blk 1 rfl).cell _).trans (idxG_row _ _ _ _ _))) rfl ?_
                    refine L_o (o_call Try.func76 rfl rfl (fanC A5 (lastN b) (lastN b) (rowsB b) w13 (S13.row 0 rfl) (StR.fs hst)) rfl rfl ?_)
                    rintro e16 w16 ⟨v16, rfl, l16, rfl⟩
                    refine ⟨_, rfl, ?_⟩
                    have S16 := S13.like l16
                    refine L_y (y_nilp rfl) rfl ?_
                    refine L_y (y_fieldA 1 Try.underlying97 rfl sz95 rfl rfl rfl) rfl ?_
                    refine L_o (o_stR S16 1 rfl rfl rfl (by rw [List.size_toArray, fanF_len]; exact sz95) (by rw [idxG_len (by simp), List.size_toArray, fanF_len]; omega) (fun u hu => fanA_one _ _ u (by rw [List.toList_toArray] at hu; exact hu)) fun w17 S17 => ?_)
                    have S90 := S17.blkc 1 rfl (idxG_fan (by simp))
                    refine L_nil ?_
                    refine hK33 _ _ ?_
                    refine T_seq fun K34 hK34 => ?_
                    refine T_seq fun K35 hK35 => ?_
                    refine T_drawnL [(0, true), (1, true), (2, true), (3, true), (4, true), (5, true)] hmix (by kernel_rfl) fun w18 l18 => ?_
                    have S18 := S90.like l18
                    refine DL_y rfl (y_move rfl) rfl ?_
                    refine DL_y rfl (y_nilp rfl) rfl ?_
                    refine DL_y rfl (y_fieldA 1 Try.underlying97 rfl sz95 rfl rfl rfl) rfl ?_
                    refine DL_y rfl (y_ldW Try.underlying95 rfl sz95 rfl (S18.blk 1 rfl) (idxf_fan _ _ _ _ _)) rfl ?_
                    refine DL_y rfl (y_ldW Try.underlying95 rfl sz95 rfl (S18.blk 2 rfl) (said_whole _ 256 (Nat.le_refl _))) rfl ?_
                    refine DL_y rfl (y_neA (fun i => (cl (rowsB b) (i + 1) : Int)) (fun i => (b4 (b.drop 8) (4 * i) : Int)) Try.underlying95 Try.underlying3 sz3 (by kernel_rfl) rfl rfl (fun i hi => fan_at _ hi) (fun i hi => said_at b hi)) rfl ?_
                    refine DL_nil ?_
                    refine hK35 _ _ ?_
                    refine T_condB rfl (fun h106 => ?_) (fun h106 => ?_)
                    ·
                      refine T_seq fun K36 hK36 => ?_
                      refine T_region ?_
                      refine L_y (y_assign rfl) rfl ?_
                      refine L_y (y_assign rfl) rfl ?_
                      refine L_nil ?_
                      refine hK36 _ _ ?_
                      refine T_ret ?_
                      repeat (first | with_reducible refine up_then ?_ | with_reducible refine up_in ?_)
                      refine ret2 rfl rfl rfl ?_
                      have he : openE b = 18 := openE_18b hpre h64 hst (all_ne.1 h106)
                      exact ⟨_, rfl, .inl ⟨by rw [he]; decide, S18.like0, by rw [he]⟩⟩
                    ·
                      have hfan : FanOk b (rowsB b) := by by_cases q : FanOk b (rowsB b); exact q; exact absurd (all_ne.2 q) (by rw [h106]; decide)
                      refine T_skip ?_
                      refine hK34 _ _ ?_
                      refine T_seq fun K37 hK37 => ?_
                      refine T_seq fun K38 hK38 => ?_
                      refine T_region ?_
                      refine L_y (y_move rfl) rfl ?_
                      refine L_y (y_nilp rfl) rfl ?_
                      refine L_y (y_fieldA 0 Try.underlying97 rfl sz94 rfl rfl rfl) rfl ?_
                      refine L_y (y_ldc Try.underlying94 rfl rfl (((S18.blk 1 rfl).cell _).trans (idx_row _ _ _ _ _))) rfl ?_
                      refine L_y (y_len Try.underlying94 rfl) rfl ?_
                      refine L_y (y_move rfl) rfl ?_
                      refine L_nil ?_
                      refine hK38 _ _ ?_
                      refine T_block ?_
                      refine T_loop1 [(8, _), (110, _), (111, _)] (fun (k : Nat) => [(112, .int .i64 (k : Int))]) (fun (k : Nat) => (lastN b) - k) (fun (k : Nat) (w : World) => (k ≤ lastN b ∧ ∀ i x, i < k → (rowsB b)[i]? = some x → ¬ 1048576 < x.at_) ∧ Zx.St w0 noM [Zx.row 119 34 A5 (lastN b) (lastN b) ((rowsB b).flatMap rowf), blk g5 97 (idxf A5 (lastN b) (lastN b) (rowsB b) (ofB b)).toArray, blk b11 95 (said (b.drop 8)).toArray] w) 0 (Sub.cons rfl (by first | rfl | exact congrArg (Value.int _) (by omega)) (Sub.nil _)) (Sub.cons rfl rfl (Sub.cons rfl rfl (Sub.cons rfl rfl (Sub.nil _)))) ?_ ?_
                      ·
                        exact ⟨⟨by omega, fun i x hi => by omega⟩, S18⟩
                      ·
                        intro k w19 hrel
                        obtain ⟨⟨hk, hno⟩, S19⟩ := hrel
                        refine T_seq fun K39 hK39 => ?_
                        refine T_region ?_
                        refine L_y (y_lss rfl rfl) rfl ?_
                        refine L_nil ?_
                        refine hK39 _ _ ?_
                        refine T_seq fun K40 hK40 => ?_
                        refine T_cond rfl (fun h113 => ?_) (fun h113 => ?_)
                        ·
                          obtain ⟨x, hx⟩ : ∃ x, (rowsB b)[k]? = some x := ⟨_, List.getElem?_eq_getElem (by omega)⟩
                          refine T_skip ?_
                          refine hK40 _ _ ?_
                          refine T_seq fun K41 hK41 => ?_
                          refine T_block ?_
                          refine T_seq fun K42 hK42 => ?_
                          refine T_region ?_
                          refine L_y (y_idx Try.underlying94 sz119 rfl rfl (S19.row 0 rfl) inferInstance (by omega)) rfl ?_
                          refine L_y (y_ldp (f := rowf) rowf_len Try.underlying119 rfl sz119 rfl (S19.row 0 rfl) (by omega) hx) rfl ?_
                          refine L_o (o_alloc zz119 S19 rfl fun b20 w20 hb20 S20 => ?_)
                          refine L_o (o_stW S20 3 rfl rfl rfl (by rw [rowf_sz]; exact sz119) (by rw [rowf_sz]; rfl) (fun u hu => rowf_one _ u (by rw [List.toList_toArray] at hu; exact hu)) fun w21 S21 => ?_)
                          refine L_nil ?_
                          refine hK42 _ _ ?_
                          refine T_seq fun K43 hK43 => ?_
                          refine T_region ?_
                          refine L_y (y_fieldA 33 Try.underlying119 rfl sz3 rfl rfl rfl) rfl ?_
                          refine L_y (y_ldc Try.underlying3 rfl rfl (((S21.blk 3 rfl).cell _).trans (row33 x))) rfl ?_
                          refine L_y (y_gtr rfl rfl) rfl ?_
                          refine L_nil ?_
                          refine hK43 _ _ ?_
                          refine T_cond rfl (fun h118 => ?_) (fun h118 => ?_)
                          ·
                            refine T_seq fun K44 hK44 => ?_
                            refine T_region ?_
                            refine L_y (y_assign rfl) rfl ?_
                            refine L_y (y_assign rfl) rfl ?_
                            refine L_nil ?_
                            refine hK44 _ _ ?_
                            refine T_ret ?_
                            repeat (first | with_reducible refine up_then ?_ | with_reducible refine up_in ?_)
                            refine ret2 rfl rfl rfl ?_
                            have he : openE b = 2 := openE_2 hpre h64 hst hfan (any_far hx (by omega))
                            exact ⟨_, rfl, .inl ⟨by rw [he]; decide, S21.like0, by rw [he]⟩⟩
                          ·
                            refine T_skip ?_
                            refine hK41 _ _ ?_
                            refine T_region ?_
                            refine L_y (y_add rfl rfl (i64w (by omega))) rfl ?_
                            refine L_y (y_move rfl) rfl ?_
                            refine L_nil ?_
                            have S91 := S21.sel [0, 1, 2] (by decide)
                            refine ⟨k + 1, by omega, ⟨⟨by omega, fun i y hi hy => by rcases Nat.lt_or_ge i k with q | q; exact hno i y q hy; (have e9 : i = k := by omega); subst e9; rw [hx] at hy; cases hy; omega⟩, S91⟩, ?_⟩
                            exact (Sub.cons rfl (by first | rfl | exact congrArg (Value.int _) (by omega)) (Sub.cons rfl rfl (Sub.cons rfl rfl (Sub.cons rfl rfl (Sub.nil _)))))
                        ·
                          refine T_exit ?_
                          refine hK37 _ _ ?_
                          refine T_seq fun K45 hK45 => ?_
                          refine T_region ?_
                          refine L_y (y_move rfl) rfl ?_
                          refine L_y (y_assign rfl) rfl ?_
                          refine L_y (y_assign rfl) rfl ?_
                          refine L_nil ?_
                          refine hK45 _ _ ?_
                          refine T_ret ?_
                          repeat (first | with_reducible refine up_then ?_ | with_reducible refine up_in ?_)
                          refine ret2 rfl rfl rfl ?_
                          have he : openE b = 0 := openE_0 hpre h64 hst hfan (no_far fun i x hi hx => hno i x (by omega) hx)
                          rw [← hlen] at S19
                          exact ⟨_, rfl, .inr ⟨he, g5, A5, rfl, S19.sel [0, 1] (by decide)⟩⟩
end Go.Proofs.Ytgaklngnfecdaaa.Idx


/-
  Of the document: Join, bytes, Closed.
-/
namespace Go.Proofs.Ytgaklngnfecdaaa.Idx
open Go.RowKit Zk Zx
open Oid (idf idf_len cmpL)
set_option linter.unusedVariables false
set_option linter.unusedSimpArgs false

theorem take1L {α : Type} {l : List α} {k : Nat} {x : α} (hx : l[k]? = some x) : l.take (k + 1) = l.take k ++ [x] := by
  rw [List.take_add_one, hx]
  rfl
def okP (w : World) (B : Nat) (ps : List Part) : Prop := ∀ p ∈ ps, p.ok w ∧ p.n ≤ B
theorem okP.nil (w : World) (B : Nat) : okP w B [] := fun p hp => by cases hp
theorem okP.cons {w : World} {B : Nat} {p : Part} {ps : List Part} (h1 : p.ok w) (h2 : p.n ≤ B) (h : okP w B ps) : okP w B (p :: ps) := fun q hq => by
  rcases List.mem_cons.1 hq with rfl | hq
  · exact ⟨h1, h2⟩
  · exact h q hq
end Go.Proofs.Ytgaklngnfecdaaa.Idx


/-
  Places sorted by the document.
-/
namespace Go.Proofs.Ytgaklngnfecdaaa.Idx
open Go.RowKit Zk Zx
open Oid (idf idf_len cmpL)
set_option linter.unusedVariables false
set_option linter.unusedSimpArgs false

theorem pl_part {l : List Row} {k : Nat} {x : Row} (h : l[k]? = some x) : ((l.flatMap plf).drop (k * 34 + 0)).take 32 = idf x.id := by
  rw [flat_part plf 34 plf_len l k 0 32 x h (by omega)]
  exact (pl_id x).1
theorem pl_c32 {l : List Row} {k : Nat} {x : Row} (h : l[k]? = some x) : (l.flatMap plf)[k * 34 + 32]? = some (.int .i64 x.at_) := (flat_at plf 34 plf_len l k x h 32 (by omega)).trans (by have := pl32 x; rwa [List.getElem?_toArray] at this)
theorem pl_c0 {l : List Row} {k : Nat} {x : Row} (h : l[k]? = some x) : (l.flatMap plf)[k * 34 + 0]? = some (.int .u8 (fb x : Int)) := (flat_at plf 34 plf_len l k x h 0 (by omega)).trans (by
  unfold plf fb idf
  have h := x.id.h
  cases hl : x.id.l with
  | nil => rw [hl] at h; cases h
  | cons a r => rfl)
end Go.Proofs.Ytgaklngnfecdaaa.Idx


/-
  Make of the document.
-/
namespace Go.Proofs.Ytgaklngnfecdaaa.Idx
open Go.RowKit Zk Zx
open Oid (idf idf_len cmpL)
set_option linter.unusedVariables false
set_option linter.unusedSimpArgs false

theorem cl_step {l : List Row} {j m : Nat} {y : Row} (hy : l[j]? = some y) : cl (l.take (j + 1)) m = cl (l.take j) m + (if fb y < m then 1 else 0) := by
  unfold cl
  rw [take1L hy, List.countP_append]
  by_cases h : fb y < m <;> simp [h]
theorem cl_take (l : List Row) (j m : Nat) : cl (l.take j) m ≤ l.length := Nat.le_trans (cl_le _ _) (by rw [List.length_take]; omega)
end Go.Proofs.Ytgaklngnfecdaaa.Idx


/-
  What is laid is opened.
-/
namespace Go.Proofs.Ytgaklngnfecdaaa.Idx
open Go.RowKit Zk Zx
open Oid (idf idf_len cmpL)
set_option linter.unusedVariables false
set_option linter.unusedSimpArgs false

theorem be_all : ∀ (l : List UInt8) (a : Nat), l.foldl (fun n c => n * 256 + c.toNat) a = a * 256 ^ l.length + Oct.be l
  | [], a => by simp [Oct.be]
  | c :: l, a => by
    have e : Oct.be (c :: l) = c.toNat * 256 ^ l.length + Oct.be l := by
      rw [Oct.be, List.foldl_cons, be_all l]
      simp
    rw [List.foldl_cons, be_all l, e, List.length_cons, Nat.pow_succ, Nat.add_mul, Nat.mul_assoc a, Nat.mul_comm 256, Nat.add_assoc]
theorem be_cons (c : UInt8) (l : List UInt8) : Oct.be (c :: l) = c.toNat * 256 ^ l.length + Oct.be l := by
  rw [Oct.be, List.foldl_cons, be_all l]
  simp
theorem be_tl (v : Nat) : ∀ j, Oct.be (Oct.tl v j) = v % 256 ^ j
  | 0 => by simp [Oct.tl, Oct.be, Nat.mod_one]
  | j + 1 => by
    rw [Oct.tl, be_cons, Oct.length_tl, be_tl v j, UInt8.toNat_ofNat', Nat.mod_mod, Nat.pow_succ, Nat.mod_mul, Nat.add_comm, Nat.mul_comm]
theorem be_tl4 {v : Nat} (h : v < 4294967296) : Oct.be (Oct.tl v 4) = v := by
  rw [be_tl, Nat.mod_eq_of_lt (by simpa using h)]
theorem tl_be4 {l : List UInt8} (h : l.length = 4) : Oct.tl (Oct.be l) 4 = l := by
  match l, h with
  | [a, b, c, d], _ =>
    have ha := a.toNat_lt
    have hb := b.toNat_lt
    have hc := c.toNat_lt
    have hd := d.toNat_lt
    simp only [Oct.be, Oct.tl, List.foldl_cons, List.foldl_nil, Nat.zero_mul, Nat.zero_add]
    have e1 : (((a.toNat * 256 + b.toNat) * 256 + c.toNat) * 256 + d.toNat) / 256 ^ 3 % 256 = a.toNat := by omega
    have e2 : (((a.toNat * 256 + b.toNat) * 256 + c.toNat) * 256 + d.toNat) / 256 ^ 2 % 256 = b.toNat := by omega
    have e3 : (((a.toNat * 256 + b.toNat) * 256 + c.toNat) * 256 + d.toNat) / 256 ^ 1 % 256 = c.toNat := by omega
    have e4 : (((a.toNat * 256 + b.toNat) * 256 + c.toNat) * 256 + d.toNat) / 256 ^ 0 % 256 = d.toNat := by omega
    rw [e1, e2, e3, e4]
    simp
/-- A chunk of many of one size. -/
theorem cutC {α : Type} (f : α → List UInt8) (s : Nat) (hf : ∀ x, (f x).length = s) : ∀ (l : List α) (k : Nat) (x : α), l[k]? = some x → ((l.flatMap f).drop (k * s)).take s = f x
  | [], k, x, h => by cases h
  | y :: l, 0, x, h => by
    cases h
    rw [List.flatMap_cons, Nat.zero_mul, List.drop_zero, List.take_append_of_le_length (by rw [hf]; omega), List.take_of_length_le (by rw [hf]; omega)]
  | y :: l, k + 1, x, h => by
    rw [List.flatMap_cons, show (k + 1) * s = (f y).length + k * s by rw [hf, Nat.succ_mul]; omega, ← List.drop_drop, List.drop_append_of_le_length (Nat.le_refl _), List.drop_of_length_le (Nat.le_refl _), List.nil_append]
    exact cutC f s hf l k x (by simpa using h)
/-- A part in the midst. -/
theorem midC {p q r : List UInt8} {a j s : Nat} (ha : a = p.length + j) (h : j + s ≤ q.length) : ((p ++ q ++ r).drop a).take s = (q.drop j).take s := by
  subst ha
  rw [List.append_assoc, ← List.drop_drop, List.drop_append_of_le_length (Nat.le_refl _), List.drop_of_length_le (Nat.le_refl _), List.nil_append, List.drop_append_of_le_length (by omega), List.take_append_of_le_length (by rw [List.length_drop]; omega)]
theorem idAt_of {t : List UInt8} {p : Nat} {z : Oid.Id} (h : (t.drop p).take 32 = z.l) : idAt t p = z := by
  unfold idAt
  rw [dif_pos (by rw [h]; exact z.h)]
  exact Oid.Id.ext h
theorem cl_all (l : List Row) : cl l 256 = l.length := by
  unfold cl
  rw [List.countP_eq_length]
  intro x _
  simpa using fb_lt x
section
variable {zs : List Row} {of : Oid.Id}
theorem layB_len : (layB zs of).length = 1096 + 40 * zs.length := by
  unfold layB
  rw [List.length_append, bodyB_len, Sha.length_ofL]
  omega
theorem lay_head : (layB zs of).take 4 = INDX := by
  unfold layB
  rw [bodyB_eq]
  unfold headB
  simp only [List.append_assoc]
  rfl
theorem lay_ver : b4 (layB zs of) 4 = 1 := by
  unfold b4 layB
  have h := midC (p := [73, 78, 68, 88]) (q := Oct.tl 1 4) (r := fanB zs 256 ++ idsB zs ++ smsB zs ++ atsB zs ++ of.l ++ Sha.ofL (bodyB zs of)) (a := 4) (j := 0) (s := 4) rfl (by rw [Oct.length_tl]; omega)
  have e : bodyB zs of ++ Sha.ofL (bodyB zs of) = [73, 78, 68, 88] ++ Oct.tl 1 4 ++ (fanB zs 256 ++ idsB zs ++ smsB zs ++ atsB zs ++ of.l ++ Sha.ofL (bodyB zs of)) := by
    rw [bodyB_eq]; unfold headB; simp only [List.append_assoc]
  rw [e, h, List.drop_zero, List.take_of_length_le (by rw [Oct.length_tl]; omega)]
  exact be_tl4 (by omega)
theorem lay_fan {c : Nat} (hc : c < 256) (hn : zs.length ≤ 600) : b4 (layB zs of) (8 + 4 * c) = cl zs (c + 1) := by
  unfold b4 layB
  have e : bodyB zs of ++ Sha.ofL (bodyB zs of) = headB ++ fanB zs 256 ++ (idsB zs ++ smsB zs ++ atsB zs ++ of.l ++ Sha.ofL (bodyB zs of)) := by
    rw [bodyB_eq]; simp only [List.append_assoc]
  have h := midC (p := headB) (q := fanB zs 256) (r := idsB zs ++ smsB zs ++ atsB zs ++ of.l ++ Sha.ofL (bodyB zs of)) (a := 8 + 4 * c) (j := 4 * c) (s := 4) (by rw [headB_len]) (by rw [fanB_len]; omega)
  rw [e, h, Nat.mul_comm 4 c]
  have h2 := cutC (fun c => Oct.tl (cl zs (c + 1)) 4) 4 (fun c => Oct.length_tl _ 4) (List.range 256) c c (by simp [hc])
  unfold fanB
  rw [h2]
  have := cl_le zs (c + 1)
  exact be_tl4 (by omega)
theorem lay_last (hn : zs.length ≤ 600) : lastN (layB zs of) = zs.length := by
  unfold lastN
  rw [show 1028 = 8 + 4 * 255 by omega, lay_fan (by omega) hn, show 255 + 1 = 256 by omega, cl_all]
theorem lay_id {i : Nat} {x : Row} (hx : zs[i]? = some x) : idAt ((layB zs of).drop 8) (1024 + 32 * i) = x.id := by
  refine idAt_of ?_
  have hi := (List.getElem?_eq_some_iff.1 hx).1
  rw [List.drop_drop]
  unfold layB
  have e : bodyB zs of ++ Sha.ofL (bodyB zs of) = (headB ++ fanB zs 256) ++ idsB zs ++ (smsB zs ++ atsB zs ++ of.l ++ Sha.ofL (bodyB zs of)) := by
    rw [bodyB_eq]; simp only [List.append_assoc]
  have h := midC (p := headB ++ fanB zs 256) (q := idsB zs) (r := smsB zs ++ atsB zs ++ of.l ++ Sha.ofL (bodyB zs of)) (a := 8 + (1024 + 32 * i)) (j := 32 * i) (s := 32) (by rw [List.length_append, headB_len, fanB_len]; omega) (by rw [idsB_len]; omega)
  rw [e, h, Nat.mul_comm 32 i]
  exact cutC (fun x : Row => x.id.l) 32 (fun x => x.id.h) zs i x hx
theorem lay_sm {i : Nat} {x : Row} (hx : zs[i]? = some x) (h0 : 0 ≤ x.sm) (h1 : x.sm ≤ 4294967295) : (b4 ((layB zs of).drop 8) (1024 + 32 * zs.length + 4 * i) : Int) = x.sm := by
  have hi := (List.getElem?_eq_some_iff.1 hx).1
  unfold b4
  rw [List.drop_drop]
  unfold layB
  have e : bodyB zs of ++ Sha.ofL (bodyB zs of) = (headB ++ fanB zs 256 ++ idsB zs) ++ smsB zs ++ (atsB zs ++ of.l ++ Sha.ofL (bodyB zs of)) := by
    rw [bodyB_eq]; simp only [List.append_assoc]
  have h := midC (p := headB ++ fanB zs 256 ++ idsB zs) (q := smsB zs) (r := atsB zs ++ of.l ++ Sha.ofL (bodyB zs of)) (a := 8 + (1024 + 32 * zs.length + 4 * i)) (j := 4 * i) (s := 4) (by rw [List.length_append, List.length_append, headB_len, fanB_len, idsB_len]; omega) (by rw [smsB_len]; omega)
  rw [e, h, Nat.mul_comm 4 i]
  have h2 := cutC (fun x : Row => Oct.tl x.sm.toNat 4) 4 (fun x => Oct.length_tl _ 4) zs i x hx
  unfold smsB
  rw [h2, be_tl4 (by omega)]
  omega
theorem lay_at {i : Nat} {x : Row} (hx : zs[i]? = some x) (h0 : 0 ≤ x.at_) (h1 : x.at_ ≤ 1048576) : (b4 ((layB zs of).drop 8) (1024 + 36 * zs.length + 4 * i) : Int) = x.at_ := by
  have hi := (List.getElem?_eq_some_iff.1 hx).1
  unfold b4
  rw [List.drop_drop]
  unfold layB
  have e : bodyB zs of ++ Sha.ofL (bodyB zs of) = (headB ++ fanB zs 256 ++ idsB zs ++ smsB zs) ++ atsB zs ++ (of.l ++ Sha.ofL (bodyB zs of)) := by
    rw [bodyB_eq]; simp only [List.append_assoc]
  have h := midC (p := headB ++ fanB zs 256 ++ idsB zs ++ smsB zs) (q := atsB zs) (r := of.l ++ Sha.ofL (bodyB zs of)) (a := 8 + (1024 + 36 * zs.length + 4 * i)) (j := 4 * i) (s := 4) (by rw [List.length_append, List.length_append, List.length_append, headB_len, fanB_len, idsB_len, smsB_len]; omega) (by rw [atsB_len]; omega)
  rw [e, h, Nat.mul_comm 4 i]
  have h2 := cutC (fun x : Row => Oct.tl x.at_.toNat 4) 4 (fun x => Oct.length_tl _ 4) zs i x hx
  unfold atsB
  rw [h2, be_tl4 (by omega)]
  omega
theorem lay_of (hn : zs.length ≤ 600) : ofB (layB zs of) = of := by
  unfold ofB
  rw [lay_last hn]
  refine idAt_of ?_
  rw [List.drop_drop]
  unfold layB
  have e : bodyB zs of ++ Sha.ofL (bodyB zs of) = (headB ++ fanB zs 256 ++ idsB zs ++ smsB zs ++ atsB zs) ++ of.l ++ Sha.ofL (bodyB zs of) := by
    rw [bodyB_eq]
  have h := midC (p := headB ++ fanB zs 256 ++ idsB zs ++ smsB zs ++ atsB zs) (q := of.l) (r := Sha.ofL (bodyB zs of)) (a := 8 + (1024 + 40 * zs.length)) (j := 0) (s := 32) (by rw [List.length_append, List.length_append, List.length_append, List.length_append, headB_len, fanB_len, idsB_len, smsB_len, atsB_len]; omega) (by rw [of.h]; omega)
  rw [e, h, List.drop_zero, List.take_of_length_le (by rw [of.h]; omega)]
theorem lay_rows (hn : zs.length ≤ 600) (hok : ∀ x ∈ zs, RowOk x) : rowsB (layB zs of) = zs := by
  unfold rowsB
  rw [lay_last hn]
  apply List.ext_getElem?
  intro i
  by_cases hi : i < zs.length
  · obtain ⟨x, hx⟩ : ∃ x, zs[i]? = some x := ⟨_, List.getElem?_eq_getElem hi⟩
    have hr := hok x (List.mem_of_getElem? hx)
    rw [rowsP_get hi, hx, if_pos hi, if_pos hi, if_pos hi, lay_id hx, lay_sm hx hr.s0 hr.s1, lay_at hx hr.a0 hr.a1]
  · rw [List.getElem?_eq_none (by rw [rowsP_len]; omega), List.getElem?_eq_none (by omega)]
/-- What is laid is opened. -/
theorem open_lay (hn : zs.length ≤ 600) (hok : ∀ x ∈ zs, RowOk x) (hs : StR zs) : openE (layB zs of) = 0 := by
  have hl := layB_len (zs := zs) (of := of)
  have hpre : Pre (layB zs of) := ⟨by omega, fun q => by rcases q with q | q; exact q lay_head; exact q lay_ver, by rw [lay_last hn]; omega, by rw [lay_last hn]; omega, by rw [lay_last hn]; omega⟩
  refine openE_0 hpre ?_ (by rw [lay_rows hn hok]; exact hs) (fun c hc => by rw [lay_rows hn hok]; have := lay_fan (of := of) hc hn; unfold b4 at this ⊢; rw [List.drop_drop, this]) ?_
  · have hb : (bodyB zs of).length = (layB zs of).length - 32 := by rw [bodyB_len]; omega
    unfold layB at hb ⊢
    rw [← hb, List.take_append_of_le_length (Nat.le_refl _), List.take_of_length_le (Nat.le_refl _), List.drop_append_of_le_length (Nat.le_refl _), List.drop_of_length_le (Nat.le_refl _), List.nil_append]
    exact fun q => q rfl
  · rw [lay_rows hn hok]
    exact no_far fun i x _ hx => by have := (hok x (List.mem_of_getElem? hx)).a1; omega
end
end Go.Proofs.Ytgaklngnfecdaaa.Idx


/-
  The law IndexMakes.
-/
namespace Go.Proofs.Ytgaklngnfecdaaa.Idx
open Go.RowKit Zk Zx
open Oid (idf idf_len cmpL)
set_option linter.unusedVariables false
set_option linter.unusedSimpArgs false

theorem openLay (B : Option Addr) (m d : Nat) (zs : List Row) (of : Oid.Id) (w0 : World) (hb : Rs w0 1 B m d (bL (layB zs of))) (hn : zs.length ≤ 600) (hok : ∀ x ∈ zs, RowOk x) (hs : StR zs) :
    Calls Try.prog 28 #[.slice B m d] w0 fun e w' => ∃ u, e = .returned u ∧ Like w0 w' ∧ ∃ g A, u = .tuple #[.pointer (some ⟨g, 0, none⟩), .int .i64 0] ∧ Zx.St w0 noM [Zx.row 119 34 A zs.length zs.length (zs.flatMap rowf), blk g 97 (idxf A zs.length zs.length zs of).toArray] w' :=
  (open_ B m d _ w0 hb).mono fun e w' ⟨u, h1, h2⟩ => by
    rcases h2 with ⟨h2, _⟩ | ⟨_, g, A, h3, h4⟩
    · exact absurd (open_lay hn hok hs) h2
    · rw [lay_rows hn hok, lay_of hn] at h4
      exact ⟨u, h1, h4.like0, g, A, h3, h4⟩
theorem found_yes {l : List Row} {k : Nat} {x : Row} {z : Oid.Id} {u : Value} (hs : StR l) (hx : l[k]? = some x) (hz : x.id = z) (h : Found l z u) : u = .tuple #[.agg (plf x).toArray, .bool true] := by
  rcases h with ⟨j, y, hy, e, rfl⟩ | ⟨h, _⟩
  · have e2 : x = y := by
      rcases Nat.lt_trichotomy k j with q | q | q
      · have := hs.at hx hy q
        rw [hz, ← e, Oid.lt_irr] at this
        cases this
      · subst q; rw [hx] at hy; cases hy; rfl
      · have := hs.at hy hx q
        rw [hz, ← e, Oid.lt_irr] at this
        cases this
    rw [e2]
  · exact absurd hz (h x (List.mem_of_getElem? hx))
def wI : Oid.Id := ⟨7 :: List.replicate 31 0, rfl⟩
def wO : Oid.Id := ⟨1 :: List.replicate 31 0, rfl⟩
def wR : Row := ⟨wI, 5, 12⟩
theorem made_w {bs : List UInt8} (h : Made [wR] wO bs) : mkE [wR] = 0 ∧ bs = layB [wR] wO := by
  have h0 : mkE [wR] = 0 := by decide +kernel
  rcases h with ⟨e, _⟩ | ⟨e, zs, hp, _, rfl⟩
  · exact absurd h0 e
  · exact ⟨h0, by rw [List.perm_singleton.1 hp]⟩
theorem w_ok : ∀ x ∈ [wR], RowOk x := fun x hx => by
  obtain rfl := List.mem_singleton.1 hx
  exact ⟨by decide, by decide, by decide, by decide⟩
theorem w_st : StR [wR] := List.pairwise_singleton _ _


set_option maxRecDepth 100000 in
theorem works  (w0 : World)  :
    Calls Try.prog 24 #[] w0 fun e w' => ∃ u, e = .returned u ∧ Like w0 w' ∧ u = .bool true := by
  refine enter1 (env := []) [] Try.func24 rfl Try.ntmps24 rfl rfl ?_
  have S0 := St.start w0 noM
  refine T_seq fun K1 hK1 => ?_
  refine T_region ?_
  refine L_y (y_assign rfl) rfl ?_
  refine L_nil ?_
  refine hK1 _ _ ?_
  refine T_seq fun K2 hK2 => ?_
  refine T_region ?_
  refine L_y (y_build rfl (show _ = some (idf wI).toArray by kernel_rfl)) rfl ?_
  refine L_y (y_build rfl (show _ = some (plf wR).toArray by kernel_rfl)) rfl ?_
  refine L_o (o_bsl (plf wR) te43 zz62 S0 rfl rfl rfl (by simp [Value.cells, plf_len]) (by simp [Value.cells]) rfl rfl rfl fun b1 w1 S1 => ?_)
  refine L_y (y_build rfl (show _ = some (idf wO).toArray by kernel_rfl)) rfl ?_
  refine L_o (o_call Try.func25 rfl rfl (make _ _ _ [wR] wO w1 (by have h := S1.row 0 rfl; simpa using h) (fun x hx => ⟨(w_ok x hx).s0, (w_ok x hx).s1⟩)) rfl rfl ?_)
  rintro e2 w2 ⟨v2, rfl, l2, A1, m1, c1, bs, rfl, hM, O2⟩
  refine ⟨_, rfl, ?_⟩
  have S2 := S1.adopt l2 O2
  obtain ⟨he, rfl⟩ := made_w hM
  rw [he]
  have hm1 := (S2.row 1 rfl).lenb; rw [layB_len] at hm1
  have hwl : [wR].length = 1 := rfl
  rw [hwl] at hm1
  refine L_y (y_move rfl) rfl ?_
  refine L_y (y_extract rfl rfl) rfl ?_
  refine L_y (y_extract rfl rfl) rfl ?_
  refine L_y (y_assign rfl) rfl ?_
  refine L_y (y_assign rfl) rfl ?_
  refine L_nil ?_
  refine hK2 _ _ ?_
  refine T_seq fun K3 hK3 => ?_
  refine T_region ?_
  refine L_y (y_move rfl) rfl ?_
  refine L_o (o_call Try.func28 rfl rfl (openLay _ _ _ [wR] wO w2 (S2.row 1 rfl) (by rw [hwl]; omega) w_ok w_st) rfl rfl ?_)
  rintro e3 w3 ⟨v3, rfl, l3, g2, A2, rfl, T3⟩
  refine ⟨_, rfl, ?_⟩
  have S3 := S2.adoptS T3
  refine L_y (y_move rfl) rfl ?_
  refine L_y (y_extract rfl rfl) rfl ?_
  refine L_y (y_extract rfl rfl) rfl ?_
  refine L_y (y_assign rfl) rfl ?_
  refine L_y (y_assign rfl) rfl ?_
  refine L_nil ?_
  refine hK3 _ _ ?_
  refine T_seq fun K4 hK4 => ?_
  refine T_region ?_
  refine L_y (y_move rfl) rfl ?_
  refine L_y (y_build rfl (show _ = some (idf wI).toArray by kernel_rfl)) rfl ?_
  refine L_o (o_call Try.func33 rfl rfl (find g2 A2 1 1 [wR] wO wI w3 (S3.blk 3 rfl) (S3.row 2 rfl) (S3.row_ne 2 3 rfl rfl rfl) w_st (by rw [hwl]; omega)) rfl rfl ?_)
  rintro e4 w4 ⟨v4, rfl, l4, hF4⟩
  refine ⟨_, rfl, ?_⟩
  have S4 := S3.like l4
  have hF := found_yes (k := 0) (x := wR) w_st rfl rfl hF4
  subst hF
  refine L_y (y_move rfl) rfl ?_
  refine L_y (y_extract rfl rfl) rfl ?_
  refine L_y (y_extract rfl rfl) rfl ?_
  refine L_o (o_alloc zz62 S4 rfl fun b5 w5 hb5 S5 => ?_)
  refine L_o (o_stW S5 4 rfl rfl rfl (by rw [plf_sz]; exact sz62) (by first | (rw [plf_sz, plf_sz]; done) | (rw [plf_sz]; rfl)) (fun u hu => plf_one _ u (by rw [List.toList_toArray] at hu; exact hu)) fun w6 S6 => ?_)
  refine L_y (y_assign rfl) rfl ?_
  refine L_nil ?_
  refine hK4 _ _ ?_
  refine T_seq fun K5 hK5 => ?_
  refine T_region ?_
  refine L_y (y_move rfl) rfl ?_
  refine L_y (y_eql rfl rfl) rfl ?_
  refine L_y (y_move rfl) rfl ?_
  refine L_split 28 rfl (fun h28 => ?_) (fun h28 => ?_)
  ·
    refine L_gyes rfl rfl ?_
    refine L_y (y_move rfl) rfl ?_
    refine L_gyes rfl rfl ?_
    refine L_y (y_eql rfl rfl) rfl ?_
    refine L_y ((by first | exact y_pickT rfl rfl | exact y_pickF rfl rfl)) rfl ?_
    refine L_y (y_move rfl) rfl ?_
    refine L_split 32 rfl (fun h32 => ?_) (fun h32 => ?_)
    ·
      refine L_gyes rfl rfl ?_
      refine L_y (y_move rfl) rfl ?_
      refine L_gyes rfl rfl ?_
      refine L_y (y_len Try.underlying27 rfl) rfl ?_
      refine L_gyes rfl rfl ?_
      refine L_y (y_eql rfl rfl) rfl ?_
      refine L_y ((by first | exact y_pickT rfl rfl | exact y_pickF rfl rfl)) rfl ?_
      refine L_y (y_move rfl) rfl ?_
      refine L_split 37 rfl (fun h37 => ?_) (fun h37 => ?_)
      ·
        refine L_gyes rfl rfl ?_
        refine L_y (y_move rfl) rfl ?_
        refine L_gyes rfl rfl ?_
        refine L_o (o_call Try.func31 rfl rfl (lenX g2 A2 1 1 [wR] wO w6 (S6.blk 3 rfl) (S6.row 2 rfl)) rfl rfl ?_)
        rintro e10 w10 ⟨v10, rfl, l10, rfl⟩
        refine ⟨_, rfl, ?_⟩
        have S10 := S6.like l10
        refine L_gyes rfl rfl ?_
        refine L_y (y_eql rfl rfl) rfl ?_
        refine L_y ((by first | exact y_pickT rfl rfl | exact y_pickF rfl rfl)) rfl ?_
        refine L_y (y_move rfl) rfl ?_
        refine L_split 42 rfl (fun h42 => ?_) (fun h42 => ?_)
        ·
          refine L_gyes rfl rfl ?_
          refine L_y (y_move rfl) rfl ?_
          refine L_y ((by first | exact y_pickT rfl rfl | exact y_pickF rfl rfl)) rfl ?_
          refine L_y (y_move rfl) rfl ?_
          refine L_gyes rfl rfl ?_
          refine L_y (y_fieldA 32 Try.underlying62 rfl sz3 rfl rfl rfl) rfl ?_
          refine L_gyes rfl rfl ?_
          refine L_y (y_ldc Try.underlying3 rfl rfl (((S10.blk 4 rfl).cell _).trans (pl32 wR))) rfl ?_
          refine L_gyes rfl rfl ?_
          refine L_y (y_eql rfl rfl) rfl ?_
          refine L_y ((by first | exact y_pickT rfl rfl | exact y_pickF rfl rfl)) rfl ?_
          refine L_y (y_move rfl) rfl ?_
          refine L_split 50 rfl (fun h50 => ?_) (fun h50 => ?_)
          ·
            refine L_gyes rfl rfl ?_
            refine L_y (y_move rfl) rfl ?_
            refine L_gyes rfl rfl ?_
            refine L_o (o_call Try.func32 rfl rfl (ofX g2 A2 1 1 [wR] wO w10 (S10.blk 3 rfl) (S10.row 2 rfl)) rfl rfl ?_)
            rintro e13 w13 ⟨v13, rfl, l13, rfl⟩
            refine ⟨_, rfl, ?_⟩
            have S13 := S10.like l13
            refine L_gyes rfl rfl ?_
            refine L_y (y_build rfl (show _ = some (idf wO).toArray by kernel_rfl)) rfl ?_
            refine L_gyes rfl rfl ?_
            refine L_y (y_eqB Try.underlying23 Try.underlying5 sz5 (by kernel_rfl) rfl rfl (Oid.Id.h wO) (Oid.Id.h wO)) rfl ?_
            refine L_y ((by first | exact y_pickT rfl rfl | exact y_pickF rfl rfl)) rfl ?_
            refine L_y (y_assign rfl) rfl ?_
            refine L_nil ?_
            refine hK5 _ _ ?_
            refine T_ret ?_
            repeat (first | with_reducible refine up_then ?_ | with_reducible refine up_in ?_)
            refine ret1 rfl rfl ?_
            exact ⟨_, rfl, S13.like0, by simp⟩
          ·
            exact absurd rfl h50
        ·
          exact absurd rfl h42
      ·
        exact absurd (by omega) h37
    ·
      exact absurd rfl h32
  ·
    exact absurd rfl h28


section
open Go.ChangeShapes Go.WideShapes Go.ChangeAt Go.Deep
set_option maxRecDepth 100000
variable {H : Type} {enc : TypeId × Value → H} {w : World} {base : Nat} {spare : Nat → Bool} {held : Bool}
theorem c3 : Try.prog.cellsOf 3 = 1 := by kernel_rfl
end
end Go.Proofs.Ytgaklngnfecdaaa.Idx


/-
  An id of the document's reader.
-/
namespace Go.Proofs.Ytgaklngnfecdaaa.Idx
open Go.RowKit Zk Zx
open Oid (idf idf_len cmpL)
set_option linter.unusedVariables false
set_option linter.unusedSimpArgs false

open Oct (xr xr_lt)
/-- An id of which k bytes are there. -/
def idp (l : List UInt8) (k : Nat) : List UInt8 := l.take k ++ List.replicate (32 - k) 0
theorem idp_len {l : List UInt8} (h : l.length = 32) {k : Nat} (hk : k ≤ 32) : (idp l k).length = 32 := by simp [idp]; omega
theorem idp_set {l : List UInt8} {k : Nat} {x : UInt8} (hx : l[k]? = some x) (hl : l.length = 32) (hk : k < 32) : (bA (idp l k)).setIfInBounds k (.int .u8 (x.toNat : Int)) = bA (idp l (k + 1)) := by
  show ((bL (idp l k)).toArray).setIfInBounds k _ = (bL (idp l (k + 1))).toArray
  rw [List.setIfInBounds_toArray]
  refine congrArg List.toArray ?_
  have e : (bL (idp l k)).set k (.int .u8 (x.toNat : Int)) = bL ((idp l k).set k x) := by
    unfold bL
    rw [List.map_set]
    rfl
  rw [e]
  refine congrArg bL ?_
  unfold idp
  rw [List.set_append_right _ _ (by rw [List.length_take]; omega), take1L hx, List.append_assoc, List.length_take, Nat.min_eq_left (by omega), Nat.sub_self, show 32 - k = (32 - (k + 1)) + 1 by omega, List.replicate_succ]
  rfl
theorem idp_all {l : List UInt8} (h : l.length = 32) : idp l 32 = l := by
  unfold idp
  rw [List.take_of_length_le (by omega)]
  simp
theorem b_whole {l : List UInt8} (h : l.length = 32) : ((bA l).toList.drop 0).take 32 = bL l ∧ (bL l).length = 32 := ⟨by rw [List.drop_zero]; exact List.take_of_length_le (by show (bL l).toArray.toList.length ≤ 32; rw [List.toList_toArray, length_bL]; omega), by rw [length_bL]; exact h⟩


set_option maxRecDepth 100000 in
theorem rid (g : Nat) (A : Option Addr) (n c : Nat) (l : List UInt8) (p : Nat) (z : Oid.Id) (w0 : World) (hw : (xr g A n c p 0).holds w0) (hb : Rs w0 1 A n c (bL l)) (hp : p + 32 ≤ l.length) (hn : n ≤ 70368744177664) (hbg : ∀ ad, 0 < n → A = some ad → ad.block ≠ g) (hz : z.l = (l.drop p).take 32) :
    Calls Try.prog 78 #[.pointer (some ⟨g, 0, none⟩)] w0 fun e w' => ∃ u, e = .returned u ∧ Turned w0 w' (xr g A n c p 0) (xr g A n c (p + 32) 0) ∧ u = .agg (idf z).toArray := by
  refine enter1 (env := [(0, .pointer (some ⟨g, 0, none⟩))]) [.pointer (some ⟨g, 0, none⟩)] Try.func78 rfl Try.ntmps78 rfl rfl ?_
  have S0 := St.borrow1 (xr g A n c p 0) hw (xr_lt hw)
  refine T_seq fun K1 hK1 => ?_
  refine T_region ?_
  refine L_o (o_alloc zz23 S0 rfl fun b1 w1 hb1 S1 => ?_)
  refine L_nil ?_
  refine hK1 _ _ ?_
  refine T_seq fun K2 hK2 => ?_
  refine T_region ?_
  refine L_y (y_move rfl) rfl ?_
  refine L_o (o_call Try.func120 rfl rfl (Oct.xraw g A n c l p 0 (32 : Nat) w1 (S1.get 0 rfl) (S1.rdM hb hbg) (by omega) hn hbg (by omega)) rfl rfl ?_)
  rintro e2 w2 ⟨v2, rfl, T2, B7, d7, rfl, hr2, hd2⟩
  refine ⟨_, rfl, ?_⟩
  have S2 := S1.turn 0 rfl T2
  obtain ⟨e1, e2, e3⟩ := Oct.rn_ok (l := l) (p := p) (k := 32) (by omega)
  rw [e1, ← hz] at hr2 hd2
  have S3 := St.newT S1 0 rfl T2 (fun i hi => hi) hr2 (fun i hi => ⟨hd2 i hi, (World.ownsRow.lt hr2 i hi).2⟩)
  rw [e2, e3] at S3
  rw [e1, ← hz, z.h]
  rw [z.h] at S3
  refine L_y (y_assign rfl) rfl ?_
  refine L_nil ?_
  refine hK2 _ _ ?_
  refine T_seq fun K3 hK3 => ?_
  refine T_region ?_
  refine L_o (o_alloc zz23 S3 rfl fun b4 w4 hb4 S4 => ?_)
  refine L_nil ?_
  refine hK3 _ _ ?_
  refine T_seq fun K4 hK4 => ?_
  refine T_seq fun K5 hK5 => ?_
  refine T_region ?_
  refine L_y (y_assign rfl) rfl ?_
  refine L_nil ?_
  refine hK5 _ _ ?_
  refine T_block ?_
  refine T_loop1 [(2, _), (3, _), (4, _)] (fun (k : Nat) => [(5, .int .i64 (k : Int))]) (fun (k : Nat) => 32 - k) (fun (k : Nat) (w : World) => k ≤ 32 ∧ Zx.St w0 (xr g A n c p 0).dom [xr g A n c (p + 32) 0, blk b1 23 (bA (idp z.l 0)), Zx.row 5 1 B7 32 d7 (bL z.l), blk b4 23 (bA (idp z.l k))] w) 0 (Sub.cons rfl (by first | rfl | exact congrArg (Value.int _) (by omega)) (Sub.nil _)) (Sub.cons rfl rfl (Sub.cons rfl rfl (Sub.cons rfl rfl (Sub.nil _)))) ?_ ?_
  ·
    have S70 : Zx.St w0 (xr g A n c p 0).dom [xr g A n c (p + 32) 0, blk b1 23 (bA (idp z.l 0)), Zx.row 5 1 B7 32 d7 (bL z.l), blk b4 23 (bA (idp z.l 0))] w4 := S4.cast (by kernel_rfl)
    exact ⟨by omega, S70⟩
  ·
    intro k w5 hrel
    obtain ⟨hk, S5⟩ := hrel
    refine T_seq fun K6 hK6 => ?_
    refine T_seq fun K7 hK7 => ?_
    refine T_region ?_
    refine L_y (y_move rfl) rfl ?_
    refine L_y (y_move rfl) rfl ?_
    refine L_y (y_len Try.underlying27 rfl) rfl ?_
    refine L_y (y_lss rfl rfl) rfl ?_
    refine L_nil ?_
    refine hK7 _ _ ?_
    refine T_cond rfl (fun h11 => ?_) (fun h11 => ?_)
    ·
      have hz32 := z.h
      obtain ⟨x, hx⟩ : ∃ x, z.l[k]? = some x := ⟨_, List.getElem?_eq_getElem (by omega)⟩
      refine T_skip ?_
      refine hK6 _ _ ?_
      refine T_seq fun K8 hK8 => ?_
      refine T_block ?_
      refine T_region ?_
      refine L_y (y_move rfl) rfl ?_
      refine L_y (y_move rfl) rfl ?_
      refine L_y (y_move rfl) rfl ?_
      refine L_y (y_idx Try.underlying27 sz5 rfl rfl (S5.row 2 rfl) inferInstance (by omega)) rfl ?_
      refine L_y (y_ldr Try.underlying5 rfl rfl (S5.row 2 rfl) (bL_get _ _ _ hx)) rfl ?_
      refine L_y (y_idxA0 Try.underlying23 sz5 rfl rfl inferInstance (by omega)) rfl ?_
      refine L_o (o_st1 S5 3 rfl rfl rfl rfl sz5 (by show k < (bL (idp z.l k)).toArray.size; rw [List.size_toArray, length_bL, idp_len z.h (by omega)]; omega) fun w6 S6 => ?_)
      have S90 := S6.blkc 3 rfl (idp_set hx z.h (by omega))
      refine L_nil ?_
      refine hK8 _ _ ?_
      refine T_region ?_
      refine L_y (y_move rfl) rfl ?_
      refine L_y (y_add rfl rfl (i64w (by omega))) rfl ?_
      refine L_y (y_assign rfl) rfl ?_
      refine L_nil ?_
      refine ⟨k + 1, by omega, ⟨by omega, S90⟩, ?_⟩
      exact (Sub.cons rfl (by first | rfl | exact congrArg (Value.int _) (by omega)) (Sub.cons rfl rfl (Sub.cons rfl rfl (Sub.cons rfl rfl (Sub.nil _)))))
    ·
      obtain rfl : k = 32 := by omega
      rw [idp_all z.h] at S5
      refine T_exit ?_
      refine hK4 _ _ ?_
      refine T_seq fun K9 hK9 => ?_
      refine T_region ?_
      refine L_y (y_ldW Try.underlying23 rfl sz23 rfl (S5.blk 3 rfl) (b_whole z.h)) rfl ?_
      refine L_o (o_stW S5 1 rfl rfl rfl (by rw [List.size_toArray, length_bL, z.h]; exact sz23) (by rw [size_bA, List.size_toArray, length_bL, z.h, idp_len z.h (by omega)]) (bL_one _) fun w7 S7 => ?_)
      refine L_nil ?_
      refine hK9 _ _ ?_
      refine T_ret ?_
      repeat (first | with_reducible refine up_then ?_ | with_reducible refine up_in ?_)
      refine retc rfl rfl (S7.blk 1 rfl) Try.underlying23 rfl (by rw [List.size_toArray, length_bL, z.h]; exact sz23) ?_
      exact ⟨_, rfl, S7.turned1 0 rfl, rfl⟩
end Go.Proofs.Ytgaklngnfecdaaa.Idx


/-
  Open of the document.
-/
namespace Go.Proofs.Ytgaklngnfecdaaa.Idx
open Go.RowKit Zk Zx
open Oid (idf idf_len cmpL)
set_option linter.unusedVariables false
set_option linter.unusedSimpArgs false

open Oct (xr xr_lt)
/-- The document's index: its places, its trailer. -/
def rixf (A : Option Addr) (n c : Nat) (of : Oid.Id) : List Value := .slice A n c :: idf of
theorem rixf_len (A : Option Addr) (n c : Nat) (of : Oid.Id) : (rixf A n c of).length = 33 := by simp [rixf, idf_len]
theorem rixf_one (A : Option Addr) (n c : Nat) (of : Oid.Id) : ∀ u ∈ rixf A n c of, u.oneCell' = true := fun u hu => by
  rcases List.mem_cons.1 hu with rfl | h
  · rfl
  · exact bL_one _ u h
theorem rixf_row (A : Option Addr) (n c : Nat) (of : Oid.Id) : (rixf A n c of).toArray[0]? = some (.slice A n c) := rfl
theorem rixf_of (A : Option Addr) (n c : Nat) (of : Oid.Id) : ((rixf A n c of).toArray.toList.drop 1).take 32 = idf of ∧ (idf of).length = 32 := ⟨by unfold rixf; rw [List.toList_toArray, List.drop_succ_cons, List.drop_zero]; exact List.take_of_length_le (by rw [idf_len]; omega), idf_len of⟩
theorem rixf_whole (A : Option Addr) (n c : Nat) (of : Oid.Id) : ((rixf A n c of).toArray.toList.drop 0).take 33 = rixf A n c of ∧ (rixf A n c of).length = 33 := ⟨by rw [List.drop_zero, List.toList_toArray]; exact List.take_of_length_le (by rw [rixf_len]; omega), rixf_len A n c of⟩
theorem rixf_setr {A A' : Option Addr} {n c n' c' : Nat} {of : Oid.Id} : (rixf A n c of).toArray.setIfInBounds 0 (.slice A' n' c') = (rixf A' n' c' of).toArray := by
  rw [List.setIfInBounds_toArray]
  rfl
theorem rixf_seto {A : Option Addr} {n c : Nat} {of z : Oid.Id} : ((rixf A n c of).toArray.toList.take 1 ++ (idf z).toArray.toList ++ (rixf A n c of).toArray.toList.drop (1 + (idf z).toArray.size)).toArray = (rixf A n c z).toArray := by
  refine congrArg List.toArray ?_
  rw [List.drop_of_length_le (by rw [List.toList_toArray, rixf_len, List.size_toArray, idf_len]; omega), List.append_nil]
  rfl
/-- What the document's Open answers. -/
def ROpened (w0 w' : World) (b : List UInt8) (u : Value) : Prop := (openE b ≠ 0 ∧ u = .tuple #[.agg (rixf none 0 0 zI).toArray, .int .i64 (openE b)]) ∨ (openE b = 0 ∧ ∃ A c, u = .tuple #[.agg (rixf A (rowsB b).length c (ofB b)).toArray, .int .i64 0] ∧ w'.ownsRow w0.heap.size 86 34 (.slice A (rowsB b).length c) (rowsB b).length ((rowsB b).flatMap plf))
theorem idAt_8 (b : List UInt8) (p : Nat) : idAt (b.drop 8) p = idAt b (8 + p) := by unfold idAt; simp only [List.drop_drop]
theorem b4_8 (b : List UInt8) (p : Nat) : b4 (b.drop 8) p = b4 b (8 + p) := by unfold b4; rw [List.drop_drop]
/-- The rows read so far, in places. -/
theorem pl_set32 (x : Row) (v : Int) : plf { x with at_ := v } = (plf x).set 32 (.int .i64 v) := by
  unfold plf
  rw [List.set_append_right _ _ (by rw [idf_len]; omega), idf_len]
  rfl
theorem pl_set33 (x : Row) (v : Int) : plf { x with sm := v } = (plf x).set 33 (.int .u32 v) := by
  unfold plf
  rw [List.set_append_right _ _ (by rw [idf_len]; omega), idf_len]
  rfl
theorem flat_fldP {L : List Row} {k o : Nat} {x y : Row} {v : Value} (hx : L[k]? = some x) (ho : o < 34) (hy : plf y = (plf x).set o v) : (L.flatMap plf).set (k * 34 + o) v = (L.set k y).flatMap plf := by
  have hk := (List.getElem?_eq_some_iff.1 hx).1
  have hself : L.set k x = L := by
    obtain ⟨h1, h2⟩ := List.getElem?_eq_some_iff.1 hx
    rw [← h2, List.set_getElem_self]
  have e0 := flat_set plf plf_len L k x hk
  rw [hself] at e0
  rw [← flat_set plf plf_len L k _ hk, hy]
  have hT : ((L.flatMap plf).take (k * 34)).length = k * 34 := by
    rw [List.length_take, flat_len plf 34 plf_len]
    have : (k + 1) * 34 ≤ L.length * 34 := Nat.mul_le_mul_right _ hk
    omega
  conv => lhs; rw [← e0]
  rw [List.set_append_left _ _ (by rw [List.length_append, hT, plf_len]; omega), List.set_append_right _ _ (by rw [hT]; omega), hT, show k * 34 + o - k * 34 = o by omega]
theorem ver_iff (b : List UInt8) (h : 8 ≤ b.length) : (b.drop 4).take (8 - 4) = Oct.tl 1 4 ↔ b4 b 4 = 1 := by
  constructor
  · intro q
    unfold b4
    rw [show (8 - 4 : Nat) = 4 from rfl] at q
    rw [q]
    exact be_tl4 (by omega)
  · intro q
    have h4 : ((b.drop 4).take 4).length = 4 := by rw [List.length_take, List.length_drop]; omega
    have := tl_be4 h4
    unfold b4 at q
    rw [q] at this
    exact this.symm
theorem built_rz (z : Oid.Id) : Try.prog.built 86 [(0, .agg (idf z).toArray)] = some (plf ⟨z, 0, 0⟩).toArray := by
  obtain ⟨l, h⟩ := z
  obtain ⟨a0, a1, a2, a3, a4, a5, a6, a7, a8, a9, a10, a11, a12, a13, a14, a15, a16, a17, a18, a19, a20, a21, a22, a23, a24, a25, a26, a27, a28, a29, a30, a31, rfl⟩ := list32 l h
  kernel_rfl

theorem head_rs {w : World} {A : Option Addr} {n c : Nat} {b : List UInt8} (h : Rs w 1 A n c (bL b)) (h1 : 4 ≤ n) : Rs w 1 (cutA A c 0 1) (4 - 0) (c - 0) (bL (b.take 4)) := h.cutb (l := 0) (u := 4) (by omega) h1


set_option maxRecDepth 100000 in
theorem ropen (B : Option Addr) (m d : Nat) (b : List UInt8) (w0 : World) (hb : Rs w0 1 B m d (bL b)) (hm9 : m ≤ 100000) :
    Calls Try.prog 29 #[.slice B m d] w0 fun e w' => ∃ u, e = .returned u ∧ Like w0 w' ∧ ROpened w0 w' b u := by
  refine enter1 (env := [(0, .slice B m d)]) [.slice B m d] Try.func29 rfl Try.ntmps29 rfl rfl ?_
  have hm := hb.lenb; have hcap := hb.cap; have hmax := hb.max
  have S0 := St.start w0 noM
  refine T_seq fun K1 hK1 => ?_
  refine T_region ?_
  refine L_o (o_alloc zz53 S0 rfl fun b1 w1 hb1 S1 => ?_)
  have S2 : Zx.St w0 noM [blk b1 53 (rixf none 0 0 zI).toArray] w1 := S1.cast (by kernel_rfl)
  refine L_y (y_assign rfl) rfl ?_
  refine L_nil ?_
  refine hK1 _ _ ?_
  refine T_seq fun K2 hK2 => ?_
  refine T_seq fun K3 hK3 => ?_
  refine T_region ?_
  refine L_y (y_move rfl) rfl ?_
  refine L_y (y_len Try.underlying27 rfl) rfl ?_
  refine L_y (y_lss rfl rfl) rfl ?_
  refine L_nil ?_
  refine hK3 _ _ ?_
  refine T_cond rfl (fun h20 => ?_) (fun h20 => ?_)
  ·
    refine T_seq fun K4 hK4 => ?_
    refine T_region ?_
    refine L_y (y_build rfl (show _ = some (rixf none 0 0 zI).toArray by kernel_rfl)) rfl ?_
    refine L_o (o_stW S2 0 rfl rfl rfl (by rw [List.size_toArray, rixf_len]; exact sz53) (by first | (rw [List.size_toArray, List.size_toArray, rixf_len, rixf_len]; done) | (rw [List.size_toArray, rixf_len]; rfl) | (rw [List.size_toArray, rixf_len])) (fun u hu => rixf_one _ _ _ _ u (by rw [List.toList_toArray] at hu; exact hu)) fun w3 S3 => ?_)
    refine L_y (y_assign rfl) rfl ?_
    refine L_nil ?_
    refine hK4 _ _ ?_
    refine T_ret ?_
    repeat (first | with_reducible refine up_then ?_ | with_reducible refine up_in ?_)
    refine retct rfl rfl rfl (S3.blk 0 rfl) Try.underlying53 rfl (by rw [List.size_toArray, rixf_len]; exact sz53) ?_
    have he : openE b = 10 := openE_10 (by omega)
    exact ⟨_, rfl, S3.like0, .inl ⟨by rw [he]; decide, by rw [he]⟩⟩
  ·
    refine T_skip ?_
    refine hK2 _ _ ?_
    refine T_seq fun K5 hK5 => ?_
    refine T_seq fun K6 hK6 => ?_
    refine T_drawnL [(0, true), (1, true), (2, true), (3, true), (4, true), (5, true), (6, true), (7, false), (8, false), (9, true), (10, true)] hmix (by kernel_rfl) fun w4 l4 => ?_
    have S4 := S2.like l4
    refine DL_y rfl (y_move rfl) rfl ?_
    refine DL_y rfl (y_sliceH Try.underlying27 sz5 rfl rfl inferInstance (by omega)) rfl ?_
    refine DL_y rfl (y_bstr Try.underlying27 Try.underlying5 Try.underlying9 rfl (head_rs (S4.rd hb) (by omega))) rfl ?_
    refine DL_y rfl (y_sneq rfl rfl) rfl ?_
    refine DL_y rfl (y_move rfl) rfl ?_
    refine DL_split 26 rfl (fun h26 => ?_) (fun h26 => ?_)
    ·
      refine DL_gno rfl rfl rfl rfl ?_
      refine DL_gno rfl rfl rfl rfl ?_
      refine DL_ogno rfl rfl rfl rfl ?_
      refine DL_ogno rfl rfl rfl rfl ?_
      refine DL_gno rfl rfl rfl rfl ?_
      refine DL_y rfl ((by first | exact y_pickT rfl rfl | exact y_pickF rfl rfl)) rfl ?_
      refine DL_nil ?_
      refine hK6 _ _ ?_
      refine T_true rfl ?_
      refine T_seq fun K7 hK7 => ?_
      refine T_region ?_
      refine L_y (y_build rfl (show _ = some (rixf none 0 0 zI).toArray by kernel_rfl)) rfl ?_
      refine L_o (o_stW S4 0 rfl rfl rfl (by rw [List.size_toArray, rixf_len]; exact sz53) (by first | (rw [List.size_toArray, List.size_toArray, rixf_len, rixf_len]; done) | (rw [List.size_toArray, rixf_len]; rfl) | (rw [List.size_toArray, rixf_len])) (fun u hu => rixf_one _ _ _ _ u (by rw [List.toList_toArray] at hu; exact hu)) fun w5 S5 => ?_)
      refine L_y (y_assign rfl) rfl ?_
      refine L_nil ?_
      refine hK7 _ _ ?_
      refine T_ret ?_
      repeat (first | with_reducible refine up_then ?_ | with_reducible refine up_in ?_)
      refine retct rfl rfl rfl (S5.blk 0 rfl) Try.underlying53 rfl (by rw [List.size_toArray, rixf_len]; exact sz53) ?_
      have he : openE b = 12 := openE_12 (by omega) (.inl ((indx_ne _).1 h26))
      exact ⟨_, rfl, S5.like0, .inl ⟨by rw [he]; decide, by rw [he]⟩⟩
    ·
      have hx0 : b.take 4 = INDX := by by_cases q : b.take 4 = INDX; exact q; exact absurd ((indx_ne _).2 q) h26
      refine DL_gyes rfl rfl rfl (y_move rfl) rfl ?_
      refine DL_gyes rfl rfl rfl (y_slice Try.underlying27 sz5 rfl rfl rfl inferInstance inferInstance (by omega) (by omega)) rfl ?_
      refine DL_ogyes rfl rfl rfl (o_call Try.func68 rfl rfl (Oct.refbig 1 4 w4 (by omega) (by omega)) rfl rfl ?_)
      rintro e6 w6 ⟨v6, rfl, l6, A6, m6, c6, rfl, O6⟩
      refine ⟨_, rfl, l6, ?_⟩
      have S6 := S4.adopt l6 O6
      have q6 := l6
      refine DL_ogyes rfl rfl rfl (o_call Try.func18 rfl rfl (Oct.same _ _ _ _ _ _ _ _ w6 ((S6.rd hb).cutb (l := 4) (u := 8) (by omega) (by omega)) (S6.row 1 rfl)) rfl rfl ?_)
      rintro e7 w7 ⟨v7, rfl, l7, rfl⟩
      refine ⟨_, rfl, (Like.trans q6 l7), ?_⟩
      have S7 := S6.like l7
      have q7 := (Like.trans q6 l7)
      refine DL_gyes rfl rfl rfl ((by first | exact y_notD rfl | exact y_not rfl)) rfl ?_
      refine DL_y rfl ((by first | exact y_pickT rfl rfl | exact y_pickF rfl rfl)) rfl ?_
      refine DL_nil ?_
      refine hK6 _ _ ?_
      refine T_cond rfl (fun h32 => ?_) (fun h32 => ?_)
      ·
        refine T_seq fun K8 hK8 => ?_
        refine T_region ?_
        refine L_y (y_build rfl (show _ = some (rixf none 0 0 zI).toArray by kernel_rfl)) rfl ?_
        refine L_o (o_stW S7 0 rfl rfl rfl (by rw [List.size_toArray, rixf_len]; exact sz53) (by first | (rw [List.size_toArray, List.size_toArray, rixf_len, rixf_len]; done) | (rw [List.size_toArray, rixf_len]; rfl) | (rw [List.size_toArray, rixf_len])) (fun u hu => rixf_one _ _ _ _ u (by rw [List.toList_toArray] at hu; exact hu)) fun w8 S8 => ?_)
        refine L_y (y_assign rfl) rfl ?_
        refine L_nil ?_
        refine hK8 _ _ ?_
        refine T_ret ?_
        repeat (first | with_reducible refine up_then ?_ | with_reducible refine up_in ?_)
        refine retct rfl rfl rfl (S8.blk 0 rfl) Try.underlying53 rfl (by rw [List.size_toArray, rixf_len]; exact sz53) ?_
        have he : openE b = 12 := openE_12 (by omega) (.inr fun q => h32 ((ver_iff b (by omega)).2 q))
        exact ⟨_, rfl, S8.like0, .inl ⟨by rw [he]; decide, by rw [he]⟩⟩
      ·
        have hform : ¬ (b.take 4 ≠ INDX ∨ b4 b 4 ≠ 1) := fun q => by rcases q with q | q; exact q hx0; exact q ((ver_iff b (by omega)).1 (Classical.not_not.1 h32))
        refine T_skip ?_
        refine hK5 _ _ ?_
        refine T_seq fun K9 hK9 => ?_
        refine T_region ?_
        refine L_y (y_move rfl) rfl ?_
        refine L_y (y_build rfl (show _ = some #[Value.slice B m d, Value.int .i64 1028, Value.int .i64 0] by kernel_rfl)) rfl ?_
        refine L_o (o_box rfl S7 rfl fun b9 w9 hb9 S9 => ?_)
        have S10 := S9.sel [0, 2] (by decide)
        have S11 : Zx.St w0 noM [blk b1 53 (rixf none 0 0 zI).toArray, xr b9 B m d (1028) 0] w9 := S10.cast (by kernel_rfl)
        refine L_y (y_assign rfl) rfl ?_
        refine L_nil ?_
        refine hK9 _ _ ?_
        refine T_seq fun K10 hK10 => ?_
        refine T_region ?_
        refine L_y (y_move rfl) rfl ?_
        refine L_o (o_call Try.func77 rfl rfl (Oct.xbig b9 B m d b (1028) 0 4 w9 (S11.get 1 rfl) (S11.rd hb) (by omega) (by omega) (fun ad hn9 hA9 => by have h9 := old_block hb hn9 hA9; omega) (by omega)) rfl rfl ?_)
        rintro e12 w12 ⟨v12, rfl, rfl, T12⟩
        refine ⟨_, rfl, ?_⟩
        have S12 := S11.turn 1 rfl T12
        obtain ⟨e1, e2, e3⟩ := rw_ok (l := b) (p := 1028) (k := 4) (by omega)
        rw [e2, e3] at S12
        have e9 : Oct.be ((b.drop (1028)).take 4) = lastN b := rfl
        rw [e1, e9]
        have hlast : lastN b < 4294967296 := b4_lt _ _
        refine L_y (y_assign rfl) rfl ?_
        refine L_nil ?_
        refine hK10 _ _ ?_
        refine T_seq fun K11 hK11 => ?_
        refine T_seq fun K12 hK12 => ?_
        refine T_region ?_
        refine L_y (y_move rfl) rfl ?_
        refine L_y (y_gtr rfl rfl) rfl ?_
        refine L_nil ?_
        refine hK12 _ _ ?_
        refine T_cond rfl (fun h40 => ?_) (fun h40 => ?_)
        ·
          refine T_seq fun K13 hK13 => ?_
          refine T_region ?_
          refine L_y (y_build rfl (show _ = some (rixf none 0 0 zI).toArray by kernel_rfl)) rfl ?_
          refine L_o (o_stW S12 0 rfl rfl rfl (by rw [List.size_toArray, rixf_len]; exact sz53) (by first | (rw [List.size_toArray, List.size_toArray, rixf_len, rixf_len]; done) | (rw [List.size_toArray, rixf_len]; rfl) | (rw [List.size_toArray, rixf_len])) (fun u hu => rixf_one _ _ _ _ u (by rw [List.toList_toArray] at hu; exact hu)) fun w13 S13 => ?_)
          refine L_y (y_assign rfl) rfl ?_
          refine L_nil ?_
          refine hK13 _ _ ?_
          refine T_ret ?_
          repeat (first | with_reducible refine up_then ?_ | with_reducible refine up_in ?_)
          refine retct rfl rfl rfl (S13.blk 0 rfl) Try.underlying53 rfl (by rw [List.size_toArray, rixf_len]; exact sz53) ?_
          have he : openE b = 5 := openE_5 (by omega) hform (by omega)
          exact ⟨_, rfl, S13.like0, .inl ⟨by rw [he]; decide, by rw [he]⟩⟩
        ·
          refine T_skip ?_
          refine hK11 _ _ ?_
          refine T_seq fun K14 hK14 => ?_
          refine T_region ?_
          refine L_y (y_move rfl) rfl ?_
          refine L_y (y_conv is127 Try.underlying3 rfl (i64w (by omega))) rfl ?_
          refine L_y (y_assign rfl) rfl ?_
          refine L_nil ?_
          refine hK14 _ _ ?_
          refine T_seq fun K15 hK15 => ?_
          refine T_seq fun K16 hK16 => ?_
          refine T_region ?_
          refine L_y (y_move rfl) rfl ?_
          refine L_y (y_len Try.underlying27 rfl) rfl ?_
          refine L_y (y_move rfl) rfl ?_
          refine L_y (y_mul rfl rfl (i64w (by omega))) rfl ?_
          refine L_y (y_add rfl rfl (i64w (by omega))) rfl ?_
          refine L_y (y_lss rfl rfl) rfl ?_
          refine L_nil ?_
          refine hK16 _ _ ?_
          refine T_cond rfl (fun h49 => ?_) (fun h49 => ?_)
          ·
            refine T_seq fun K17 hK17 => ?_
            refine T_region ?_
            refine L_y (y_build rfl (show _ = some (rixf none 0 0 zI).toArray by kernel_rfl)) rfl ?_
            refine L_o (o_stW S12 0 rfl rfl rfl (by rw [List.size_toArray, rixf_len]; exact sz53) (by first | (rw [List.size_toArray, List.size_toArray, rixf_len, rixf_len]; done) | (rw [List.size_toArray, rixf_len]; rfl) | (rw [List.size_toArray, rixf_len])) (fun u hu => rixf_one _ _ _ _ u (by rw [List.toList_toArray] at hu; exact hu)) fun w14 S14 => ?_)
            refine L_y (y_assign rfl) rfl ?_
            refine L_nil ?_
            refine hK17 _ _ ?_
            refine T_ret ?_
            repeat (first | with_reducible refine up_then ?_ | with_reducible refine up_in ?_)
            refine retct rfl rfl rfl (S14.blk 0 rfl) Try.underlying53 rfl (by rw [List.size_toArray, rixf_len]; exact sz53) ?_
            have he : openE b = 10 := openE_10b (by omega) hform (by omega) (by omega)
            exact ⟨_, rfl, S14.like0, .inl ⟨by rw [he]; decide, by rw [he]⟩⟩
          ·
            refine T_skip ?_
            refine hK15 _ _ ?_
            refine T_seq fun K18 hK18 => ?_
            refine T_seq fun K19 hK19 => ?_
            refine T_region ?_
            refine L_y (y_move rfl) rfl ?_
            refine L_y (y_len Try.underlying27 rfl) rfl ?_
            refine L_y (y_move rfl) rfl ?_
            refine L_y (y_mul rfl rfl (i64w (by omega))) rfl ?_
            refine L_y (y_add rfl rfl (i64w (by omega))) rfl ?_
            refine L_y (y_gtr rfl rfl) rfl ?_
            refine L_nil ?_
            refine hK19 _ _ ?_
            refine T_cond rfl (fun h56 => ?_) (fun h56 => ?_)
            ·
              refine T_seq fun K20 hK20 => ?_
              refine T_region ?_
              refine L_y (y_build rfl (show _ = some (rixf none 0 0 zI).toArray by kernel_rfl)) rfl ?_
              refine L_o (o_stW S12 0 rfl rfl rfl (by rw [List.size_toArray, rixf_len]; exact sz53) (by first | (rw [List.size_toArray, List.size_toArray, rixf_len, rixf_len]; done) | (rw [List.size_toArray, rixf_len]; rfl) | (rw [List.size_toArray, rixf_len])) (fun u hu => rixf_one _ _ _ _ u (by rw [List.toList_toArray] at hu; exact hu)) fun w15 S15 => ?_)
              refine L_y (y_assign rfl) rfl ?_
              refine L_nil ?_
              refine hK20 _ _ ?_
              refine T_ret ?_
              repeat (first | with_reducible refine up_then ?_ | with_reducible refine up_in ?_)
              refine retct rfl rfl rfl (S15.blk 0 rfl) Try.underlying53 rfl (by rw [List.size_toArray, rixf_len]; exact sz53) ?_
              have he : openE b = 11 := openE_11 (by omega) hform (by omega) (by omega) (by omega)
              exact ⟨_, rfl, S15.like0, .inl ⟨by rw [he]; decide, by rw [he]⟩⟩
            ·
              have hpre : Pre b := ⟨by omega, hform, by omega, by omega, by omega⟩
              have hbl : b.length = 1096 + 40 * lastN b := by omega
              have hlen : (rowsB b).length = lastN b := rowsP_len _ _ _ _ _
              have e32 : (b.drop (b.length - 32)).take 32 = b.drop (b.length - 32) := List.take_of_length_le (by rw [List.length_drop]; omega)
              refine T_skip ?_
              refine hK18 _ _ ?_
              refine T_seq fun K21 hK21 => ?_
              refine T_region ?_
              refine L_y (y_move rfl) rfl ?_
              refine L_y (y_move rfl) rfl ?_
              refine L_y (y_len Try.underlying27 rfl) rfl ?_
              refine L_y (y_sub rfl rfl (i64w (by omega))) rfl ?_
              refine L_y (y_build rfl (show _ = some #[Value.slice B m d, Value.int .i64 ((m : Int) - 32), Value.int .i64 0] by kernel_rfl)) rfl ?_
              refine L_o (o_box rfl S12 rfl fun b16 w16 hb16 S16 => ?_)
              have S72 := S16.blkc 2 rfl (show #[Value.slice B m d, .int .i64 ((m : Int) - 32), .int .i64 0] = #[Value.slice B m d, .int .i64 ((b.length - 32 : Nat) : Int), .int .i64 ((0 : Nat) : Int)] by rw [show ((b.length - 32 : Nat) : Int) = (m : Int) - 32 by omega]; rfl)
              refine L_y (y_assign rfl) rfl ?_
              refine L_nil ?_
              refine hK21 _ _ ?_
              refine T_seq fun K22 hK22 => ?_
              refine T_seq fun K23 hK23 => ?_
              refine T_drawnX (fun w => Rs w 1 B m d (bL b)) hmix (by kernel_rfl) (fun w l => ((S72.like l).rd hb)) fun w17 l17 => ?_
              have S17 := S72.like l17
              refine DX_y 0 (by kernel_rfl) rfl (y_move rfl) rfl ?_
              refine DX_y 2 (by kernel_rfl) rfl (y_move rfl) rfl ?_
              refine DX_y 3 (by kernel_rfl) rfl (y_move rfl) rfl ?_
              refine DX_y 4 (by kernel_rfl) rfl (y_len Try.underlying27 rfl) rfl ?_
              refine DX_y 5 (by kernel_rfl) rfl (y_sub rfl rfl (i64w (by omega))) rfl ?_
              refine DX_y 6 (by kernel_rfl) rfl (y_sliceH Try.underlying27 sz5 rfl rfl (Nt.mk (by omega) : Nt _ (b.length - 32)) (by omega)) rfl ?_
              refine DX_o1 1 (by kernel_rfl) rfl ?_
              refine o_call Try.func78 rfl rfl (rid b16 B m d b (b.length - 32) (idAt b (b.length - 32)) w17 (S17.get 2 rfl) (S17.rd hb) (by omega) (by omega) (fun ad hn9 hA9 => by have h9 := old_block hb hn9 hA9; omega) (idAt_l (by omega))) rfl rfl ?_
              rintro e18 w18 ⟨v18, rfl, T18, rfl⟩
              refine ⟨_, rfl, ?_⟩
              have S18 := S17.turn 2 rfl T18
              refine ⟨(S18.rd hb), ?_⟩
              refine DX_o1 7 (by kernel_rfl) rfl ?_
              refine o_call Try.func79 rfl rfl (Sha.refof (b.take (b.length - 32)) _ _ _ w18 ((S18.rd hb).cutb (l := 0) (u := b.length - 32) (by omega) (by omega)) (by omega)) rfl rfl ?_
              rintro e19 w19 ⟨v19, rfl, l19, rfl⟩
              refine ⟨_, rfl, ?_⟩
              have S19 := S18.like l19
              refine ⟨(S19.rd hb), ?_⟩
              refine DX_y 8 (by kernel_rfl) rfl (y_neB Try.underlying23 Try.underlying5 sz5 (by kernel_rfl) rfl rfl (Oid.Id.h _) (Sha.length_ofL _)) rfl ?_
              refine DX_nil (by kernel_rfl) ?_
              refine hK23 _ _ ?_
              refine T_cond rfl (fun h72 => ?_) (fun h72 => ?_)
              ·
                rw [idAt_l (by omega), e32] at h72
                refine T_seq fun K24 hK24 => ?_
                refine T_region ?_
                refine L_y (y_build rfl (show _ = some (rixf none 0 0 zI).toArray by kernel_rfl)) rfl ?_
                refine L_o (o_stW S19 0 rfl rfl rfl (by rw [List.size_toArray, rixf_len]; exact sz53) (by first | (rw [List.size_toArray, List.size_toArray, rixf_len, rixf_len]; done) | (rw [List.size_toArray, rixf_len]; rfl) | (rw [List.size_toArray, rixf_len])) (fun u hu => rixf_one _ _ _ _ u (by rw [List.toList_toArray] at hu; exact hu)) fun w20 S20 => ?_)
                refine L_y (y_assign rfl) rfl ?_
                refine L_nil ?_
                refine hK24 _ _ ?_
                refine T_ret ?_
                repeat (first | with_reducible refine up_then ?_ | with_reducible refine up_in ?_)
                refine retct rfl rfl rfl (S20.blk 0 rfl) Try.underlying53 rfl (by rw [List.size_toArray, rixf_len]; exact sz53) ?_
                have he : openE b = 13 := openE_13 hpre (fun q => h72 q.symm)
                exact ⟨_, rfl, S20.like0, .inl ⟨by rw [he]; decide, by rw [he]⟩⟩
              ·
                rw [idAt_l (by omega), e32] at h72
                have hsum : ¬ Sha.ofL (b.take (b.length - 32)) ≠ b.drop (b.length - 32) := fun q => h72 (fun e => q e.symm)
                refine T_skip ?_
                refine hK22 _ _ ?_
                refine T_seq fun K25 hK25 => ?_
                refine T_region ?_
                refine L_o (o_alloc zz53 S19 rfl fun b21 w21 hb21 S21 => ?_)
                have S22 := S21.sel [0, 1, 3] (by decide)
                have S23 : Zx.St w0 noM [blk b1 53 (rixf none 0 0 zI).toArray, xr b9 B m d (1028 + 4) 0, blk b21 53 (rixf none 0 0 zI).toArray] w21 := S22.cast (by kernel_rfl)
                have S24 := S23.nilrow 86 34
                refine L_nil ?_
                refine hK25 _ _ ?_
                refine T_seq fun K26 hK26 => ?_
                refine T_seq fun K27 hK27 => ?_
                refine T_region ?_
                refine L_y (y_assign rfl) rfl ?_
                refine L_nil ?_
                refine hK27 _ _ ?_
                refine T_block ?_
                refine T_loop3 [(0, _), (2, _), (4, _), (6, _), (8, _)] (fun (k : Nat) (A1 : Option Addr) (c1 : Nat) => [(9, .int .i64 (k : Int))]) (fun (k : Nat) (A1 : Option Addr) (c1 : Nat) => (lastN b) - k) (fun (k : Nat) (A1 : Option Addr) (c1 : Nat) (w : World) => k ≤ (lastN b) ∧ Zx.St w0 noM [blk b1 53 (rixf none 0 0 zI).toArray, xr b9 B m d (1032 + 32 * k) 0, blk b21 53 (rixf A1 k c1 zI).toArray, Zx.row 86 34 A1 k c1 (((rowsP (b.drop 8) (lastN b) (lastN b) 0 0).take k).flatMap plf)] w) 0 none 0 (Sub.cons rfl (by first | rfl | exact congrArg (Value.int _) (by omega)) (Sub.nil _)) (Sub.cons rfl rfl (Sub.cons rfl rfl (Sub.cons rfl rfl (Sub.cons rfl rfl (Sub.cons rfl rfl (Sub.nil _)))))) ?_ ?_
                ·
                  have S71 : Zx.St w0 noM [blk b1 53 (rixf none 0 0 zI).toArray, xr b9 B m d (1032 + 32 * 0) 0, blk b21 53 (rixf none 0 0 zI).toArray, Zx.row 86 34 none 0 0 (((rowsP (b.drop 8) (lastN b) (lastN b) 0 0).take 0).flatMap plf)] w21 := S24.cast (by rw [List.take_zero]; rfl)
                  exact ⟨by omega, S71⟩
                ·
                  intro k A1 c1 w25 hrel
                  obtain ⟨hk, S25⟩ := hrel
                  refine T_seq fun K28 hK28 => ?_
                  refine T_seq fun K29 hK29 => ?_
                  refine T_region ?_
                  refine L_y (y_move rfl) rfl ?_
                  refine L_y (y_move rfl) rfl ?_
                  refine L_y (y_lss rfl rfl) rfl ?_
                  refine L_nil ?_
                  refine hK29 _ _ ?_
                  refine T_cond rfl (fun h76 => ?_) (fun h76 => ?_)
                  ·
                    have hx : (rowsP (b.drop 8) (lastN b) (lastN b) 0 0)[k]? = some ⟨idAt (b.drop 8) (1024 + 32 * k), 0, 0⟩ := by rw [rowsP_get (by omega), if_pos (by omega), if_neg (by omega), if_neg (by omega)]
                    refine T_skip ?_
                    refine hK28 _ _ ?_
                    refine T_seq fun K30 hK30 => ?_
                    refine T_block ?_
                    refine T_zed [0, 1, 2, 3, 4, 5] 6 [(0, 1), (1, 1), (2, 1), (3, 2), (4, 1), (5, 2), (6, 3), (7, 3), (8, 3)] hmix (by kernel_rfl) fun w26 l26 => ?_
                    have S26 := S25.like l26
                    refine ZA_B (fun w => Blk w b21 53 (rixf A1 k c1 zI).toArray) (S26.blk 2 rfl) ?_
                    refine ZB_y rfl (y_fieldA 0 Try.underlying53 rfl sz46 rfl rfl rfl) rfl ?_
                    refine ZB_y rfl (y_of fun w hw => y_ldc Try.underlying46 rfl rfl ((hw.cell _).trans (rixf_row _ _ _ _))) rfl ?_
                    refine ZB_y rfl (y_move rfl) rfl ?_
                    refine ZB_o rfl (o_call Try.func78 rfl rfl (rid b9 B m d b (1032 + 32 * k) (idAt (b.drop 8) (1024 + 32 * k)) w26 (S26.get 1 rfl) (S26.rd hb) (by omega) (by omega) (fun ad hn9 hA9 => by have h9 := old_block hb hn9 hA9; omega) (by rw [idAt_8, show 8 + (1024 + 32 * k) = 1032 + 32 * k by omega]; exact idAt_l (by omega))) rfl rfl ?_)
                    rintro e27 w27 ⟨v27, rfl, T27, rfl⟩
                    refine ⟨_, rfl, ?_⟩
                    have S27 := S26.turn 1 rfl T27
                    rw [show 1032 + 32 * k + 32 = 1032 + 32 * (k + 1) by omega] at S27
                    refine ⟨(S27.blk 2 rfl), ?_⟩
                    refine ZB_y rfl (y_build rfl (built_rz _)) rfl ?_
                    refine ZB_o rfl (o_bsl (plf ⟨idAt (b.drop 8) (1024 + 32 * k), 0, 0⟩) te46 zz86 S27 rfl rfl rfl (by simp [Value.cells, plf_len]) (by simp [Value.cells]) rfl rfl rfl fun b28 w28 S28 => ?_)
                    refine ⟨(S28.blk 2 rfl), ?_⟩
                    refine ZB_c rfl (o_app te46 S28 3 rfl rfl rfl (by first | exact S28.rd hb | exact S28.row 3 rfl | exact S28.row 4 rfl) (plf_one _) rfl (by omega) (by omega) fun A29 c29 w29 S29 => ?_)
                    have S29d := S29.drop (rs' := [_, _, _, _]) (.cons_cons _ (.cons_cons _ (.cons_cons _ (.cons_cons _ (.cons _ (.refl _))))))
                    refine ZA_oy rfl (y_fieldA 0 Try.underlying53 rfl sz46 rfl rfl rfl) rfl ?_
                    refine ZA_o rfl (o_st1 S29d 2 rfl rfl rfl rfl sz46 (by rw [List.size_toArray, rixf_len]; omega) fun w30 S30 => ?_)
                    have S90 := S30.blkc 2 rfl rixf_setr
                    refine ZA_nil ?_
                    refine hK30 _ _ ?_
                    refine T_region ?_
                    refine L_y (y_move rfl) rfl ?_
                    refine L_y (y_add rfl rfl (i64w (by omega))) rfl ?_
                    refine L_y (y_assign rfl) rfl ?_
                    refine L_nil ?_
                    have S91 := S90.sel [0, 1, 2, 3] (by decide)
                    have S92 := S91.rowc 3 rfl (n' := k + 1) (xs' := ((rowsP (b.drop 8) (lastN b) (lastN b) 0 0).take (k + 1)).flatMap plf) rfl (take1 plf hx).symm
                    refine ⟨k + 1, _, _, by omega, ⟨by omega, S92⟩, ?_⟩
                    exact (Sub.cons rfl (by first | rfl | exact congrArg (Value.int _) (by omega)) (Sub.cons rfl rfl (Sub.cons rfl rfl (Sub.cons rfl rfl (Sub.cons rfl rfl (Sub.cons rfl rfl (Sub.nil _)))))))
                  ·
                    have hke : k = lastN b := by omega
                    subst hke
                    rw [List.take_of_length_le (by rw [rowsP_len]; omega)] at S25
                    refine T_exit ?_
                    refine hK26 _ _ ?_
                    refine T_seq fun K31 hK31 => ?_
                    refine T_seq fun K32 hK32 => ?_
                    refine T_region ?_
                    refine L_y (y_assign rfl) rfl ?_
                    refine L_nil ?_
                    refine hK32 _ _ ?_
                    refine T_block ?_
                    refine T_loop1 [(0, _), (2, _), (4, _), (6, _), (8, _)] (fun (k : Nat) => [(10, .int .i64 (k : Int))]) (fun (k : Nat) => (lastN b) - k) (fun (k : Nat) (w : World) => k ≤ (lastN b) ∧ Zx.St w0 noM [blk b1 53 (rixf none 0 0 zI).toArray, xr b9 B m d (1032 + 32 * lastN b + 4 * k) 0, blk b21 53 (rixf A1 (lastN b) c1 zI).toArray, Zx.row 86 34 A1 (lastN b) c1 ((rowsP (b.drop 8) (lastN b) (lastN b) k 0).flatMap plf)] w) 0 (Sub.cons rfl (by first | rfl | exact congrArg (Value.int _) (by omega)) (Sub.nil _)) (Sub.cons rfl rfl (Sub.cons rfl rfl (Sub.cons rfl rfl (Sub.cons rfl rfl (Sub.cons rfl rfl (Sub.nil _)))))) ?_ ?_
                    ·
                      exact ⟨by omega, S25⟩
                    ·
                      intro k w31 hrel
                      obtain ⟨hk, S31⟩ := hrel
                      refine T_seq fun K33 hK33 => ?_
                      refine T_seq fun K34 hK34 => ?_
                      refine T_region ?_
                      refine L_y (y_move rfl) rfl ?_
                      refine L_y (y_move rfl) rfl ?_
                      refine L_y (y_lss rfl rfl) rfl ?_
                      refine L_nil ?_
                      refine hK34 _ _ ?_
                      refine T_cond rfl (fun h89 => ?_) (fun h89 => ?_)
                      ·
                        obtain ⟨x, hx⟩ : ∃ x, (rowsP (b.drop 8) (lastN b) (lastN b) k 0)[k]? = some x := ⟨_, List.getElem?_eq_getElem (by rw [rowsP_len]; omega)⟩
                        refine T_skip ?_
                        refine hK33 _ _ ?_
                        refine T_seq fun K35 hK35 => ?_
                        refine T_block ?_
                        refine T_drawnX (fun w => Blk w b21 53 (rixf A1 (lastN b) c1 zI).toArray) hmix (by kernel_rfl) (fun w l => ((S31.like l).blk 2 rfl)) fun w32 l32 => ?_
                        have S32 := S31.like l32
                        refine DX_y 0 (by kernel_rfl) rfl (y_fieldA 0 Try.underlying53 rfl sz46 rfl rfl rfl) rfl ?_
                        refine DX_y 1 (by kernel_rfl) rfl (y_of fun w hw => y_ldc Try.underlying46 rfl rfl ((hw.cell _).trans (rixf_row _ _ _ _))) rfl ?_
                        refine DX_y 2 (by kernel_rfl) rfl (y_move rfl) rfl ?_
                        refine DX_y 3 (by kernel_rfl) rfl (y_move rfl) rfl ?_
                        refine DX_o1 4 (by kernel_rfl) rfl ?_
                        refine o_call Try.func77 rfl rfl (Oct.xbig b9 B m d b (1032 + 32 * lastN b + 4 * k) 0 4 w32 (S32.get 1 rfl) (S32.rd hb) (by omega) (by omega) (fun ad hn9 hA9 => by have h9 := old_block hb hn9 hA9; omega) (by omega)) rfl rfl ?_
                        rintro e33 w33 ⟨v33, rfl, rfl, T33⟩
                        refine ⟨_, rfl, ?_⟩
                        have S33 := S32.turn 1 rfl T33
                        obtain ⟨e1, e2, e3⟩ := rw_ok (l := b) (p := 1032 + 32 * lastN b + 4 * k) (k := 4) (by omega)
                        rw [e2, e3] at S33
                        have e9 : Oct.be ((b.drop (1032 + 32 * lastN b + 4 * k)).take 4) = b4 (b.drop 8) (1024 + 32 * lastN b + 4 * k) := (by rw [b4_8, show 8 + (1024 + 32 * lastN b + 4 * k) = 1032 + 32 * lastN b + 4 * k by omega]; rfl)
                        rw [e1, e9]
                        rw [show 1032 + 32 * lastN b + 4 * k + 4 = 1032 + 32 * lastN b + 4 * (k + 1) by omega] at S33
                        have hb4 := b4_lt (b.drop 8) (1024 + 32 * lastN b + 4 * k)
                        refine ⟨(S33.blk 2 rfl), ?_⟩
                        refine DX_y 5 (by kernel_rfl) rfl (y_conv is127 Try.underlying60 rfl (u32w (by omega))) rfl ?_
                        refine DX_y 6 (by kernel_rfl) rfl (y_idx Try.underlying46 sz86 rfl rfl (S32.row 3 rfl) inferInstance (by omega)) rfl ?_
                        refine DX_y 7 (by kernel_rfl) rfl (y_fieldR 33 Try.underlying86 rfl sz60 rfl rfl (S32.row 3 rfl) (by omega) rfl) rfl ?_
                        refine DX_o1 8 (by kernel_rfl) rfl ?_
                        refine o_strowN S33 3 rfl rfl rfl rfl sz60 (by omega) fun w34 S34 => ?_
                        refine ⟨(S34.blk 2 rfl), ?_⟩
                        refine DX_nil (by kernel_rfl) ?_
                        refine hK35 _ _ ?_
                        refine T_region ?_
                        refine L_y (y_move rfl) rfl ?_
                        refine L_y (y_add rfl rfl (i64w (by omega))) rfl ?_
                        refine L_y (y_assign rfl) rfl ?_
                        refine L_nil ?_
                        have S91 := S34.rowc 3 rfl rfl ((flat_fldP (y := { x with sm := (b4 (b.drop 8) (1024 + 32 * lastN b + 4 * k) : Int) }) hx (by omega) (pl_set33 x _)).trans (congrArg (fun q => q.flatMap plf) (rowsP_sm (by omega) hx)))
                        refine ⟨k + 1, by omega, ⟨by omega, S91⟩, ?_⟩
                        exact (Sub.cons rfl (by first | rfl | exact congrArg (Value.int _) (by omega)) (Sub.cons rfl rfl (Sub.cons rfl rfl (Sub.cons rfl rfl (Sub.cons rfl rfl (Sub.cons rfl rfl (Sub.nil _)))))))
                      ·
                        have hke : k = lastN b := by omega
                        subst hke
                        rw [show 1032 + 32 * lastN b + 4 * lastN b = 1032 + 36 * lastN b + 4 * 0 by omega] at S31
                        refine T_exit ?_
                        refine hK31 _ _ ?_
                        refine T_seq fun K36 hK36 => ?_
                        refine T_seq fun K37 hK37 => ?_
                        refine T_region ?_
                        refine L_y (y_assign rfl) rfl ?_
                        refine L_nil ?_
                        refine hK37 _ _ ?_
                        refine T_block ?_
                        refine T_loop1 [(0, _), (2, _), (4, _), (6, _), (8, _)] (fun (k : Nat) => [(11, .int .i64 (k : Int))]) (fun (k : Nat) => (lastN b) - k) (fun (k : Nat) (w : World) => k ≤ (lastN b) ∧ Zx.St w0 noM [blk b1 53 (rixf none 0 0 zI).toArray, xr b9 B m d (1032 + 36 * lastN b + 4 * k) 0, blk b21 53 (rixf A1 (lastN b) c1 zI).toArray, Zx.row 86 34 A1 (lastN b) c1 ((rowsP (b.drop 8) (lastN b) (lastN b) (lastN b) k).flatMap plf)] w) 0 (Sub.cons rfl (by first | rfl | exact congrArg (Value.int _) (by omega)) (Sub.nil _)) (Sub.cons rfl rfl (Sub.cons rfl rfl (Sub.cons rfl rfl (Sub.cons rfl rfl (Sub.cons rfl rfl (Sub.nil _)))))) ?_ ?_
                        ·
                          exact ⟨by omega, S31⟩
                        ·
                          intro k w35 hrel
                          obtain ⟨hk, S35⟩ := hrel
                          refine T_seq fun K38 hK38 => ?_
                          refine T_seq fun K39 hK39 => ?_
                          refine T_region ?_
                          refine L_y (y_move rfl) rfl ?_
                          refine L_y (y_move rfl) rfl ?_
                          refine L_y (y_lss rfl rfl) rfl ?_
                          refine L_nil ?_
                          refine hK39 _ _ ?_
                          refine T_cond rfl (fun h102 => ?_) (fun h102 => ?_)
                          ·
                            obtain ⟨x, hx⟩ : ∃ x, (rowsP (b.drop 8) (lastN b) (lastN b) (lastN b) k)[k]? = some x := ⟨_, List.getElem?_eq_getElem (by rw [rowsP_len]; omega)⟩
                            refine T_skip ?_
                            refine hK38 _ _ ?_
                            refine T_seq fun K40 hK40 => ?_
                            refine T_block ?_
                            refine T_drawnX (fun w => Blk w b21 53 (rixf A1 (lastN b) c1 zI).toArray) hmix (by kernel_rfl) (fun w l => ((S35.like l).blk 2 rfl)) fun w36 l36 => ?_
                            have S36 := S35.like l36
                            refine DX_y 0 (by kernel_rfl) rfl (y_fieldA 0 Try.underlying53 rfl sz46 rfl rfl rfl) rfl ?_
                            refine DX_y 1 (by kernel_rfl) rfl (y_of fun w hw => y_ldc Try.underlying46 rfl rfl ((hw.cell _).trans (rixf_row _ _ _ _))) rfl ?_
                            refine DX_y 2 (by kernel_rfl) rfl (y_move rfl) rfl ?_
                            refine DX_y 3 (by kernel_rfl) rfl (y_move rfl) rfl ?_
                            refine DX_o1 4 (by kernel_rfl) rfl ?_
                            refine o_call Try.func77 rfl rfl (Oct.xbig b9 B m d b (1032 + 36 * lastN b + 4 * k) 0 4 w36 (S36.get 1 rfl) (S36.rd hb) (by omega) (by omega) (fun ad hn9 hA9 => by have h9 := old_block hb hn9 hA9; omega) (by omega)) rfl rfl ?_
                            rintro e37 w37 ⟨v37, rfl, rfl, T37⟩
                            refine ⟨_, rfl, ?_⟩
                            have S37 := S36.turn 1 rfl T37
                            obtain ⟨e1, e2, e3⟩ := rw_ok (l := b) (p := 1032 + 36 * lastN b + 4 * k) (k := 4) (by omega)
                            rw [e2, e3] at S37
                            have e9 : Oct.be ((b.drop (1032 + 36 * lastN b + 4 * k)).take 4) = b4 (b.drop 8) (1024 + 36 * lastN b + 4 * k) := (by rw [b4_8, show 8 + (1024 + 36 * lastN b + 4 * k) = 1032 + 36 * lastN b + 4 * k by omega]; rfl)
                            rw [e1, e9]
                            rw [show 1032 + 36 * lastN b + 4 * k + 4 = 1032 + 36 * lastN b + 4 * (k + 1) by omega] at S37
                            have hb4 := b4_lt (b.drop 8) (1024 + 36 * lastN b + 4 * k)
                            refine ⟨(S37.blk 2 rfl), ?_⟩
                            refine DX_y 5 (by kernel_rfl) rfl (y_conv is127 Try.underlying3 rfl (i64w (by omega))) rfl ?_
                            refine DX_y 6 (by kernel_rfl) rfl (y_idx Try.underlying46 sz86 rfl rfl (S36.row 3 rfl) inferInstance (by omega)) rfl ?_
                            refine DX_y 7 (by kernel_rfl) rfl (y_fieldR 32 Try.underlying86 rfl sz3 rfl rfl (S36.row 3 rfl) (by omega) rfl) rfl ?_
                            refine DX_o1 8 (by kernel_rfl) rfl ?_
                            refine o_strowN S37 3 rfl rfl rfl rfl sz3 (by omega) fun w38 S38 => ?_
                            refine ⟨(S38.blk 2 rfl), ?_⟩
                            refine DX_nil (by kernel_rfl) ?_
                            refine hK40 _ _ ?_
                            refine T_region ?_
                            refine L_y (y_move rfl) rfl ?_
                            refine L_y (y_add rfl rfl (i64w (by omega))) rfl ?_
                            refine L_y (y_assign rfl) rfl ?_
                            refine L_nil ?_
                            have S91 := S38.rowc 3 rfl rfl ((flat_fldP (y := { x with at_ := (b4 (b.drop 8) (1024 + 36 * lastN b + 4 * k) : Int) }) hx (by omega) (pl_set32 x _)).trans (congrArg (fun q => q.flatMap plf) (rowsP_at (by omega) hx)))
                            refine ⟨k + 1, by omega, ⟨by omega, S91⟩, ?_⟩
                            exact (Sub.cons rfl (by first | rfl | exact congrArg (Value.int _) (by omega)) (Sub.cons rfl rfl (Sub.cons rfl rfl (Sub.cons rfl rfl (Sub.cons rfl rfl (Sub.cons rfl rfl (Sub.nil _)))))))
                          ·
                            have hke : k = lastN b := by omega
                            subst hke
                            rw [show 1032 + 36 * lastN b + 4 * lastN b = 1032 + 40 * lastN b by omega] at S35
                            refine T_exit ?_
                            refine hK36 _ _ ?_
                            refine T_seq fun K41 hK41 => ?_
                            refine T_region ?_
                            refine L_y (y_move rfl) rfl ?_
                            refine L_o (o_call Try.func78 rfl rfl (rid b9 B m d b (1032 + 40 * lastN b) (ofB b) w35 (S35.get 1 rfl) (S35.rd hb) (by omega) (by omega) (fun ad hn9 hA9 => by have h9 := old_block hb hn9 hA9; omega) (by unfold ofB; rw [idAt_8, show 8 + (1024 + 40 * lastN b) = 1032 + 40 * lastN b by omega]; exact idAt_l (by omega))) rfl rfl ?_)
                            rintro e39 w39 ⟨v39, rfl, T39, rfl⟩
                            refine ⟨_, rfl, ?_⟩
                            have S39 := S35.turn 1 rfl T39
                            refine L_y (y_fieldA 1 Try.underlying53 rfl sz23 rfl rfl rfl) rfl ?_
                            refine L_o (o_stR S39 2 rfl rfl rfl (by rw [List.size_toArray, idf_len]; exact sz23) (by rw [List.size_toArray, List.size_toArray, rixf_len, idf_len]; omega) (fun u hu => bL_one _ u (by rw [List.toList_toArray] at hu; exact hu)) fun w40 S40 => ?_)
                            have S90 := S40.blkc 2 rfl rixf_seto
                            refine L_nil ?_
                            refine hK41 _ _ ?_
                            refine T_seq fun K42 hK42 => ?_
                            refine T_region ?_
                            refine L_y (y_move rfl) rfl ?_
                            refine L_y (y_build rfl (show _ = some #[Value.slice B m d, Value.int .i64 8, Value.int .i64 0] by kernel_rfl)) rfl ?_
                            refine L_o (o_box rfl S90 rfl fun b41 w41 hb41 S41 => ?_)
                            have S42 := S41.sel [0, 2, 3, 4] (by decide)
                            have S43 : Zx.St w0 noM [blk b1 53 (rixf none 0 0 zI).toArray, blk b21 53 (rixf A1 (lastN b) c1 (ofB b)).toArray, Zx.row 86 34 A1 (lastN b) c1 ((rowsB b).flatMap plf), xr b41 B m d (8) 0] w41 := S42.cast (by kernel_rfl)
                            refine L_y (y_assign rfl) rfl ?_
                            refine L_nil ?_
                            refine hK42 _ _ ?_
                            refine T_seq fun K43 hK43 => ?_
                            refine T_seq fun K44 hK44 => ?_
                            refine T_region ?_
                            refine L_y (y_assign rfl) rfl ?_
                            refine L_nil ?_
                            refine hK44 _ _ ?_
                            refine T_block ?_
                            refine T_loop1 [(2, _), (6, _), (8, _), (12, _)] (fun (k : Nat) => [(13, .int .i64 (k : Int))]) (fun (k : Nat) => (lastN b) - k) (fun (k : Nat) (w : World) => (k ≤ (lastN b) ∧ ∀ i x y, i < k → (rowsB b)[i]? = some x → (rowsB b)[i + 1]? = some y → Oid.lt x.id y.id = true) ∧ Zx.St w0 noM [blk b1 53 (rixf none 0 0 zI).toArray, blk b21 53 (rixf A1 (lastN b) c1 (ofB b)).toArray, Zx.row 86 34 A1 (lastN b) c1 ((rowsB b).flatMap plf), xr b41 B m d (8) 0] w) 0 (Sub.cons rfl (by first | rfl | exact congrArg (Value.int _) (by omega)) (Sub.nil _)) (Sub.cons rfl rfl (Sub.cons rfl rfl (Sub.cons rfl rfl (Sub.cons rfl rfl (Sub.nil _))))) ?_ ?_
                            ·
                              exact ⟨⟨by omega, fun i x y hi => by omega⟩, S43⟩
                            ·
                              intro k w44 hrel
                              obtain ⟨⟨hk, hasc⟩, S44⟩ := hrel
                              refine T_seq fun K45 hK45 => ?_
                              refine T_seq fun K46 hK46 => ?_
                              refine T_region ?_
                              refine L_y (y_move rfl) rfl ?_
                              refine L_y (y_add rfl rfl (i64w (by omega))) rfl ?_
                              refine L_y (y_move rfl) rfl ?_
                              refine L_y (y_lss rfl rfl) rfl ?_
                              refine L_nil ?_
                              refine hK46 _ _ ?_
                              refine T_cond rfl (fun h122 => ?_) (fun h122 => ?_)
                              ·
                                obtain ⟨x, hx⟩ : ∃ x, (rowsB b)[k]? = some x := ⟨_, List.getElem?_eq_getElem (by omega)⟩
                                obtain ⟨y, hy⟩ : ∃ y, (rowsB b)[k + 1]? = some y := ⟨_, List.getElem?_eq_getElem (by omega)⟩
                                refine T_skip ?_
                                refine hK45 _ _ ?_
                                refine T_seq fun K47 hK47 => ?_
                                refine T_block ?_
                                refine T_seq fun K48 hK48 => ?_
                                refine T_tail 13 hmix (by kernel_rfl) fun w45 l45 K49 hK49 => ?_
                                have S45 := S44.like l45
                                refine HL_y (y_fieldA 0 Try.underlying53 rfl sz46 rfl rfl rfl) rfl ?_
                                refine HL_y (y_ldc Try.underlying46 rfl rfl (((S45.blk 1 rfl).cell _).trans (rixf_row _ _ _ _))) rfl ?_
                                refine HL_y (y_move rfl) rfl ?_
                                refine HL_y (y_idx Try.underlying46 sz86 rfl rfl (S45.row 2 rfl) inferInstance (by omega)) rfl ?_
                                refine HL_y (y_fieldR 0 Try.underlying86 rfl sz23 rfl rfl (S45.row 2 rfl) (by omega) rfl) rfl ?_
                                refine HL_y (y_ldfN Try.underlying23 rfl sz23 rfl (S45.row 2 rfl) (by omega) (pl_part hx) (idf_len _)) rfl ?_
                                refine HL_y (y_fieldA 0 Try.underlying53 rfl sz46 rfl rfl rfl) rfl ?_
                                refine HL_y (y_ldc Try.underlying46 rfl rfl (((S45.blk 1 rfl).cell _).trans (rixf_row _ _ _ _))) rfl ?_
                                refine HL_y (y_move rfl) rfl ?_
                                refine HL_y (y_add rfl rfl (i64w (by omega))) rfl ?_
                                refine HL_y (y_idx Try.underlying46 sz86 rfl rfl (S45.row 2 rfl) (Nt.mk (by omega) : Nt _ (k + 1)) (by omega)) rfl ?_
                                refine HL_y (y_fieldR 0 Try.underlying86 rfl sz23 rfl rfl (S45.row 2 rfl) (by omega) rfl) rfl ?_
                                refine HL_y (y_ldfN Try.underlying23 rfl sz23 rfl (S45.row 2 rfl) (by omega) (pl_part hy) (idf_len _)) rfl ?_
                                refine HL_nil ?_
                                refine hK49 _ ?_
                                refine L_o (o_call Try.func80 rfl rfl (Oid.cBelow x.id y.id w45) rfl rfl ?_)
                                rintro e46 w46 ⟨v46, rfl, l46, rfl⟩
                                refine ⟨_, rfl, ?_⟩
                                have S46 := S45.like l46
                                refine L_y ((by first | exact y_notD rfl | exact y_not rfl)) rfl ?_
                                refine L_nil ?_
                                refine hK48 _ _ ?_
                                refine T_condB rfl (fun h139 => ?_) (fun h139 => ?_)
                                ·
                                  refine T_seq fun K50 hK50 => ?_
                                  refine T_region ?_
                                  refine L_y (y_build rfl (show _ = some (rixf none 0 0 zI).toArray by kernel_rfl)) rfl ?_
                                  refine L_o (o_stW S46 0 rfl rfl rfl (by rw [List.size_toArray, rixf_len]; exact sz53) (by first | (rw [List.size_toArray, List.size_toArray, rixf_len, rixf_len]; done) | (rw [List.size_toArray, rixf_len]; rfl) | (rw [List.size_toArray, rixf_len])) (fun u hu => rixf_one _ _ _ _ u (by rw [List.toList_toArray] at hu; exact hu)) fun w47 S47 => ?_)
                                  refine L_y (y_assign rfl) rfl ?_
                                  refine L_nil ?_
                                  refine hK50 _ _ ?_
                                  refine T_ret ?_
                                  repeat (first | with_reducible refine up_then ?_ | with_reducible refine up_in ?_)
                                  refine retct rfl rfl rfl (S47.blk 0 rfl) Try.underlying53 rfl (by rw [List.size_toArray, rixf_len]; exact sz53) ?_
                                  have he : openE b = 18 := openE_18 hpre hsum (not_str hx hy (by simpa using h139))
                                  exact ⟨_, rfl, S47.like0, .inl ⟨by rw [he]; decide, by rw [he]⟩⟩
                                ·
                                  refine T_skip ?_
                                  refine hK47 _ _ ?_
                                  refine T_region ?_
                                  refine L_y (y_move rfl) rfl ?_
                                  refine L_y (y_add rfl rfl (i64w (by omega))) rfl ?_
                                  refine L_y (y_assign rfl) rfl ?_
                                  refine L_nil ?_
                                  refine ⟨k + 1, by omega, ⟨⟨by omega, fun i p q hi hp9 hq9 => by rcases Nat.lt_or_ge i k with r | r; exact hasc i p q r hp9 hq9; (have e9 : i = k := by omega); subst e9; rw [hx] at hp9; cases hp9; rw [hy] at hq9; cases hq9; simpa using h139⟩, S46⟩, ?_⟩
                                  exact (Sub.cons rfl (by first | rfl | exact congrArg (Value.int _) (by omega)) (Sub.cons rfl rfl (Sub.cons rfl rfl (Sub.cons rfl rfl (Sub.cons rfl rfl (Sub.nil _))))))
                              ·
                                have hst : StR (rowsB b) := str_of_adj (fun i x y hi hx hy => hasc i x y (by omega) hx hy)
                                refine T_exit ?_
                                refine hK43 _ _ ?_
                                refine T_seq fun K51 hK51 => ?_
                                refine T_seq fun K52 hK52 => ?_
                                refine T_region ?_
                                refine L_y (y_assign rfl) rfl ?_
                                refine L_nil ?_
                                refine hK52 _ _ ?_
                                refine T_block ?_
                                refine T_loop1 [(2, _), (6, _), (8, _), (12, _)] (fun (i : Nat) => [(14, .int .i64 (i : Int))]) (fun (i : Nat) => 256 - i) (fun (i : Nat) (w : World) => (i ≤ 256 ∧ ∀ j, j < i → (cl (rowsB b) (j + 1) : Int) = (b4 b (8 + 4 * j) : Int)) ∧ Zx.St w0 noM [blk b1 53 (rixf none 0 0 zI).toArray, blk b21 53 (rixf A1 (lastN b) c1 (ofB b)).toArray, Zx.row 86 34 A1 (lastN b) c1 ((rowsB b).flatMap plf), xr b41 B m d (8 + 4 * i) 0] w) 0 (Sub.cons rfl (by first | rfl | exact congrArg (Value.int _) (by omega)) (Sub.nil _)) (Sub.cons rfl rfl (Sub.cons rfl rfl (Sub.cons rfl rfl (Sub.cons rfl rfl (Sub.nil _))))) ?_ ?_
                                ·
                                  exact ⟨⟨by omega, fun j hj => by omega⟩, S44⟩
                                ·
                                  intro i w48 hrel
                                  obtain ⟨⟨hi, hfk⟩, S48⟩ := hrel
                                  refine T_seq fun K53 hK53 => ?_
                                  refine T_seq fun K54 hK54 => ?_
                                  refine T_region ?_
                                  refine L_y (y_move rfl) rfl ?_
                                  refine L_y (y_lss rfl rfl) rfl ?_
                                  refine L_nil ?_
                                  refine hK54 _ _ ?_
                                  refine T_cond rfl (fun h142 => ?_) (fun h142 => ?_)
                                  ·
                                    refine T_skip ?_
                                    refine hK53 _ _ ?_
                                    refine T_seq fun K55 hK55 => ?_
                                    refine T_block ?_
                                    refine T_seq fun K56 hK56 => ?_
                                    refine T_region ?_
                                    refine L_y (y_assign rfl) rfl ?_
                                    refine L_nil ?_
                                    refine hK56 _ _ ?_
                                    refine T_seq fun K57 hK57 => ?_
                                    refine T_seq fun K58 hK58 => ?_
                                    refine T_region ?_
                                    refine L_y (y_assign rfl) rfl ?_
                                    refine L_nil ?_
                                    refine hK58 _ _ ?_
                                    refine T_block ?_
                                    refine T_loop1 [(2, _), (6, _), (8, _), (12, _), (14, _)] (fun (j : Nat) => [(16, .int .i64 (j : Int)), (15, .int .i64 (cl ((rowsB b).take j) (i + 1) : Int))]) (fun (j : Nat) => (lastN b) - j) (fun (j : Nat) (w : World) => j ≤ (lastN b) ∧ Zx.St w0 noM [blk b1 53 (rixf none 0 0 zI).toArray, blk b21 53 (rixf A1 (lastN b) c1 (ofB b)).toArray, Zx.row 86 34 A1 (lastN b) c1 ((rowsB b).flatMap plf), xr b41 B m d (8 + 4 * i) 0] w) 0 (Sub.cons rfl (by first | rfl | (rw [List.take_zero]; rfl)) (Sub.cons rfl (by first | rfl | (rw [List.take_zero]; rfl)) (Sub.nil _))) (Sub.cons rfl rfl (Sub.cons rfl rfl (Sub.cons rfl rfl (Sub.cons rfl rfl (Sub.cons rfl rfl (Sub.nil _)))))) ?_ ?_
                                    ·
                                      exact ⟨by omega, S48⟩
                                    ·
                                      intro j w49 hrel
                                      obtain ⟨hj, S49⟩ := hrel
                                      refine T_seq fun K59 hK59 => ?_
                                      refine T_seq fun K60 hK60 => ?_
                                      refine T_region ?_
                                      refine L_y (y_move rfl) rfl ?_
                                      refine L_y (y_move rfl) rfl ?_
                                      refine L_y (y_lss rfl rfl) rfl ?_
                                      refine L_nil ?_
                                      refine hK60 _ _ ?_
                                      refine T_cond rfl (fun h147 => ?_) (fun h147 => ?_)
                                      ·
                                        obtain ⟨y, hy⟩ : ∃ y, (rowsB b)[j]? = some y := ⟨_, List.getElem?_eq_getElem (by omega)⟩
                                        have hcj := cl_take (rowsB b) j (i + 1)
                                        have hfy := fb_lt y
                                        refine T_skip ?_
                                        refine hK59 _ _ ?_
                                        refine T_seq fun K61 hK61 => ?_
                                        refine T_block ?_
                                        refine T_seq fun K62 hK62 => ?_
                                        refine T_region ?_
                                        refine L_y (y_fieldA 0 Try.underlying53 rfl sz46 rfl rfl rfl) rfl ?_
                                        refine L_y (y_ldc Try.underlying46 rfl rfl (((S49.blk 1 rfl).cell _).trans (rixf_row _ _ _ _))) rfl ?_
                                        refine L_y (y_move rfl) rfl ?_
                                        refine L_y (y_idx Try.underlying46 sz86 rfl rfl (S49.row 2 rfl) inferInstance (by omega)) rfl ?_
                                        refine L_y (y_fieldR 0 Try.underlying86 rfl sz23 rfl rfl (S49.row 2 rfl) (by omega) rfl) rfl ?_
                                        refine L_y (y_idxAR Try.underlying23 sz5 rfl (S49.row 2 rfl) (by omega) rfl inferInstance (by omega)) rfl ?_
                                        refine L_y (y_ldf Try.underlying5 rfl rfl (S49.row 2 rfl) (by omega) (pl_c0 hy)) rfl ?_
                                        refine L_y (y_conv is5 Try.underlying3 rfl (i64w (by omega))) rfl ?_
                                        refine L_y (y_move rfl) rfl ?_
                                        refine L_y (y_leq rfl rfl) rfl ?_
                                        refine L_nil ?_
                                        refine hK62 _ _ ?_
                                        refine T_cond rfl (fun h159 => ?_) (fun h159 => ?_)
                                        ·
                                          refine T_region ?_
                                          refine L_y (y_move rfl) rfl ?_
                                          refine L_y (y_add rfl rfl (i64w (by omega))) rfl ?_
                                          refine L_y (y_assign rfl) rfl ?_
                                          refine L_nil ?_
                                          refine hK61 _ _ ?_
                                          refine T_region ?_
                                          refine L_y (y_move rfl) rfl ?_
                                          refine L_y (y_add rfl rfl (i64w (by omega))) rfl ?_
                                          refine L_y (y_assign rfl) rfl ?_
                                          refine L_nil ?_
                                          refine ⟨j + 1, by omega, ⟨by omega, S49⟩, ?_⟩
                                          exact (Sub.cons rfl (by first | rfl | exact congrArg (Value.int _) (by omega)) (Sub.cons rfl (congrArg (Value.int _) (by rw [cl_step hy]; first | (rw [if_pos (by omega)]; omega) | (rw [if_neg (by omega)]; omega))) (Sub.cons rfl rfl (Sub.cons rfl rfl (Sub.cons rfl rfl (Sub.cons rfl rfl (Sub.cons rfl rfl (Sub.nil _))))))))
                                        ·
                                          refine T_skip ?_
                                          refine hK61 _ _ ?_
                                          refine T_region ?_
                                          refine L_y (y_move rfl) rfl ?_
                                          refine L_y (y_add rfl rfl (i64w (by omega))) rfl ?_
                                          refine L_y (y_assign rfl) rfl ?_
                                          refine L_nil ?_
                                          refine ⟨j + 1, by omega, ⟨by omega, S49⟩, ?_⟩
                                          exact (Sub.cons rfl (by first | rfl | exact congrArg (Value.int _) (by omega)) (Sub.cons rfl (congrArg (Value.int _) (by rw [cl_step hy]; first | (rw [if_pos (by omega)]; omega) | (rw [if_neg (by omega)]; omega))) (Sub.cons rfl rfl (Sub.cons rfl rfl (Sub.cons rfl rfl (Sub.cons rfl rfl (Sub.cons rfl rfl (Sub.nil _))))))))
                                      ·
                                        have hje : j = (rowsB b).length := by omega
                                        subst hje
                                        simp only [List.take_length]
                                        have hck := cl_le (rowsB b) (i + 1)
                                        refine T_exit ?_
                                        refine hK57 _ _ ?_
                                        refine T_seq fun K63 hK63 => ?_
                                        refine T_region ?_
                                        refine L_y (y_move rfl) rfl ?_
                                        refine L_o (o_call Try.func77 rfl rfl (Oct.xbig b41 B m d b (8 + 4 * i) 0 4 w49 (S49.get 3 rfl) (S49.rd hb) (by omega) (by omega) (fun ad hn9 hA9 => by have h9 := old_block hb hn9 hA9; omega) (by omega)) rfl rfl ?_)
                                        rintro e50 w50 ⟨v50, rfl, rfl, T50⟩
                                        refine ⟨_, rfl, ?_⟩
                                        have S50 := S49.turn 3 rfl T50
                                        obtain ⟨e1, e2, e3⟩ := rw_ok (l := b) (p := 8 + 4 * i) (k := 4) (by omega)
                                        rw [e2, e3, show 8 + 4 * i + 4 = 8 + 4 * (i + 1) by omega] at S50
                                        have e9 : Oct.be ((b.drop (8 + 4 * i)).take 4) = b4 b (8 + 4 * i) := rfl
                                        rw [e1, e9]
                                        refine L_y (y_move rfl) rfl ?_
                                        refine L_y (y_conv is3 Try.underlying127 rfl (u64w (by omega))) rfl ?_
                                        refine L_y (y_neq rfl rfl) rfl ?_
                                        refine L_nil ?_
                                        refine hK63 _ _ ?_
                                        refine T_cond rfl (fun h166 => ?_) (fun h166 => ?_)
                                        ·
                                          refine T_seq fun K64 hK64 => ?_
                                          refine T_region ?_
                                          refine L_y (y_build rfl (show _ = some (rixf none 0 0 zI).toArray by kernel_rfl)) rfl ?_
                                          refine L_o (o_stW S50 0 rfl rfl rfl (by rw [List.size_toArray, rixf_len]; exact sz53) (by first | (rw [List.size_toArray, List.size_toArray, rixf_len, rixf_len]; done) | (rw [List.size_toArray, rixf_len]; rfl) | (rw [List.size_toArray, rixf_len])) (fun u hu => rixf_one _ _ _ _ u (by rw [List.toList_toArray] at hu; exact hu)) fun w51 S51 => ?_)
                                          refine L_y (y_assign rfl) rfl ?_
                                          refine L_nil ?_
                                          refine hK64 _ _ ?_
                                          refine T_ret ?_
                                          repeat (first | with_reducible refine up_then ?_ | with_reducible refine up_in ?_)
                                          refine retct rfl rfl rfl (S51.blk 0 rfl) Try.underlying53 rfl (by rw [List.size_toArray, rixf_len]; exact sz53) ?_
                                          have he : openE b = 18 := openE_18b hpre hsum hst (fun q => by have h9 := q i (by omega); rw [b4_8] at h9; omega)
                                          exact ⟨_, rfl, S51.like0, .inl ⟨by rw [he]; decide, by rw [he]⟩⟩
                                        ·
                                          refine T_skip ?_
                                          refine hK55 _ _ ?_
                                          refine T_region ?_
                                          refine L_y (y_move rfl) rfl ?_
                                          refine L_y (y_add rfl rfl (i64w (by omega))) rfl ?_
                                          refine L_y (y_assign rfl) rfl ?_
                                          refine L_nil ?_
                                          refine ⟨i + 1, by omega, ⟨⟨by omega, fun j hj => by rcases Nat.lt_or_ge j i with r | r; exact hfk j r; (have e9 : j = i := by omega); subst e9; omega⟩, S50⟩, ?_⟩
                                          exact (Sub.cons rfl (by first | rfl | exact congrArg (Value.int _) (by omega)) (Sub.cons rfl rfl (Sub.cons rfl rfl (Sub.cons rfl rfl (Sub.cons rfl rfl (Sub.nil _))))))
                                  ·
                                    have hfan : FanOk b (rowsB b) := fun c hc => by rw [b4_8]; exact hfk c (by omega)
                                    obtain rfl : i = 256 := by omega
                                    refine T_exit ?_
                                    refine hK51 _ _ ?_
                                    refine T_seq fun K65 hK65 => ?_
                                    refine T_seq fun K66 hK66 => ?_
                                    refine T_region ?_
                                    refine L_y (y_assign rfl) rfl ?_
                                    refine L_nil ?_
                                    refine hK66 _ _ ?_
                                    refine T_block ?_
                                    refine T_loop1 [(2, _), (6, _), (8, _)] (fun (k : Nat) => [(17, .int .i64 (k : Int))]) (fun (k : Nat) => (lastN b) - k) (fun (k : Nat) (w : World) => (k ≤ (lastN b) ∧ ∀ i x, i < k → (rowsB b)[i]? = some x → ¬ 1048576 < x.at_) ∧ Zx.St w0 noM [blk b1 53 (rixf none 0 0 zI).toArray, blk b21 53 (rixf A1 (lastN b) c1 (ofB b)).toArray, Zx.row 86 34 A1 (lastN b) c1 ((rowsB b).flatMap plf), xr b41 B m d (8 + 4 * 256) 0] w) 0 (Sub.cons rfl (by first | rfl | exact congrArg (Value.int _) (by omega)) (Sub.nil _)) (Sub.cons rfl rfl (Sub.cons rfl rfl (Sub.cons rfl rfl (Sub.nil _)))) ?_ ?_
                                    ·
                                      exact ⟨⟨by omega, fun i x hi => by omega⟩, S48⟩
                                    ·
                                      intro k w52 hrel
                                      obtain ⟨⟨hk, hno⟩, S52⟩ := hrel
                                      refine T_seq fun K67 hK67 => ?_
                                      refine T_seq fun K68 hK68 => ?_
                                      refine T_region ?_
                                      refine L_y (y_move rfl) rfl ?_
                                      refine L_y (y_move rfl) rfl ?_
                                      refine L_y (y_lss rfl rfl) rfl ?_
                                      refine L_nil ?_
                                      refine hK68 _ _ ?_
                                      refine T_cond rfl (fun h170 => ?_) (fun h170 => ?_)
                                      ·
                                        obtain ⟨x, hx⟩ : ∃ x, (rowsB b)[k]? = some x := ⟨_, List.getElem?_eq_getElem (by omega)⟩
                                        refine T_skip ?_
                                        refine hK67 _ _ ?_
                                        refine T_seq fun K69 hK69 => ?_
                                        refine T_block ?_
                                        refine T_seq fun K70 hK70 => ?_
                                        refine T_region ?_
                                        refine L_y (y_fieldA 0 Try.underlying53 rfl sz46 rfl rfl rfl) rfl ?_
                                        refine L_y (y_ldc Try.underlying46 rfl rfl (((S52.blk 1 rfl).cell _).trans (rixf_row _ _ _ _))) rfl ?_
                                        refine L_y (y_move rfl) rfl ?_
                                        refine L_y (y_idx Try.underlying46 sz86 rfl rfl (S52.row 2 rfl) inferInstance (by omega)) rfl ?_
                                        refine L_y (y_fieldR 32 Try.underlying86 rfl sz3 rfl rfl (S52.row 2 rfl) (by omega) rfl) rfl ?_
                                        refine L_y (y_ldf Try.underlying3 rfl rfl (S52.row 2 rfl) (by omega) (pl_c32 hx)) rfl ?_
                                        refine L_y (y_gtr rfl rfl) rfl ?_
                                        refine L_nil ?_
                                        refine hK70 _ _ ?_
                                        refine T_cond rfl (fun h179 => ?_) (fun h179 => ?_)
                                        ·
                                          refine T_seq fun K71 hK71 => ?_
                                          refine T_region ?_
                                          refine L_y (y_build rfl (show _ = some (rixf none 0 0 zI).toArray by kernel_rfl)) rfl ?_
                                          refine L_o (o_stW S52 0 rfl rfl rfl (by rw [List.size_toArray, rixf_len]; exact sz53) (by first | (rw [List.size_toArray, List.size_toArray, rixf_len, rixf_len]; done) | (rw [List.size_toArray, rixf_len]; rfl) | (rw [List.size_toArray, rixf_len])) (fun u hu => rixf_one _ _ _ _ u (by rw [List.toList_toArray] at hu; exact hu)) fun w53 S53 => ?_)
                                          refine L_y (y_assign rfl) rfl ?_
                                          refine L_nil ?_
                                          refine hK71 _ _ ?_
                                          refine T_ret ?_
                                          repeat (first | with_reducible refine up_then ?_ | with_reducible refine up_in ?_)
                                          refine retct rfl rfl rfl (S53.blk 0 rfl) Try.underlying53 rfl (by rw [List.size_toArray, rixf_len]; exact sz53) ?_
                                          have he : openE b = 2 := openE_2 hpre hsum hst hfan (any_far hx (by omega))
                                          exact ⟨_, rfl, S53.like0, .inl ⟨by rw [he]; decide, by rw [he]⟩⟩
                                        ·
                                          refine T_skip ?_
                                          refine hK69 _ _ ?_
                                          refine T_region ?_
                                          refine L_y (y_move rfl) rfl ?_
                                          refine L_y (y_add rfl rfl (i64w (by omega))) rfl ?_
                                          refine L_y (y_assign rfl) rfl ?_
                                          refine L_nil ?_
                                          refine ⟨k + 1, by omega, ⟨⟨by omega, fun i y hi hy => by rcases Nat.lt_or_ge i k with r | r; exact hno i y r hy; (have e9 : i = k := by omega); subst e9; rw [hx] at hy; cases hy; omega⟩, S52⟩, ?_⟩
                                          exact (Sub.cons rfl (by first | rfl | exact congrArg (Value.int _) (by omega)) (Sub.cons rfl rfl (Sub.cons rfl rfl (Sub.cons rfl rfl (Sub.nil _)))))
                                      ·
                                        refine T_exit ?_
                                        refine hK65 _ _ ?_
                                        refine T_seq fun K72 hK72 => ?_
                                        refine T_region ?_
                                        refine L_y (y_ldW Try.underlying53 rfl sz53 rfl (S52.blk 1 rfl) (rixf_whole _ _ _ _)) rfl ?_
                                        refine L_o (o_stW S52 0 rfl rfl rfl (by rw [List.size_toArray, rixf_len]; exact sz53) (by first | (rw [List.size_toArray, List.size_toArray, rixf_len, rixf_len]; done) | (rw [List.size_toArray, rixf_len]; rfl) | (rw [List.size_toArray, rixf_len])) (fun u hu => rixf_one _ _ _ _ u (by rw [List.toList_toArray] at hu; exact hu)) fun w54 S54 => ?_)
                                        refine L_y (y_assign rfl) rfl ?_
                                        refine L_nil ?_
                                        refine hK72 _ _ ?_
                                        refine T_ret ?_
                                        repeat (first | with_reducible refine up_then ?_ | with_reducible refine up_in ?_)
                                        refine retct rfl rfl rfl (S54.blk 0 rfl) Try.underlying53 rfl (by rw [List.size_toArray, rixf_len]; exact sz53) ?_
                                        have he : openE b = 0 := openE_0 hpre hsum hst hfan (no_far fun i x hi hx => hno i x (by omega) hx)
                                        exact ⟨_, rfl, S54.like0, .inr ⟨he, A1, c1, by rw [hlen], by rw [hlen]; exact S54.own 2 rfl⟩⟩
end Go.Proofs.Ytgaklngnfecdaaa.Idx


/-
  '!=' on truth values; bytes turned.
-/
namespace Go.Proofs.Ytgaklngnfecdaaa.Zx
open Go.RowKit Zk
set_option linter.unusedVariables false
set_option linter.unusedSimpArgs false
section
variable {P : Program} {env : Env} {S : World → Prop} {dst : Option Tmp} {ty : TypeId} {pos : String} {after : Array Edge} {g : Option (Nat × Bool)}
theorem y_neBool {x y : Operand} {t u : TypeId} {a b : Bool} (ht : P.underlying t = some .bool) (hx : ev env x = some (.bool a)) (hy : ev env y = some (.bool b)) : Y P S env ⟨dst, .binOp .neq t x y u, ty, pos, after, g⟩ (.bool (!(a == b))) := fun N e w ha _ => by
  have h := run_neq_bool (P := P) (w := w) t a b ht
  have hg : (eqGuard .neq t x y (.bool a) (.bool b)).run P w = .ok () w := by simp [eqGuard]
  simp only [execOp, ha.eval hx, ha.eval hy, Sem.run_bind, hg, h, Result.andThen_ok, Sem.run_pure]
end
set_option maxRecDepth 100000 in
theorem xor255 : ∀ m : Fin 256, bits .xor .u8 (m.val : Int) 255 = ((255 - m.val : Nat) : Int) := by decide
theorem xorX (x : UInt8) : bits .xor .u8 (x.toNat : Int) 255 = ((UInt8.ofNat (255 - x.toNat)).toNat : Int) := by
  rw [xor255 ⟨x.toNat, x.toNat_lt⟩, UInt8.toNat_ofNat']
  have := x.toNat_lt
  show ((255 - x.toNat : Nat) : Int) = _
  omega
theorem bL_setX (l : List UInt8) (k : Nat) (c : UInt8) : (bL l).set k (Value.int .u8 (c.toNat : Int)) = bL (l.set k c) := by
  unfold bL
  rw [List.map_set]
  rfl
end Go.Proofs.Ytgaklngnfecdaaa.Zx
