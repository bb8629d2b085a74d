import Derived.Test.YtgaklngnfecdaaaMgIFinds7

/-
  Find and Begins.
-/
namespace Go.Proofs.Ytgaklngnfecdaaa.Idx
open Go.RowKit Zk Zx
open Oid (idf idf_len cmpL)
set_option linter.unusedVariables false
set_option linter.unusedSimpArgs false

open Oid (fit pfA ris)
theorem Fr.cut {w0 w : World} {size n c l u : Nat} {A : Option Addr} {xs : List Value} (h : Fr w0 w size A n c xs) (h1 : l ≤ u) (h2 : u ≤ n) : Fr w0 w size (cutA A c l size) (u - l) (u - l) ((xs.drop (l * size)).take ((u - l) * size)) := by
  have hr := h.1.cut h1 h2
  refine ⟨⟨hr.rd, Nat.le_refl _, by have := h.1.cap; have := h.1.max; omega⟩, fun ad hn hA => ?_⟩
  unfold cutA at hA
  split at hA
  · exact h.2 ad (by omega) hA
  · cases hA2 : A with
    | none => rw [hA2] at hA; cases hA
    | some ad0 =>
      rw [hA2] at hA
      simp only [Option.map_some, Option.some.injEq] at hA
      subst hA
      rw [block_of_add]
      exact h.2 ad0 (by omega) hA2
theorem flat_idrop (l : List Oid.Id) : ∀ a, (l.flatMap idf).drop (a * 32) = (l.drop a).flatMap idf
  | 0 => by simp
  | a + 1 => by
    cases l with
    | nil => simp
    | cons x l =>
      rw [List.flatMap_cons, List.drop_succ_cons, ← flat_idrop l a, show (a + 1) * 32 = (idf x).length + a * 32 by rw [idf_len]; omega, List.drop_append]
      simp
theorem flat_isub (l : List Oid.Id) (a b : Nat) : ((l.flatMap idf).drop (a * 32)).take ((b - a) * 32) = ((l.drop a).take (b - a)).flatMap idf := by
  rw [flat_idrop, flat_take idf idf_len]
theorem filter_run {α : Type} {L : List α} {p : α → Bool} {a b : Nat} (hab : a ≤ b) (hb : b ≤ L.length) (h : ∀ i y, L[i]? = some y → p y = decide (a ≤ i ∧ i < b)) : (L.drop a).take (b - a) = L.filter p := by
  have e : L = L.take a ++ ((L.drop a).take (b - a) ++ L.drop b) := by
    have e1 : L.drop b = (L.drop a).drop (b - a) := by rw [List.drop_drop]; congr 1; omega
    rw [e1, List.take_append_drop, List.take_append_drop]
  conv => rhs; rw [e]
  rw [List.filter_append, List.filter_append]
  have h1 : (L.take a).filter p = [] := by
    rw [List.filter_eq_nil_iff]
    intro y hy
    obtain ⟨i, hi⟩ := List.mem_iff_getElem?.1 hy
    rw [List.getElem?_take] at hi
    split at hi
    · rw [h i y hi]; simp; omega
    · cases hi
  have h2 : (L.drop b).filter p = [] := by
    rw [List.filter_eq_nil_iff]
    intro y hy
    obtain ⟨i, hi⟩ := List.mem_iff_getElem?.1 hy
    rw [List.getElem?_drop] at hi
    rw [h _ y hi]
    simp
  have h3 : ((L.drop a).take (b - a)).filter p = (L.drop a).take (b - a) := by
    rw [List.filter_eq_self]
    intro y hy
    obtain ⟨i, hi⟩ := List.mem_iff_getElem?.1 hy
    rw [List.getElem?_take] at hi
    split at hi
    · rw [List.getElem?_drop] at hi
      rw [h _ y hi]
      simp
      omega
    · cases hi
  rw [h1, h2, h3]
  simp
theorem str_ris {l : List Row} (h : StR l) : ris (l.map Row.id) = true := Oid.ris_of fun i j x y hx hy hij => by
  rw [List.getElem?_map] at hx hy
  cases h1 : l[i]? with
  | none => rw [h1] at hx; cases hx
  | some a =>
    cases h2 : l[j]? with
    | none => rw [h2] at hy; cases hy
    | some b =>
      rw [h1] at hx
      rw [h2] at hy
      cases hx
      cases hy
      exact h.at h1 h2 hij
theorem idrep {x : Oid.Id} {n i : Nat} (h : i < n * 32) : ((List.replicate n x).flatMap idf)[i]? = (idf x)[i % 32]? := by
  have hd := Nat.div_add_mod i 32
  have hm := Nat.mod_lt i (y := 32) (by omega)
  have hk : i / 32 < n := by omega
  have e : i = i / 32 * 32 + i % 32 := by omega
  conv => lhs; rw [e]
  exact flat_at idf 32 idf_len _ _ x (by rw [List.getElem?_replicate, if_pos hk]) _ hm
/-- The ids of which k are there. -/
def idsK (l : List Row) (k : Nat) : List Oid.Id := (l.take k).map Row.id ++ List.replicate (l.length - k) zI
theorem idsK_len {l : List Row} {k : Nat} (h : k ≤ l.length) : (idsK l k).length = l.length := by simp [idsK]; omega
theorem idsK_set {l : List Row} {k : Nat} {x : Row} (hx : l[k]? = some x) : (idsK l k).set k x.id = idsK l (k + 1) := by
  have hk := (List.getElem?_eq_some_iff.1 hx).1
  unfold idsK
  rw [List.set_append_right _ _ (by simp; omega), take1L hx, List.map_append, List.append_assoc, List.length_map, List.length_take, Nat.min_eq_left (by omega), Nat.sub_self, show l.length - k = (l.length - (k + 1)) + 1 by omega, List.replicate_succ]
  rfl
theorem idsK_all (l : List Row) : idsK l l.length = l.map Row.id := by simp [idsK]
theorem found_ex {l : List Row} (hs : StR l) (z : Oid.Id) : ∃ (y : Row) (bo : Bool), ∀ u, Found l z u → u = .tuple #[.agg (plf y).toArray, .bool bo] := by
  by_cases h : ∃ x ∈ l, x.id = z
  · obtain ⟨x, hx, hz⟩ := h
    obtain ⟨k, hk⟩ := List.mem_iff_getElem?.1 hx
    exact ⟨x, true, fun u hu => found_yes hs hk hz hu⟩
  · refine ⟨zR, false, fun u hu => ?_⟩
    rcases hu with ⟨k, x, hk, hz, _⟩ | ⟨_, hu⟩
    · exact absurd ⟨x, List.mem_of_getElem? hk, hz⟩ h
    · exact hu
theorem made_ok {l : List Row} {of : Oid.Id} {bs : List UInt8} (h : Made l of bs) (h0 : mkE l = 0) : ∃ zs : List Row, zs.Perm l ∧ StR zs ∧ bs = layB zs of := by
  rcases h with ⟨e, _⟩ | ⟨_, zs, hp, hs, rfl⟩
  · exact absurd h0 e
  · exact ⟨zs, hp, hs, rfl⟩
theorem ropenLay (B : Option Addr) (m d : Nat) (zs : List Row) (of : Oid.Id) (w0 : World) (hb : Rs w0 1 B m d (bL (layB zs of))) (hn : zs.length ≤ 600) (hok : ∀ x ∈ zs, RowOk x) (hs : StR zs) :
    Calls Try.prog 29 #[.slice B m d] w0 fun e w' => ∃ u, e = .returned u ∧ Like w0 w' ∧ ∃ A c, u = .tuple #[.agg (rixf A zs.length c of).toArray, .int .i64 0] ∧ w'.ownsRow w0.heap.size 86 34 (.slice A zs.length c) zs.length (zs.flatMap plf) :=
  (ropenGood B m d _ w0 hb (by have h1 := hb.lenb; rw [layB_len] at h1; omega) (open_lay hn hok hs)).mono fun e w' ⟨u, h1, l, A, c, h3, h4⟩ => by
    rw [lay_rows hn hok] at h3 h4
    rw [lay_of hn] at h3
    exact ⟨u, h1, l, A, c, h3, h4⟩
theorem pf_id (z : Oid.Id) (n : Int) : ((pfA z.l n).toList.drop 0).take 32 = idf z ∧ (idf z).length = 32 := ⟨by rw [List.drop_zero]; show ((bL z.l ++ [Value.int .i64 n]).toArray.toList).take 32 = _; rw [List.toList_toArray, List.take_append_of_le_length (by rw [length_bL, z.h]; exact Nat.le_refl _)]; exact List.take_of_length_le (by rw [length_bL, z.h]; exact Nat.le_refl _), idf_len z⟩
theorem pf_n (z : Oid.Id) (n : Int) : (pfA z.l n)[32]? = some (.int .i64 n) := by
  show ((bL z.l ++ [Value.int .i64 n]).toArray)[32]? = _
  rw [List.getElem?_toArray, List.getElem?_append_right (by rw [length_bL, z.h]; exact Nat.le_refl _), length_bL, z.h]
  rfl
theorem pf_whole (z : Oid.Id) (n : Int) : ((pfA z.l n).toList.drop 0).take 33 = (pfA z.l n).toList ∧ (pfA z.l n).toList.length = 33 := by
  have h : (pfA z.l n).toList.length = 33 := by show ((bL z.l ++ [Value.int .i64 n]).toArray.toList).length = _; rw [List.toList_toArray, List.length_append, length_bL, z.h]; rfl
  exact ⟨by rw [List.drop_zero]; exact List.take_of_length_le (Nat.le_of_eq h), h⟩

theorem zI_cells : (Value.agg (Array.replicate 32 (.int .u8 0)) : Value).cells = (idf zI).toArray := by kernel_rfl


set_option maxRecDepth 100000 in
theorem begins (g : Nat) (A : Option Addr) (n c : Nat) (l : List Row) (of : Oid.Id) (z : Oid.Id) (nn : Int) (w0 : World) (hx : Blk w0 g 97 (idxf A n c l of).toArray) (hl : Rs w0 34 A n c (l.flatMap rowf)) (hs : StR l) (h9 : l.length ≤ 1000) :
    Calls Try.prog 48 #[.pointer (some ⟨g, 0, none⟩), .agg (pfA z.l nn)] w0 fun e w' => ∃ u, e = .returned u ∧ Like w0 w' ∧ ∃ A9 c9, u = .slice A9 ((l.map Row.id).filter (fit z nn)).length c9 ∧ Fr w0 w' 32 A9 ((l.map Row.id).filter (fit z nn)).length c9 (((l.map Row.id).filter (fit z nn)).flatMap idf) := by
  refine enter1 (env := [(0, .pointer (some ⟨g, 0, none⟩)), (1, .agg (pfA z.l nn))]) [.pointer (some ⟨g, 0, none⟩), .agg (pfA z.l nn)] Try.func48 rfl Try.ntmps48 rfl rfl ?_
  obtain rfl := rows_len hl; have hcap := hl.cap; have hmax := hl.max
  have S0 := St.start w0 noM
  refine T_seq fun K1 hK1 => ?_
  refine T_region ?_
  refine L_o (o_box rfl S0 rfl fun b1 w1 hb1 S1 => ?_)
  refine L_y (y_assign rfl) rfl ?_
  refine L_nil ?_
  refine hK1 _ _ ?_
  refine T_seq fun K2 hK2 => ?_
  refine T_seq fun K3 hK3 => ?_
  refine T_region ?_
  refine L_y (y_move rfl) rfl ?_
  refine L_y (y_peqn Try.underlying49 rfl) rfl ?_
  refine L_nil ?_
  refine hK3 _ _ ?_
  refine T_false rfl ?_
  refine T_skip ?_
  refine hK2 _ _ ?_
  refine T_seq fun K4 hK4 => ?_
  refine T_region ?_
  refine L_y (y_move rfl) rfl ?_
  refine L_y (y_nilp rfl) rfl ?_
  refine L_y (y_fieldA 0 Try.underlying97 rfl sz94 rfl rfl rfl) rfl ?_
  refine L_y (y_ldc Try.underlying94 rfl rfl (((S1.rdB hx).cell _).trans (idx_row _ _ _ _ _))) rfl ?_
  refine L_y (y_len Try.underlying94 rfl) rfl ?_
  refine L_o (o_makeN te24 ((List.replicate l.length zI).flatMap idf) (by rw [flat_len idf 32 idf_len, List.length_replicate]) (fun i hi => (idrep hi).trans (by rw [zI_cells, List.getElem?_toArray])) (by omega) S1 rfl rfl inferInstance inferInstance rfl (by omega) (by omega) (by omega) fun b2 w2 S2 => ?_)
  refine L_y (y_assign rfl) rfl ?_
  refine L_nil ?_
  refine hK4 _ _ ?_
  refine T_seq fun K5 hK5 => ?_
  refine T_seq fun K6 hK6 => ?_
  refine T_region ?_
  refine L_y (y_move rfl) rfl ?_
  refine L_y (y_nilp rfl) rfl ?_
  refine L_y (y_fieldA 0 Try.underlying97 rfl sz94 rfl rfl rfl) rfl ?_
  refine L_y (y_ldc Try.underlying94 rfl rfl (((S2.rdB hx).cell _).trans (idx_row _ _ _ _ _))) rfl ?_
  refine L_y (y_len Try.underlying94 rfl) rfl ?_
  refine L_y (y_move rfl) rfl ?_
  refine L_nil ?_
  refine hK6 _ _ ?_
  refine T_block ?_
  refine T_loop1 [(3, _), (5, _), (21, _), (22, _)] (fun (k : Nat) => [(23, .int .i64 (k : Int))]) (fun (k : Nat) => l.length - k) (fun (k : Nat) (w : World) => k ≤ l.length ∧ Zx.St w0 noM [blk b1 85 (pfA z.l nn), Zx.row 23 32 (some ⟨b2, 0, none⟩) l.length l.length ((idsK l k).flatMap idf)] w) 0 (Sub.cons rfl (by first | rfl | exact congrArg (Value.int _) (by omega)) (Sub.nil _)) (Sub.cons rfl rfl (Sub.cons rfl rfl (Sub.cons rfl rfl (Sub.cons rfl rfl (Sub.nil _))))) ?_ ?_
  ·
    have S70 : Zx.St w0 noM [blk b1 85 (pfA z.l nn), Zx.row 23 32 (some ⟨b2, 0, none⟩) l.length l.length ((idsK l 0).flatMap idf)] w2 := S2.cast (by unfold idsK; rfl)
    exact ⟨by omega, S70⟩
  ·
    intro k w3 hrel
    obtain ⟨hk, S3⟩ := hrel
    refine T_seq fun K7 hK7 => ?_
    refine T_region ?_
    refine L_y (y_lss rfl rfl) rfl ?_
    refine L_nil ?_
    refine hK7 _ _ ?_
    refine T_seq fun K8 hK8 => ?_
    refine T_cond rfl (fun h24 => ?_) (fun h24 => ?_)
    ·
      obtain ⟨x, hx9⟩ : ∃ x, l[k]? = some x := ⟨_, List.getElem?_eq_getElem (by omega)⟩
      refine T_skip ?_
      refine hK8 _ _ ?_
      refine T_seq fun K9 hK9 => ?_
      refine T_block ?_
      refine T_seq fun K10 hK10 => ?_
      refine T_region ?_
      refine L_y (y_move rfl) rfl ?_
      refine L_y (y_idx Try.underlying94 sz119 rfl rfl (S3.rd hl) inferInstance (by omega)) rfl ?_
      refine L_y (y_ldp (f := rowf) rowf_len Try.underlying119 rfl sz119 rfl (S3.rd hl) (by omega) hx9) rfl ?_
      refine L_o (o_alloc zz119 S3 rfl fun b4 w4 hb4 S4 => ?_)
      refine L_y (y_assign rfl) rfl ?_
      refine L_o (o_stW S4 2 rfl rfl rfl (by rw [rowf_sz]; exact sz119) (by rw [rowf_sz]; rfl) (fun u hu => rowf_one _ u (by rw [List.toList_toArray] at hu; exact hu)) fun w5 S5 => ?_)
      refine L_nil ?_
      refine hK10 _ _ ?_
      refine T_region ?_
      refine L_y (y_move rfl) rfl ?_
      refine L_y (y_move rfl) rfl ?_
      refine L_y (y_fieldA 0 Try.underlying119 rfl sz23 rfl rfl rfl) rfl ?_
      refine L_y (y_ldW Try.underlying23 rfl sz23 rfl (S5.blk 2 rfl) (row_id x)) rfl ?_
      refine L_y (y_idx Try.underlying24 sz23 rfl rfl (S5.row 1 rfl) inferInstance (by omega)) rfl ?_
      refine L_o (o_strowE S5 1 rfl rfl rfl (fun u hu => bL_one _ u (by rw [List.toList_toArray] at hu; exact hu)) (by rw [List.size_toArray, idf_len]) sz23 (by omega) fun w6 S6 => ?_)
      refine L_nil ?_
      refine hK9 _ _ ?_
      refine T_region ?_
      refine L_y (y_add rfl rfl (i64w (by omega))) rfl ?_
      refine L_y (y_move rfl) rfl ?_
      refine L_nil ?_
      have S91 := S6.sel [0, 1] (by decide)
      have S92 := S91.rowc 1 rfl rfl ((flat_set idf idf_len (idsK l k) k x.id (by rw [idsK_len (by omega)]; omega)).trans (congrArg (fun q => q.flatMap idf) (idsK_set hx9)))
      refine ⟨k + 1, by omega, ⟨by omega, S92⟩, ?_⟩
      exact (Sub.cons rfl (by first | rfl | exact congrArg (Value.int _) (by omega)) (Sub.cons rfl rfl (Sub.cons rfl rfl (Sub.cons rfl rfl (Sub.cons rfl rfl (Sub.nil _))))))
    ·
      have hke : k = l.length := by omega
      subst hke
      rw [idsK_all] at S3
      refine T_exit ?_
      refine hK5 _ _ ?_
      refine T_seq fun K11 hK11 => ?_
      refine T_region ?_
      refine L_y (y_move rfl) rfl ?_
      refine L_y (y_ldW Try.underlying85 rfl sz85 rfl (S3.blk 0 rfl) (pf_whole z nn)) rfl ?_
      refine L_o (o_call Try.func88 rfl rfl (Oid.prangeF _ _ _ (l.map Row.id) z nn w3 (S3.row 1 rfl) (str_ris hs)) rfl rfl ?_)
      rintro e7 w7 ⟨v7, rfl, l7, a, b, rfl, hab, hbl, hfit⟩
      refine ⟨_, rfl, ?_⟩
      have S7 := S3.like l7
      rw [List.length_map] at hbl
      refine L_y (y_move rfl) rfl ?_
      refine L_y (y_extract rfl rfl) rfl ?_
      refine L_y (y_extract rfl rfl) rfl ?_
      refine L_y (y_assign rfl) rfl ?_
      refine L_y (y_assign rfl) rfl ?_
      refine L_nil ?_
      refine hK11 _ _ ?_
      refine T_seq fun K12 hK12 => ?_
      refine T_region ?_
      refine L_y (y_move rfl) rfl ?_
      refine L_y (y_move rfl) rfl ?_
      refine L_y (y_move rfl) rfl ?_
      refine L_y (y_slice Try.underlying24 sz23 rfl rfl rfl (Nt.mk rfl : Nt _ (a)) (Nt.mk rfl : Nt _ (b)) (by omega) (by omega)) rfl ?_
      refine L_o (o_call Try.func89 rfl rfl (Oid.pclip _ _ _ (((l.map Row.id).drop a).take (b - a)) w7 (by rw [← flat_isub]; exact (S7.row 1 rfl).cut hab hbl) ) rfl rfl ?_)
      rintro e8 w8 ⟨v8, rfl, l8, rfl⟩
      refine ⟨_, rfl, ?_⟩
      have S8 := S7.like l8
      refine L_y (y_assign rfl) rfl ?_
      refine L_nil ?_
      refine hK12 _ _ ?_
      refine T_ret ?_
      repeat (first | with_reducible refine up_then ?_ | with_reducible refine up_in ?_)
      refine ret1 rfl rfl ?_
      have e8 := filter_run hab (by rw [List.length_map]; exact hbl) hfit
      have hl9 : (((l.map Row.id).drop a).take (b - a)).length = b - a := by rw [List.length_take, List.length_drop, List.length_map]; omega
      refine ⟨_, rfl, S8.like0, _, b - a, by rw [← e8, hl9], ?_⟩
      rw [← e8, ← flat_isub]
      rw [hl9]
      exact Fr.cut (Fr.of_own (S8.own 1 rfl)) hab hbl


set_option maxRecDepth 100000 in
theorem rfind (A : Option Addr) (c : Nat) (l : List Row) (of z : Oid.Id) (w0 : World) (hl : Rs w0 34 A l.length c (l.flatMap plf)) (h9 : l.length ≤ 1000) :
    Calls Try.prog 45 #[.agg (rixf A l.length c of).toArray, .agg (idf z).toArray] w0 fun e w' => ∃ u, e = .returned u ∧ Like w0 w' ∧ Found l z u := by
  refine enter1 (env := [(0, .agg (rixf A l.length c of).toArray), (1, .agg (idf z).toArray)]) [.agg (rixf A l.length c of).toArray, .agg (idf z).toArray] Try.func45 rfl Try.ntmps45 rfl rfl ?_
  have hcap := hl.cap; have hmax := hl.max
  have S0 := St.start w0 noM
  refine T_seq fun K1 hK1 => ?_
  refine T_region ?_
  refine L_o (o_box rfl S0 rfl fun b1 w1 hb1 S1 => ?_)
  refine L_o (o_box rfl S1 rfl fun b2 w2 hb2 S2 => ?_)
  refine L_o (o_alloc zz86 S2 rfl fun b3 w3 hb3 S3 => ?_)
  refine L_y (y_assign rfl) rfl ?_
  refine L_nil ?_
  refine hK1 _ _ ?_
  refine T_seq fun K2 hK2 => ?_
  refine T_seq fun K3 hK3 => ?_
  refine T_region ?_
  refine L_y (y_assign rfl) rfl ?_
  refine L_nil ?_
  refine hK3 _ _ ?_
  refine T_block ?_
  refine T_loop1 [(2, _), (3, _), (4, _)] (fun (k : Nat) => [(6, .int .i64 (k : Int))]) (fun (k : Nat) => l.length - k) (fun (k : Nat) (w : World) => (k ≤ l.length ∧ ∀ i x, i < k → l[i]? = some x → x.id ≠ z) ∧ Zx.St w0 noM [blk b1 53 (rixf A l.length c of).toArray, blk b2 23 (idf z).toArray, blk b3 86 (plf zR).toArray] w) 0 (Sub.cons rfl (by first | rfl | exact congrArg (Value.int _) (by omega)) (Sub.nil _)) (Sub.cons rfl rfl (Sub.cons rfl rfl (Sub.cons rfl rfl (Sub.nil _)))) ?_ ?_
  ·
    have S70 : Zx.St w0 noM [blk b1 53 (rixf A l.length c of).toArray, blk b2 23 (idf z).toArray, blk b3 86 (plf zR).toArray] w3 := S3.cast (by kernel_rfl)
    exact ⟨⟨by omega, fun i x hi => by omega⟩, S70⟩
  ·
    intro k w4 hrel
    obtain ⟨⟨hk, hno⟩, S4⟩ := hrel
    refine T_seq fun K4 hK4 => ?_
    refine T_seq fun K5 hK5 => ?_
    refine T_region ?_
    refine L_y (y_move rfl) rfl ?_
    refine L_y (y_fieldA 0 Try.underlying53 rfl sz46 rfl rfl rfl) rfl ?_
    refine L_y (y_ldc Try.underlying46 rfl rfl (((S4.blk 0 rfl).cell _).trans (rixf_row _ _ _ _))) rfl ?_
    refine L_y (y_len Try.underlying46 rfl) rfl ?_
    refine L_y (y_lss rfl rfl) rfl ?_
    refine L_nil ?_
    refine hK5 _ _ ?_
    refine T_cond rfl (fun h11 => ?_) (fun h11 => ?_)
    ·
      obtain ⟨x, hx⟩ : ∃ x, l[k]? = some x := ⟨_, List.getElem?_eq_getElem (by omega)⟩
      refine T_skip ?_
      refine hK4 _ _ ?_
      refine T_seq fun K6 hK6 => ?_
      refine T_block ?_
      refine T_seq fun K7 hK7 => ?_
      refine T_drawnL [(0, true), (1, true), (2, true), (3, true), (4, true), (5, true), (6, true), (7, true)] hmix (by kernel_rfl) fun w5 l5 => ?_
      have S5 := S4.like l5
      refine DL_y rfl (y_fieldA 0 Try.underlying53 rfl sz46 rfl rfl rfl) rfl ?_
      refine DL_y rfl (y_ldc Try.underlying46 rfl rfl (((S5.blk 0 rfl).cell _).trans (rixf_row _ _ _ _))) rfl ?_
      refine DL_y rfl (y_move rfl) rfl ?_
      refine DL_y rfl (y_idx Try.underlying46 sz86 rfl rfl (S5.rd hl) inferInstance (by omega)) rfl ?_
      refine DL_y rfl (y_fieldR 0 Try.underlying86 rfl sz23 rfl rfl (S5.rd hl) (by omega) rfl) rfl ?_
      refine DL_y rfl (y_ldfN Try.underlying23 rfl sz23 rfl (S5.rd hl) (by omega) (pl_part hx) (idf_len _)) rfl ?_
      refine DL_y rfl (y_ldW Try.underlying23 rfl sz23 rfl (S5.blk 1 rfl) (id_whole z)) rfl ?_
      refine DL_y rfl (y_eqB Try.underlying23 Try.underlying5 sz5 (by kernel_rfl) rfl rfl (Oid.Id.h _) (Oid.Id.h _)) rfl ?_
      refine DL_nil ?_
      refine hK7 _ _ ?_
      refine T_cond rfl (fun h21 => ?_) (fun h21 => ?_)
      ·
        refine T_seq fun K8 hK8 => ?_
        refine T_region ?_
        refine L_y (y_fieldA 0 Try.underlying53 rfl sz46 rfl rfl rfl) rfl ?_
        refine L_y (y_ldc Try.underlying46 rfl rfl (((S5.blk 0 rfl).cell _).trans (rixf_row _ _ _ _))) rfl ?_
        refine L_y (y_move rfl) rfl ?_
        refine L_y (y_idx Try.underlying46 sz86 rfl rfl (S5.rd hl) inferInstance (by omega)) rfl ?_
        refine L_y (y_ldp (f := plf) plf_len Try.underlying86 rfl sz86 rfl (S5.rd hl) (by omega) hx) rfl ?_
        refine L_o (o_stW S5 2 rfl rfl rfl (by rw [plf_sz]; exact sz86) (by first | (rw [plf_sz, plf_sz]; done) | (rw [plf_sz]; rfl) | (rw [plf_sz])) (fun u hu => plf_one _ u (by rw [List.toList_toArray] at hu; exact hu)) fun w6 S6 => ?_)
        refine L_y (y_assign rfl) rfl ?_
        refine L_nil ?_
        refine hK8 _ _ ?_
        refine T_ret ?_
        repeat (first | with_reducible refine up_then ?_ | with_reducible refine up_in ?_)
        refine retct rfl rfl rfl (S6.blk 2 rfl) Try.underlying86 rfl (by rw [plf_sz]; exact sz86) ?_
        exact ⟨_, rfl, S6.like0, .inl ⟨k, x, hx, Oid.Id.ext h21, rfl⟩⟩
      ·
        refine T_skip ?_
        refine hK6 _ _ ?_
        refine T_region ?_
        refine L_y (y_move rfl) rfl ?_
        refine L_y (y_add rfl rfl (i64w (by omega))) rfl ?_
        refine L_y (y_assign rfl) rfl ?_
        refine L_nil ?_
        refine ⟨k + 1, by omega, ⟨⟨by omega, fun i y hi hy => by rcases Nat.lt_or_ge i k with r | r; exact hno i y r hy; (have e9 : i = k := by omega); subst e9; rw [hx] at hy; cases hy; exact fun e => h21 (by rw [e])⟩, S5⟩, ?_⟩
        exact (Sub.cons rfl (by first | rfl | exact congrArg (Value.int _) (by omega)) (Sub.cons rfl rfl (Sub.cons rfl rfl (Sub.cons rfl rfl (Sub.nil _)))))
    ·
      refine T_exit ?_
      refine hK2 _ _ ?_
      refine T_seq fun K9 hK9 => ?_
      refine T_region ?_
      refine L_y (y_build rfl (show _ = some (plf zR).toArray by kernel_rfl)) rfl ?_
      refine L_o (o_stW S4 2 rfl rfl rfl (by rw [plf_sz]; exact sz86) (by first | (rw [plf_sz, plf_sz]; done) | (rw [plf_sz]; rfl) | (rw [plf_sz])) (fun u hu => plf_one _ u (by rw [List.toList_toArray] at hu; exact hu)) fun w7 S7 => ?_)
      refine L_y (y_assign rfl) rfl ?_
      refine L_nil ?_
      refine hK9 _ _ ?_
      refine T_ret ?_
      repeat (first | with_reducible refine up_then ?_ | with_reducible refine up_in ?_)
      refine retct rfl rfl rfl (S7.blk 2 rfl) Try.underlying86 rfl (by rw [plf_sz]; exact sz86) ?_
      exact ⟨_, rfl, S7.like0, .inr ⟨fun x hx => by obtain ⟨i, hi⟩ := List.mem_iff_getElem?.1 hx; exact hno i x (by have := (List.getElem?_eq_some_iff.1 hi).1; omega) hi, rfl⟩⟩


set_option maxRecDepth 100000 in
theorem rbegins (A : Option Addr) (c : Nat) (l : List Row) (of z : Oid.Id) (nn : Int) (w0 : World) (hl : Rs w0 34 A l.length c (l.flatMap plf)) (h9 : l.length ≤ 1000) :
    Calls Try.prog 49 #[.agg (rixf A l.length c of).toArray, .agg (idf z).toArray, .int .i64 nn] w0 fun e w' => ∃ u, e = .returned u ∧ Like w0 w' ∧ ∃ A9 c9, u = .slice A9 ((l.map Row.id).filter (fit z nn)).length c9 ∧ w'.ownsRow w0.heap.size 23 32 (.slice A9 ((l.map Row.id).filter (fit z nn)).length c9) ((l.map Row.id).filter (fit z nn)).length (((l.map Row.id).filter (fit z nn)).flatMap idf) := by
  refine enter1 (env := [(0, .agg (rixf A l.length c of).toArray), (1, .agg (idf z).toArray), (2, .int .i64 nn)]) [.agg (rixf A l.length c of).toArray, .agg (idf z).toArray, .int .i64 nn] Try.func49 rfl Try.ntmps49 rfl rfl ?_
  have hcap := hl.cap; have hmax := hl.max
  have S0 := St.start w0 noM
  refine T_seq fun K1 hK1 => ?_
  refine T_region ?_
  refine L_o (o_box rfl S0 rfl fun b1 w1 hb1 S1 => ?_)
  refine L_o (o_box rfl S1 rfl fun b2 w2 hb2 S2 => ?_)
  refine L_y (y_assign rfl) rfl ?_
  refine L_nil ?_
  refine hK1 _ _ ?_
  refine T_seq fun K2 hK2 => ?_
  refine T_region ?_
  have S3 := S2.nilrow 23 32
  refine L_y (y_assign rfl) rfl ?_
  refine L_nil ?_
  refine hK2 _ _ ?_
  refine T_seq fun K3 hK3 => ?_
  refine T_seq fun K4 hK4 => ?_
  refine T_region ?_
  refine L_y (y_assign rfl) rfl ?_
  refine L_nil ?_
  refine hK4 _ _ ?_
  refine T_block ?_
  refine T_loop3 [(2, _), (3, _), (4, _)] (fun (k : Nat) (A1 : Option Addr) (c1 : Nat) => [(8, .int .i64 (k : Int)), (7, .slice A1 (((l.take k).map Row.id).filter (fit z nn)).length c1)]) (fun (k : Nat) (A1 : Option Addr) (c1 : Nat) => l.length - k) (fun (k : Nat) (A1 : Option Addr) (c1 : Nat) (w : World) => k ≤ l.length ∧ Zx.St w0 noM [blk b1 53 (rixf A l.length c of).toArray, blk b2 23 (idf z).toArray, Zx.row 23 32 A1 (((l.take k).map Row.id).filter (fit z nn)).length c1 ((((l.take k).map Row.id).filter (fit z nn)).flatMap idf)] w) 0 none 0 (Sub.cons rfl (by first | rfl | exact congrArg (Value.int _) (by omega) | (rw [List.take_zero]; rfl)) (Sub.cons rfl (by first | rfl | exact congrArg (Value.int _) (by omega) | (rw [List.take_zero]; rfl)) (Sub.nil _))) (Sub.cons rfl rfl (Sub.cons rfl rfl (Sub.cons rfl rfl (Sub.nil _)))) ?_ ?_
  ·
    have S70 : Zx.St w0 noM [blk b1 53 (rixf A l.length c of).toArray, blk b2 23 (idf z).toArray, Zx.row 23 32 none (((l.take 0).map Row.id).filter (fit z nn)).length 0 ((((l.take 0).map Row.id).filter (fit z nn)).flatMap idf)] w2 := S3.cast (by rw [List.take_zero]; rfl)
    exact ⟨by omega, S70⟩
  ·
    intro k A1 c1 w4 hrel
    obtain ⟨hk, S4⟩ := hrel
    refine T_seq fun K5 hK5 => ?_
    refine T_seq fun K6 hK6 => ?_
    refine T_region ?_
    refine L_y (y_move rfl) rfl ?_
    refine L_y (y_fieldA 0 Try.underlying53 rfl sz46 rfl rfl rfl) rfl ?_
    refine L_y (y_ldc Try.underlying46 rfl rfl (((S4.blk 0 rfl).cell _).trans (rixf_row _ _ _ _))) rfl ?_
    refine L_y (y_len Try.underlying46 rfl) rfl ?_
    refine L_y (y_lss rfl rfl) rfl ?_
    refine L_nil ?_
    refine hK6 _ _ ?_
    refine T_cond rfl (fun h13 => ?_) (fun h13 => ?_)
    ·
      obtain ⟨x, hx⟩ : ∃ x, l[k]? = some x := ⟨_, List.getElem?_eq_getElem (by omega)⟩
      have hfl : (((l.take k).map Row.id).filter (fit z nn)).length ≤ l.length := Nat.le_trans (List.length_filter_le _ _) (by rw [List.length_map, List.length_take]; omega)
      refine T_skip ?_
      refine hK5 _ _ ?_
      refine T_seq fun K7 hK7 => ?_
      refine T_block ?_
      refine T_seq fun K8 hK8 => ?_
      refine T_tail 8 hmix (by kernel_rfl) fun w5 l5 K9 hK9 => ?_
      have S5 := S4.like l5
      refine HL_y (y_ldW Try.underlying23 rfl sz23 rfl (S5.blk 1 rfl) (id_whole z)) rfl ?_
      refine HL_y (y_move rfl) rfl ?_
      refine HL_y (y_fieldA 0 Try.underlying53 rfl sz46 rfl rfl rfl) rfl ?_
      refine HL_y (y_ldc Try.underlying46 rfl rfl (((S5.blk 0 rfl).cell _).trans (rixf_row _ _ _ _))) rfl ?_
      refine HL_y (y_move rfl) rfl ?_
      refine HL_y (y_idx Try.underlying46 sz86 rfl rfl (S5.rd hl) inferInstance (by omega)) rfl ?_
      refine HL_y (y_fieldR 0 Try.underlying86 rfl sz23 rfl rfl (S5.rd hl) (by omega) rfl) rfl ?_
      refine HL_y (y_ldfN Try.underlying23 rfl sz23 rfl (S5.rd hl) (by omega) (pl_part hx) (idf_len _)) rfl ?_
      refine HL_nil ?_
      refine hK9 _ ?_
      refine L_o (o_call Try.func90 rfl rfl (Oid.cRFits z nn x.id w5) rfl rfl ?_)
      rintro e6 w6 ⟨v6, rfl, l6, rfl⟩
      refine ⟨_, rfl, ?_⟩
      have S6 := S5.like l6
      refine L_nil ?_
      refine hK8 _ _ ?_
      refine T_condB rfl (fun h24 => ?_) (fun h24 => ?_)
      ·
        refine T_region ?_
        refine L_y (y_move rfl) rfl ?_
        refine L_y (y_fieldA 0 Try.underlying53 rfl sz46 rfl rfl rfl) rfl ?_
        refine L_y (y_ldc Try.underlying46 rfl rfl (((S6.blk 0 rfl).cell _).trans (rixf_row _ _ _ _))) rfl ?_
        refine L_y (y_move rfl) rfl ?_
        refine L_y (y_idx Try.underlying46 sz86 rfl rfl (S6.rd hl) inferInstance (by omega)) rfl ?_
        refine L_y (y_fieldR 0 Try.underlying86 rfl sz23 rfl rfl (S6.rd hl) (by omega) rfl) rfl ?_
        refine L_y (y_ldfN Try.underlying23 rfl sz23 rfl (S6.rd hl) (by omega) (pl_part hx) (idf_len _)) rfl ?_
        refine L_o (o_bsl (idf x.id) te24 zz23 S6 rfl rfl rfl (by simp [Value.cells, idf_len]) (by simp [Value.cells]) rfl rfl rfl fun b7 w7 S7 => ?_)
        refine L_o (o_app te24 S7 2 rfl rfl rfl (by first | exact S7.row 2 rfl | exact S7.row 3 rfl) (fun u hu => bL_one _ u hu) rfl (by omega) (by omega) fun A8 c8 w8 S8 => ?_)
        have S8d := S8.drop (rs' := [_, _, _]) (.cons_cons _ (.cons_cons _ (.cons_cons _ (.cons _ (.refl _)))))
        refine L_y (y_assign rfl) rfl ?_
        refine L_nil ?_
        refine hK7 _ _ ?_
        refine T_region ?_
        refine L_y (y_move rfl) rfl ?_
        refine L_y (y_add rfl rfl (i64w (by omega))) rfl ?_
        refine L_y (y_assign rfl) rfl ?_
        refine L_nil ?_
        have e8 : (((l.take (k + 1)).map Row.id).filter (fit z nn)) = (((l.take k).map Row.id).filter (fit z nn)) ++ [x.id] := by rw [take1L hx, List.map_append, List.filter_append]; simp [h24]
        have S91 := S8d.sel [0, 1, 2] (by decide)
        have S92 := S91.rowc 2 rfl (n' := (((l.take (k + 1)).map Row.id).filter (fit z nn)).length) (xs' := (((l.take (k + 1)).map Row.id).filter (fit z nn)).flatMap idf) (by rw [e8, List.length_append]; rfl) (by rw [e8, List.flatMap_append, List.flatMap_cons, List.flatMap_nil, List.append_nil]; rfl)
        refine ⟨k + 1, _, _, by omega, ⟨by omega, S92⟩, ?_⟩
        exact (Sub.cons rfl (by first | rfl | exact congrArg (Value.int _) (by omega)) (Sub.cons rfl (by first | (rw [e8]; done) | (rw [e8, List.length_append]; rfl)) (Sub.cons rfl rfl (Sub.cons rfl rfl (Sub.cons rfl rfl (Sub.nil _))))))
      ·
        refine T_skip ?_
        refine hK7 _ _ ?_
        refine T_region ?_
        refine L_y (y_move rfl) rfl ?_
        refine L_y (y_add rfl rfl (i64w (by omega))) rfl ?_
        refine L_y (y_assign rfl) rfl ?_
        refine L_nil ?_
        have e8 : (((l.take (k + 1)).map Row.id).filter (fit z nn)) = (((l.take k).map Row.id).filter (fit z nn)) := by rw [take1L hx, List.map_append, List.filter_append]; simp [h24]
        have S92 := S6.rowc 2 rfl (n' := (((l.take (k + 1)).map Row.id).filter (fit z nn)).length) (xs' := (((l.take (k + 1)).map Row.id).filter (fit z nn)).flatMap idf) (by rw [e8]) (by rw [e8])
        refine ⟨k + 1, _, _, by omega, ⟨by omega, S92⟩, ?_⟩
        exact (Sub.cons rfl (by first | rfl | exact congrArg (Value.int _) (by omega)) (Sub.cons rfl (by first | (rw [e8]; done) | (rw [e8, List.length_append]; rfl)) (Sub.cons rfl rfl (Sub.cons rfl rfl (Sub.cons rfl rfl (Sub.nil _))))))
    ·
      refine T_exit ?_
      refine hK3 _ _ ?_
      refine T_seq fun K10 hK10 => ?_
      refine T_region ?_
      refine L_y (y_move rfl) rfl ?_
      refine L_y (y_assign rfl) rfl ?_
      refine L_nil ?_
      refine hK10 _ _ ?_
      refine T_ret ?_
      repeat (first | with_reducible refine up_then ?_ | with_reducible refine up_in ?_)
      refine ret1 rfl rfl ?_
      have hke : k = l.length := by omega
      subst hke
      rw [List.take_length] at S4
      rw [List.take_length]
      exact ⟨_, rfl, S4.like0, _, _, rfl, S4.own 2 rfl⟩
end Go.Proofs.Ytgaklngnfecdaaa.Idx


/-
  The law IndexFinds.
-/
namespace Go.Proofs.Ytgaklngnfecdaaa.Idx
open Go.RowKit Zk Zx
open Oid (idf idf_len cmpL)
set_option linter.unusedVariables false
set_option linter.unusedSimpArgs false

open Oid (fit pfA ris)
theorem bo_ne (b : Bool) : (!(b == b)) = false := by cases b <;> rfl


set_option maxRecDepth 100000 in
theorem finds (A : Option Addr) (n c : Nat) (l : List Row) (of z : Oid.Id) (nn : Int) (w0 : World) (hl : Rs w0 34 A n c (l.flatMap plf)) (hsm : ∀ x ∈ l, SumOk x) :
    Calls Try.prog 11 #[.slice A n c, .agg (idf of).toArray, .agg (pfA z.l nn)] w0 fun e w' => ∃ u, e = .returned u ∧ Like w0 w' ∧ u = .bool true := by
  refine enter1 (env := [(0, .slice A n c), (1, .agg (idf of).toArray), (2, .agg (pfA z.l nn))]) [.slice A n c, .agg (idf of).toArray, .agg (pfA z.l nn)] Try.func11 rfl Try.ntmps11 rfl rfl ?_
  have hn := places_len hl; have hcap := hl.cap; have hmax := hl.max
  have S0 := St.start w0 noM
  refine T_seq fun K1 hK1 => ?_
  refine T_region ?_
  refine L_o (o_box rfl S0 rfl fun b1 w1 hb1 S1 => ?_)
  refine L_o (o_box rfl S1 rfl fun b2 w2 hb2 S2 => ?_)
  refine L_y (y_assign rfl) rfl ?_
  refine L_nil ?_
  refine hK1 _ _ ?_
  refine T_seq fun K2 hK2 => ?_
  refine T_seq fun K3 hK3 => ?_
  refine T_region ?_
  refine L_y (y_move rfl) rfl ?_
  refine L_y (y_len Try.underlying43 rfl) rfl ?_
  refine L_y (y_gtr rfl rfl) rfl ?_
  refine L_nil ?_
  refine hK3 _ _ ?_
  refine T_cond rfl (fun h21 => ?_) (fun h21 => ?_)
  ·
    refine T_seq fun K4 hK4 => ?_
    refine T_region ?_
    refine L_o (o_call Try.func24 rfl rfl (works w2) rfl rfl ?_)
    rintro e3 w3 ⟨v3, rfl, l3, rfl⟩
    refine ⟨_, rfl, ?_⟩
    have S3 := S2.like l3
    refine L_y (y_assign rfl) rfl ?_
    refine L_nil ?_
    refine hK4 _ _ ?_
    refine T_ret ?_
    repeat (first | with_reducible refine up_then ?_ | with_reducible refine up_in ?_)
    refine ret1 rfl rfl ?_
    exact ⟨_, rfl, S3.like0, rfl⟩
  ·
    refine T_skip ?_
    refine hK2 _ _ ?_
    refine T_seq fun K5 hK5 => ?_
    refine T_drawnL [(0, true), (2, true), (1, false), (3, false), (4, true), (5, true), (6, true), (7, true), (8, true)] hmix (by kernel_rfl) fun w4 l4 => ?_
    have S4 := S2.like l4
    refine DL_y rfl (y_move rfl) rfl ?_
    refine DL_y rfl (y_ldW Try.underlying23 rfl sz23 rfl (S4.blk 0 rfl) (id_whole of)) rfl ?_
    refine DL_o rfl (o_call Try.func27 rfl rfl (plain A n c l w4 (S4.rd hl) (by omega)) rfl rfl ?_)
    rintro e5 w5 ⟨v5, rfl, l5, A3, c3, rfl, O5⟩
    refine ⟨_, rfl, l5, ?_⟩
    have S5 := S4.adopt l5 O5
    have q5 := l5
    refine DL_o rfl (o_call Try.func26 rfl rfl (rmake A3 l.length c3 l of w5 (S5.row 2 rfl) hsm (by omega)) rfl rfl ?_)
    rintro e6 w6 ⟨v6, rfl, l6, A4, m4, c4, bs, rfl, hM, O6⟩
    refine ⟨_, rfl, (Like.trans q5 l6), ?_⟩
    have S6 := S5.adopt l6 O6
    have q6 := (Like.trans q5 l6)
    refine DL_y rfl (y_move rfl) rfl ?_
    refine DL_y rfl (y_extract rfl rfl) rfl ?_
    refine DL_y rfl (y_extract rfl rfl) rfl ?_
    refine DL_y rfl (y_assign rfl) rfl ?_
    refine DL_y rfl (y_assign rfl) rfl ?_
    refine DL_nil ?_
    refine hK5 _ _ ?_
    refine T_seq fun K6 hK6 => ?_
    refine T_seq fun K7 hK7 => ?_
    refine T_region ?_
    refine L_y (y_move rfl) rfl ?_
    refine L_y (y_neq rfl rfl) rfl ?_
    refine L_nil ?_
    refine hK7 _ _ ?_
    refine T_cond rfl (fun h31 => ?_) (fun h31 => ?_)
    ·
      refine T_seq fun K8 hK8 => ?_
      refine T_region ?_
      refine L_o (o_call Try.func24 rfl rfl (works w6) rfl rfl ?_)
      rintro e7 w7 ⟨v7, rfl, l7, rfl⟩
      refine ⟨_, rfl, ?_⟩
      have S7 := S6.like l7
      refine L_y (y_assign rfl) rfl ?_
      refine L_nil ?_
      refine hK8 _ _ ?_
      refine T_ret ?_
      repeat (first | with_reducible refine up_then ?_ | with_reducible refine up_in ?_)
      refine ret1 rfl rfl ?_
      exact ⟨_, rfl, S7.like0, rfl⟩
    ·
      have h0 : mkE l = 0 := Classical.byContradiction fun q => h31 q
      obtain ⟨zs, hp, hst, rfl⟩ := made_ok hM h0
      have hk0 := mk0 h0
      have hzl : zs.length = l.length := hp.length_eq
      have hok : ∀ x ∈ zs, RowOk x := fun x hx => rowOk_of hsm hk0.2.2 x (hp.mem_iff.1 hx)
      refine T_skip ?_
      refine hK6 _ _ ?_
      refine T_seq fun K9 hK9 => ?_
      refine T_region ?_
      refine L_y (y_move rfl) rfl ?_
      refine L_o (o_call Try.func28 rfl rfl (openLay _ _ _ zs of w6 (S6.row 3 rfl) (by omega) hok hst) rfl rfl ?_)
      rintro e8 w8 ⟨v8, rfl, l8, g5, A5, rfl, T8⟩
      refine ⟨_, rfl, ?_⟩
      have S8 := S6.adoptS T8
      refine L_y (y_move rfl) rfl ?_
      refine L_y (y_extract rfl rfl) rfl ?_
      refine L_y (y_extract rfl rfl) rfl ?_
      refine L_y (y_assign rfl) rfl ?_
      refine L_y (y_assign rfl) rfl ?_
      refine L_nil ?_
      refine hK9 _ _ ?_
      refine T_seq fun K10 hK10 => ?_
      refine T_region ?_
      refine L_y (y_move rfl) rfl ?_
      refine L_o (o_call Try.func29 rfl rfl (ropenLay _ _ _ zs of w8 (S8.row 3 rfl) (by omega) hok hst) rfl rfl ?_)
      rintro e9 w9 ⟨v9, rfl, l9, A6, c6, rfl, O9⟩
      refine ⟨_, rfl, ?_⟩
      have S9 := S8.adopt l9 O9
      refine L_y (y_move rfl) rfl ?_
      refine L_y (y_extract rfl rfl) rfl ?_
      refine L_y (y_extract rfl rfl) rfl ?_
      refine L_o (o_alloc zz53 S9 rfl fun b10 w10 hb10 S10 => ?_)
      refine L_o (o_stW S10 7 rfl rfl rfl (by rw [List.size_toArray, rixf_len]; exact sz53) (by first | (rw [List.size_toArray, rixf_len]; rfl) | (rw [List.size_toArray, rixf_len])) (fun u hu => rixf_one _ _ _ _ u (by rw [List.toList_toArray] at hu; exact hu)) fun w11 S11 => ?_)
      refine L_y (y_assign rfl) rfl ?_
      refine L_nil ?_
      refine hK10 _ _ ?_
      refine T_seq fun K11 hK11 => ?_
      refine T_seq fun K12 hK12 => ?_
      refine T_region ?_
      refine L_y (y_move rfl) rfl ?_
      refine L_y (y_neq rfl rfl) rfl ?_
      refine L_y (y_move rfl) rfl ?_
      refine L_split 45 rfl (fun h45 => ?_) (fun h45 => ?_)
      ·
        exact absurd rfl h45
      ·
        refine L_gyes rfl rfl ?_
        refine L_y (y_move rfl) rfl ?_
        refine L_gyes rfl rfl ?_
        refine L_y (y_neq rfl rfl) rfl ?_
        refine L_y ((by first | exact y_pickT rfl rfl | exact y_pickF rfl rfl)) rfl ?_
        refine L_nil ?_
        refine hK12 _ _ ?_
        refine T_cond rfl (fun h48 => ?_) (fun h48 => ?_)
        ·
          exact absurd rfl h48
        ·
          refine T_skip ?_
          refine hK11 _ _ ?_
          refine T_seq fun K13 hK13 => ?_
          refine T_seq fun K14 hK14 => ?_
          refine T_region ?_
          refine L_y (y_assign rfl) rfl ?_
          refine L_nil ?_
          refine hK14 _ _ ?_
          refine T_block ?_
          refine T_loop1 [(0, _), (4, _), (5, _), (9, _), (11, _)] (fun (k : Nat) => [(13, .int .i64 (k : Int))]) (fun (k : Nat) => l.length + 1 - k) (fun (k : Nat) (w : World) => k ≤ l.length + 1 ∧ Zx.St w0 noM [blk b1 23 (idf of).toArray, blk b2 85 (pfA z.l nn), Zx.row 119 34 A5 zs.length zs.length (zs.flatMap rowf), blk g5 97 (idxf A5 zs.length zs.length zs of).toArray, Zx.row 86 34 A6 zs.length c6 (zs.flatMap plf), blk b10 53 (rixf A6 zs.length c6 of).toArray] w) 0 (Sub.cons rfl (by first | rfl | exact congrArg (Value.int _) (by omega)) (Sub.nil _)) (Sub.cons rfl rfl (Sub.cons rfl rfl (Sub.cons rfl rfl (Sub.cons rfl rfl (Sub.cons rfl rfl (Sub.nil _)))))) ?_ ?_
          ·
            have S70 : Zx.St w0 noM [blk b1 23 (idf of).toArray, blk b2 85 (pfA z.l nn), Zx.row 119 34 A5 zs.length zs.length (zs.flatMap rowf), blk g5 97 (idxf A5 zs.length zs.length zs of).toArray, Zx.row 86 34 A6 zs.length c6 (zs.flatMap plf), blk b10 53 (rixf A6 zs.length c6 of).toArray] w11 := S11.sel [0, 1, 4, 5, 6, 7] (by decide)
            exact ⟨by omega, S70⟩
          ·
            intro k w13 hrel
            obtain ⟨hk, S13⟩ := hrel
            refine T_seq fun K15 hK15 => ?_
            refine T_seq fun K16 hK16 => ?_
            refine T_region ?_
            refine L_y (y_move rfl) rfl ?_
            refine L_y (y_move rfl) rfl ?_
            refine L_y (y_len Try.underlying43 rfl) rfl ?_
            refine L_y (y_leq rfl rfl) rfl ?_
            refine L_nil ?_
            refine hK16 _ _ ?_
            refine T_cond rfl (fun h52 => ?_) (fun h52 => ?_)
            ·
              refine T_skip ?_
              refine hK15 _ _ ?_
              refine T_seq fun K17 hK17 => ?_
              refine T_block ?_
              refine T_seq fun K18 hK18 => ?_
              refine T_region ?_
              refine L_y (y_ldW Try.underlying23 rfl sz23 rfl (S13.blk 0 rfl) (id_whole of)) rfl ?_
              refine L_o (o_alloc zz23 S13 rfl fun b14 w14 hb14 S14 => ?_)
              refine L_o (o_stW S14 6 rfl rfl rfl (by rw [List.size_toArray, idf_len]; exact sz23) (by first | (rw [List.size_toArray, List.size_toArray, idf_len, idf_len]; done) | (rw [List.size_toArray, idf_len]; rfl) | (rw [List.size_toArray, idf_len])) (fun u hu => bL_one _ u (by rw [List.toList_toArray] at hu; exact hu)) fun w15 S15 => ?_)
              refine L_nil ?_
              refine hK18 _ _ ?_
              refine T_seq fun K19 hK19 => ?_
              refine T_seq fun K20 hK20 => ?_
              refine T_region ?_
              refine L_y (y_move rfl) rfl ?_
              refine L_y (y_move rfl) rfl ?_
              refine L_y (y_len Try.underlying43 rfl) rfl ?_
              refine L_y (y_lss rfl rfl) rfl ?_
              refine L_nil ?_
              refine hK20 _ _ ?_
              refine T_cond rfl (fun h59 => ?_) (fun h59 => ?_)
              ·
                obtain ⟨y, hy⟩ : ∃ y, l[k]? = some y := ⟨_, List.getElem?_eq_getElem (by omega)⟩
                refine T_region ?_
                refine L_y (y_move rfl) rfl ?_
                refine L_y (y_move rfl) rfl ?_
                refine L_y (y_idx Try.underlying43 sz62 rfl rfl (S15.rd hl) inferInstance (by omega)) rfl ?_
                refine L_y (y_fieldR 0 Try.underlying62 rfl sz23 rfl rfl (S15.rd hl) (by omega) rfl) rfl ?_
                refine L_y (y_ldfN Try.underlying23 rfl sz23 rfl (S15.rd hl) (by omega) (pl_part hy) (idf_len _)) rfl ?_
                refine L_o (o_stW S15 6 rfl rfl rfl (by rw [List.size_toArray, idf_len]; exact sz23) (by first | (rw [List.size_toArray, List.size_toArray, idf_len, idf_len]; done) | (rw [List.size_toArray, idf_len]; rfl) | (rw [List.size_toArray, idf_len])) (fun u hu => bL_one _ u (by rw [List.toList_toArray] at hu; exact hu)) fun w16 S16 => ?_)
                refine L_nil ?_
                refine hK19 _ _ ?_
                refine T_seq fun K21 hK21 => ?_
                obtain ⟨y1, bo, hbo⟩ := found_ex hst y.id
                refine T_region ?_
                refine L_y (y_move rfl) rfl ?_
                refine L_y (y_ldW Try.underlying23 rfl sz23 rfl (S16.blk 6 rfl) (id_whole _)) rfl ?_
                refine L_o (o_call Try.func33 rfl rfl (find g5 A5 _ _ zs of y.id w16 (S16.blk 3 rfl) (S16.row 2 rfl) (S16.row_ne 2 3 rfl rfl rfl) hst (by omega)) rfl rfl ?_)
                rintro e17 w17 ⟨v17, rfl, l17, hF17⟩
                refine ⟨_, rfl, ?_⟩
                have S17 := S16.like l17
                have hu17 := hbo _ hF17
                subst hu17
                refine L_y (y_move rfl) rfl ?_
                refine L_y (y_extract rfl rfl) rfl ?_
                refine L_y (y_extract rfl rfl) rfl ?_
                refine L_o (o_alloc zz62 S17 rfl fun b18 w18 hb18 S18 => ?_)
                refine L_o (o_stW S18 7 rfl rfl rfl (by rw [plf_sz]; exact sz62) (by first | (rw [plf_sz, plf_sz]; done) | (rw [plf_sz]; rfl) | (rw [plf_sz])) (fun u hu => plf_one _ u (by rw [List.toList_toArray] at hu; exact hu)) fun w19 S19 => ?_)
                refine L_y (y_assign rfl) rfl ?_
                refine L_nil ?_
                refine hK21 _ _ ?_
                refine T_seq fun K22 hK22 => ?_
                refine T_region ?_
                refine L_y (y_ldW Try.underlying53 rfl sz53 rfl (S19.blk 5 rfl) (rixf_whole _ _ _ _)) rfl ?_
                refine L_y (y_ldW Try.underlying23 rfl sz23 rfl (S19.blk 6 rfl) (id_whole _)) rfl ?_
                refine L_o (o_call Try.func45 rfl rfl (rfind A6 c6 zs of y.id w19 (S19.row 4 rfl) (by omega)) rfl rfl ?_)
                rintro e20 w20 ⟨v20, rfl, l20, hF20⟩
                refine ⟨_, rfl, ?_⟩
                have S20 := S19.like l20
                have hu20 := hbo _ hF20
                subst hu20
                refine L_y (y_move rfl) rfl ?_
                refine L_y (y_extract rfl rfl) rfl ?_
                refine L_y (y_extract rfl rfl) rfl ?_
                refine L_o (o_alloc zz86 S20 rfl fun b21 w21 hb21 S21 => ?_)
                refine L_o (o_stW S21 8 rfl rfl rfl (by rw [plf_sz]; exact sz86) (by first | (rw [plf_sz, plf_sz]; done) | (rw [plf_sz]; rfl) | (rw [plf_sz])) (fun u hu => plf_one _ u (by rw [List.toList_toArray] at hu; exact hu)) fun w22 S22 => ?_)
                refine L_y (y_assign rfl) rfl ?_
                refine L_nil ?_
                refine hK22 _ _ ?_
                refine T_seq fun K23 hK23 => ?_
                refine T_region ?_
                refine L_y (y_move rfl) rfl ?_
                refine L_y (y_move rfl) rfl ?_
                refine L_y (y_neBool Try.underlying4 rfl rfl) rfl ?_
                refine L_y (y_move rfl) rfl ?_
                refine L_splitB 80 rfl (fun h80 => ?_) (fun h80 => ?_)
                ·
                  rw [bo_ne] at h80; cases h80
                ·
                  refine L_gyes rfl rfl ?_
                  refine L_y (y_ldW Try.underlying62 rfl sz62 rfl (S22.blk 7 rfl) (pl_whole _)) rfl ?_
                  refine L_gyes rfl rfl ?_
                  refine L_y (y_ldW Try.underlying86 rfl sz86 rfl (S22.blk 8 rfl) (pl_whole _)) rfl ?_
                  refine L_gyes rfl rfl ?_
                  refine L_o (o_call Try.func46 rfl rfl (oneT y1 w22) rfl rfl ?_)
                  rintro e24 w24 ⟨v24, rfl, l24, rfl⟩
                  refine ⟨_, rfl, ?_⟩
                  have S24 := S22.like l24
                  refine L_gyes rfl rfl ?_
                  refine L_y ((by first | exact y_notD rfl | exact y_not rfl)) rfl ?_
                  refine L_y ((by first | exact y_pickT rfl rfl | exact y_pickF rfl rfl)) rfl ?_
                  refine L_nil ?_
                  refine hK23 _ _ ?_
                  refine T_condB rfl (fun h85 => ?_) (fun h85 => ?_)
                  ·
                    cases h85
                  ·
                    refine T_skip ?_
                    refine hK17 _ _ ?_
                    refine T_region ?_
                    refine L_y (y_move rfl) rfl ?_
                    refine L_y (y_add rfl rfl (i64w (by omega))) rfl ?_
                    refine L_y (y_assign rfl) rfl ?_
                    refine L_nil ?_
                    have S91 := S24.sel [0, 1, 2, 3, 4, 5] (by decide)
                    refine ⟨k + 1, by omega, ⟨by omega, S91⟩, ?_⟩
                    exact (Sub.cons rfl (by first | rfl | exact congrArg (Value.int _) (by omega)) (Sub.cons rfl rfl (Sub.cons rfl rfl (Sub.cons rfl rfl (Sub.cons rfl rfl (Sub.cons rfl rfl (Sub.nil _)))))))
              ·
                refine T_skip ?_
                refine hK19 _ _ ?_
                refine T_seq fun K24 hK24 => ?_
                obtain ⟨y1, bo, hbo⟩ := found_ex hst of
                refine T_region ?_
                refine L_y (y_move rfl) rfl ?_
                refine L_y (y_ldW Try.underlying23 rfl sz23 rfl (S15.blk 6 rfl) (id_whole _)) rfl ?_
                refine L_o (o_call Try.func33 rfl rfl (find g5 A5 _ _ zs of of w15 (S15.blk 3 rfl) (S15.row 2 rfl) (S15.row_ne 2 3 rfl rfl rfl) hst (by omega)) rfl rfl ?_)
                rintro e25 w25 ⟨v25, rfl, l25, hF25⟩
                refine ⟨_, rfl, ?_⟩
                have S25 := S15.like l25
                have hu25 := hbo _ hF25
                subst hu25
                refine L_y (y_move rfl) rfl ?_
                refine L_y (y_extract rfl rfl) rfl ?_
                refine L_y (y_extract rfl rfl) rfl ?_
                refine L_o (o_alloc zz62 S25 rfl fun b26 w26 hb26 S26 => ?_)
                refine L_o (o_stW S26 7 rfl rfl rfl (by rw [plf_sz]; exact sz62) (by first | (rw [plf_sz, plf_sz]; done) | (rw [plf_sz]; rfl) | (rw [plf_sz])) (fun u hu => plf_one _ u (by rw [List.toList_toArray] at hu; exact hu)) fun w27 S27 => ?_)
                refine L_y (y_assign rfl) rfl ?_
                refine L_nil ?_
                refine hK24 _ _ ?_
                refine T_seq fun K25 hK25 => ?_
                refine T_region ?_
                refine L_y (y_ldW Try.underlying53 rfl sz53 rfl (S27.blk 5 rfl) (rixf_whole _ _ _ _)) rfl ?_
                refine L_y (y_ldW Try.underlying23 rfl sz23 rfl (S27.blk 6 rfl) (id_whole _)) rfl ?_
                refine L_o (o_call Try.func45 rfl rfl (rfind A6 c6 zs of of w27 (S27.row 4 rfl) (by omega)) rfl rfl ?_)
                rintro e28 w28 ⟨v28, rfl, l28, hF28⟩
                refine ⟨_, rfl, ?_⟩
                have S28 := S27.like l28
                have hu28 := hbo _ hF28
                subst hu28
                refine L_y (y_move rfl) rfl ?_
                refine L_y (y_extract rfl rfl) rfl ?_
                refine L_y (y_extract rfl rfl) rfl ?_
                refine L_o (o_alloc zz86 S28 rfl fun b29 w29 hb29 S29 => ?_)
                refine L_o (o_stW S29 8 rfl rfl rfl (by rw [plf_sz]; exact sz86) (by first | (rw [plf_sz, plf_sz]; done) | (rw [plf_sz]; rfl) | (rw [plf_sz])) (fun u hu => plf_one _ u (by rw [List.toList_toArray] at hu; exact hu)) fun w30 S30 => ?_)
                refine L_y (y_assign rfl) rfl ?_
                refine L_nil ?_
                refine hK25 _ _ ?_
                refine T_seq fun K26 hK26 => ?_
                refine T_region ?_
                refine L_y (y_move rfl) rfl ?_
                refine L_y (y_move rfl) rfl ?_
                refine L_y (y_neBool Try.underlying4 rfl rfl) rfl ?_
                refine L_y (y_move rfl) rfl ?_
                refine L_splitB 80 rfl (fun h80 => ?_) (fun h80 => ?_)
                ·
                  rw [bo_ne] at h80; cases h80
                ·
                  refine L_gyes rfl rfl ?_
                  refine L_y (y_ldW Try.underlying62 rfl sz62 rfl (S30.blk 7 rfl) (pl_whole _)) rfl ?_
                  refine L_gyes rfl rfl ?_
                  refine L_y (y_ldW Try.underlying86 rfl sz86 rfl (S30.blk 8 rfl) (pl_whole _)) rfl ?_
                  refine L_gyes rfl rfl ?_
                  refine L_o (o_call Try.func46 rfl rfl (oneT y1 w30) rfl rfl ?_)
                  rintro e32 w32 ⟨v32, rfl, l32, rfl⟩
                  refine ⟨_, rfl, ?_⟩
                  have S32 := S30.like l32
                  refine L_gyes rfl rfl ?_
                  refine L_y ((by first | exact y_notD rfl | exact y_not rfl)) rfl ?_
                  refine L_y ((by first | exact y_pickT rfl rfl | exact y_pickF rfl rfl)) rfl ?_
                  refine L_nil ?_
                  refine hK26 _ _ ?_
                  refine T_condB rfl (fun h85 => ?_) (fun h85 => ?_)
                  ·
                    cases h85
                  ·
                    refine T_skip ?_
                    refine hK17 _ _ ?_
                    refine T_region ?_
                    refine L_y (y_move rfl) rfl ?_
                    refine L_y (y_add rfl rfl (i64w (by omega))) rfl ?_
                    refine L_y (y_assign rfl) rfl ?_
                    refine L_nil ?_
                    have S91 := S32.sel [0, 1, 2, 3, 4, 5] (by decide)
                    refine ⟨k + 1, by omega, ⟨by omega, S91⟩, ?_⟩
                    exact (Sub.cons rfl (by first | rfl | exact congrArg (Value.int _) (by omega)) (Sub.cons rfl rfl (Sub.cons rfl rfl (Sub.cons rfl rfl (Sub.cons rfl rfl (Sub.cons rfl rfl (Sub.nil _)))))))
            ·
              refine T_exit ?_
              refine hK13 _ _ ?_
              refine T_seq fun K27 hK27 => ?_
              refine T_drawnL [(0, true), (1, true), (3, true), (4, true), (5, true), (6, true), (7, true), (2, false), (8, false), (9, false), (10, true), (11, false), (12, true), (13, true)] hmix (by kernel_rfl) fun w33 l33 => ?_
              have S33 := S13.like l33
              refine DL_y rfl (y_move rfl) rfl ?_
              refine DL_y rfl (y_ldW Try.underlying85 rfl sz85 rfl (S33.blk 1 rfl) (pf_whole z nn)) rfl ?_
              refine DL_y rfl (y_ldW Try.underlying53 rfl sz53 rfl (S33.blk 5 rfl) (rixf_whole _ _ _ _)) rfl ?_
              refine DL_y rfl (y_fieldA 0 Try.underlying85 rfl sz23 rfl rfl rfl) rfl ?_
              refine DL_y rfl (y_ldW Try.underlying23 rfl sz23 rfl (S33.blk 1 rfl) (pf_id z nn)) rfl ?_
              refine DL_y rfl (y_fieldA 32 Try.underlying85 rfl sz3 rfl rfl rfl) rfl ?_
              refine DL_y rfl (y_ldc Try.underlying3 rfl rfl (((S33.blk 1 rfl).cell _).trans (pf_n z nn))) rfl ?_
              refine DL_o rfl (o_call Try.func48 rfl rfl (begins g5 A5 _ _ zs of z nn w33 (S33.blk 3 rfl) (S33.row 2 rfl) hst (by omega)) rfl rfl ?_)
              rintro e34 w34 ⟨v34, rfl, l34, A7, c7, rfl, F34⟩
              refine ⟨_, rfl, l34, ?_⟩
              have S34 := S33.adoptF l34 F34
              have q34 := l34
              refine DL_o rfl (o_call Try.func49 rfl rfl (rbegins A6 c6 zs of z nn w34 (S34.row 4 rfl) (by omega)) rfl rfl ?_)
              rintro e35 w35 ⟨v35, rfl, l35, A8, c8, rfl, O35⟩
              refine ⟨_, rfl, (Like.trans q34 l35), ?_⟩
              have S35 := S34.adopt l35 O35
              have q35 := (Like.trans q34 l35)
              refine DL_o rfl (o_call Try.func47 rfl rfl (Oid.rsameT _ _ _ _ _ _ _ w35 (S35.fix 6 rfl) (S35.row 7 rfl)) rfl rfl ?_)
              rintro e36 w36 ⟨v36, rfl, l36, rfl⟩
              refine ⟨_, rfl, (Like.trans q35 l36), ?_⟩
              have S36 := S35.like l36
              have q36 := (Like.trans q35 l36)
              refine DL_y rfl (y_move rfl) rfl ?_
              refine DL_ogyes rfl rfl rfl (o_call Try.func24 rfl rfl (works w36) rfl rfl ?_)
              rintro e37 w37 ⟨v37, rfl, l37, rfl⟩
              refine ⟨_, rfl, (Like.trans q36 l37), ?_⟩
              have S37 := S36.like l37
              have q37 := (Like.trans q36 l37)
              refine DL_y rfl ((by first | exact y_pickT rfl rfl | exact y_pickF rfl rfl)) rfl ?_
              refine DL_y rfl (y_assign rfl) rfl ?_
              refine DL_nil ?_
              refine hK27 _ _ ?_
              refine T_ret ?_
              repeat (first | with_reducible refine up_then ?_ | with_reducible refine up_in ?_)
              refine ret1 rfl rfl ?_
              exact ⟨_, rfl, S37.like0, rfl⟩


theorem finds_law (A : Option Addr) (n c : Nat) (l : List Row) (of z : Oid.Id) (nn : Int) (w0 : World) (hl : Rs w0 34 A n c (l.flatMap plf)) (hsm : ∀ x ∈ l, SumOk x) :
    Calls Try.prog 11 #[.slice A n c, .agg (idf of).toArray, .agg (pfA z.l nn)] w0 fun e w' => e = .returned (.bool true) ∧ Below w0.heap.size w0 w' :=
  (finds A n c l of z nn w0 hl hsm).mono fun e w' ⟨u, h1, h2, h3⟩ => by subst h3; exact ⟨h1, h2⟩
end Go.Proofs.Ytgaklngnfecdaaa.Idx
