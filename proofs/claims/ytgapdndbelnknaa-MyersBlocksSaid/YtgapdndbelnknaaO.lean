/-
  The document: Rests.
-/
import Derived.Test.YtgapdndbelnknaaN
namespace Go.Proofs.Ytgapdndbelnknaa
open Go.RowKit Zk Zx
set_option linter.unusedVariables false
set_option linter.unusedSimpArgs false

theorem heap_join2 {w0 w : World} {M : Nat → Prop} {rs : List Res} {t : Nat} {ss : Nat → Option (Array Value)} {b n c : Nat} {xs : List Value} (S : St w0 M (rs ++ [heapR t ss, row t 1 (some ⟨b, 0, none⟩) n c xs]) w) :
    ∃ cur, cur.toList.take n = xs ∧ cur.size = c ∧ ss b = none ∧ St w0 M (rs ++ [heapR t (Zx.upd ss b cur)]) w := by
  have hr := S.get (rs.length + 1) (r := row t 1 (some ⟨b, 0, none⟩) n c xs) (by rw [List.getElem?_append_right (by omega)]; simp)
  obtain ⟨cur, h1, h2, h3, h4⟩ := heap_join S
  refine ⟨cur, ?_, h1, h2, h4⟩
  have hB : Blk w b t cur := h4.get rs.length (r := heapR t (Zx.upd ss b cur)) (by rw [List.getElem?_append_right (by omega)]; simp) b cur (upd_same _ _ _)
  rcases hr.2 with ⟨h, _⟩ | ⟨g, cap, cur', h, _, hg, _, _, _, hx⟩
  · cases h
  · cases h
    have e : cur' = cur := by
      have := hg.symm.trans hB
      simpa using this
    subst e
    rwa [Nat.mul_one] at hx
/-- A row of the document's table. -/
def rowV (la lb : List Int) (i : Nat) : List Value := (List.range (lb.length + 1)).map fun k => Value.int .i64 (rR la lb i k : Int)
theorem rowV_get (la lb : List Int) (i k : Nat) (h : k ≤ lb.length) : (rowV la lb i)[k]? = some (.int .i64 (rR la lb i k : Int)) := by
  unfold rowV
  rw [List.getElem?_map, List.getElem?_range (by omega)]
  rfl
theorem rowV_len (la lb : List Int) (i : Nat) : (rowV la lb i).length = lb.length + 1 := by simp [rowV]
theorem rowV_of {la lb : List Int} {i : Nat} {xs : List Value} (hl : xs.length = lb.length + 1) (h : ∀ k, k ≤ lb.length → xs[k]? = some (.int .i64 (rR la lb i k : Int))) : xs = rowV la lb i := by
  apply List.ext_getElem?
  intro k
  rcases Nat.lt_or_ge k (lb.length + 1) with hk | hk
  · rw [h k (by omega), rowV_get la lb i k (by omega)]
  · rw [List.getElem?_eq_none (by omega), List.getElem?_eq_none (by rw [rowV_len]; omega)]
def RestOk (la lb : List Int) (ss : Nat → Option (Array Value)) (vs : List Value) (i1 : Nat) : Prop :=
  ∀ j, i1 ≤ j → j ≤ la.length → ∃ b cur, vs[j]? = some (.slice (some ⟨b, 0, none⟩) (lb.length + 1) (lb.length + 1)) ∧ ss b = some cur ∧ cur.toList = rowV la lb j
theorem RestOk.add {la lb : List Int} {ss : Nat → Option (Array Value)} {vs : List Value} {i b : Nat} {cur : Array Value} (h : RestOk la lb ss vs (i + 1)) (hno : ss b = none) (hc : cur.toList = rowV la lb i) (hi : i < vs.length) :
    RestOk la lb (Zx.upd ss b cur) (vs.set i (.slice (some ⟨b, 0, none⟩) (lb.length + 1) (lb.length + 1))) i := fun j h1 h2 => by
  rcases Nat.lt_or_ge i j with h3 | h3
  · obtain ⟨b', cur', a1, a2, a3⟩ := h j (by omega) h2
    refine ⟨b', cur', by rw [List.getElem?_set_ne (by omega)]; exact a1, ?_, a3⟩
    rw [upd_ne (fun e => by subst e; rw [hno] at a2; cases a2)]
    exact a2
  · have e : j = i := by omega
    subst e
    exact ⟨b, cur, by rw [List.getElem?_set_self hi], upd_same _ _ _, hc⟩
/-- The document's table, read. -/
def RT (w : World) (la lb : List Int) (R : Option Addr) (c : Nat) : Prop :=
  ∃ vs, Rs w 1 R (la.length + 1) c vs ∧ ∀ j, j ≤ la.length → ∃ ad, vs[j]? = some (.slice ad (lb.length + 1) (lb.length + 1)) ∧ Rs w 1 ad (lb.length + 1) (lb.length + 1) (rowV la lb j)
theorem RT.like {w w' : World} {la lb : List Int} {R : Option Addr} {c : Nat} (h : RT w la lb R c) (l : Like w w') : RT w' la lb R c := by
  obtain ⟨vs, h1, h2⟩ := h
  exact ⟨vs, h1.like l, fun j hj => by obtain ⟨ad, a1, a2⟩ := h2 j hj; exact ⟨ad, a1, a2.like l⟩⟩
theorem rest_rs {w : World} {la lb : List Int} {ss : Nat → Option (Array Value)} {b : Nat} {cur : Array Value} {j : Nat} (h : (heapR 3 ss).holds w) (hb : ss b = some cur) (hc : cur.toList = rowV la lb j) (hm : lb.length ≤ 1048576) : Rs w 1 (some ⟨b, 0, none⟩) (lb.length + 1) (lb.length + 1) (rowV la lb j) :=
  heapR_rs h hb (rowV_len _ _ _) (fun k u hu => by rw [Nat.zero_add, ← Array.getElem?_toList, hc]; exact hu) (Nat.le_refl _) (by omega)


set_option maxRecDepth 100000 in
theorem rrests (A B : Option Addr) (n ca m cb : Nat) (la lb : List Int) (w0 : World) (ha : Rs w0 1 A n ca (iL la)) (hb : Rs w0 1 B m cb (iL lb)) (hn : n ≤ 4096) (hm : m ≤ 4096) :
    Calls Try.prog 21 #[.slice A n ca, .slice B m cb] w0 fun e w' => ∃ u, e = .returned u ∧ Like w0 w' ∧ ∃ R c, u = .slice R (n + 1) c ∧ RT w' la lb R c := by
  refine enter1 (env := [(0, .slice A n ca), (1, .slice B m cb)]) [.slice A n ca, .slice B m cb] Try.func21 rfl Try.ntmps21 rfl rfl ?_
  have hla := lenI ha; have hlb := lenI hb; have S0 := St.start w0 noM
  refine T_seq fun K1 hK1 => ?_
  refine T_region ?_
  refine L_y (y_assign rfl) rfl ?_
  refine L_nil ?_
  refine hK1 _ _ ?_
  refine T_seq fun K2 hK2 => ?_
  refine T_region ?_
  refine L_y (y_move rfl) rfl ?_
  refine L_y (y_len Try.underlying22 rfl) rfl ?_
  refine L_y (y_add rfl rfl (i64w (by omega))) rfl ?_
  refine L_o (o_make te48 rfl S0 rfl rfl (Nt.mk (by omega) : Nt _ (n + 1)) (Nt.mk (by omega) : Nt _ (n + 1)) rfl (by omega) (by omega) (by omega) fun b1 w1 S1 => ?_)
  refine L_y (y_assign rfl) rfl ?_
  refine L_nil ?_
  refine hK2 _ _ ?_
  refine T_seq fun K3 hK3 => ?_
  refine T_seq fun K4 hK4 => ?_
  refine T_region ?_
  refine L_y (y_move rfl) rfl ?_
  refine L_y (y_len Try.underlying22 rfl) rfl ?_
  refine L_y (y_assign rfl) rfl ?_
  refine L_nil ?_
  refine hK4 _ _ ?_
  refine T_block ?_
  refine T_loop3 [(0, _), (1, _), (5, _)] (fun (i1 : Nat) (vs : List Value) (ss : Nat → Option (Array Value)) => [(0, .slice A n ca), (1, .slice B m cb), (5, .slice (some ⟨b1, 0, none⟩) (n + 1) (n + 1)), (6, .int .i64 ((i1 : Int) - 1))]) (fun (i1 : Nat) (vs : List Value) (ss : Nat → Option (Array Value)) => i1) (fun (i1 : Nat) (vs : List Value) (ss : Nat → Option (Array Value)) (w : World) => (i1 ≤ n + 1 ∧ vs.length = n + 1 ∧ RestOk la lb ss vs i1) ∧ St w0 noM [row 22 1 (some ⟨b1, 0, none⟩) (n + 1) (n + 1) vs, heapR 3 ss] w) (n + 1) (List.replicate (n + 1) (Value.slice none 0 0)) (fun _ => none) (Sub.cons rfl (by first | rfl | exact congrArg (Value.int _) (by omega)) (Sub.cons rfl (by first | rfl | exact congrArg (Value.int _) (by omega)) (Sub.cons rfl (by first | rfl | exact congrArg (Value.int _) (by omega)) (Sub.cons rfl (by first | rfl | exact congrArg (Value.int _) (by omega)) (Sub.nil _))))) (Sub.cons rfl rfl (Sub.cons rfl rfl (Sub.cons rfl rfl (Sub.nil _)))) ?_ ?_
  ·
    have S52 := S1.new (Like.refl _) (heapR 3 fun _ => none) (heapR_none _ _) (fun i hi => by cases hi)
    exact ⟨⟨Nat.le_refl _, by simp, fun j h1 h2 => by omega⟩, S52⟩
  ·
    intro i1 vs ss w2 hrel
    obtain ⟨⟨hi1, hvl, hok⟩, S2⟩ := hrel
    refine T_seq fun K5 hK5 => ?_
    refine T_seq fun K6 hK6 => ?_
    refine T_region ?_
    refine L_y (y_move rfl) rfl ?_
    refine L_y (y_geq rfl rfl) rfl ?_
    refine L_nil ?_
    refine hK6 _ _ ?_
    refine T_cond rfl (fun h16 => ?_) (fun h16 => ?_)
    ·
      obtain ⟨i, rfl⟩ : ∃ i, i1 = i + 1 := ⟨i1 - 1, by omega⟩
      refine T_skip ?_
      refine hK5 _ _ ?_
      refine T_seq fun K7 hK7 => ?_
      refine T_block ?_
      refine T_seq fun K8 hK8 => ?_
      refine T_region ?_
      refine L_y (y_move rfl) rfl ?_
      refine L_y (y_len Try.underlying22 rfl) rfl ?_
      refine L_y (y_add rfl rfl (i64w (by omega))) rfl ?_
      refine L_o (o_make te22 rfl S2 rfl rfl (Nt.mk (by omega) : Nt _ (m + 1)) (Nt.mk (by omega) : Nt _ (m + 1)) rfl (by omega) (by omega) (by omega) fun b3 w3 S3 => ?_)
      refine L_y (y_assign rfl) rfl ?_
      refine L_nil ?_
      refine hK8 _ _ ?_
      refine T_seq fun K9 hK9 => ?_
      refine T_seq fun K10 hK10 => ?_
      refine T_region ?_
      refine L_y (y_move rfl) rfl ?_
      refine L_y (y_len Try.underlying22 rfl) rfl ?_
      refine L_y (y_assign rfl) rfl ?_
      refine L_nil ?_
      refine hK10 _ _ ?_
      refine T_block ?_
      refine T_loop2 [(0, _), (1, _), (5, _), (6, _), (7, _)] (fun (k1 : Nat) (xs : List Value) => [(0, .slice A n ca), (1, .slice B m cb), (5, .slice (some ⟨b1, 0, none⟩) (n + 1) (n + 1)), (6, .int .i64 (((i + 1 : Nat) : Int) - 1)), (7, .slice (some ⟨b3, 0, none⟩) (m + 1) (m + 1)), (8, .int .i64 ((k1 : Int) - 1))]) (fun (k1 : Nat) (xs : List Value) => k1) (fun (k1 : Nat) (xs : List Value) (w : World) => (k1 ≤ m + 1 ∧ xs.length = m + 1 ∧ ∀ k, k1 ≤ k → k ≤ m → xs[k]? = some (Value.int .i64 (rR la lb i k : Int))) ∧ St w0 noM [row 22 1 (some ⟨b1, 0, none⟩) (n + 1) (n + 1) vs, heapR 3 ss, row 3 1 (some ⟨b3, 0, none⟩) (m + 1) (m + 1) xs] w) (m + 1) (List.replicate (m + 1) (Value.int .i64 0)) (Sub.cons rfl (by first | rfl | exact congrArg (Value.int _) (by omega)) (Sub.cons rfl (by first | rfl | exact congrArg (Value.int _) (by omega)) (Sub.cons rfl (by first | rfl | exact congrArg (Value.int _) (by omega)) (Sub.cons rfl (by first | rfl | exact congrArg (Value.int _) (by omega)) (Sub.cons rfl (by first | rfl | exact congrArg (Value.int _) (by omega)) (Sub.cons rfl (by first | rfl | exact congrArg (Value.int _) (by omega)) (Sub.nil _))))))) (Sub.cons rfl rfl (Sub.cons rfl rfl (Sub.cons rfl rfl (Sub.cons rfl rfl (Sub.cons rfl rfl (Sub.nil _)))))) ?_ ?_
      ·
        exact ⟨⟨Nat.le_refl _, by simp, fun j h1 h2 => by omega⟩, S3⟩
      ·
        intro k1 xs w4 hrel
        obtain ⟨⟨hk1, hxl, hxs⟩, S4⟩ := hrel
        refine T_seq fun K11 hK11 => ?_
        refine T_seq fun K12 hK12 => ?_
        refine T_region ?_
        refine L_y (y_move rfl) rfl ?_
        refine L_y (y_geq rfl rfl) rfl ?_
        refine L_nil ?_
        refine hK12 _ _ ?_
        refine T_cond rfl (fun h26 => ?_) (fun h26 => ?_)
        ·
          obtain ⟨k, rfl⟩ : ∃ k, k1 = k + 1 := ⟨k1 - 1, by omega⟩
          refine T_skip ?_
          refine hK11 _ _ ?_
          refine T_seq fun K13 hK13 => ?_
          refine T_block ?_
          refine T_block ?_
          refine T_seq fun K14 hK14 => ?_
          refine T_region ?_
          refine L_y (y_move rfl) rfl ?_
          refine L_y (y_move rfl) rfl ?_
          refine L_y (y_len Try.underlying22 rfl) rfl ?_
          refine L_y (y_eql rfl rfl) rfl ?_
          refine L_y (y_assign rfl) rfl ?_
          refine L_nil ?_
          refine hK14 _ _ ?_
          refine T_cond rfl (fun h61 => ?_) (fun h61 => ?_)
          ·
            refine T_region ?_
            refine L_y (y_move rfl) rfl ?_
            refine L_y (y_move rfl) rfl ?_
            refine L_y (y_move rfl) rfl ?_
            refine L_y (y_len Try.underlying22 rfl) rfl ?_
            refine L_y (y_move rfl) rfl ?_
            refine L_y (y_sub rfl rfl (i64w (by omega))) rfl ?_
            refine L_y (y_idx Try.underlying22 sz3 rfl rfl (S4.row 2 rfl) (Nt.mk (by omega) : Nt _ (k)) (by omega)) rfl ?_
            refine L_o (o_strow S4 2 rfl rfl rfl rfl sz3 (by omega) fun w5 S5 => ?_)
            refine L_nil ?_
            refine hK13 _ _ ?_
            refine T_region ?_
            refine L_y (y_move rfl) rfl ?_
            refine L_y (y_sub rfl rfl (i64w (by omega))) rfl ?_
            refine L_y (y_assign rfl) rfl ?_
            refine L_nil ?_
            refine ⟨k, _, by omega, ⟨⟨by omega, by first | exact hxl | (rw [List.length_set]; exact hxl) | (rw [List.length_set, List.length_set]; exact hxl), fun q h1 h2 => by rcases Nat.lt_or_ge k q with h3 | h3; (rw [List.getElem?_set_ne (by omega)]; exact hxs q (by omega) h2); (have e : q = k := by omega); subst e; rw [List.getElem?_set_self (by first | omega | (rw [List.length_set]; omega))]; exact congrArg (fun z : Int => some (Value.int .i64 z)) (by rw [rR_endA (by omega)]; omega)⟩, S5⟩, ?_⟩
            exact (Sub.cons rfl (by first | rfl | exact congrArg (Value.int _) (by omega)) (Sub.cons rfl (by first | rfl | exact congrArg (Value.int _) (by omega)) (Sub.cons rfl (by first | rfl | exact congrArg (Value.int _) (by omega)) (Sub.cons rfl (by first | rfl | exact congrArg (Value.int _) (by omega)) (Sub.cons rfl (by first | rfl | exact congrArg (Value.int _) (by omega)) (Sub.cons rfl (by first | rfl | exact congrArg (Value.int _) (by omega)) (Sub.cons rfl rfl (Sub.cons rfl rfl (Sub.cons rfl rfl (Sub.cons rfl rfl (Sub.cons rfl rfl (Sub.nil _))))))))))))
          ·
            refine T_seq fun K15 hK15 => ?_
            refine T_region ?_
            refine L_y (y_move rfl) rfl ?_
            refine L_y (y_move rfl) rfl ?_
            refine L_y (y_len Try.underlying22 rfl) rfl ?_
            refine L_y (y_eql rfl rfl) rfl ?_
            refine L_y (y_assign rfl) rfl ?_
            refine L_nil ?_
            refine hK15 _ _ ?_
            refine T_cond rfl (fun h73 => ?_) (fun h73 => ?_)
            ·
              refine T_region ?_
              refine L_y (y_move rfl) rfl ?_
              refine L_y (y_move rfl) rfl ?_
              refine L_y (y_move rfl) rfl ?_
              refine L_y (y_len Try.underlying22 rfl) rfl ?_
              refine L_y (y_move rfl) rfl ?_
              refine L_y (y_sub rfl rfl (i64w (by omega))) rfl ?_
              refine L_y (y_idx Try.underlying22 sz3 rfl rfl (S4.row 2 rfl) (Nt.mk (by omega) : Nt _ (k)) (by omega)) rfl ?_
              refine L_o (o_strow S4 2 rfl rfl rfl rfl sz3 (by omega) fun w6 S6 => ?_)
              refine L_nil ?_
              refine hK13 _ _ ?_
              refine T_region ?_
              refine L_y (y_move rfl) rfl ?_
              refine L_y (y_sub rfl rfl (i64w (by omega))) rfl ?_
              refine L_y (y_assign rfl) rfl ?_
              refine L_nil ?_
              refine ⟨k, _, by omega, ⟨⟨by omega, by first | exact hxl | (rw [List.length_set]; exact hxl) | (rw [List.length_set, List.length_set]; exact hxl), fun q h1 h2 => by rcases Nat.lt_or_ge k q with h3 | h3; (rw [List.getElem?_set_ne (by omega)]; exact hxs q (by omega) h2); (have e : q = k := by omega); subst e; rw [List.getElem?_set_self (by first | omega | (rw [List.length_set]; omega))]; exact congrArg (fun z : Int => some (Value.int .i64 z)) (by rw [rR_endB (by omega)]; omega)⟩, S6⟩, ?_⟩
              exact (Sub.cons rfl (by first | rfl | exact congrArg (Value.int _) (by omega)) (Sub.cons rfl (by first | rfl | exact congrArg (Value.int _) (by omega)) (Sub.cons rfl (by first | rfl | exact congrArg (Value.int _) (by omega)) (Sub.cons rfl (by first | rfl | exact congrArg (Value.int _) (by omega)) (Sub.cons rfl (by first | rfl | exact congrArg (Value.int _) (by omega)) (Sub.cons rfl (by first | rfl | exact congrArg (Value.int _) (by omega)) (Sub.cons rfl rfl (Sub.cons rfl rfl (Sub.cons rfl rfl (Sub.cons rfl rfl (Sub.cons rfl rfl (Sub.nil _))))))))))))
            ·
              refine T_seq fun K16 hK16 => ?_
              have hf1 := rR_facts la lb (i + 1) k
              have hf2 := rR_facts la lb i (k + 1)
              obtain ⟨x, hx⟩ : ∃ x, la[i]? = some x := ⟨_, List.getElem?_eq_getElem (by omega)⟩
              obtain ⟨y, hy⟩ : ∃ y, lb[k]? = some y := ⟨_, List.getElem?_eq_getElem (by omega)⟩
              obtain ⟨bv, curv, hv1, hv2, hv3⟩ := hok (i + 1) (Nat.le_refl _) (by omega)
              refine T_drawnL [(0, true), (1, true), (2, true), (3, true), (4, true), (5, true), (6, true), (7, true), (8, true), (9, true)] hmix (by kernel_rfl) fun w7 l7 => ?_
              have S7 := S4.like l7
              refine DL_y rfl (y_move rfl) rfl ?_
              refine DL_y rfl (y_move rfl) rfl ?_
              refine DL_y rfl (y_idx Try.underlying22 sz3 rfl rfl (S7.rd ha) (Nt.mk (by omega) : Nt _ (i)) (by omega)) rfl ?_
              refine DL_y rfl (y_ldr Try.underlying3 rfl rfl (S7.rd ha) (iL_get _ _ _ hx)) rfl ?_
              refine DL_y rfl (y_move rfl) rfl ?_
              refine DL_y rfl (y_move rfl) rfl ?_
              refine DL_y rfl (y_idx Try.underlying22 sz3 rfl rfl (S7.rd hb) (Nt.mk (by omega) : Nt _ (k)) (by omega)) rfl ?_
              refine DL_y rfl (y_ldr Try.underlying3 rfl rfl (S7.rd hb) (iL_get _ _ _ hy)) rfl ?_
              refine DL_y rfl (y_eql rfl rfl) rfl ?_
              refine DL_y rfl (y_assign rfl) rfl ?_
              refine DL_nil ?_
              refine hK16 _ _ ?_
              refine T_cond rfl (fun h85 => ?_) (fun h85 => ?_)
              ·
                refine T_region ?_
                refine L_y (y_move rfl) rfl ?_
                refine L_y (y_move rfl) rfl ?_
                refine L_y (y_move rfl) rfl ?_
                refine L_y (y_move rfl) rfl ?_
                refine L_y (y_add rfl rfl (i64w (by omega))) rfl ?_
                refine L_y (y_idx Try.underlying48 sz22 rfl rfl (S7.row 0 rfl) (Nt.mk (by omega) : Nt _ (i + 1)) (by omega)) rfl ?_
                refine L_y (y_ldr Try.underlying22 rfl rfl (S7.row 0 rfl) hv1) rfl ?_
                refine L_y (y_move rfl) rfl ?_
                refine L_y (y_add rfl rfl (i64w (by omega))) rfl ?_
                refine L_y (y_idx Try.underlying22 sz3 rfl rfl (rest_rs (S7.get 1 rfl) hv2 hv3 (by omega)) (Nt.mk (by omega) : Nt _ (k + 1)) (by omega)) rfl ?_
                refine L_y (y_ldr Try.underlying3 rfl rfl (rest_rs (S7.get 1 rfl) hv2 hv3 (by omega)) (rowV_get _ _ _ _ (by omega))) rfl ?_
                refine L_y (y_idx Try.underlying22 sz3 rfl rfl (S7.row 2 rfl) (Nt.mk (by omega) : Nt _ (k)) (by omega)) rfl ?_
                refine L_o (o_strow S7 2 rfl rfl rfl rfl sz3 (by omega) fun w8 S8 => ?_)
                refine L_nil ?_
                refine hK13 _ _ ?_
                refine T_region ?_
                refine L_y (y_move rfl) rfl ?_
                refine L_y (y_sub rfl rfl (i64w (by omega))) rfl ?_
                refine L_y (y_assign rfl) rfl ?_
                refine L_nil ?_
                refine ⟨k, _, by omega, ⟨⟨by omega, by first | exact hxl | (rw [List.length_set]; exact hxl) | (rw [List.length_set, List.length_set]; exact hxl), fun q h1 h2 => by rcases Nat.lt_or_ge k q with h3 | h3; (rw [List.getElem?_set_ne (by omega)]; exact hxs q (by omega) h2); (have e : q = k := by omega); subst e; rw [List.getElem?_set_self (by first | omega | (rw [List.length_set]; omega))]; exact congrArg (fun z : Int => some (Value.int .i64 z)) (by rw [rR_match hx (by rw [h85]; exact hy)])⟩, S8⟩, ?_⟩
                exact (Sub.cons rfl (by first | rfl | exact congrArg (Value.int _) (by omega)) (Sub.cons rfl (by first | rfl | exact congrArg (Value.int _) (by omega)) (Sub.cons rfl (by first | rfl | exact congrArg (Value.int _) (by omega)) (Sub.cons rfl (by first | rfl | exact congrArg (Value.int _) (by omega)) (Sub.cons rfl (by first | rfl | exact congrArg (Value.int _) (by omega)) (Sub.cons rfl (by first | rfl | exact congrArg (Value.int _) (by omega)) (Sub.cons rfl rfl (Sub.cons rfl rfl (Sub.cons rfl rfl (Sub.cons rfl rfl (Sub.cons rfl rfl (Sub.nil _))))))))))))
              ·
                refine T_seq fun K17 hK17 => ?_
                refine T_region ?_
                refine L_y (y_move rfl) rfl ?_
                refine L_y (y_move rfl) rfl ?_
                refine L_y (y_move rfl) rfl ?_
                refine L_y (y_move rfl) rfl ?_
                refine L_y (y_add rfl rfl (i64w (by omega))) rfl ?_
                refine L_y (y_idx Try.underlying48 sz22 rfl rfl (S7.row 0 rfl) (Nt.mk (by omega) : Nt _ (i + 1)) (by omega)) rfl ?_
                refine L_y (y_ldr Try.underlying22 rfl rfl (S7.row 0 rfl) hv1) rfl ?_
                refine L_y (y_move rfl) rfl ?_
                refine L_y (y_idx Try.underlying22 sz3 rfl rfl (rest_rs (S7.get 1 rfl) hv2 hv3 (by omega)) (Nt.mk (by omega) : Nt _ (k)) (by omega)) rfl ?_
                refine L_y (y_ldr Try.underlying3 rfl rfl (rest_rs (S7.get 1 rfl) hv2 hv3 (by omega)) (rowV_get _ _ _ _ (by omega))) rfl ?_
                refine L_y (y_add rfl rfl (i64w (by omega))) rfl ?_
                refine L_y (y_idx Try.underlying22 sz3 rfl rfl (S7.row 2 rfl) (Nt.mk (by omega) : Nt _ (k)) (by omega)) rfl ?_
                refine L_o (o_strow S7 2 rfl rfl rfl rfl sz3 (by omega) fun w9 S9 => ?_)
                refine L_nil ?_
                refine hK17 _ _ ?_
                refine T_seq fun K18 hK18 => ?_
                refine T_drawnL [(0, true), (1, true), (2, true), (3, true), (4, true), (5, true), (6, true), (7, true), (8, true), (9, true), (10, true)] hmix (by kernel_rfl) fun w10 l10 => ?_
                have S10 := S9.like l10
                refine DL_y rfl (y_move rfl) rfl ?_
                refine DL_y rfl (y_move rfl) rfl ?_
                refine DL_y rfl (y_add rfl rfl (i64w (by omega))) rfl ?_
                refine DL_y rfl (y_idx Try.underlying22 sz3 rfl rfl (S10.row 2 rfl) (Nt.mk (by omega) : Nt _ (k + 1)) (by omega)) rfl ?_
                refine DL_y rfl (y_ldr Try.underlying3 rfl rfl (S10.row 2 rfl) (by rw [List.getElem?_set_ne (by omega)]; exact hxs (k + 1) (by omega) (by omega))) rfl ?_
                refine DL_y rfl (y_add rfl rfl (i64w (by omega))) rfl ?_
                refine DL_y rfl (y_move rfl) rfl ?_
                refine DL_y rfl (y_move rfl) rfl ?_
                refine DL_y rfl (y_idx Try.underlying22 sz3 rfl rfl (S10.row 2 rfl) (Nt.mk (by omega) : Nt _ (k)) (by omega)) rfl ?_
                refine DL_y rfl (y_ldr Try.underlying3 rfl rfl (S10.row 2 rfl) (List.getElem?_set_self (by omega))) rfl ?_
                refine DL_y rfl (y_lss rfl rfl) rfl ?_
                refine DL_nil ?_
                refine hK18 _ _ ?_
                refine T_cond rfl (fun h51 => ?_) (fun h51 => ?_)
                ·
                  refine T_region ?_
                  refine L_y (y_move rfl) rfl ?_
                  refine L_y (y_move rfl) rfl ?_
                  refine L_y (y_move rfl) rfl ?_
                  refine L_y (y_move rfl) rfl ?_
                  refine L_y (y_add rfl rfl (i64w (by omega))) rfl ?_
                  refine L_y (y_idx Try.underlying22 sz3 rfl rfl (S10.row 2 rfl) (Nt.mk (by omega) : Nt _ (k + 1)) (by omega)) rfl ?_
                  refine L_y (y_ldr Try.underlying3 rfl rfl (S10.row 2 rfl) (by rw [List.getElem?_set_ne (by omega)]; exact hxs (k + 1) (by omega) (by omega))) rfl ?_
                  refine L_y (y_add rfl rfl (i64w (by omega))) rfl ?_
                  refine L_y (y_idx Try.underlying22 sz3 rfl rfl (S10.row 2 rfl) (Nt.mk (by omega) : Nt _ (k)) (by omega)) rfl ?_
                  refine L_o (o_strow S10 2 rfl rfl rfl rfl sz3 (by omega) fun w11 S11 => ?_)
                  refine L_nil ?_
                  refine hK13 _ _ ?_
                  refine T_region ?_
                  refine L_y (y_move rfl) rfl ?_
                  refine L_y (y_sub rfl rfl (i64w (by omega))) rfl ?_
                  refine L_y (y_assign rfl) rfl ?_
                  refine L_nil ?_
                  refine ⟨k, _, by omega, ⟨⟨by omega, by first | exact hxl | (rw [List.length_set]; exact hxl) | (rw [List.length_set, List.length_set]; exact hxl), fun q h1 h2 => by rcases Nat.lt_or_ge k q with h3 | h3; (rw [List.getElem?_set_ne (by omega), List.getElem?_set_ne (by omega)]; exact hxs q (by omega) h2); (have e : q = k := by omega); subst e; rw [List.getElem?_set_self (by first | omega | (rw [List.length_set]; omega))]; exact congrArg (fun z : Int => some (Value.int .i64 z)) (by have hmi := rR_mis hx hy h85; rcases Nat.le_total (rR la lb (i + 1) q) (rR la lb i (q + 1)) with h9 | h9; (rw [Nat.min_eq_left h9] at hmi; omega); (rw [Nat.min_eq_right h9] at hmi; omega))⟩, S11⟩, ?_⟩
                  exact (Sub.cons rfl (by first | rfl | exact congrArg (Value.int _) (by omega)) (Sub.cons rfl (by first | rfl | exact congrArg (Value.int _) (by omega)) (Sub.cons rfl (by first | rfl | exact congrArg (Value.int _) (by omega)) (Sub.cons rfl (by first | rfl | exact congrArg (Value.int _) (by omega)) (Sub.cons rfl (by first | rfl | exact congrArg (Value.int _) (by omega)) (Sub.cons rfl (by first | rfl | exact congrArg (Value.int _) (by omega)) (Sub.cons rfl rfl (Sub.cons rfl rfl (Sub.cons rfl rfl (Sub.cons rfl rfl (Sub.cons rfl rfl (Sub.nil _))))))))))))
                ·
                  refine T_skip ?_
                  refine hK13 _ _ ?_
                  refine T_region ?_
                  refine L_y (y_move rfl) rfl ?_
                  refine L_y (y_sub rfl rfl (i64w (by omega))) rfl ?_
                  refine L_y (y_assign rfl) rfl ?_
                  refine L_nil ?_
                  refine ⟨k, _, by omega, ⟨⟨by omega, by first | exact hxl | (rw [List.length_set]; exact hxl) | (rw [List.length_set, List.length_set]; exact hxl), fun q h1 h2 => by rcases Nat.lt_or_ge k q with h3 | h3; (rw [List.getElem?_set_ne (by omega)]; exact hxs q (by omega) h2); (have e : q = k := by omega); subst e; rw [List.getElem?_set_self (by first | omega | (rw [List.length_set]; omega))]; exact congrArg (fun z : Int => some (Value.int .i64 z)) (by have hmi := rR_mis hx hy h85; rcases Nat.le_total (rR la lb (i + 1) q) (rR la lb i (q + 1)) with h9 | h9; (rw [Nat.min_eq_left h9] at hmi; omega); (rw [Nat.min_eq_right h9] at hmi; omega))⟩, S10⟩, ?_⟩
                  exact (Sub.cons rfl (by first | rfl | exact congrArg (Value.int _) (by omega)) (Sub.cons rfl (by first | rfl | exact congrArg (Value.int _) (by omega)) (Sub.cons rfl (by first | rfl | exact congrArg (Value.int _) (by omega)) (Sub.cons rfl (by first | rfl | exact congrArg (Value.int _) (by omega)) (Sub.cons rfl (by first | rfl | exact congrArg (Value.int _) (by omega)) (Sub.cons rfl (by first | rfl | exact congrArg (Value.int _) (by omega)) (Sub.cons rfl rfl (Sub.cons rfl rfl (Sub.cons rfl rfl (Sub.cons rfl rfl (Sub.cons rfl rfl (Sub.nil _))))))))))))
        ·
          refine T_exit ?_
          refine hK9 _ _ ?_
          refine T_region ?_
          refine L_y (y_move rfl) rfl ?_
          refine L_y (y_move rfl) rfl ?_
          refine L_y (y_move rfl) rfl ?_
          refine L_y (y_idx Try.underlying48 sz22 rfl rfl (S4.row 0 rfl) (Nt.mk (by omega) : Nt _ (i)) (by omega)) rfl ?_
          refine L_o (o_strow S4 0 rfl rfl rfl rfl sz22 (by omega) fun w12 S12 => ?_)
          refine L_nil ?_
          refine hK7 _ _ ?_
          refine T_region ?_
          refine L_y (y_move rfl) rfl ?_
          refine L_y (y_sub rfl rfl (i64w (by omega))) rfl ?_
          refine L_y (y_assign rfl) rfl ?_
          refine L_nil ?_
          obtain ⟨cur, hc1, hc2, hc3, S95⟩ := heap_join2 (rs := [_]) S12
          have hxr : xs = rowV la lb i := rowV_of (by omega) (fun q hq => hxs q (by omega) (by omega))
          have hct : cur.toList = rowV la lb i := by rw [← hxr, ← hc1, List.take_of_length_le (by rw [Array.length_toList]; omega)]
          have hok2 := hok.add hc3 hct (by omega)
          rw [hlb] at hok2
          refine ⟨i, _, _, by omega, ⟨⟨by omega, by rw [List.length_set]; exact hvl, hok2⟩, S95⟩, ?_⟩
          exact (Sub.cons rfl (by first | rfl | exact congrArg (Value.int _) (by omega)) (Sub.cons rfl (by first | rfl | exact congrArg (Value.int _) (by omega)) (Sub.cons rfl (by first | rfl | exact congrArg (Value.int _) (by omega)) (Sub.cons rfl (by first | rfl | exact congrArg (Value.int _) (by omega)) (Sub.cons rfl rfl (Sub.cons rfl rfl (Sub.cons rfl rfl (Sub.nil _))))))))
    ·
      refine T_exit ?_
      refine hK3 _ _ ?_
      refine T_seq fun K19 hK19 => ?_
      refine T_region ?_
      refine L_y (y_move rfl) rfl ?_
      refine L_y (y_assign rfl) rfl ?_
      refine L_nil ?_
      refine hK19 _ _ ?_
      refine T_ret ?_
      repeat (first | with_reducible refine up_then ?_ | with_reducible refine up_in ?_)
      refine ret1 rfl rfl ?_
      refine ⟨_, rfl, S2.like0, _, _, rfl, vs, by rw [hla]; exact S2.row 0 rfl, fun j hj => ?_⟩
      obtain ⟨b, cur, a1, a2, a3⟩ := hok j (by omega) hj
      exact ⟨_, a1, rest_rs (S2.get 1 rfl) a2 a3 (by omega)⟩
end Go.Proofs.Ytgapdndbelnknaa
