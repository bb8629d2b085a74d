import Derived.Test.YtbbmkgpgiacdeaaMgKeeps2
import Derived.Laws.StructEq
import Derived.Test.YtbbmkgpgiacdeaaMgKeeps1
import Derived.Maps.OwnSet
import Derived.Maps.Views
/-
  The document: Rests.
-/
namespace Go.Proofs.Ytbbmkgpgiacdeaa
open Go.RowKit Zk Zx
set_option linter.unusedVariables false
set_option linter.unusedSimpArgs false

theorem heap_join2 {w0 w : World} {M : Nat → Prop} {rs : List Res} {t : Nat} {ss : Nat → Option (Array Value)} {b n c : Nat} {xs : List Value} (S : St w0 M (rs ++ [heapR t ss, row t 1 (some ⟨b, 0, none⟩) n c xs]) w) :
    ∃ cur, cur.toList.take n = xs ∧ cur.size = c ∧ ss b = none ∧ St w0 M (rs ++ [heapR t (Zx.upd ss b cur)]) w := by
  have hr := S.get (rs.length + 1) (r := row t 1 (some ⟨b, 0, none⟩) n c xs) (by rw [List.getElem?_append_right (by omega)]; simp)
  obtain ⟨cur, h1, h2, h3, h4⟩ := heap_join S
  refine ⟨cur, ?_, h1, h2, h4⟩
  have hB : Blk w b t cur := h4.get rs.length (r := heapR t (Zx.upd ss b cur)) (by rw [List.getElem?_append_right (by omega)]; simp) b cur (upd_same _ _ _)
  rcases hr.2 with ⟨h, _⟩ | ⟨g, cap, cur', h, _, hg, _, _, _, hx⟩
  · cases h
  · cases h
    have e : cur' = cur := by
      have := hg.symm.trans hB
      simpa using this
    subst e
    rwa [Nat.mul_one] at hx
/-- A row of the document's table. -/
def rowV (la lb : List Int) (i : Nat) : List Value := (List.range (lb.length + 1)).map fun k => Value.int .i64 (rR la lb i k : Int)
theorem rowV_get (la lb : List Int) (i k : Nat) (h : k ≤ lb.length) : (rowV la lb i)[k]? = some (.int .i64 (rR la lb i k : Int)) := by
  unfold rowV
  rw [List.getElem?_map, List.getElem?_range (by omega)]
  rfl
theorem rowV_len (la lb : List Int) (i : Nat) : (rowV la lb i).length = lb.length + 1 := by simp [rowV]
theorem rowV_of {la lb : List Int} {i : Nat} {xs : List Value} (hl : xs.length = lb.length + 1) (h : ∀ k, k ≤ lb.length → xs[k]? = some (.int .i64 (rR la lb i k : Int))) : xs = rowV la lb i := by
  apply List.ext_getElem?
  intro k
  rcases Nat.lt_or_ge k (lb.length + 1) with hk | hk
  · rw [h k (by omega), rowV_get la lb i k (by omega)]
  · rw [List.getElem?_eq_none (by omega), List.getElem?_eq_none (by rw [rowV_len]; omega)]
def RestOk (la lb : List Int) (ss : Nat → Option (Array Value)) (vs : List Value) (i1 : Nat) : Prop :=
  ∀ j, i1 ≤ j → j ≤ la.length → ∃ b cur, vs[j]? = some (.slice (some ⟨b, 0, none⟩) (lb.length + 1) (lb.length + 1)) ∧ ss b = some cur ∧ cur.toList = rowV la lb j
theorem RestOk.add {la lb : List Int} {ss : Nat → Option (Array Value)} {vs : List Value} {i b : Nat} {cur : Array Value} (h : RestOk la lb ss vs (i + 1)) (hno : ss b = none) (hc : cur.toList = rowV la lb i) (hi : i < vs.length) :
    RestOk la lb (Zx.upd ss b cur) (vs.set i (.slice (some ⟨b, 0, none⟩) (lb.length + 1) (lb.length + 1))) i := fun j h1 h2 => by
  rcases Nat.lt_or_ge i j with h3 | h3
  · obtain ⟨b', cur', a1, a2, a3⟩ := h j (by omega) h2
    refine ⟨b', cur', by rw [List.getElem?_set_ne (by omega)]; exact a1, ?_, a3⟩
    rw [upd_ne (fun e => by subst e; rw [hno] at a2; cases a2)]
    exact a2
  · have e : j = i := by omega
    subst e
    exact ⟨b, cur, by rw [List.getElem?_set_self hi], upd_same _ _ _, hc⟩
/-- The document's table, read. -/
def RT (w : World) (la lb : List Int) (R : Option Addr) (c : Nat) : Prop :=
  ∃ vs, Rs w 1 R (la.length + 1) c vs ∧ ∀ j, j ≤ la.length → ∃ ad, vs[j]? = some (.slice ad (lb.length + 1) (lb.length + 1)) ∧ Rs w 1 ad (lb.length + 1) (lb.length + 1) (rowV la lb j)
theorem RT.like {w w' : World} {la lb : List Int} {R : Option Addr} {c : Nat} (h : RT w la lb R c) (l : Like w w') : RT w' la lb R c := by
  obtain ⟨vs, h1, h2⟩ := h
  exact ⟨vs, h1.like l, fun j hj => by obtain ⟨ad, a1, a2⟩ := h2 j hj; exact ⟨ad, a1, a2.like l⟩⟩
theorem rest_rs {w : World} {la lb : List Int} {ss : Nat → Option (Array Value)} {b : Nat} {cur : Array Value} {j : Nat} (h : (heapR 3 ss).holds w) (hb : ss b = some cur) (hc : cur.toList = rowV la lb j) (hm : lb.length ≤ 1048576) : Rs w 1 (some ⟨b, 0, none⟩) (lb.length + 1) (lb.length + 1) (rowV la lb j) :=
  heapR_rs h hb (rowV_len _ _ _) (fun k u hu => by rw [Nat.zero_add, ← Array.getElem?_toList, hc]; exact hu) (Nat.le_refl _) (by omega)


set_option maxRecDepth 100000 in
theorem rrests (A B : Option Addr) (n ca m cb : Nat) (la lb : List Int) (w0 : World) (ha : Rs w0 1 A n ca (iL la)) (hb : Rs w0 1 B m cb (iL lb)) (hn : n ≤ 4096) (hm : m ≤ 4096) :
    Calls Try.prog 57 #[.slice A n ca, .slice B m cb] w0 fun e w' => ∃ u, e = .returned u ∧ Like w0 w' ∧ ∃ R c, u = .slice R (n + 1) c ∧ RT w' la lb R c := by
  refine enter1 (env := [(0, .slice A n ca), (1, .slice B m cb)]) [.slice A n ca, .slice B m cb] Try.func57 rfl Try.ntmps57 rfl rfl ?_
  have hla := lenI ha; have hlb := lenI hb; have S0 := St.start w0 noM
  refine T_seq fun K1 hK1 => ?_
  refine T_region ?_
  refine L_y (y_assign rfl) rfl ?_
  refine L_nil ?_
  refine hK1 _ _ ?_
  refine T_seq fun K2 hK2 => ?_
  refine T_region ?_
  refine L_y (y_move rfl) rfl ?_
  refine L_y (y_len Try.underlying22 rfl) rfl ?_
  refine L_y (y_add rfl rfl (i64w (by omega))) rfl ?_
  refine L_o (o_make te84 rfl S0 rfl rfl (Nt.mk (by omega) : Nt _ (n + 1)) (Nt.mk (by omega) : Nt _ (n + 1)) rfl (by omega) (by omega) (by omega) fun b1 w1 S1 => ?_)
  refine L_y (y_assign rfl) rfl ?_
  refine L_nil ?_
  refine hK2 _ _ ?_
  refine T_seq fun K3 hK3 => ?_
  refine T_seq fun K4 hK4 => ?_
  refine T_region ?_
  refine L_y (y_move rfl) rfl ?_
  refine L_y (y_len Try.underlying22 rfl) rfl ?_
  refine L_y (y_assign rfl) rfl ?_
  refine L_nil ?_
  refine hK4 _ _ ?_
  refine T_block ?_
  refine T_loop3 [(0, _), (1, _), (5, _)] (fun (i1 : Nat) (vs : List Value) (ss : Nat → Option (Array Value)) => [(0, .slice A n ca), (1, .slice B m cb), (5, .slice (some ⟨b1, 0, none⟩) (n + 1) (n + 1)), (6, .int .i64 ((i1 : Int) - 1))]) (fun (i1 : Nat) (vs : List Value) (ss : Nat → Option (Array Value)) => i1) (fun (i1 : Nat) (vs : List Value) (ss : Nat → Option (Array Value)) (w : World) => (i1 ≤ n + 1 ∧ vs.length = n + 1 ∧ RestOk la lb ss vs i1) ∧ St w0 noM [row 22 1 (some ⟨b1, 0, none⟩) (n + 1) (n + 1) vs, heapR 3 ss] w) (n + 1) (List.replicate (n + 1) (Value.slice none 0 0)) (fun _ => none) (Sub.cons rfl (by first | rfl | exact congrArg (Value.int _) (by omega)) (Sub.cons rfl (by first | rfl | exact congrArg (Value.int _) (by omega)) (Sub.cons rfl (by first | rfl | exact congrArg (Value.int _) (by omega)) (Sub.cons rfl (by first | rfl | exact congrArg (Value.int _) (by omega)) (Sub.nil _))))) (Sub.cons rfl rfl (Sub.cons rfl rfl (Sub.cons rfl rfl (Sub.nil _)))) ?_ ?_
  ·
    have S52 := S1.new (Like.refl _) (heapR 3 fun _ => none) (heapR_none _ _) (fun i hi => by cases hi)
    exact ⟨⟨Nat.le_refl _, by simp, fun j h1 h2 => by omega⟩, S52⟩
  ·
    intro i1 vs ss w2 hrel
    obtain ⟨⟨hi1, hvl, hok⟩, S2⟩ := hrel
    refine T_seq fun K5 hK5 => ?_
    refine T_seq fun K6 hK6 => ?_
    refine T_region ?_
    refine L_y (y_move rfl) rfl ?_
    refine L_y (y_geq rfl rfl) rfl ?_
    refine L_nil ?_
    refine hK6 _ _ ?_
    refine T_cond rfl (fun h16 => ?_) (fun h16 => ?_)
    ·
      obtain ⟨i, rfl⟩ : ∃ i, i1 = i + 1 := ⟨i1 - 1, by omega⟩
      refine T_skip ?_
      refine hK5 _ _ ?_
      refine T_seq fun K7 hK7 => ?_
      refine T_block ?_
      refine T_seq fun K8 hK8 => ?_
      refine T_region ?_
      refine L_y (y_move rfl) rfl ?_
      refine L_y (y_len Try.underlying22 rfl) rfl ?_
      refine L_y (y_add rfl rfl (i64w (by omega))) rfl ?_
      refine L_o (o_make te22 rfl S2 rfl rfl (Nt.mk (by omega) : Nt _ (m + 1)) (Nt.mk (by omega) : Nt _ (m + 1)) rfl (by omega) (by omega) (by omega) fun b3 w3 S3 => ?_)
      refine L_y (y_assign rfl) rfl ?_
      refine L_nil ?_
      refine hK8 _ _ ?_
      refine T_seq fun K9 hK9 => ?_
      refine T_seq fun K10 hK10 => ?_
      refine T_region ?_
      refine L_y (y_move rfl) rfl ?_
      refine L_y (y_len Try.underlying22 rfl) rfl ?_
      refine L_y (y_assign rfl) rfl ?_
      refine L_nil ?_
      refine hK10 _ _ ?_
      refine T_block ?_
      refine T_loop2 [(0, _), (1, _), (5, _), (6, _), (7, _)] (fun (k1 : Nat) (xs : List Value) => [(0, .slice A n ca), (1, .slice B m cb), (5, .slice (some ⟨b1, 0, none⟩) (n + 1) (n + 1)), (6, .int .i64 (((i + 1 : Nat) : Int) - 1)), (7, .slice (some ⟨b3, 0, none⟩) (m + 1) (m + 1)), (8, .int .i64 ((k1 : Int) - 1))]) (fun (k1 : Nat) (xs : List Value) => k1) (fun (k1 : Nat) (xs : List Value) (w : World) => (k1 ≤ m + 1 ∧ xs.length = m + 1 ∧ ∀ k, k1 ≤ k → k ≤ m → xs[k]? = some (Value.int .i64 (rR la lb i k : Int))) ∧ St w0 noM [row 22 1 (some ⟨b1, 0, none⟩) (n + 1) (n + 1) vs, heapR 3 ss, row 3 1 (some ⟨b3, 0, none⟩) (m + 1) (m + 1) xs] w) (m + 1) (List.replicate (m + 1) (Value.int .i64 0)) (Sub.cons rfl (by first | rfl | exact congrArg (Value.int _) (by omega)) (Sub.cons rfl (by first | rfl | exact congrArg (Value.int _) (by omega)) (Sub.cons rfl (by first | rfl | exact congrArg (Value.int _) (by omega)) (Sub.cons rfl (by first | rfl | exact congrArg (Value.int _) (by omega)) (Sub.cons rfl (by first | rfl | exact congrArg (Value.int _) (by omega)) (Sub.cons rfl (by first | rfl | exact congrArg (Value.int _) (by omega)) (Sub.nil _))))))) (Sub.cons rfl rfl (Sub.cons rfl rfl (Sub.cons rfl rfl (Sub.cons rfl rfl (Sub.cons rfl rfl (Sub.nil _)))))) ?_ ?_
      ·
        exact ⟨⟨Nat.le_refl _, by simp, fun j h1 h2 => by omega⟩, S3⟩
      ·
        intro k1 xs w4 hrel
        obtain ⟨⟨hk1, hxl, hxs⟩, S4⟩ := hrel
        refine T_seq fun K11 hK11 => ?_
        refine T_seq fun K12 hK12 => ?_
        refine T_region ?_
        refine L_y (y_move rfl) rfl ?_
        refine L_y (y_geq rfl rfl) rfl ?_
        refine L_nil ?_
        refine hK12 _ _ ?_
        refine T_cond rfl (fun h26 => ?_) (fun h26 => ?_)
        ·
          obtain ⟨k, rfl⟩ : ∃ k, k1 = k + 1 := ⟨k1 - 1, by omega⟩
          refine T_skip ?_
          refine hK11 _ _ ?_
          refine T_seq fun K13 hK13 => ?_
          refine T_block ?_
          refine T_block ?_
          refine T_seq fun K14 hK14 => ?_
          refine T_region ?_
          refine L_y (y_move rfl) rfl ?_
          refine L_y (y_move rfl) rfl ?_
          refine L_y (y_len Try.underlying22 rfl) rfl ?_
          refine L_y (y_eql rfl rfl) rfl ?_
          refine L_y (y_assign rfl) rfl ?_
          refine L_nil ?_
          refine hK14 _ _ ?_
          refine T_cond rfl (fun h61 => ?_) (fun h61 => ?_)
          ·
            refine T_region ?_
            refine L_y (y_move rfl) rfl ?_
            refine L_y (y_move rfl) rfl ?_
            refine L_y (y_move rfl) rfl ?_
            refine L_y (y_len Try.underlying22 rfl) rfl ?_
            refine L_y (y_move rfl) rfl ?_
            refine L_y (y_sub rfl rfl (i64w (by omega))) rfl ?_
            refine L_y (y_idx Try.underlying22 sz3 rfl rfl (S4.row 2 rfl) (Nt.mk (by omega) : Nt _ (k)) (by omega)) rfl ?_
            refine L_o (o_strow S4 2 rfl rfl rfl rfl sz3 (by omega) fun w5 S5 => ?_)
            refine L_nil ?_
            refine hK13 _ _ ?_
            refine T_region ?_
            refine L_y (y_move rfl) rfl ?_
            refine L_y (y_sub rfl rfl (i64w (by omega))) rfl ?_
            refine L_y (y_assign rfl) rfl ?_
            refine L_nil ?_
            refine ⟨k, _, by omega, ⟨⟨by omega, by first | exact hxl | (rw [List.length_set]; exact hxl) | (rw [List.length_set, List.length_set]; exact hxl), fun q h1 h2 => by rcases Nat.lt_or_ge k q with h3 | h3; (rw [List.getElem?_set_ne (by omega)]; exact hxs q (by omega) h2); (have e : q = k := by omega); subst e; rw [List.getElem?_set_self (by first | omega | (rw [List.length_set]; omega))]; exact congrArg (fun z : Int => some (Value.int .i64 z)) (by rw [rR_endA (by omega)]; omega)⟩, S5⟩, ?_⟩
            exact (Sub.cons rfl (by first | rfl | exact congrArg (Value.int _) (by omega)) (Sub.cons rfl (by first | rfl | exact congrArg (Value.int _) (by omega)) (Sub.cons rfl (by first | rfl | exact congrArg (Value.int _) (by omega)) (Sub.cons rfl (by first | rfl | exact congrArg (Value.int _) (by omega)) (Sub.cons rfl (by first | rfl | exact congrArg (Value.int _) (by omega)) (Sub.cons rfl (by first | rfl | exact congrArg (Value.int _) (by omega)) (Sub.cons rfl rfl (Sub.cons rfl rfl (Sub.cons rfl rfl (Sub.cons rfl rfl (Sub.cons rfl rfl (Sub.nil _))))))))))))
          ·
            refine T_seq fun K15 hK15 => ?_
            refine T_region ?_
            refine L_y (y_move rfl) rfl ?_
            refine L_y (y_move rfl) rfl ?_
            refine L_y (y_len Try.underlying22 rfl) rfl ?_
            refine L_y (y_eql rfl rfl) rfl ?_
            refine L_y (y_assign rfl) rfl ?_
            refine L_nil ?_
            refine hK15 _ _ ?_
            refine T_cond rfl (fun h73 => ?_) (fun h73 => ?_)
            ·
              refine T_region ?_
              refine L_y (y_move rfl) rfl ?_
              refine L_y (y_move rfl) rfl ?_
              refine L_y (y_move rfl) rfl ?_
              refine L_y (y_len Try.underlying22 rfl) rfl ?_
              refine L_y (y_move rfl) rfl ?_
              refine L_y (y_sub rfl rfl (i64w (by omega))) rfl ?_
              refine L_y (y_idx Try.underlying22 sz3 rfl rfl (S4.row 2 rfl) (Nt.mk (by omega) : Nt _ (k)) (by omega)) rfl ?_
              refine L_o (o_strow S4 2 rfl rfl rfl rfl sz3 (by omega) fun w6 S6 => ?_)
              refine L_nil ?_
              refine hK13 _ _ ?_
              refine T_region ?_
              refine L_y (y_move rfl) rfl ?_
              refine L_y (y_sub rfl rfl (i64w (by omega))) rfl ?_
              refine L_y (y_assign rfl) rfl ?_
              refine L_nil ?_
              refine ⟨k, _, by omega, ⟨⟨by omega, by first | exact hxl | (rw [List.length_set]; exact hxl) | (rw [List.length_set, List.length_set]; exact hxl), fun q h1 h2 => by rcases Nat.lt_or_ge k q with h3 | h3; (rw [List.getElem?_set_ne (by omega)]; exact hxs q (by omega) h2); (have e : q = k := by omega); subst e; rw [List.getElem?_set_self (by first | omega | (rw [List.length_set]; omega))]; exact congrArg (fun z : Int => some (Value.int .i64 z)) (by rw [rR_endB (by omega)]; omega)⟩, S6⟩, ?_⟩
              exact (Sub.cons rfl (by first | rfl | exact congrArg (Value.int _) (by omega)) (Sub.cons rfl (by first | rfl | exact congrArg (Value.int _) (by omega)) (Sub.cons rfl (by first | rfl | exact congrArg (Value.int _) (by omega)) (Sub.cons rfl (by first | rfl | exact congrArg (Value.int _) (by omega)) (Sub.cons rfl (by first | rfl | exact congrArg (Value.int _) (by omega)) (Sub.cons rfl (by first | rfl | exact congrArg (Value.int _) (by omega)) (Sub.cons rfl rfl (Sub.cons rfl rfl (Sub.cons rfl rfl (Sub.cons rfl rfl (Sub.cons rfl rfl (Sub.nil _))))))))))))
            ·
              refine T_seq fun K16 hK16 => ?_
              have hf1 := rR_facts la lb (i + 1) k
              have hf2 := rR_facts la lb i (k + 1)
              obtain ⟨x, hx⟩ : ∃ x, la[i]? = some x := ⟨_, List.getElem?_eq_getElem (by omega)⟩
              obtain ⟨y, hy⟩ : ∃ y, lb[k]? = some y := ⟨_, List.getElem?_eq_getElem (by omega)⟩
              obtain ⟨bv, curv, hv1, hv2, hv3⟩ := hok (i + 1) (Nat.le_refl _) (by omega)
              refine T_drawnL [(0, true), (1, true), (2, true), (3, true), (4, true), (5, true), (6, true), (7, true), (8, true), (9, true)] hmix (by kernel_rfl) fun w7 l7 => ?_
              have S7 := S4.like l7
              refine DL_y rfl (y_move rfl) rfl ?_
              refine DL_y rfl (y_move rfl) rfl ?_
              refine DL_y rfl (y_idx Try.underlying22 sz3 rfl rfl (S7.rd ha) (Nt.mk (by omega) : Nt _ (i)) (by omega)) rfl ?_
              refine DL_y rfl (y_ldr Try.underlying3 rfl rfl (S7.rd ha) (iL_get _ _ _ hx)) rfl ?_
              refine DL_y rfl (y_move rfl) rfl ?_
              refine DL_y rfl (y_move rfl) rfl ?_
              refine DL_y rfl (y_idx Try.underlying22 sz3 rfl rfl (S7.rd hb) (Nt.mk (by omega) : Nt _ (k)) (by omega)) rfl ?_
              refine DL_y rfl (y_ldr Try.underlying3 rfl rfl (S7.rd hb) (iL_get _ _ _ hy)) rfl ?_
              refine DL_y rfl (y_eql rfl rfl) rfl ?_
              refine DL_y rfl (y_assign rfl) rfl ?_
              refine DL_nil ?_
              refine hK16 _ _ ?_
              refine T_cond rfl (fun h85 => ?_) (fun h85 => ?_)
              ·
                refine T_region ?_
                refine L_y (y_move rfl) rfl ?_
                refine L_y (y_move rfl) rfl ?_
                refine L_y (y_move rfl) rfl ?_
                refine L_y (y_move rfl) rfl ?_
                refine L_y (y_add rfl rfl (i64w (by omega))) rfl ?_
                refine L_y (y_idx Try.underlying84 sz22 rfl rfl (S7.row 0 rfl) (Nt.mk (by omega) : Nt _ (i + 1)) (by omega)) rfl ?_
                refine L_y (y_ldr Try.underlying22 rfl rfl (S7.row 0 rfl) hv1) rfl ?_
                refine L_y (y_move rfl) rfl ?_
                refine L_y (y_add rfl rfl (i64w (by omega))) rfl ?_
                refine L_y (y_idx Try.underlying22 sz3 rfl rfl (rest_rs (S7.get 1 rfl) hv2 hv3 (by omega)) (Nt.mk (by omega) : Nt _ (k + 1)) (by omega)) rfl ?_
                refine L_y (y_ldr Try.underlying3 rfl rfl (rest_rs (S7.get 1 rfl) hv2 hv3 (by omega)) (rowV_get _ _ _ _ (by omega))) rfl ?_
                refine L_y (y_idx Try.underlying22 sz3 rfl rfl (S7.row 2 rfl) (Nt.mk (by omega) : Nt _ (k)) (by omega)) rfl ?_
                refine L_o (o_strow S7 2 rfl rfl rfl rfl sz3 (by omega) fun w8 S8 => ?_)
                refine L_nil ?_
                refine hK13 _ _ ?_
                refine T_region ?_
                refine L_y (y_move rfl) rfl ?_
                refine L_y (y_sub rfl rfl (i64w (by omega))) rfl ?_
                refine L_y (y_assign rfl) rfl ?_
                refine L_nil ?_
                refine ⟨k, _, by omega, ⟨⟨by omega, by first | exact hxl | (rw [List.length_set]; exact hxl) | (rw [List.length_set, List.length_set]; exact hxl), fun q h1 h2 => by rcases Nat.lt_or_ge k q with h3 | h3; (rw [List.getElem?_set_ne (by omega)]; exact hxs q (by omega) h2); (have e : q = k := by omega); subst e; rw [List.getElem?_set_self (by first | omega | (rw [List.length_set]; omega))]; exact congrArg (fun z : Int => some (Value.int .i64 z)) (by rw [rR_match hx (by rw [h85]; exact hy)])⟩, S8⟩, ?_⟩
                exact (Sub.cons rfl (by first | rfl | exact congrArg (Value.int _) (by omega)) (Sub.cons rfl (by first | rfl | exact congrArg (Value.int _) (by omega)) (Sub.cons rfl (by first | rfl | exact congrArg (Value.int _) (by omega)) (Sub.cons rfl (by first | rfl | exact congrArg (Value.int _) (by omega)) (Sub.cons rfl (by first | rfl | exact congrArg (Value.int _) (by omega)) (Sub.cons rfl (by first | rfl | exact congrArg (Value.int _) (by omega)) (Sub.cons rfl rfl (Sub.cons rfl rfl (Sub.cons rfl rfl (Sub.cons rfl rfl (Sub.cons rfl rfl (Sub.nil _))))))))))))
              ·
                refine T_seq fun K17 hK17 => ?_
                refine T_region ?_
                refine L_y (y_move rfl) rfl ?_
                refine L_y (y_move rfl) rfl ?_
                refine L_y (y_move rfl) rfl ?_
                refine L_y (y_move rfl) rfl ?_
                refine L_y (y_add rfl rfl (i64w (by omega))) rfl ?_
                refine L_y (y_idx Try.underlying84 sz22 rfl rfl (S7.row 0 rfl) (Nt.mk (by omega) : Nt _ (i + 1)) (by omega)) rfl ?_
                refine L_y (y_ldr Try.underlying22 rfl rfl (S7.row 0 rfl) hv1) rfl ?_
                refine L_y (y_move rfl) rfl ?_
                refine L_y (y_idx Try.underlying22 sz3 rfl rfl (rest_rs (S7.get 1 rfl) hv2 hv3 (by omega)) (Nt.mk (by omega) : Nt _ (k)) (by omega)) rfl ?_
                refine L_y (y_ldr Try.underlying3 rfl rfl (rest_rs (S7.get 1 rfl) hv2 hv3 (by omega)) (rowV_get _ _ _ _ (by omega))) rfl ?_
                refine L_y (y_add rfl rfl (i64w (by omega))) rfl ?_
                refine L_y (y_idx Try.underlying22 sz3 rfl rfl (S7.row 2 rfl) (Nt.mk (by omega) : Nt _ (k)) (by omega)) rfl ?_
                refine L_o (o_strow S7 2 rfl rfl rfl rfl sz3 (by omega) fun w9 S9 => ?_)
                refine L_nil ?_
                refine hK17 _ _ ?_
                refine T_seq fun K18 hK18 => ?_
                refine T_drawnL [(0, true), (1, true), (2, true), (3, true), (4, true), (5, true), (6, true), (7, true), (8, true), (9, true), (10, true)] hmix (by kernel_rfl) fun w10 l10 => ?_
                have S10 := S9.like l10
                refine DL_y rfl (y_move rfl) rfl ?_
                refine DL_y rfl (y_move rfl) rfl ?_
                refine DL_y rfl (y_add rfl rfl (i64w (by omega))) rfl ?_
                refine DL_y rfl (y_idx Try.underlying22 sz3 rfl rfl (S10.row 2 rfl) (Nt.mk (by omega) : Nt _ (k + 1)) (by omega)) rfl ?_
                refine DL_y rfl (y_ldr Try.underlying3 rfl rfl (S10.row 2 rfl) (by rw [List.getElem?_set_ne (by omega)]; exact hxs (k + 1) (by omega) (by omega))) rfl ?_
                refine DL_y rfl (y_add rfl rfl (i64w (by omega))) rfl ?_
                refine DL_y rfl (y_move rfl) rfl ?_
                refine DL_y rfl (y_move rfl) rfl ?_
                refine DL_y rfl (y_idx Try.underlying22 sz3 rfl rfl (S10.row 2 rfl) (Nt.mk (by omega) : Nt _ (k)) (by omega)) rfl ?_
                refine DL_y rfl (y_ldr Try.underlying3 rfl rfl (S10.row 2 rfl) (List.getElem?_set_self (by omega))) rfl ?_
                refine DL_y rfl (y_lss rfl rfl) rfl ?_
                refine DL_nil ?_
                refine hK18 _ _ ?_
                refine T_cond rfl (fun h51 => ?_) (fun h51 => ?_)
                ·
                  refine T_region ?_
                  refine L_y (y_move rfl) rfl ?_
                  refine L_y (y_move rfl) rfl ?_
                  refine L_y (y_move rfl) rfl ?_
                  refine L_y (y_move rfl) rfl ?_
                  refine L_y (y_add rfl rfl (i64w (by omega))) rfl ?_
                  refine L_y (y_idx Try.underlying22 sz3 rfl rfl (S10.row 2 rfl) (Nt.mk (by omega) : Nt _ (k + 1)) (by omega)) rfl ?_
                  refine L_y (y_ldr Try.underlying3 rfl rfl (S10.row 2 rfl) (by rw [List.getElem?_set_ne (by omega)]; exact hxs (k + 1) (by omega) (by omega))) rfl ?_
                  refine L_y (y_add rfl rfl (i64w (by omega))) rfl ?_
                  refine L_y (y_idx Try.underlying22 sz3 rfl rfl (S10.row 2 rfl) (Nt.mk (by omega) : Nt _ (k)) (by omega)) rfl ?_
                  refine L_o (o_strow S10 2 rfl rfl rfl rfl sz3 (by omega) fun w11 S11 => ?_)
                  refine L_nil ?_
                  refine hK13 _ _ ?_
                  refine T_region ?_
                  refine L_y (y_move rfl) rfl ?_
                  refine L_y (y_sub rfl rfl (i64w (by omega))) rfl ?_
                  refine L_y (y_assign rfl) rfl ?_
                  refine L_nil ?_
                  refine ⟨k, _, by omega, ⟨⟨by omega, by first | exact hxl | (rw [List.length_set]; exact hxl) | (rw [List.length_set, List.length_set]; exact hxl), fun q h1 h2 => by rcases Nat.lt_or_ge k q with h3 | h3; (rw [List.getElem?_set_ne (by omega), List.getElem?_set_ne (by omega)]; exact hxs q (by omega) h2); (have e : q = k := by omega); subst e; rw [List.getElem?_set_self (by first | omega | (rw [List.length_set]; omega))]; exact congrArg (fun z : Int => some (Value.int .i64 z)) (by have hmi := rR_mis hx hy h85; rcases Nat.le_total (rR la lb (i + 1) q) (rR la lb i (q + 1)) with h9 | h9; (rw [Nat.min_eq_left h9] at hmi; omega); (rw [Nat.min_eq_right h9] at hmi; omega))⟩, S11⟩, ?_⟩
                  exact (Sub.cons rfl (by first | rfl | exact congrArg (Value.int _) (by omega)) (Sub.cons rfl (by first | rfl | exact congrArg (Value.int _) (by omega)) (Sub.cons rfl (by first | rfl | exact congrArg (Value.int _) (by omega)) (Sub.cons rfl (by first | rfl | exact congrArg (Value.int _) (by omega)) (Sub.cons rfl (by first | rfl | exact congrArg (Value.int _) (by omega)) (Sub.cons rfl (by first | rfl | exact congrArg (Value.int _) (by omega)) (Sub.cons rfl rfl (Sub.cons rfl rfl (Sub.cons rfl rfl (Sub.cons rfl rfl (Sub.cons rfl rfl (Sub.nil _))))))))))))
                ·
                  refine T_skip ?_
                  refine hK13 _ _ ?_
                  refine T_region ?_
                  refine L_y (y_move rfl) rfl ?_
                  refine L_y (y_sub rfl rfl (i64w (by omega))) rfl ?_
                  refine L_y (y_assign rfl) rfl ?_
                  refine L_nil ?_
                  refine ⟨k, _, by omega, ⟨⟨by omega, by first | exact hxl | (rw [List.length_set]; exact hxl) | (rw [List.length_set, List.length_set]; exact hxl), fun q h1 h2 => by rcases Nat.lt_or_ge k q with h3 | h3; (rw [List.getElem?_set_ne (by omega)]; exact hxs q (by omega) h2); (have e : q = k := by omega); subst e; rw [List.getElem?_set_self (by first | omega | (rw [List.length_set]; omega))]; exact congrArg (fun z : Int => some (Value.int .i64 z)) (by have hmi := rR_mis hx hy h85; rcases Nat.le_total (rR la lb (i + 1) q) (rR la lb i (q + 1)) with h9 | h9; (rw [Nat.min_eq_left h9] at hmi; omega); (rw [Nat.min_eq_right h9] at hmi; omega))⟩, S10⟩, ?_⟩
                  exact (Sub.cons rfl (by first | rfl | exact congrArg (Value.int _) (by omega)) (Sub.cons rfl (by first | rfl | exact congrArg (Value.int _) (by omega)) (Sub.cons rfl (by first | rfl | exact congrArg (Value.int _) (by omega)) (Sub.cons rfl (by first | rfl | exact congrArg (Value.int _) (by omega)) (Sub.cons rfl (by first | rfl | exact congrArg (Value.int _) (by omega)) (Sub.cons rfl (by first | rfl | exact congrArg (Value.int _) (by omega)) (Sub.cons rfl rfl (Sub.cons rfl rfl (Sub.cons rfl rfl (Sub.cons rfl rfl (Sub.cons rfl rfl (Sub.nil _))))))))))))
        ·
          refine T_exit ?_
          refine hK9 _ _ ?_
          refine T_region ?_
          refine L_y (y_move rfl) rfl ?_
          refine L_y (y_move rfl) rfl ?_
          refine L_y (y_move rfl) rfl ?_
          refine L_y (y_idx Try.underlying84 sz22 rfl rfl (S4.row 0 rfl) (Nt.mk (by omega) : Nt _ (i)) (by omega)) rfl ?_
          refine L_o (o_strow S4 0 rfl rfl rfl rfl sz22 (by omega) fun w12 S12 => ?_)
          refine L_nil ?_
          refine hK7 _ _ ?_
          refine T_region ?_
          refine L_y (y_move rfl) rfl ?_
          refine L_y (y_sub rfl rfl (i64w (by omega))) rfl ?_
          refine L_y (y_assign rfl) rfl ?_
          refine L_nil ?_
          obtain ⟨cur, hc1, hc2, hc3, S95⟩ := heap_join2 (rs := [_]) S12
          have hxr : xs = rowV la lb i := rowV_of (by omega) (fun q hq => hxs q (by omega) (by omega))
          have hct : cur.toList = rowV la lb i := by rw [← hxr, ← hc1, List.take_of_length_le (by rw [Array.length_toList]; omega)]
          have hok2 := hok.add hc3 hct (by omega)
          rw [hlb] at hok2
          refine ⟨i, _, _, by omega, ⟨⟨by omega, by rw [List.length_set]; exact hvl, hok2⟩, S95⟩, ?_⟩
          exact (Sub.cons rfl (by first | rfl | exact congrArg (Value.int _) (by omega)) (Sub.cons rfl (by first | rfl | exact congrArg (Value.int _) (by omega)) (Sub.cons rfl (by first | rfl | exact congrArg (Value.int _) (by omega)) (Sub.cons rfl (by first | rfl | exact congrArg (Value.int _) (by omega)) (Sub.cons rfl rfl (Sub.cons rfl rfl (Sub.cons rfl rfl (Sub.nil _))))))))
    ·
      refine T_exit ?_
      refine hK3 _ _ ?_
      refine T_seq fun K19 hK19 => ?_
      refine T_region ?_
      refine L_y (y_move rfl) rfl ?_
      refine L_y (y_assign rfl) rfl ?_
      refine L_nil ?_
      refine hK19 _ _ ?_
      refine T_ret ?_
      repeat (first | with_reducible refine up_then ?_ | with_reducible refine up_in ?_)
      refine ret1 rfl rfl ?_
      refine ⟨_, rfl, S2.like0, _, _, rfl, vs, by rw [hla]; exact S2.row 0 rfl, fun j hj => ?_⟩
      obtain ⟨b, cur, a1, a2, a3⟩ := hok j (by omega) hj
      exact ⟨_, a1, rest_rs (S2.get 1 rfl) a2 a3 (by omega)⟩
end Go.Proofs.Ytbbmkgpgiacdeaa

/-
  The document: Distance, Diff.
-/
namespace Go.Proofs.Ytbbmkgpgiacdeaa
open Go.RowKit Zk Zx
set_option linter.unusedVariables false
set_option linter.unusedSimpArgs false

theorem own_mono {w : World} {b b' : Nat} {e size n : Nat} {v : Value} {xs : List Value} (h : w.ownsRow b e size v n xs) (hb : b' ≤ b) : w.ownsRow b' e size v n xs :=
  ⟨h.1, h.2.imp id fun ⟨g, cap, cur, a, h1, c⟩ => ⟨g, cap, cur, a, Nat.le_trans hb h1, c⟩⟩


set_option maxRecDepth 100000 in
theorem rdiff (A B : Option Addr) (n ca m cb : Nat) (la lb : List Int) (w0 : World) (ha : Rs w0 1 A n ca (iL la)) (hb : Rs w0 1 B m cb (iL lb)) (hn : n ≤ 4096) (hm : m ≤ 4096) :
    Calls Try.prog 37 #[.slice A n ca, .slice B m cb] w0 fun e w' => ∃ u, e = .returned u ∧ Like w0 w' ∧ ∃ A m c, u = .slice A m c ∧ w'.ownsRow w0.heap.size 34 2 (.slice A m c) m ((keepT la lb 0 0).flatMap pf) := by
  refine enter1 (env := [(0, .slice A n ca), (1, .slice B m cb)]) [.slice A n ca, .slice B m cb] Try.func37 rfl Try.ntmps37 rfl rfl ?_
  have hla := lenI ha; have hlb := lenI hb; have S0 := St.start w0 noM
  refine T_seq fun K1 hK1 => ?_
  refine T_region ?_
  refine L_y (y_assign rfl) rfl ?_
  refine L_nil ?_
  refine hK1 _ _ ?_
  refine T_seq fun K2 hK2 => ?_
  refine T_region ?_
  refine L_y (y_move rfl) rfl ?_
  refine L_y (y_move rfl) rfl ?_
  refine L_o (o_call Try.func57 rfl rfl (rrests A B n ca m cb la lb w0 (S0.rd ha) (S0.rd hb) hn hm) rfl rfl ?_)
  rintro e1 w1 ⟨v1, rfl, l1, R, c, rfl, vs, hR1, hR2⟩
  refine ⟨_, rfl, ?_⟩
  have S1 := S0.like l1
  rw [hla] at hR1
  have ha2 := S1.rd ha
  have hb2 := S1.rd hb
  have hl2 := S1.like0
  have hsz := S1.size
  have S90 := St.start w1 noM
  refine L_y (y_assign rfl) rfl ?_
  refine L_nil ?_
  refine hK2 _ _ ?_
  refine T_seq fun K3 hK3 => ?_
  refine T_region ?_
  have S2 := S90.nilrow 34 2
  refine L_y (y_assign rfl) rfl ?_
  refine L_nil ?_
  refine hK3 _ _ ?_
  refine T_seq fun K4 hK4 => ?_
  refine T_region ?_
  refine L_y (y_assign rfl) rfl ?_
  refine L_y (y_assign rfl) rfl ?_
  refine L_nil ?_
  refine hK4 _ _ ?_
  refine T_seq fun K5 hK5 => ?_
  refine T_block ?_
  refine T_loop5 [(0, _), (1, _), (5, _)] (fun (i : Nat) (k : Nat) (A1 : Option Addr) (c1 : Nat) (ps : List (Nat × Nat)) => [(0, .slice A n ca), (1, .slice B m cb), (5, .slice R (n + 1) c), (6, .slice A1 ps.length c1), (7, .int .i64 (i : Int)), (8, .int .i64 (k : Int))]) (fun (i : Nat) (k : Nat) (A1 : Option Addr) (c1 : Nat) (ps : List (Nat × Nat)) => (n - i) + (m - k)) (fun (i : Nat) (k : Nat) (A1 : Option Addr) (c1 : Nat) (ps : List (Nat × Nat)) (w : World) => (i ≤ n ∧ k ≤ m ∧ ps.length ≤ i ∧ ps ++ keepT la lb i k = keepT la lb 0 0) ∧ St w1 noM [row 34 2 A1 ps.length c1 (ps.flatMap pf)] w) 0 0 none 0 [] (Sub.cons rfl (by first | rfl | exact congrArg (Value.int _) (by omega)) (Sub.cons rfl (by first | rfl | exact congrArg (Value.int _) (by omega)) (Sub.cons rfl (by first | rfl | exact congrArg (Value.int _) (by omega)) (Sub.cons rfl (by first | rfl | exact congrArg (Value.int _) (by omega)) (Sub.cons rfl (by first | rfl | exact congrArg (Value.int _) (by omega)) (Sub.cons rfl (by first | rfl | exact congrArg (Value.int _) (by omega)) (Sub.nil _))))))) (Sub.cons rfl rfl (Sub.cons rfl rfl (Sub.cons rfl rfl (Sub.nil _)))) ?_ ?_
  ·
    exact ⟨⟨Nat.zero_le _, Nat.zero_le _, Nat.le_refl _, rfl⟩, S2⟩
  ·
    intro i k A1 c1 ps w3 hrel
    obtain ⟨⟨hi, hk, hpl, hps⟩, S3⟩ := hrel
    refine T_seq fun K6 hK6 => ?_
    refine T_seq fun K7 hK7 => ?_
    refine T_region ?_
    refine L_y (y_move rfl) rfl ?_
    refine L_y (y_move rfl) rfl ?_
    refine L_y (y_len Try.underlying22 rfl) rfl ?_
    refine L_y (y_lss rfl rfl) rfl ?_
    refine L_y (y_move rfl) rfl ?_
    refine L_split 16 rfl (fun h16 => ?_) (fun h16 => ?_)
    ·
      refine L_gno rfl rfl rfl ?_
      refine L_gno rfl rfl rfl ?_
      refine L_gno rfl rfl rfl ?_
      refine L_gno rfl rfl rfl ?_
      refine L_y ((by first | exact y_pickT rfl rfl | exact y_pickF rfl rfl)) rfl ?_
      refine L_nil ?_
      refine hK7 _ _ ?_
      refine T_true rfl ?_
      refine T_skip ?_
      refine hK6 _ _ ?_
      refine T_block ?_
      refine T_seq fun K8 hK8 => ?_
      refine T_seq fun K9 hK9 => ?_
      refine T_drawnL [(0, true), (1, true), (2, true), (3, true), (4, true), (5, true), (6, true), (7, true), (8, true), (9, true), (10, true), (11, true), (12, true), (13, true), (14, true), (15, true), (16, true), (17, true), (18, true), (19, true), (20, true)] hmix (by kernel_rfl) fun w5 l5 => ?_
      have S5 := S3.like l5
      refine DL_y rfl (y_move rfl) rfl ?_
      refine DL_y rfl (y_move rfl) rfl ?_
      refine DL_y rfl (y_len Try.underlying22 rfl) rfl ?_
      refine DL_y rfl (y_lss rfl rfl) rfl ?_
      refine DL_y rfl (y_move rfl) rfl ?_
      refine DL_split 26 rfl (fun h26 => ?_) (fun h26 => ?_)
      ·
        refine DL_gyes rfl rfl rfl (y_move rfl) rfl ?_
        refine DL_gyes rfl rfl rfl (y_move rfl) rfl ?_
        refine DL_gyes rfl rfl rfl (y_len Try.underlying22 rfl) rfl ?_
        refine DL_gyes rfl rfl rfl (y_lss rfl rfl) rfl ?_
        refine DL_y rfl ((by first | exact y_pickT rfl rfl | exact y_pickF rfl rfl)) rfl ?_
        refine DL_y rfl (y_move rfl) rfl ?_
        refine DL_split 32 rfl (fun h32 => ?_) (fun h32 => ?_)
        ·
          obtain ⟨x, hx⟩ : ∃ x, la[i]? = some x := ⟨_, List.getElem?_eq_getElem (by omega)⟩
          obtain ⟨y, hy⟩ : ∃ y, lb[k]? = some y := ⟨_, List.getElem?_eq_getElem (by omega)⟩
          refine DL_gyes rfl rfl rfl (y_move rfl) rfl ?_
          refine DL_gyes rfl rfl rfl (y_move rfl) rfl ?_
          refine DL_gyes rfl rfl rfl (y_idx Try.underlying22 sz3 rfl rfl (S5.rd ha2) inferInstance (by omega)) rfl ?_
          refine DL_gyes rfl rfl rfl (y_ldr Try.underlying3 rfl rfl (S5.rd ha2) (iL_get _ _ _ hx)) rfl ?_
          refine DL_gyes rfl rfl rfl (y_move rfl) rfl ?_
          refine DL_gyes rfl rfl rfl (y_move rfl) rfl ?_
          refine DL_gyes rfl rfl rfl (y_idx Try.underlying22 sz3 rfl rfl (S5.rd hb2) inferInstance (by omega)) rfl ?_
          refine DL_gyes rfl rfl rfl (y_ldr Try.underlying3 rfl rfl (S5.rd hb2) (iL_get _ _ _ hy)) rfl ?_
          refine DL_gyes rfl rfl rfl (y_eql rfl rfl) rfl ?_
          refine DL_y rfl ((by first | exact y_pickT rfl rfl | exact y_pickF rfl rfl)) rfl ?_
          refine DL_nil ?_
          refine hK9 _ _ ?_
          refine T_cond rfl (fun h42 => ?_) (fun h42 => ?_)
          ·
            refine T_seq fun K10 hK10 => ?_
            refine T_region ?_
            refine L_y (y_move rfl) rfl ?_
            refine L_y (y_move rfl) rfl ?_
            refine L_y (y_move rfl) rfl ?_
            refine L_y (y_build rfl (show _ = some #[Value.int .i64 (i : Int), Value.int .i64 (k : Int)] by kernel_rfl)) rfl ?_
            refine L_o (o_bsl [_, _] te25 zz34 S5 rfl rfl rfl rfl rfl rfl rfl rfl fun b6 w6 S6 => ?_)
            refine L_o (o_app te25 S6 0 rfl rfl rfl (by first | exact S6.row 0 rfl | exact S6.row 1 rfl) (fun u hu => pf_one [(i, k)] u hu) rfl (by omega) (by omega) fun A7 c7 w7 S7 => ?_)
            have S7d := S7.drop (rs' := [_]) (.cons_cons _ (.cons _ (.refl _)))
            refine L_y (y_assign rfl) rfl ?_
            refine L_nil ?_
            refine hK10 _ _ ?_
            refine T_seq fun K11 hK11 => ?_
            refine T_region ?_
            refine L_y (y_move rfl) rfl ?_
            refine L_y (y_add rfl rfl (i64w (by omega))) rfl ?_
            refine L_y (y_assign rfl) rfl ?_
            refine L_nil ?_
            refine hK11 _ _ ?_
            refine T_seq fun K12 hK12 => ?_
            refine T_region ?_
            refine L_y (y_move rfl) rfl ?_
            refine L_y (y_add rfl rfl (i64w (by omega))) rfl ?_
            refine L_y (y_assign rfl) rfl ?_
            refine L_nil ?_
            refine hK12 _ _ ?_
            refine T_exit ?_
            have hh : i < la.length ∧ k < lb.length ∧ la[i]? = lb[k]? := ⟨by omega, by omega, by rw [hx, hy, h42]⟩
            have S91 := S7d.rowc 0 rfl (n' := (ps ++ [(i, k)]).length) (xs' := (ps ++ [(i, k)]).flatMap pf) (by simp) (by rw [List.flatMap_append])
            refine ⟨i + 1, k + 1, _, _, ps ++ [(i, k)], by omega, ⟨⟨by omega, by omega, by rw [List.length_append]; simp only [List.length_cons, List.length_nil]; omega, by rw [← hps, keep_hit hh, List.append_assoc]; rfl⟩, S91⟩, ?_⟩
            exact (Sub.cons rfl (by first | rfl | exact congrArg (Value.int _) (by omega)) (Sub.cons rfl (by first | rfl | exact congrArg (Value.int _) (by omega)) (Sub.cons rfl (by first | rfl | exact congrArg (Value.int _) (by omega)) (Sub.cons rfl (by first | rfl | (rw [List.length_append]; rfl)) (Sub.cons rfl (by first | rfl | exact congrArg (Value.int _) (by omega)) (Sub.cons rfl (by first | rfl | exact congrArg (Value.int _) (by omega)) (Sub.cons rfl rfl (Sub.cons rfl rfl (Sub.cons rfl rfl (Sub.nil _))))))))))
          ·
            refine T_skip ?_
            refine hK8 _ _ ?_
            refine T_seq fun K13 hK13 => ?_
            have hno : ¬ (i < la.length ∧ k < lb.length ∧ la[i]? = lb[k]?) := (fun h => by have h9 := h.2.2; rw [hx, hy] at h9; exact h42 (Option.some.inj h9))
            refine T_drawnL [(0, true), (1, true), (2, true), (3, true), (4, true), (5, true), (6, true), (7, true), (8, true), (9, true), (10, true), (11, true), (12, true), (13, true), (14, true), (15, true), (16, true), (17, true), (18, true), (19, true), (20, true), (21, true)] hmix (by kernel_rfl) fun w8 l8 => ?_
            have S8 := S5.like l8
            refine DL_y rfl (y_move rfl) rfl ?_
            refine DL_y rfl (y_move rfl) rfl ?_
            refine DL_y rfl (y_len Try.underlying22 rfl) rfl ?_
            refine DL_y rfl (y_lss rfl rfl) rfl ?_
            refine DL_y rfl (y_move rfl) rfl ?_
            refine DL_split 57 rfl (fun h57 => ?_) (fun h57 => ?_)
            ·
              obtain ⟨ad1, hu1, hu2⟩ := hR2 (i + 1) (by omega)
              obtain ⟨ad2, hu3, hu4⟩ := hR2 i (by omega)
              refine DL_gyes rfl rfl rfl (y_move rfl) rfl ?_
              refine DL_gyes rfl rfl rfl (y_move rfl) rfl ?_
              refine DL_gyes rfl rfl rfl (y_add rfl rfl (i64w (by omega))) rfl ?_
              refine DL_gyes rfl rfl rfl (y_idx Try.underlying84 sz22 rfl rfl (S8.rd hR1) (Nt.mk (by omega) : Nt _ (i + 1)) (by omega)) rfl ?_
              refine DL_gyes rfl rfl rfl (y_ldr Try.underlying22 rfl rfl (S8.rd hR1) hu1) rfl ?_
              refine DL_gyes rfl rfl rfl (y_move rfl) rfl ?_
              refine DL_gyes rfl rfl rfl (y_idx Try.underlying22 sz3 rfl rfl (S8.rd hu2) inferInstance (by omega)) rfl ?_
              refine DL_gyes rfl rfl rfl (y_ldr Try.underlying3 rfl rfl (S8.rd hu2) (rowV_get _ _ _ _ (by omega))) rfl ?_
              refine DL_gyes rfl rfl rfl (y_move rfl) rfl ?_
              refine DL_gyes rfl rfl rfl (y_move rfl) rfl ?_
              refine DL_gyes rfl rfl rfl (y_idx Try.underlying84 sz22 rfl rfl (S8.rd hR1) inferInstance (by omega)) rfl ?_
              refine DL_gyes rfl rfl rfl (y_ldr Try.underlying22 rfl rfl (S8.rd hR1) hu3) rfl ?_
              refine DL_gyes rfl rfl rfl (y_move rfl) rfl ?_
              refine DL_gyes rfl rfl rfl (y_idx Try.underlying22 sz3 rfl rfl (S8.rd hu4) inferInstance (by omega)) rfl ?_
              refine DL_gyes rfl rfl rfl (y_ldr Try.underlying3 rfl rfl (S8.rd hu4) (rowV_get _ _ _ _ (by omega))) rfl ?_
              refine DL_gyes rfl rfl rfl (y_lss rfl rfl) rfl ?_
              refine DL_y rfl ((by first | exact y_pickT rfl rfl | exact y_pickF rfl rfl)) rfl ?_
              refine DL_nil ?_
              refine hK13 _ _ ?_
              refine T_cond rfl (fun h74 => ?_) (fun h74 => ?_)
              ·
                refine T_region ?_
                refine L_y (y_move rfl) rfl ?_
                refine L_y (y_add rfl rfl (i64w (by omega))) rfl ?_
                refine L_y (y_assign rfl) rfl ?_
                refine L_nil ?_
                have hm2 : i < la.length ∧ rR la lb (i + 1) k < rR la lb i k := ⟨by omega, by omega⟩
                refine ⟨i + 1, k, A1, c1, ps, by omega, ⟨⟨by omega, by omega, by omega, by rw [← hps, keep_a hno hm2]⟩, S8⟩, ?_⟩
                exact (Sub.cons rfl (by first | rfl | exact congrArg (Value.int _) (by omega)) (Sub.cons rfl (by first | rfl | exact congrArg (Value.int _) (by omega)) (Sub.cons rfl (by first | rfl | exact congrArg (Value.int _) (by omega)) (Sub.cons rfl (by first | rfl | (rw [List.length_append]; rfl)) (Sub.cons rfl (by first | rfl | exact congrArg (Value.int _) (by omega)) (Sub.cons rfl (by first | rfl | exact congrArg (Value.int _) (by omega)) (Sub.cons rfl rfl (Sub.cons rfl rfl (Sub.cons rfl rfl (Sub.nil _))))))))))
              ·
                refine T_region ?_
                refine L_y (y_move rfl) rfl ?_
                refine L_y (y_add rfl rfl (i64w (by omega))) rfl ?_
                refine L_y (y_assign rfl) rfl ?_
                refine L_nil ?_
                have hm2 : ¬ (i < la.length ∧ rR la lb (i + 1) k < rR la lb i k) := fun h => by omega
                have hkl : k < lb.length := by rcases Nat.lt_or_ge k lb.length with q | q; exact q; exact (hm2 ⟨by omega, by rw [rR_endB q, rR_endB q]; omega⟩).elim
                refine ⟨i, k + 1, A1, c1, ps, by omega, ⟨⟨by omega, by omega, by omega, by rw [← hps, keep_b hno hm2 hkl]⟩, S8⟩, ?_⟩
                exact (Sub.cons rfl (by first | rfl | exact congrArg (Value.int _) (by omega)) (Sub.cons rfl (by first | rfl | exact congrArg (Value.int _) (by omega)) (Sub.cons rfl (by first | rfl | exact congrArg (Value.int _) (by omega)) (Sub.cons rfl (by first | rfl | (rw [List.length_append]; rfl)) (Sub.cons rfl (by first | rfl | exact congrArg (Value.int _) (by omega)) (Sub.cons rfl (by first | rfl | exact congrArg (Value.int _) (by omega)) (Sub.cons rfl rfl (Sub.cons rfl rfl (Sub.cons rfl rfl (Sub.nil _))))))))))
            ·
              refine DL_gno rfl rfl rfl rfl ?_
              refine DL_gno rfl rfl rfl rfl ?_
              refine DL_gno rfl rfl rfl rfl ?_
              refine DL_gno rfl rfl rfl rfl ?_
              refine DL_gno rfl rfl rfl rfl ?_
              refine DL_gno rfl rfl rfl rfl ?_
              refine DL_gno rfl rfl rfl rfl ?_
              refine DL_gno rfl rfl rfl rfl ?_
              refine DL_gno rfl rfl rfl rfl ?_
              refine DL_gno rfl rfl rfl rfl ?_
              refine DL_gno rfl rfl rfl rfl ?_
              refine DL_gno rfl rfl rfl rfl ?_
              refine DL_gno rfl rfl rfl rfl ?_
              refine DL_gno rfl rfl rfl rfl ?_
              refine DL_gno rfl rfl rfl rfl ?_
              refine DL_gno rfl rfl rfl rfl ?_
              refine DL_y rfl ((by first | exact y_pickT rfl rfl | exact y_pickF rfl rfl)) rfl ?_
              refine DL_nil ?_
              refine hK13 _ _ ?_
              refine T_false rfl ?_
              refine T_region ?_
              refine L_y (y_move rfl) rfl ?_
              refine L_y (y_add rfl rfl (i64w (by omega))) rfl ?_
              refine L_y (y_assign rfl) rfl ?_
              refine L_nil ?_
              have hm2 : ¬ (i < la.length ∧ rR la lb (i + 1) k < rR la lb i k) := fun h => by omega
              have hkl : k < lb.length := by rcases Nat.lt_or_ge k lb.length with q | q; exact q; exact (hm2 ⟨by omega, by rw [rR_endB q, rR_endB q]; omega⟩).elim
              refine ⟨i, k + 1, A1, c1, ps, by omega, ⟨⟨by omega, by omega, by omega, by rw [← hps, keep_b hno hm2 hkl]⟩, S8⟩, ?_⟩
              exact (Sub.cons rfl (by first | rfl | exact congrArg (Value.int _) (by omega)) (Sub.cons rfl (by first | rfl | exact congrArg (Value.int _) (by omega)) (Sub.cons rfl (by first | rfl | exact congrArg (Value.int _) (by omega)) (Sub.cons rfl (by first | rfl | (rw [List.length_append]; rfl)) (Sub.cons rfl (by first | rfl | exact congrArg (Value.int _) (by omega)) (Sub.cons rfl (by first | rfl | exact congrArg (Value.int _) (by omega)) (Sub.cons rfl rfl (Sub.cons rfl rfl (Sub.cons rfl rfl (Sub.nil _))))))))))
        ·
          refine DL_gno rfl rfl rfl rfl ?_
          refine DL_gno rfl rfl rfl rfl ?_
          refine DL_gno rfl rfl rfl rfl ?_
          refine DL_gno rfl rfl rfl rfl ?_
          refine DL_gno rfl rfl rfl rfl ?_
          refine DL_gno rfl rfl rfl rfl ?_
          refine DL_gno rfl rfl rfl rfl ?_
          refine DL_gno rfl rfl rfl rfl ?_
          refine DL_gno rfl rfl rfl rfl ?_
          refine DL_y rfl ((by first | exact y_pickT rfl rfl | exact y_pickF rfl rfl)) rfl ?_
          refine DL_nil ?_
          refine hK9 _ _ ?_
          refine T_false rfl ?_
          refine T_skip ?_
          refine hK8 _ _ ?_
          refine T_seq fun K14 hK14 => ?_
          have hno : ¬ (i < la.length ∧ k < lb.length ∧ la[i]? = lb[k]?) := (fun h => by omega)
          refine T_drawnL [(0, true), (1, true), (2, true), (3, true), (4, true), (5, true), (6, true), (7, true), (8, true), (9, true), (10, true), (11, true), (12, true), (13, true), (14, true), (15, true), (16, true), (17, true), (18, true), (19, true), (20, true), (21, true)] hmix (by kernel_rfl) fun w9 l9 => ?_
          have S9 := S5.like l9
          refine DL_y rfl (y_move rfl) rfl ?_
          refine DL_y rfl (y_move rfl) rfl ?_
          refine DL_y rfl (y_len Try.underlying22 rfl) rfl ?_
          refine DL_y rfl (y_lss rfl rfl) rfl ?_
          refine DL_y rfl (y_move rfl) rfl ?_
          refine DL_split 57 rfl (fun h57 => ?_) (fun h57 => ?_)
          ·
            obtain ⟨ad1, hu1, hu2⟩ := hR2 (i + 1) (by omega)
            obtain ⟨ad2, hu3, hu4⟩ := hR2 i (by omega)
            refine DL_gyes rfl rfl rfl (y_move rfl) rfl ?_
            refine DL_gyes rfl rfl rfl (y_move rfl) rfl ?_
            refine DL_gyes rfl rfl rfl (y_add rfl rfl (i64w (by omega))) rfl ?_
            refine DL_gyes rfl rfl rfl (y_idx Try.underlying84 sz22 rfl rfl (S9.rd hR1) (Nt.mk (by omega) : Nt _ (i + 1)) (by omega)) rfl ?_
            refine DL_gyes rfl rfl rfl (y_ldr Try.underlying22 rfl rfl (S9.rd hR1) hu1) rfl ?_
            refine DL_gyes rfl rfl rfl (y_move rfl) rfl ?_
            refine DL_gyes rfl rfl rfl (y_idx Try.underlying22 sz3 rfl rfl (S9.rd hu2) inferInstance (by omega)) rfl ?_
            refine DL_gyes rfl rfl rfl (y_ldr Try.underlying3 rfl rfl (S9.rd hu2) (rowV_get _ _ _ _ (by omega))) rfl ?_
            refine DL_gyes rfl rfl rfl (y_move rfl) rfl ?_
            refine DL_gyes rfl rfl rfl (y_move rfl) rfl ?_
            refine DL_gyes rfl rfl rfl (y_idx Try.underlying84 sz22 rfl rfl (S9.rd hR1) inferInstance (by omega)) rfl ?_
            refine DL_gyes rfl rfl rfl (y_ldr Try.underlying22 rfl rfl (S9.rd hR1) hu3) rfl ?_
            refine DL_gyes rfl rfl rfl (y_move rfl) rfl ?_
            refine DL_gyes rfl rfl rfl (y_idx Try.underlying22 sz3 rfl rfl (S9.rd hu4) inferInstance (by omega)) rfl ?_
            refine DL_gyes rfl rfl rfl (y_ldr Try.underlying3 rfl rfl (S9.rd hu4) (rowV_get _ _ _ _ (by omega))) rfl ?_
            refine DL_gyes rfl rfl rfl (y_lss rfl rfl) rfl ?_
            refine DL_y rfl ((by first | exact y_pickT rfl rfl | exact y_pickF rfl rfl)) rfl ?_
            refine DL_nil ?_
            refine hK14 _ _ ?_
            refine T_cond rfl (fun h74 => ?_) (fun h74 => ?_)
            ·
              refine T_region ?_
              refine L_y (y_move rfl) rfl ?_
              refine L_y (y_add rfl rfl (i64w (by omega))) rfl ?_
              refine L_y (y_assign rfl) rfl ?_
              refine L_nil ?_
              have hm2 : i < la.length ∧ rR la lb (i + 1) k < rR la lb i k := ⟨by omega, by omega⟩
              refine ⟨i + 1, k, A1, c1, ps, by omega, ⟨⟨by omega, by omega, by omega, by rw [← hps, keep_a hno hm2]⟩, S9⟩, ?_⟩
              exact (Sub.cons rfl (by first | rfl | exact congrArg (Value.int _) (by omega)) (Sub.cons rfl (by first | rfl | exact congrArg (Value.int _) (by omega)) (Sub.cons rfl (by first | rfl | exact congrArg (Value.int _) (by omega)) (Sub.cons rfl (by first | rfl | (rw [List.length_append]; rfl)) (Sub.cons rfl (by first | rfl | exact congrArg (Value.int _) (by omega)) (Sub.cons rfl (by first | rfl | exact congrArg (Value.int _) (by omega)) (Sub.cons rfl rfl (Sub.cons rfl rfl (Sub.cons rfl rfl (Sub.nil _))))))))))
            ·
              refine T_region ?_
              refine L_y (y_move rfl) rfl ?_
              refine L_y (y_add rfl rfl (i64w (by omega))) rfl ?_
              refine L_y (y_assign rfl) rfl ?_
              refine L_nil ?_
              have hm2 : ¬ (i < la.length ∧ rR la lb (i + 1) k < rR la lb i k) := fun h => by omega
              have hkl : k < lb.length := by rcases Nat.lt_or_ge k lb.length with q | q; exact q; exact (hm2 ⟨by omega, by rw [rR_endB q, rR_endB q]; omega⟩).elim
              refine ⟨i, k + 1, A1, c1, ps, by omega, ⟨⟨by omega, by omega, by omega, by rw [← hps, keep_b hno hm2 hkl]⟩, S9⟩, ?_⟩
              exact (Sub.cons rfl (by first | rfl | exact congrArg (Value.int _) (by omega)) (Sub.cons rfl (by first | rfl | exact congrArg (Value.int _) (by omega)) (Sub.cons rfl (by first | rfl | exact congrArg (Value.int _) (by omega)) (Sub.cons rfl (by first | rfl | (rw [List.length_append]; rfl)) (Sub.cons rfl (by first | rfl | exact congrArg (Value.int _) (by omega)) (Sub.cons rfl (by first | rfl | exact congrArg (Value.int _) (by omega)) (Sub.cons rfl rfl (Sub.cons rfl rfl (Sub.cons rfl rfl (Sub.nil _))))))))))
          ·
            refine DL_gno rfl rfl rfl rfl ?_
            refine DL_gno rfl rfl rfl rfl ?_
            refine DL_gno rfl rfl rfl rfl ?_
            refine DL_gno rfl rfl rfl rfl ?_
            refine DL_gno rfl rfl rfl rfl ?_
            refine DL_gno rfl rfl rfl rfl ?_
            refine DL_gno rfl rfl rfl rfl ?_
            refine DL_gno rfl rfl rfl rfl ?_
            refine DL_gno rfl rfl rfl rfl ?_
            refine DL_gno rfl rfl rfl rfl ?_
            refine DL_gno rfl rfl rfl rfl ?_
            refine DL_gno rfl rfl rfl rfl ?_
            refine DL_gno rfl rfl rfl rfl ?_
            refine DL_gno rfl rfl rfl rfl ?_
            refine DL_gno rfl rfl rfl rfl ?_
            refine DL_gno rfl rfl rfl rfl ?_
            refine DL_y rfl ((by first | exact y_pickT rfl rfl | exact y_pickF rfl rfl)) rfl ?_
            refine DL_nil ?_
            refine hK14 _ _ ?_
            refine T_false rfl ?_
            refine T_region ?_
            refine L_y (y_move rfl) rfl ?_
            refine L_y (y_add rfl rfl (i64w (by omega))) rfl ?_
            refine L_y (y_assign rfl) rfl ?_
            refine L_nil ?_
            have hm2 : ¬ (i < la.length ∧ rR la lb (i + 1) k < rR la lb i k) := fun h => by omega
            have hkl : k < lb.length := by rcases Nat.lt_or_ge k lb.length with q | q; exact q; exact (hm2 ⟨by omega, by rw [rR_endB q, rR_endB q]; omega⟩).elim
            refine ⟨i, k + 1, A1, c1, ps, by omega, ⟨⟨by omega, by omega, by omega, by rw [← hps, keep_b hno hm2 hkl]⟩, S9⟩, ?_⟩
            exact (Sub.cons rfl (by first | rfl | exact congrArg (Value.int _) (by omega)) (Sub.cons rfl (by first | rfl | exact congrArg (Value.int _) (by omega)) (Sub.cons rfl (by first | rfl | exact congrArg (Value.int _) (by omega)) (Sub.cons rfl (by first | rfl | (rw [List.length_append]; rfl)) (Sub.cons rfl (by first | rfl | exact congrArg (Value.int _) (by omega)) (Sub.cons rfl (by first | rfl | exact congrArg (Value.int _) (by omega)) (Sub.cons rfl rfl (Sub.cons rfl rfl (Sub.cons rfl rfl (Sub.nil _))))))))))
      ·
        refine DL_gno rfl rfl rfl rfl ?_
        refine DL_gno rfl rfl rfl rfl ?_
        refine DL_gno rfl rfl rfl rfl ?_
        refine DL_gno rfl rfl rfl rfl ?_
        refine DL_y rfl ((by first | exact y_pickT rfl rfl | exact y_pickF rfl rfl)) rfl ?_
        refine DL_y rfl (y_move rfl) rfl ?_
        refine DL_gno rfl rfl rfl rfl ?_
        refine DL_gno rfl rfl rfl rfl ?_
        refine DL_gno rfl rfl rfl rfl ?_
        refine DL_gno rfl rfl rfl rfl ?_
        refine DL_gno rfl rfl rfl rfl ?_
        refine DL_gno rfl rfl rfl rfl ?_
        refine DL_gno rfl rfl rfl rfl ?_
        refine DL_gno rfl rfl rfl rfl ?_
        refine DL_gno rfl rfl rfl rfl ?_
        refine DL_y rfl ((by first | exact y_pickT rfl rfl | exact y_pickF rfl rfl)) rfl ?_
        refine DL_nil ?_
        refine hK9 _ _ ?_
        refine T_false rfl ?_
        refine T_skip ?_
        refine hK8 _ _ ?_
        refine T_seq fun K15 hK15 => ?_
        have hno : ¬ (i < la.length ∧ k < lb.length ∧ la[i]? = lb[k]?) := (fun h => by omega)
        refine T_drawnL [(0, true), (1, true), (2, true), (3, true), (4, true), (5, true), (6, true), (7, true), (8, true), (9, true), (10, true), (11, true), (12, true), (13, true), (14, true), (15, true), (16, true), (17, true), (18, true), (19, true), (20, true), (21, true)] hmix (by kernel_rfl) fun w10 l10 => ?_
        have S10 := S5.like l10
        refine DL_y rfl (y_move rfl) rfl ?_
        refine DL_y rfl (y_move rfl) rfl ?_
        refine DL_y rfl (y_len Try.underlying22 rfl) rfl ?_
        refine DL_y rfl (y_lss rfl rfl) rfl ?_
        refine DL_y rfl (y_move rfl) rfl ?_
        refine DL_split 57 rfl (fun h57 => ?_) (fun h57 => ?_)
        ·
          obtain ⟨ad1, hu1, hu2⟩ := hR2 (i + 1) (by omega)
          obtain ⟨ad2, hu3, hu4⟩ := hR2 i (by omega)
          refine DL_gyes rfl rfl rfl (y_move rfl) rfl ?_
          refine DL_gyes rfl rfl rfl (y_move rfl) rfl ?_
          refine DL_gyes rfl rfl rfl (y_add rfl rfl (i64w (by omega))) rfl ?_
          refine DL_gyes rfl rfl rfl (y_idx Try.underlying84 sz22 rfl rfl (S10.rd hR1) (Nt.mk (by omega) : Nt _ (i + 1)) (by omega)) rfl ?_
          refine DL_gyes rfl rfl rfl (y_ldr Try.underlying22 rfl rfl (S10.rd hR1) hu1) rfl ?_
          refine DL_gyes rfl rfl rfl (y_move rfl) rfl ?_
          refine DL_gyes rfl rfl rfl (y_idx Try.underlying22 sz3 rfl rfl (S10.rd hu2) inferInstance (by omega)) rfl ?_
          refine DL_gyes rfl rfl rfl (y_ldr Try.underlying3 rfl rfl (S10.rd hu2) (rowV_get _ _ _ _ (by omega))) rfl ?_
          refine DL_gyes rfl rfl rfl (y_move rfl) rfl ?_
          refine DL_gyes rfl rfl rfl (y_move rfl) rfl ?_
          refine DL_gyes rfl rfl rfl (y_idx Try.underlying84 sz22 rfl rfl (S10.rd hR1) inferInstance (by omega)) rfl ?_
          refine DL_gyes rfl rfl rfl (y_ldr Try.underlying22 rfl rfl (S10.rd hR1) hu3) rfl ?_
          refine DL_gyes rfl rfl rfl (y_move rfl) rfl ?_
          refine DL_gyes rfl rfl rfl (y_idx Try.underlying22 sz3 rfl rfl (S10.rd hu4) inferInstance (by omega)) rfl ?_
          refine DL_gyes rfl rfl rfl (y_ldr Try.underlying3 rfl rfl (S10.rd hu4) (rowV_get _ _ _ _ (by omega))) rfl ?_
          refine DL_gyes rfl rfl rfl (y_lss rfl rfl) rfl ?_
          refine DL_y rfl ((by first | exact y_pickT rfl rfl | exact y_pickF rfl rfl)) rfl ?_
          refine DL_nil ?_
          refine hK15 _ _ ?_
          refine T_cond rfl (fun h74 => ?_) (fun h74 => ?_)
          ·
            refine T_region ?_
            refine L_y (y_move rfl) rfl ?_
            refine L_y (y_add rfl rfl (i64w (by omega))) rfl ?_
            refine L_y (y_assign rfl) rfl ?_
            refine L_nil ?_
            have hm2 : i < la.length ∧ rR la lb (i + 1) k < rR la lb i k := ⟨by omega, by omega⟩
            refine ⟨i + 1, k, A1, c1, ps, by omega, ⟨⟨by omega, by omega, by omega, by rw [← hps, keep_a hno hm2]⟩, S10⟩, ?_⟩
            exact (Sub.cons rfl (by first | rfl | exact congrArg (Value.int _) (by omega)) (Sub.cons rfl (by first | rfl | exact congrArg (Value.int _) (by omega)) (Sub.cons rfl (by first | rfl | exact congrArg (Value.int _) (by omega)) (Sub.cons rfl (by first | rfl | (rw [List.length_append]; rfl)) (Sub.cons rfl (by first | rfl | exact congrArg (Value.int _) (by omega)) (Sub.cons rfl (by first | rfl | exact congrArg (Value.int _) (by omega)) (Sub.cons rfl rfl (Sub.cons rfl rfl (Sub.cons rfl rfl (Sub.nil _))))))))))
          ·
            refine T_region ?_
            refine L_y (y_move rfl) rfl ?_
            refine L_y (y_add rfl rfl (i64w (by omega))) rfl ?_
            refine L_y (y_assign rfl) rfl ?_
            refine L_nil ?_
            have hm2 : ¬ (i < la.length ∧ rR la lb (i + 1) k < rR la lb i k) := fun h => by omega
            have hkl : k < lb.length := by rcases Nat.lt_or_ge k lb.length with q | q; exact q; exact (hm2 ⟨by omega, by rw [rR_endB q, rR_endB q]; omega⟩).elim
            refine ⟨i, k + 1, A1, c1, ps, by omega, ⟨⟨by omega, by omega, by omega, by rw [← hps, keep_b hno hm2 hkl]⟩, S10⟩, ?_⟩
            exact (Sub.cons rfl (by first | rfl | exact congrArg (Value.int _) (by omega)) (Sub.cons rfl (by first | rfl | exact congrArg (Value.int _) (by omega)) (Sub.cons rfl (by first | rfl | exact congrArg (Value.int _) (by omega)) (Sub.cons rfl (by first | rfl | (rw [List.length_append]; rfl)) (Sub.cons rfl (by first | rfl | exact congrArg (Value.int _) (by omega)) (Sub.cons rfl (by first | rfl | exact congrArg (Value.int _) (by omega)) (Sub.cons rfl rfl (Sub.cons rfl rfl (Sub.cons rfl rfl (Sub.nil _))))))))))
        ·
          refine DL_gno rfl rfl rfl rfl ?_
          refine DL_gno rfl rfl rfl rfl ?_
          refine DL_gno rfl rfl rfl rfl ?_
          refine DL_gno rfl rfl rfl rfl ?_
          refine DL_gno rfl rfl rfl rfl ?_
          refine DL_gno rfl rfl rfl rfl ?_
          refine DL_gno rfl rfl rfl rfl ?_
          refine DL_gno rfl rfl rfl rfl ?_
          refine DL_gno rfl rfl rfl rfl ?_
          refine DL_gno rfl rfl rfl rfl ?_
          refine DL_gno rfl rfl rfl rfl ?_
          refine DL_gno rfl rfl rfl rfl ?_
          refine DL_gno rfl rfl rfl rfl ?_
          refine DL_gno rfl rfl rfl rfl ?_
          refine DL_gno rfl rfl rfl rfl ?_
          refine DL_gno rfl rfl rfl rfl ?_
          refine DL_y rfl ((by first | exact y_pickT rfl rfl | exact y_pickF rfl rfl)) rfl ?_
          refine DL_nil ?_
          refine hK15 _ _ ?_
          refine T_false rfl ?_
          refine T_region ?_
          refine L_y (y_move rfl) rfl ?_
          refine L_y (y_add rfl rfl (i64w (by omega))) rfl ?_
          refine L_y (y_assign rfl) rfl ?_
          refine L_nil ?_
          have hm2 : ¬ (i < la.length ∧ rR la lb (i + 1) k < rR la lb i k) := fun h => by omega
          have hkl : k < lb.length := by rcases Nat.lt_or_ge k lb.length with q | q; exact q; exact (hm2 ⟨by omega, by rw [rR_endB q, rR_endB q]; omega⟩).elim
          refine ⟨i, k + 1, A1, c1, ps, by omega, ⟨⟨by omega, by omega, by omega, by rw [← hps, keep_b hno hm2 hkl]⟩, S10⟩, ?_⟩
          exact (Sub.cons rfl (by first | rfl | exact congrArg (Value.int _) (by omega)) (Sub.cons rfl (by first | rfl | exact congrArg (Value.int _) (by omega)) (Sub.cons rfl (by first | rfl | exact congrArg (Value.int _) (by omega)) (Sub.cons rfl (by first | rfl | (rw [List.length_append]; rfl)) (Sub.cons rfl (by first | rfl | exact congrArg (Value.int _) (by omega)) (Sub.cons rfl (by first | rfl | exact congrArg (Value.int _) (by omega)) (Sub.cons rfl rfl (Sub.cons rfl rfl (Sub.cons rfl rfl (Sub.nil _))))))))))
    ·
      refine L_gyes rfl rfl ?_
      refine L_y (y_move rfl) rfl ?_
      refine L_gyes rfl rfl ?_
      refine L_y (y_move rfl) rfl ?_
      refine L_gyes rfl rfl ?_
      refine L_y (y_len Try.underlying22 rfl) rfl ?_
      refine L_gyes rfl rfl ?_
      refine L_y (y_lss rfl rfl) rfl ?_
      refine L_y ((by first | exact y_pickT rfl rfl | exact y_pickF rfl rfl)) rfl ?_
      refine L_nil ?_
      refine hK7 _ _ ?_
      refine T_cond rfl (fun h21 => ?_) (fun h21 => ?_)
      ·
        refine T_skip ?_
        refine hK6 _ _ ?_
        refine T_block ?_
        refine T_seq fun K16 hK16 => ?_
        refine T_seq fun K17 hK17 => ?_
        refine T_drawnL [(0, true), (1, true), (2, true), (3, true), (4, true), (5, true), (6, true), (7, true), (8, true), (9, true), (10, true), (11, true), (12, true), (13, true), (14, true), (15, true), (16, true), (17, true), (18, true), (19, true), (20, true)] hmix (by kernel_rfl) fun w11 l11 => ?_
        have S11 := S3.like l11
        refine DL_y rfl (y_move rfl) rfl ?_
        refine DL_y rfl (y_move rfl) rfl ?_
        refine DL_y rfl (y_len Try.underlying22 rfl) rfl ?_
        refine DL_y rfl (y_lss rfl rfl) rfl ?_
        refine DL_y rfl (y_move rfl) rfl ?_
        refine DL_split 26 rfl (fun h26 => ?_) (fun h26 => ?_)
        ·
          refine DL_gyes rfl rfl rfl (y_move rfl) rfl ?_
          refine DL_gyes rfl rfl rfl (y_move rfl) rfl ?_
          refine DL_gyes rfl rfl rfl (y_len Try.underlying22 rfl) rfl ?_
          refine DL_gyes rfl rfl rfl (y_lss rfl rfl) rfl ?_
          refine DL_y rfl ((by first | exact y_pickT rfl rfl | exact y_pickF rfl rfl)) rfl ?_
          refine DL_y rfl (y_move rfl) rfl ?_
          refine DL_split 32 rfl (fun h32 => ?_) (fun h32 => ?_)
          ·
            obtain ⟨x, hx⟩ : ∃ x, la[i]? = some x := ⟨_, List.getElem?_eq_getElem (by omega)⟩
            obtain ⟨y, hy⟩ : ∃ y, lb[k]? = some y := ⟨_, List.getElem?_eq_getElem (by omega)⟩
            refine DL_gyes rfl rfl rfl (y_move rfl) rfl ?_
            refine DL_gyes rfl rfl rfl (y_move rfl) rfl ?_
            refine DL_gyes rfl rfl rfl (y_idx Try.underlying22 sz3 rfl rfl (S11.rd ha2) inferInstance (by omega)) rfl ?_
            refine DL_gyes rfl rfl rfl (y_ldr Try.underlying3 rfl rfl (S11.rd ha2) (iL_get _ _ _ hx)) rfl ?_
            refine DL_gyes rfl rfl rfl (y_move rfl) rfl ?_
            refine DL_gyes rfl rfl rfl (y_move rfl) rfl ?_
            refine DL_gyes rfl rfl rfl (y_idx Try.underlying22 sz3 rfl rfl (S11.rd hb2) inferInstance (by omega)) rfl ?_
            refine DL_gyes rfl rfl rfl (y_ldr Try.underlying3 rfl rfl (S11.rd hb2) (iL_get _ _ _ hy)) rfl ?_
            refine DL_gyes rfl rfl rfl (y_eql rfl rfl) rfl ?_
            refine DL_y rfl ((by first | exact y_pickT rfl rfl | exact y_pickF rfl rfl)) rfl ?_
            refine DL_nil ?_
            refine hK17 _ _ ?_
            refine T_cond rfl (fun h42 => ?_) (fun h42 => ?_)
            ·
              refine T_seq fun K18 hK18 => ?_
              refine T_region ?_
              refine L_y (y_move rfl) rfl ?_
              refine L_y (y_move rfl) rfl ?_
              refine L_y (y_move rfl) rfl ?_
              refine L_y (y_build rfl (show _ = some #[Value.int .i64 (i : Int), Value.int .i64 (k : Int)] by kernel_rfl)) rfl ?_
              refine L_o (o_bsl [_, _] te25 zz34 S11 rfl rfl rfl rfl rfl rfl rfl rfl fun b12 w12 S12 => ?_)
              refine L_o (o_app te25 S12 0 rfl rfl rfl (by first | exact S12.row 0 rfl | exact S12.row 1 rfl) (fun u hu => pf_one [(i, k)] u hu) rfl (by omega) (by omega) fun A13 c13 w13 S13 => ?_)
              have S13d := S13.drop (rs' := [_]) (.cons_cons _ (.cons _ (.refl _)))
              refine L_y (y_assign rfl) rfl ?_
              refine L_nil ?_
              refine hK18 _ _ ?_
              refine T_seq fun K19 hK19 => ?_
              refine T_region ?_
              refine L_y (y_move rfl) rfl ?_
              refine L_y (y_add rfl rfl (i64w (by omega))) rfl ?_
              refine L_y (y_assign rfl) rfl ?_
              refine L_nil ?_
              refine hK19 _ _ ?_
              refine T_seq fun K20 hK20 => ?_
              refine T_region ?_
              refine L_y (y_move rfl) rfl ?_
              refine L_y (y_add rfl rfl (i64w (by omega))) rfl ?_
              refine L_y (y_assign rfl) rfl ?_
              refine L_nil ?_
              refine hK20 _ _ ?_
              refine T_exit ?_
              have hh : i < la.length ∧ k < lb.length ∧ la[i]? = lb[k]? := ⟨by omega, by omega, by rw [hx, hy, h42]⟩
              have S91 := S13d.rowc 0 rfl (n' := (ps ++ [(i, k)]).length) (xs' := (ps ++ [(i, k)]).flatMap pf) (by simp) (by rw [List.flatMap_append])
              refine ⟨i + 1, k + 1, _, _, ps ++ [(i, k)], by omega, ⟨⟨by omega, by omega, by rw [List.length_append]; simp only [List.length_cons, List.length_nil]; omega, by rw [← hps, keep_hit hh, List.append_assoc]; rfl⟩, S91⟩, ?_⟩
              exact (Sub.cons rfl (by first | rfl | exact congrArg (Value.int _) (by omega)) (Sub.cons rfl (by first | rfl | exact congrArg (Value.int _) (by omega)) (Sub.cons rfl (by first | rfl | exact congrArg (Value.int _) (by omega)) (Sub.cons rfl (by first | rfl | (rw [List.length_append]; rfl)) (Sub.cons rfl (by first | rfl | exact congrArg (Value.int _) (by omega)) (Sub.cons rfl (by first | rfl | exact congrArg (Value.int _) (by omega)) (Sub.cons rfl rfl (Sub.cons rfl rfl (Sub.cons rfl rfl (Sub.nil _))))))))))
            ·
              refine T_skip ?_
              refine hK16 _ _ ?_
              refine T_seq fun K21 hK21 => ?_
              have hno : ¬ (i < la.length ∧ k < lb.length ∧ la[i]? = lb[k]?) := (fun h => by have h9 := h.2.2; rw [hx, hy] at h9; exact h42 (Option.some.inj h9))
              refine T_drawnL [(0, true), (1, true), (2, true), (3, true), (4, true), (5, true), (6, true), (7, true), (8, true), (9, true), (10, true), (11, true), (12, true), (13, true), (14, true), (15, true), (16, true), (17, true), (18, true), (19, true), (20, true), (21, true)] hmix (by kernel_rfl) fun w14 l14 => ?_
              have S14 := S11.like l14
              refine DL_y rfl (y_move rfl) rfl ?_
              refine DL_y rfl (y_move rfl) rfl ?_
              refine DL_y rfl (y_len Try.underlying22 rfl) rfl ?_
              refine DL_y rfl (y_lss rfl rfl) rfl ?_
              refine DL_y rfl (y_move rfl) rfl ?_
              refine DL_split 57 rfl (fun h57 => ?_) (fun h57 => ?_)
              ·
                obtain ⟨ad1, hu1, hu2⟩ := hR2 (i + 1) (by omega)
                obtain ⟨ad2, hu3, hu4⟩ := hR2 i (by omega)
                refine DL_gyes rfl rfl rfl (y_move rfl) rfl ?_
                refine DL_gyes rfl rfl rfl (y_move rfl) rfl ?_
                refine DL_gyes rfl rfl rfl (y_add rfl rfl (i64w (by omega))) rfl ?_
                refine DL_gyes rfl rfl rfl (y_idx Try.underlying84 sz22 rfl rfl (S14.rd hR1) (Nt.mk (by omega) : Nt _ (i + 1)) (by omega)) rfl ?_
                refine DL_gyes rfl rfl rfl (y_ldr Try.underlying22 rfl rfl (S14.rd hR1) hu1) rfl ?_
                refine DL_gyes rfl rfl rfl (y_move rfl) rfl ?_
                refine DL_gyes rfl rfl rfl (y_idx Try.underlying22 sz3 rfl rfl (S14.rd hu2) inferInstance (by omega)) rfl ?_
                refine DL_gyes rfl rfl rfl (y_ldr Try.underlying3 rfl rfl (S14.rd hu2) (rowV_get _ _ _ _ (by omega))) rfl ?_
                refine DL_gyes rfl rfl rfl (y_move rfl) rfl ?_
                refine DL_gyes rfl rfl rfl (y_move rfl) rfl ?_
                refine DL_gyes rfl rfl rfl (y_idx Try.underlying84 sz22 rfl rfl (S14.rd hR1) inferInstance (by omega)) rfl ?_
                refine DL_gyes rfl rfl rfl (y_ldr Try.underlying22 rfl rfl (S14.rd hR1) hu3) rfl ?_
                refine DL_gyes rfl rfl rfl (y_move rfl) rfl ?_
                refine DL_gyes rfl rfl rfl (y_idx Try.underlying22 sz3 rfl rfl (S14.rd hu4) inferInstance (by omega)) rfl ?_
                refine DL_gyes rfl rfl rfl (y_ldr Try.underlying3 rfl rfl (S14.rd hu4) (rowV_get _ _ _ _ (by omega))) rfl ?_
                refine DL_gyes rfl rfl rfl (y_lss rfl rfl) rfl ?_
                refine DL_y rfl ((by first | exact y_pickT rfl rfl | exact y_pickF rfl rfl)) rfl ?_
                refine DL_nil ?_
                refine hK21 _ _ ?_
                refine T_cond rfl (fun h74 => ?_) (fun h74 => ?_)
                ·
                  refine T_region ?_
                  refine L_y (y_move rfl) rfl ?_
                  refine L_y (y_add rfl rfl (i64w (by omega))) rfl ?_
                  refine L_y (y_assign rfl) rfl ?_
                  refine L_nil ?_
                  have hm2 : i < la.length ∧ rR la lb (i + 1) k < rR la lb i k := ⟨by omega, by omega⟩
                  refine ⟨i + 1, k, A1, c1, ps, by omega, ⟨⟨by omega, by omega, by omega, by rw [← hps, keep_a hno hm2]⟩, S14⟩, ?_⟩
                  exact (Sub.cons rfl (by first | rfl | exact congrArg (Value.int _) (by omega)) (Sub.cons rfl (by first | rfl | exact congrArg (Value.int _) (by omega)) (Sub.cons rfl (by first | rfl | exact congrArg (Value.int _) (by omega)) (Sub.cons rfl (by first | rfl | (rw [List.length_append]; rfl)) (Sub.cons rfl (by first | rfl | exact congrArg (Value.int _) (by omega)) (Sub.cons rfl (by first | rfl | exact congrArg (Value.int _) (by omega)) (Sub.cons rfl rfl (Sub.cons rfl rfl (Sub.cons rfl rfl (Sub.nil _))))))))))
                ·
                  refine T_region ?_
                  refine L_y (y_move rfl) rfl ?_
                  refine L_y (y_add rfl rfl (i64w (by omega))) rfl ?_
                  refine L_y (y_assign rfl) rfl ?_
                  refine L_nil ?_
                  have hm2 : ¬ (i < la.length ∧ rR la lb (i + 1) k < rR la lb i k) := fun h => by omega
                  have hkl : k < lb.length := by rcases Nat.lt_or_ge k lb.length with q | q; exact q; exact (hm2 ⟨by omega, by rw [rR_endB q, rR_endB q]; omega⟩).elim
                  refine ⟨i, k + 1, A1, c1, ps, by omega, ⟨⟨by omega, by omega, by omega, by rw [← hps, keep_b hno hm2 hkl]⟩, S14⟩, ?_⟩
                  exact (Sub.cons rfl (by first | rfl | exact congrArg (Value.int _) (by omega)) (Sub.cons rfl (by first | rfl | exact congrArg (Value.int _) (by omega)) (Sub.cons rfl (by first | rfl | exact congrArg (Value.int _) (by omega)) (Sub.cons rfl (by first | rfl | (rw [List.length_append]; rfl)) (Sub.cons rfl (by first | rfl | exact congrArg (Value.int _) (by omega)) (Sub.cons rfl (by first | rfl | exact congrArg (Value.int _) (by omega)) (Sub.cons rfl rfl (Sub.cons rfl rfl (Sub.cons rfl rfl (Sub.nil _))))))))))
              ·
                refine DL_gno rfl rfl rfl rfl ?_
                refine DL_gno rfl rfl rfl rfl ?_
                refine DL_gno rfl rfl rfl rfl ?_
                refine DL_gno rfl rfl rfl rfl ?_
                refine DL_gno rfl rfl rfl rfl ?_
                refine DL_gno rfl rfl rfl rfl ?_
                refine DL_gno rfl rfl rfl rfl ?_
                refine DL_gno rfl rfl rfl rfl ?_
                refine DL_gno rfl rfl rfl rfl ?_
                refine DL_gno rfl rfl rfl rfl ?_
                refine DL_gno rfl rfl rfl rfl ?_
                refine DL_gno rfl rfl rfl rfl ?_
                refine DL_gno rfl rfl rfl rfl ?_
                refine DL_gno rfl rfl rfl rfl ?_
                refine DL_gno rfl rfl rfl rfl ?_
                refine DL_gno rfl rfl rfl rfl ?_
                refine DL_y rfl ((by first | exact y_pickT rfl rfl | exact y_pickF rfl rfl)) rfl ?_
                refine DL_nil ?_
                refine hK21 _ _ ?_
                refine T_false rfl ?_
                refine T_region ?_
                refine L_y (y_move rfl) rfl ?_
                refine L_y (y_add rfl rfl (i64w (by omega))) rfl ?_
                refine L_y (y_assign rfl) rfl ?_
                refine L_nil ?_
                have hm2 : ¬ (i < la.length ∧ rR la lb (i + 1) k < rR la lb i k) := fun h => by omega
                have hkl : k < lb.length := by rcases Nat.lt_or_ge k lb.length with q | q; exact q; exact (hm2 ⟨by omega, by rw [rR_endB q, rR_endB q]; omega⟩).elim
                refine ⟨i, k + 1, A1, c1, ps, by omega, ⟨⟨by omega, by omega, by omega, by rw [← hps, keep_b hno hm2 hkl]⟩, S14⟩, ?_⟩
                exact (Sub.cons rfl (by first | rfl | exact congrArg (Value.int _) (by omega)) (Sub.cons rfl (by first | rfl | exact congrArg (Value.int _) (by omega)) (Sub.cons rfl (by first | rfl | exact congrArg (Value.int _) (by omega)) (Sub.cons rfl (by first | rfl | (rw [List.length_append]; rfl)) (Sub.cons rfl (by first | rfl | exact congrArg (Value.int _) (by omega)) (Sub.cons rfl (by first | rfl | exact congrArg (Value.int _) (by omega)) (Sub.cons rfl rfl (Sub.cons rfl rfl (Sub.cons rfl rfl (Sub.nil _))))))))))
          ·
            refine DL_gno rfl rfl rfl rfl ?_
            refine DL_gno rfl rfl rfl rfl ?_
            refine DL_gno rfl rfl rfl rfl ?_
            refine DL_gno rfl rfl rfl rfl ?_
            refine DL_gno rfl rfl rfl rfl ?_
            refine DL_gno rfl rfl rfl rfl ?_
            refine DL_gno rfl rfl rfl rfl ?_
            refine DL_gno rfl rfl rfl rfl ?_
            refine DL_gno rfl rfl rfl rfl ?_
            refine DL_y rfl ((by first | exact y_pickT rfl rfl | exact y_pickF rfl rfl)) rfl ?_
            refine DL_nil ?_
            refine hK17 _ _ ?_
            refine T_false rfl ?_
            refine T_skip ?_
            refine hK16 _ _ ?_
            refine T_seq fun K22 hK22 => ?_
            have hno : ¬ (i < la.length ∧ k < lb.length ∧ la[i]? = lb[k]?) := (fun h => by omega)
            refine T_drawnL [(0, true), (1, true), (2, true), (3, true), (4, true), (5, true), (6, true), (7, true), (8, true), (9, true), (10, true), (11, true), (12, true), (13, true), (14, true), (15, true), (16, true), (17, true), (18, true), (19, true), (20, true), (21, true)] hmix (by kernel_rfl) fun w15 l15 => ?_
            have S15 := S11.like l15
            refine DL_y rfl (y_move rfl) rfl ?_
            refine DL_y rfl (y_move rfl) rfl ?_
            refine DL_y rfl (y_len Try.underlying22 rfl) rfl ?_
            refine DL_y rfl (y_lss rfl rfl) rfl ?_
            refine DL_y rfl (y_move rfl) rfl ?_
            refine DL_split 57 rfl (fun h57 => ?_) (fun h57 => ?_)
            ·
              obtain ⟨ad1, hu1, hu2⟩ := hR2 (i + 1) (by omega)
              obtain ⟨ad2, hu3, hu4⟩ := hR2 i (by omega)
              refine DL_gyes rfl rfl rfl (y_move rfl) rfl ?_
              refine DL_gyes rfl rfl rfl (y_move rfl) rfl ?_
              refine DL_gyes rfl rfl rfl (y_add rfl rfl (i64w (by omega))) rfl ?_
              refine DL_gyes rfl rfl rfl (y_idx Try.underlying84 sz22 rfl rfl (S15.rd hR1) (Nt.mk (by omega) : Nt _ (i + 1)) (by omega)) rfl ?_
              refine DL_gyes rfl rfl rfl (y_ldr Try.underlying22 rfl rfl (S15.rd hR1) hu1) rfl ?_
              refine DL_gyes rfl rfl rfl (y_move rfl) rfl ?_
              refine DL_gyes rfl rfl rfl (y_idx Try.underlying22 sz3 rfl rfl (S15.rd hu2) inferInstance (by omega)) rfl ?_
              refine DL_gyes rfl rfl rfl (y_ldr Try.underlying3 rfl rfl (S15.rd hu2) (rowV_get _ _ _ _ (by omega))) rfl ?_
              refine DL_gyes rfl rfl rfl (y_move rfl) rfl ?_
              refine DL_gyes rfl rfl rfl (y_move rfl) rfl ?_
              refine DL_gyes rfl rfl rfl (y_idx Try.underlying84 sz22 rfl rfl (S15.rd hR1) inferInstance (by omega)) rfl ?_
              refine DL_gyes rfl rfl rfl (y_ldr Try.underlying22 rfl rfl (S15.rd hR1) hu3) rfl ?_
              refine DL_gyes rfl rfl rfl (y_move rfl) rfl ?_
              refine DL_gyes rfl rfl rfl (y_idx Try.underlying22 sz3 rfl rfl (S15.rd hu4) inferInstance (by omega)) rfl ?_
              refine DL_gyes rfl rfl rfl (y_ldr Try.underlying3 rfl rfl (S15.rd hu4) (rowV_get _ _ _ _ (by omega))) rfl ?_
              refine DL_gyes rfl rfl rfl (y_lss rfl rfl) rfl ?_
              refine DL_y rfl ((by first | exact y_pickT rfl rfl | exact y_pickF rfl rfl)) rfl ?_
              refine DL_nil ?_
              refine hK22 _ _ ?_
              refine T_cond rfl (fun h74 => ?_) (fun h74 => ?_)
              ·
                refine T_region ?_
                refine L_y (y_move rfl) rfl ?_
                refine L_y (y_add rfl rfl (i64w (by omega))) rfl ?_
                refine L_y (y_assign rfl) rfl ?_
                refine L_nil ?_
                have hm2 : i < la.length ∧ rR la lb (i + 1) k < rR la lb i k := ⟨by omega, by omega⟩
                refine ⟨i + 1, k, A1, c1, ps, by omega, ⟨⟨by omega, by omega, by omega, by rw [← hps, keep_a hno hm2]⟩, S15⟩, ?_⟩
                exact (Sub.cons rfl (by first | rfl | exact congrArg (Value.int _) (by omega)) (Sub.cons rfl (by first | rfl | exact congrArg (Value.int _) (by omega)) (Sub.cons rfl (by first | rfl | exact congrArg (Value.int _) (by omega)) (Sub.cons rfl (by first | rfl | (rw [List.length_append]; rfl)) (Sub.cons rfl (by first | rfl | exact congrArg (Value.int _) (by omega)) (Sub.cons rfl (by first | rfl | exact congrArg (Value.int _) (by omega)) (Sub.cons rfl rfl (Sub.cons rfl rfl (Sub.cons rfl rfl (Sub.nil _))))))))))
              ·
                refine T_region ?_
                refine L_y (y_move rfl) rfl ?_
                refine L_y (y_add rfl rfl (i64w (by omega))) rfl ?_
                refine L_y (y_assign rfl) rfl ?_
                refine L_nil ?_
                have hm2 : ¬ (i < la.length ∧ rR la lb (i + 1) k < rR la lb i k) := fun h => by omega
                have hkl : k < lb.length := by rcases Nat.lt_or_ge k lb.length with q | q; exact q; exact (hm2 ⟨by omega, by rw [rR_endB q, rR_endB q]; omega⟩).elim
                refine ⟨i, k + 1, A1, c1, ps, by omega, ⟨⟨by omega, by omega, by omega, by rw [← hps, keep_b hno hm2 hkl]⟩, S15⟩, ?_⟩
                exact (Sub.cons rfl (by first | rfl | exact congrArg (Value.int _) (by omega)) (Sub.cons rfl (by first | rfl | exact congrArg (Value.int _) (by omega)) (Sub.cons rfl (by first | rfl | exact congrArg (Value.int _) (by omega)) (Sub.cons rfl (by first | rfl | (rw [List.length_append]; rfl)) (Sub.cons rfl (by first | rfl | exact congrArg (Value.int _) (by omega)) (Sub.cons rfl (by first | rfl | exact congrArg (Value.int _) (by omega)) (Sub.cons rfl rfl (Sub.cons rfl rfl (Sub.cons rfl rfl (Sub.nil _))))))))))
            ·
              refine DL_gno rfl rfl rfl rfl ?_
              refine DL_gno rfl rfl rfl rfl ?_
              refine DL_gno rfl rfl rfl rfl ?_
              refine DL_gno rfl rfl rfl rfl ?_
              refine DL_gno rfl rfl rfl rfl ?_
              refine DL_gno rfl rfl rfl rfl ?_
              refine DL_gno rfl rfl rfl rfl ?_
              refine DL_gno rfl rfl rfl rfl ?_
              refine DL_gno rfl rfl rfl rfl ?_
              refine DL_gno rfl rfl rfl rfl ?_
              refine DL_gno rfl rfl rfl rfl ?_
              refine DL_gno rfl rfl rfl rfl ?_
              refine DL_gno rfl rfl rfl rfl ?_
              refine DL_gno rfl rfl rfl rfl ?_
              refine DL_gno rfl rfl rfl rfl ?_
              refine DL_gno rfl rfl rfl rfl ?_
              refine DL_y rfl ((by first | exact y_pickT rfl rfl | exact y_pickF rfl rfl)) rfl ?_
              refine DL_nil ?_
              refine hK22 _ _ ?_
              refine T_false rfl ?_
              refine T_region ?_
              refine L_y (y_move rfl) rfl ?_
              refine L_y (y_add rfl rfl (i64w (by omega))) rfl ?_
              refine L_y (y_assign rfl) rfl ?_
              refine L_nil ?_
              have hm2 : ¬ (i < la.length ∧ rR la lb (i + 1) k < rR la lb i k) := fun h => by omega
              have hkl : k < lb.length := by rcases Nat.lt_or_ge k lb.length with q | q; exact q; exact (hm2 ⟨by omega, by rw [rR_endB q, rR_endB q]; omega⟩).elim
              refine ⟨i, k + 1, A1, c1, ps, by omega, ⟨⟨by omega, by omega, by omega, by rw [← hps, keep_b hno hm2 hkl]⟩, S15⟩, ?_⟩
              exact (Sub.cons rfl (by first | rfl | exact congrArg (Value.int _) (by omega)) (Sub.cons rfl (by first | rfl | exact congrArg (Value.int _) (by omega)) (Sub.cons rfl (by first | rfl | exact congrArg (Value.int _) (by omega)) (Sub.cons rfl (by first | rfl | (rw [List.length_append]; rfl)) (Sub.cons rfl (by first | rfl | exact congrArg (Value.int _) (by omega)) (Sub.cons rfl (by first | rfl | exact congrArg (Value.int _) (by omega)) (Sub.cons rfl rfl (Sub.cons rfl rfl (Sub.cons rfl rfl (Sub.nil _))))))))))
        ·
          refine DL_gno rfl rfl rfl rfl ?_
          refine DL_gno rfl rfl rfl rfl ?_
          refine DL_gno rfl rfl rfl rfl ?_
          refine DL_gno rfl rfl rfl rfl ?_
          refine DL_y rfl ((by first | exact y_pickT rfl rfl | exact y_pickF rfl rfl)) rfl ?_
          refine DL_y rfl (y_move rfl) rfl ?_
          refine DL_gno rfl rfl rfl rfl ?_
          refine DL_gno rfl rfl rfl rfl ?_
          refine DL_gno rfl rfl rfl rfl ?_
          refine DL_gno rfl rfl rfl rfl ?_
          refine DL_gno rfl rfl rfl rfl ?_
          refine DL_gno rfl rfl rfl rfl ?_
          refine DL_gno rfl rfl rfl rfl ?_
          refine DL_gno rfl rfl rfl rfl ?_
          refine DL_gno rfl rfl rfl rfl ?_
          refine DL_y rfl ((by first | exact y_pickT rfl rfl | exact y_pickF rfl rfl)) rfl ?_
          refine DL_nil ?_
          refine hK17 _ _ ?_
          refine T_false rfl ?_
          refine T_skip ?_
          refine hK16 _ _ ?_
          refine T_seq fun K23 hK23 => ?_
          have hno : ¬ (i < la.length ∧ k < lb.length ∧ la[i]? = lb[k]?) := (fun h => by omega)
          refine T_drawnL [(0, true), (1, true), (2, true), (3, true), (4, true), (5, true), (6, true), (7, true), (8, true), (9, true), (10, true), (11, true), (12, true), (13, true), (14, true), (15, true), (16, true), (17, true), (18, true), (19, true), (20, true), (21, true)] hmix (by kernel_rfl) fun w16 l16 => ?_
          have S16 := S11.like l16
          refine DL_y rfl (y_move rfl) rfl ?_
          refine DL_y rfl (y_move rfl) rfl ?_
          refine DL_y rfl (y_len Try.underlying22 rfl) rfl ?_
          refine DL_y rfl (y_lss rfl rfl) rfl ?_
          refine DL_y rfl (y_move rfl) rfl ?_
          refine DL_split 57 rfl (fun h57 => ?_) (fun h57 => ?_)
          ·
            obtain ⟨ad1, hu1, hu2⟩ := hR2 (i + 1) (by omega)
            obtain ⟨ad2, hu3, hu4⟩ := hR2 i (by omega)
            refine DL_gyes rfl rfl rfl (y_move rfl) rfl ?_
            refine DL_gyes rfl rfl rfl (y_move rfl) rfl ?_
            refine DL_gyes rfl rfl rfl (y_add rfl rfl (i64w (by omega))) rfl ?_
            refine DL_gyes rfl rfl rfl (y_idx Try.underlying84 sz22 rfl rfl (S16.rd hR1) (Nt.mk (by omega) : Nt _ (i + 1)) (by omega)) rfl ?_
            refine DL_gyes rfl rfl rfl (y_ldr Try.underlying22 rfl rfl (S16.rd hR1) hu1) rfl ?_
            refine DL_gyes rfl rfl rfl (y_move rfl) rfl ?_
            refine DL_gyes rfl rfl rfl (y_idx Try.underlying22 sz3 rfl rfl (S16.rd hu2) inferInstance (by omega)) rfl ?_
            refine DL_gyes rfl rfl rfl (y_ldr Try.underlying3 rfl rfl (S16.rd hu2) (rowV_get _ _ _ _ (by omega))) rfl ?_
            refine DL_gyes rfl rfl rfl (y_move rfl) rfl ?_
            refine DL_gyes rfl rfl rfl (y_move rfl) rfl ?_
            refine DL_gyes rfl rfl rfl (y_idx Try.underlying84 sz22 rfl rfl (S16.rd hR1) inferInstance (by omega)) rfl ?_
            refine DL_gyes rfl rfl rfl (y_ldr Try.underlying22 rfl rfl (S16.rd hR1) hu3) rfl ?_
            refine DL_gyes rfl rfl rfl (y_move rfl) rfl ?_
            refine DL_gyes rfl rfl rfl (y_idx Try.underlying22 sz3 rfl rfl (S16.rd hu4) inferInstance (by omega)) rfl ?_
            refine DL_gyes rfl rfl rfl (y_ldr Try.underlying3 rfl rfl (S16.rd hu4) (rowV_get _ _ _ _ (by omega))) rfl ?_
            refine DL_gyes rfl rfl rfl (y_lss rfl rfl) rfl ?_
            refine DL_y rfl ((by first | exact y_pickT rfl rfl | exact y_pickF rfl rfl)) rfl ?_
            refine DL_nil ?_
            refine hK23 _ _ ?_
            refine T_cond rfl (fun h74 => ?_) (fun h74 => ?_)
            ·
              refine T_region ?_
              refine L_y (y_move rfl) rfl ?_
              refine L_y (y_add rfl rfl (i64w (by omega))) rfl ?_
              refine L_y (y_assign rfl) rfl ?_
              refine L_nil ?_
              have hm2 : i < la.length ∧ rR la lb (i + 1) k < rR la lb i k := ⟨by omega, by omega⟩
              refine ⟨i + 1, k, A1, c1, ps, by omega, ⟨⟨by omega, by omega, by omega, by rw [← hps, keep_a hno hm2]⟩, S16⟩, ?_⟩
              exact (Sub.cons rfl (by first | rfl | exact congrArg (Value.int _) (by omega)) (Sub.cons rfl (by first | rfl | exact congrArg (Value.int _) (by omega)) (Sub.cons rfl (by first | rfl | exact congrArg (Value.int _) (by omega)) (Sub.cons rfl (by first | rfl | (rw [List.length_append]; rfl)) (Sub.cons rfl (by first | rfl | exact congrArg (Value.int _) (by omega)) (Sub.cons rfl (by first | rfl | exact congrArg (Value.int _) (by omega)) (Sub.cons rfl rfl (Sub.cons rfl rfl (Sub.cons rfl rfl (Sub.nil _))))))))))
            ·
              refine T_region ?_
              refine L_y (y_move rfl) rfl ?_
              refine L_y (y_add rfl rfl (i64w (by omega))) rfl ?_
              refine L_y (y_assign rfl) rfl ?_
              refine L_nil ?_
              have hm2 : ¬ (i < la.length ∧ rR la lb (i + 1) k < rR la lb i k) := fun h => by omega
              have hkl : k < lb.length := by rcases Nat.lt_or_ge k lb.length with q | q; exact q; exact (hm2 ⟨by omega, by rw [rR_endB q, rR_endB q]; omega⟩).elim
              refine ⟨i, k + 1, A1, c1, ps, by omega, ⟨⟨by omega, by omega, by omega, by rw [← hps, keep_b hno hm2 hkl]⟩, S16⟩, ?_⟩
              exact (Sub.cons rfl (by first | rfl | exact congrArg (Value.int _) (by omega)) (Sub.cons rfl (by first | rfl | exact congrArg (Value.int _) (by omega)) (Sub.cons rfl (by first | rfl | exact congrArg (Value.int _) (by omega)) (Sub.cons rfl (by first | rfl | (rw [List.length_append]; rfl)) (Sub.cons rfl (by first | rfl | exact congrArg (Value.int _) (by omega)) (Sub.cons rfl (by first | rfl | exact congrArg (Value.int _) (by omega)) (Sub.cons rfl rfl (Sub.cons rfl rfl (Sub.cons rfl rfl (Sub.nil _))))))))))
          ·
            refine DL_gno rfl rfl rfl rfl ?_
            refine DL_gno rfl rfl rfl rfl ?_
            refine DL_gno rfl rfl rfl rfl ?_
            refine DL_gno rfl rfl rfl rfl ?_
            refine DL_gno rfl rfl rfl rfl ?_
            refine DL_gno rfl rfl rfl rfl ?_
            refine DL_gno rfl rfl rfl rfl ?_
            refine DL_gno rfl rfl rfl rfl ?_
            refine DL_gno rfl rfl rfl rfl ?_
            refine DL_gno rfl rfl rfl rfl ?_
            refine DL_gno rfl rfl rfl rfl ?_
            refine DL_gno rfl rfl rfl rfl ?_
            refine DL_gno rfl rfl rfl rfl ?_
            refine DL_gno rfl rfl rfl rfl ?_
            refine DL_gno rfl rfl rfl rfl ?_
            refine DL_gno rfl rfl rfl rfl ?_
            refine DL_y rfl ((by first | exact y_pickT rfl rfl | exact y_pickF rfl rfl)) rfl ?_
            refine DL_nil ?_
            refine hK23 _ _ ?_
            refine T_false rfl ?_
            refine T_region ?_
            refine L_y (y_move rfl) rfl ?_
            refine L_y (y_add rfl rfl (i64w (by omega))) rfl ?_
            refine L_y (y_assign rfl) rfl ?_
            refine L_nil ?_
            have hm2 : ¬ (i < la.length ∧ rR la lb (i + 1) k < rR la lb i k) := fun h => by omega
            have hkl : k < lb.length := by rcases Nat.lt_or_ge k lb.length with q | q; exact q; exact (hm2 ⟨by omega, by rw [rR_endB q, rR_endB q]; omega⟩).elim
            refine ⟨i, k + 1, A1, c1, ps, by omega, ⟨⟨by omega, by omega, by omega, by rw [← hps, keep_b hno hm2 hkl]⟩, S16⟩, ?_⟩
            exact (Sub.cons rfl (by first | rfl | exact congrArg (Value.int _) (by omega)) (Sub.cons rfl (by first | rfl | exact congrArg (Value.int _) (by omega)) (Sub.cons rfl (by first | rfl | exact congrArg (Value.int _) (by omega)) (Sub.cons rfl (by first | rfl | (rw [List.length_append]; rfl)) (Sub.cons rfl (by first | rfl | exact congrArg (Value.int _) (by omega)) (Sub.cons rfl (by first | rfl | exact congrArg (Value.int _) (by omega)) (Sub.cons rfl rfl (Sub.cons rfl rfl (Sub.cons rfl rfl (Sub.nil _))))))))))
      ·
        refine T_exit ?_
        refine hK5 _ _ ?_
        refine T_seq fun K24 hK24 => ?_
        refine T_region ?_
        refine L_y (y_move rfl) rfl ?_
        refine L_y (y_assign rfl) rfl ?_
        refine L_nil ?_
        refine hK24 _ _ ?_
        refine T_ret ?_
        repeat (first | with_reducible refine up_then ?_ | with_reducible refine up_in ?_)
        refine ret1 rfl rfl ?_
        have he : ps = keepT la lb 0 0 := by rw [← hps, keep_end (by omega) (by omega), List.append_nil]
        exact ⟨_, rfl, Like.trans hl2 S3.like0, _, _, _, rfl, by rw [← he]; exact own_mono (S3.own 0 rfl) hsz⟩
end Go.Proofs.Ytbbmkgpgiacdeaa

/-
  '==' on structs of ints. General; nothing here names a program.
-/
namespace Go.Proofs.Ytbbmkgpgiacdeaa.Zx
open Go.RowKit Zk
set_option linter.unusedVariables false
set_option linter.unusedSimpArgs false
/-- Fields that are ints, one behind the other. -/
def FieldsI (P : Program) : List Field → Nat → Prop
  | [], _ => True
  | f :: fs, o => f.name ≠ "_" ∧ f.offset = o ∧ (P.underlying f.type = some (.int .i64)) ∧ FieldsI P fs (o + 1)
section
variable {P : Program}
theorem run_part_int {t : TypeId} {k : IntKind} (ht : P.underlying t = some (.int k)) {cs : Array Value} {o : Nat} {v : Value} (hv : cs[o]? = some v) (w : World) : (part t cs o).run P w = .ok v w := by
  have h : (isAgg t).run P w = .ok false w := by
    unfold isAgg
    rw [Sem.run_bind, run_underlying ht w]
    rfl
  unfold part
  rw [Sem.run_bind, h]
  simp only [Result.andThen_ok, Bool.false_eq_true, if_false, hv, Sem.run_pure]
theorem run_eqFields_ints (d : Nat) (xs ys : List Int) (w : World) : ∀ (fs : List Field) (o : Nat), FieldsI P fs o → xs.length = o + fs.length → ys.length = o + fs.length →
    (Op.eqFields (d + 1) (iL xs).toArray (iL ys).toArray fs).run P w = .ok (decide (xs.drop o = ys.drop o)) w
  | [], o, _, h1, h2 => by
    rw [List.drop_eq_nil_of_le (by simp at h1; omega), List.drop_eq_nil_of_le (by simp at h2; omega)]
    rfl
  | f :: fs, o, ⟨a1, a2, a4, a3⟩, h1, h2 => by
    simp only [List.length_cons] at h1 h2
    have ex : xs[o]? = some xs[o] := List.getElem?_eq_getElem (by omega)
    have ey : ys[o]? = some ys[o] := List.getElem?_eq_getElem (by omega)
    have ih := run_eqFields_ints d xs ys w fs (o + 1) a3 (by omega) (by omega)
    have hx : ((iL xs).toArray)[o]? = some (.int .i64 xs[o]) := by rw [List.getElem?_toArray]; exact iL_get _ _ _ ex
    have hy : ((iL ys).toArray)[o]? = some (.int .i64 ys[o]) := by rw [List.getElem?_toArray]; exact iL_get _ _ _ ey
    rw [Op.eqFields, if_pos a1, a2, Sem.run_bind, run_part_int a4 hx, Result.andThen_ok, Sem.run_bind, run_part_int a4 hy, Result.andThen_ok, Sem.run_bind, run_equalIn_int w d _ _ _ _ _ a4, Result.andThen_ok]
    have dx : xs.drop o = xs[o] :: xs.drop (o + 1) := List.drop_eq_getElem_cons (by omega)
    have dy : ys.drop o = ys[o] :: ys.drop (o + 1) := List.drop_eq_getElem_cons (by omega)
    by_cases h : xs[o] = ys[o]
    · have hb : (xs[o] == ys[o]) = true := by simpa using h
      rw [hb]
      simp only [Bool.not_true, Bool.false_eq_true, if_false]
      rw [ih, dx, dy, h]
      exact congrArg (fun b => Result.ok b w) (decide_eq_decide.2 ⟨fun q => by rw [q], fun q => by injection q⟩)
    · have hb : (xs[o] == ys[o]) = false := by simpa using h
      rw [hb]
      simp only [Bool.not_false, if_true, Sem.run_pure]
      rw [dx, dy]
      exact congrArg (fun b => Result.ok b w) (decide_eq_false (fun q => h (by injection q))).symm
theorem run_eq_ints {t : TypeId} {fs : Array Field} (ht : P.underlying t = some (.struct fs)) (hp : P.stoodInHeld t = false) (hf : FieldsI P fs.toList 0) (xs ys : List Int) (hx : xs.length = fs.size) (hy : ys.length = fs.size) (w : World) :
    (Op.equalIn 10000 t (.agg (iL xs).toArray) (.agg (iL ys).toArray)).run P w = .ok (decide (xs = ys)) w := by
  have e : P.fieldsOf t = fs := by simp [Program.fieldsOf, ht]
  rw [run_equalIn_struct w 9999 t _ _ (by rw [e]; exact ht) hp, e]
  have := run_eqFields_ints 9998 xs ys w fs.toList 0 hf (by simp; omega) (by simp; omega)
  rw [List.drop_zero, List.drop_zero] at this
  exact this
variable {S : World → Prop} {env : Env} {dst : Option Tmp} {ty : TypeId} {pos : String} {after : Array Edge} {g : Option (Nat × Bool)}
theorem y_eqI {x y : Operand} {t u : TypeId} {fs : Array Field} {xs ys : List Int} (ht : P.underlying t = some (.struct fs)) (hp : P.stoodInHeld t = false) (hm : P.eqGuardType P.depth t = false) (hf : FieldsI P fs.toList 0) (hx : ev env x = some (.agg (iL xs).toArray)) (hy : ev env y = some (.agg (iL ys).toArray))
    (hl : xs.length = fs.size) (hml : ys.length = fs.size) : Y P S env ⟨dst, .binOp .eql t x y u, ty, pos, after, g⟩ (.bool (decide (xs = ys))) := fun N a w ha _ => by
  have h1 := run_eql_struct (P := P) w t (iL xs).toArray (iL ys).toArray
  rw [run_eq_ints ht hp hf xs ys hl hml w, Result.andThen_ok] at h1
  simp only [execOp, ha.eval hx, ha.eval hy, Sem.run_bind, eqGuard_run .eql x y _ _ hm w, Result.andThen_ok, h1, Sem.run_pure]
theorem y_neI {x y : Operand} {t u : TypeId} {fs : Array Field} {xs ys : List Int} (ht : P.underlying t = some (.struct fs)) (hp : P.stoodInHeld t = false) (hm : P.eqGuardType P.depth t = false) (hf : FieldsI P fs.toList 0) (hx : ev env x = some (.agg (iL xs).toArray)) (hy : ev env y = some (.agg (iL ys).toArray))
    (hl : xs.length = fs.size) (hml : ys.length = fs.size) : Y P S env ⟨dst, .binOp .neq t x y u, ty, pos, after, g⟩ (.bool (decide (xs ≠ ys))) := fun N a w ha _ => by
  have h1 := run_neq_struct (P := P) w t (iL xs).toArray (iL ys).toArray
  rw [run_eq_ints ht hp hf xs ys hl hml w, Result.andThen_ok] at h1
  have e : (!decide (xs = ys)) = decide (xs ≠ ys) := by by_cases h : xs = ys <;> simp [h]
  rw [e] at h1
  simp only [execOp, ha.eval hx, ha.eval hy, Sem.run_bind, eqGuard_run .neq x y _ _ hm w, Result.andThen_ok, h1, Sem.run_pure]
end
section
open Go.ChangeShapes Go.WideShapes Go.ChangeAt Go.Deep
variable {H : Type} {enc : TypeId × Value → H} {P : Program} {w : World} {base : Nat} {spare : Nat → Bool} {held : Bool}
theorem read_intsS {t e : TypeId} {k : IntKind} (ht : P.underlying t = some (.slice e)) (he : P.underlying e = some (.int k)) (hc : P.cellsOf e = 1)
    {fuel : Nat} {cs : List Value} {x : DataW H × List MemPlace} (h : DataW.trod enc P w base spare held fuel t cs = some x) :
    ∃ A n c, ∃ l : List Int, cs = [.slice A n c] ∧ Rs w 1 A n c (l.map (Value.int k)) := by
  obtain ⟨A, n, c, l, h1, h2, _⟩ := read_row1 (Value.int k) (fun _ => True) ht hc (fun n v x h => by
    obtain ⟨a, ha, _, hw⟩ := DataW.trod_int he h
    simp only [List.cons.injEq, and_true] at ha
    exact ⟨a, ha, trivial⟩) h
  exact ⟨A, n, c, l, h1, h2⟩
/-- A slice of ints. -/
theorem open_intsS {r : Reach} {b0 : Nat} {t e : TypeId} {v : Value} {d : DataW H} {p : List MemPlace} (ht : P.underlying t = some (.slice e)) (he : P.underlying e = some (.int .i64)) (hc : P.cellsOf e = 1)
    (hv : Value.okWide P w r b0 t v) (h : DataW.Trod enc P w base spare held t v d p) : ∃ A n c, ∃ l : List Int, v = .slice A n c ∧ Rs w 1 A n c (iL l) := by
  obtain ⟨fuel, hf⟩ := h
  obtain ⟨A, n, c, l, h1, h2⟩ := read_intsS ht he hc hf
  exact ⟨A, n, c, l, slice_of_cells ht hv h1, h2⟩
end
end Go.Proofs.Ytbbmkgpgiacdeaa.Zx

/-
  The laws MyersDiffs, MyersDistances.
-/
namespace Go.Proofs.Ytbbmkgpgiacdeaa
open Go.RowKit Zk Zx
set_option linter.unusedVariables false
set_option linter.unusedSimpArgs false

theorem pf_n {w : World} {A : Option Addr} {n c : Nat} {xs : List (Nat × Nat)} (h : Rs w 2 A n c (xs.flatMap pf)) : n = xs.length := by
  have := h.len
  rw [pf_len] at this
  omega
theorem fieldsPair : FieldsI Try.prog [{ name := "A", type := 3, offset := 0, embedded := false, tag := "", pkgPath := "", byteOffset := 0 }, { name := "B", type := 3, offset := 1, embedded := false, tag := "", pkgPath := "", byteOffset := 8 }] 0 :=
  ⟨by decide, rfl, Try.underlying3, by decide, rfl, Try.underlying3, trivial⟩
set_option maxRecDepth 100000 in
theorem rsame (A B : Option Addr) (n c m d : Nat) (xs : List (Nat × Nat)) (w0 : World) (hx : Rs w0 2 A n c (xs.flatMap pf)) (hy : Rs w0 2 B m d (xs.flatMap pf)) :
    Calls Try.prog 14 #[.slice A n c, .slice B m d] w0 fun e w' => ∃ u, e = .returned u ∧ Like w0 w' ∧ u = .bool true := by
  refine enter1 (env := [(0, .slice A n c), (1, .slice B m d)]) [.slice A n c, .slice B m d] Try.func14 rfl Try.ntmps14 rfl rfl ?_
  have hn := pf_n hx; have hm := pf_n hy; have hcap := hx.cap; have hmax := hx.max; have S0 := St.start w0 noM
  refine T_seq fun K1 hK1 => ?_
  refine T_region ?_
  refine L_y (y_assign rfl) rfl ?_
  refine L_nil ?_
  refine hK1 _ _ ?_
  refine T_seq fun K2 hK2 => ?_
  refine T_seq fun K3 hK3 => ?_
  refine T_region ?_
  refine L_y (y_move rfl) rfl ?_
  refine L_y (y_len Try.underlying25 rfl) rfl ?_
  refine L_y (y_move rfl) rfl ?_
  refine L_y (y_len Try.underlying25 rfl) rfl ?_
  refine L_y (y_neq rfl rfl) rfl ?_
  refine L_nil ?_
  refine hK3 _ _ ?_
  refine T_cond rfl (fun h10 => ?_) (fun h10 => ?_)
  ·
    exact absurd h10 (by omega)
  ·
    refine T_skip ?_
    refine hK2 _ _ ?_
    refine T_seq fun K4 hK4 => ?_
    refine T_seq fun K5 hK5 => ?_
    refine T_region ?_
    refine L_y (y_assign rfl) rfl ?_
    refine L_nil ?_
    refine hK5 _ _ ?_
    refine T_block ?_
    refine T_loop1 [(0, _), (1, _)] (fun (k : Nat) => [(5, .int .i64 (k : Int))]) (fun (k : Nat) => n - k) (fun (k : Nat) (w : World) => k ≤ n ∧ St w0 noM [] w) 0 (Sub.cons rfl (by first | rfl | exact congrArg (Value.int _) (by omega)) (Sub.nil _)) (Sub.cons rfl rfl (Sub.cons rfl rfl (Sub.nil _))) ?_ ?_
    ·
      exact ⟨Nat.zero_le _, S0⟩
    ·
      intro k w1 hrel
      obtain ⟨hk, S1⟩ := hrel
      refine T_seq fun K6 hK6 => ?_
      refine T_seq fun K7 hK7 => ?_
      refine T_region ?_
      refine L_y (y_move rfl) rfl ?_
      refine L_y (y_move rfl) rfl ?_
      refine L_y (y_len Try.underlying25 rfl) rfl ?_
      refine L_y (y_lss rfl rfl) rfl ?_
      refine L_nil ?_
      refine hK7 _ _ ?_
      refine T_cond rfl (fun h14 => ?_) (fun h14 => ?_)
      ·
        obtain ⟨p, hp⟩ : ∃ p, xs[k]? = some p := ⟨_, List.getElem?_eq_getElem (by omega)⟩
        refine T_skip ?_
        refine hK6 _ _ ?_
        refine T_seq fun K8 hK8 => ?_
        refine T_block ?_
        refine T_seq fun K9 hK9 => ?_
        refine T_drawnL [(0, true), (1, true), (2, true), (3, true), (4, true), (5, true), (6, true), (7, true), (8, true)] hmix (by kernel_rfl) fun w2 l2 => ?_
        have S2 := S1.like l2
        refine DL_y rfl (y_move rfl) rfl ?_
        refine DL_y rfl (y_move rfl) rfl ?_
        refine DL_y rfl (y_idx Try.underlying25 sz34 rfl rfl (S2.rd hx) inferInstance (by omega)) rfl ?_
        refine DL_y rfl (y_ldp (f := pf) (fun _ => rfl) Try.underlying34 rfl sz34 rfl (S2.rd hx) (by omega) hp) rfl ?_
        refine DL_y rfl (y_move rfl) rfl ?_
        refine DL_y rfl (y_move rfl) rfl ?_
        refine DL_y rfl (y_idx Try.underlying25 sz34 rfl rfl (S2.rd hy) inferInstance (by omega)) rfl ?_
        refine DL_y rfl (y_ldp (f := pf) (fun _ => rfl) Try.underlying34 rfl sz34 rfl (S2.rd hy) (by omega) hp) rfl ?_
        refine DL_y rfl (y_neI (xs := [(p.1 : Int), (p.2 : Int)]) (ys := [(p.1 : Int), (p.2 : Int)]) Try.underlying34 (by kernel_rfl) (by kernel_rfl) fieldsPair rfl rfl rfl rfl) rfl ?_
        refine DL_nil ?_
        refine hK9 _ _ ?_
        refine T_cond rfl (fun h25 => ?_) (fun h25 => ?_)
        ·
          exact absurd rfl h25
        ·
          refine T_skip ?_
          refine hK8 _ _ ?_
          refine T_region ?_
          refine L_y (y_move rfl) rfl ?_
          refine L_y (y_add rfl rfl (i64w (by omega))) rfl ?_
          refine L_y (y_assign rfl) rfl ?_
          refine L_nil ?_
          refine ⟨k + 1, by omega, ⟨by omega, S2⟩, ?_⟩
          exact (Sub.cons rfl (by first | rfl | exact congrArg (Value.int _) (by omega)) (Sub.cons rfl rfl (Sub.cons rfl rfl (Sub.nil _))))
      ·
        refine T_exit ?_
        refine hK4 _ _ ?_
        refine T_seq fun K10 hK10 => ?_
        refine T_region ?_
        refine L_y (y_assign rfl) rfl ?_
        refine L_nil ?_
        refine hK10 _ _ ?_
        refine T_ret ?_
        repeat (first | with_reducible refine up_then ?_ | with_reducible refine up_in ?_)
        refine ret1 rfl rfl ?_
        exact ⟨_, rfl, S1.like0, rfl⟩


end Go.Proofs.Ytbbmkgpgiacdeaa

/-
  The document: Check, Common.
-/
namespace Go.Proofs.Ytbbmkgpgiacdeaa
open Go.RowKit Zk Zx
set_option linter.unusedVariables false
set_option linter.unusedSimpArgs false

set_option maxRecDepth 100000 in
theorem rsizes (n m : Nat) (w0 : World) (hn : n ≤ 800) (hm : m ≤ 800) :
    Calls Try.prog 38 #[.int .i64 (n : Int), .int .i64 (m : Int)] w0 fun e w' => ∃ u, e = .returned u ∧ Like w0 w' ∧ u = .bool true := by
  refine enter1 (env := [(0, .int .i64 (n : Int)), (1, .int .i64 (m : Int))]) [.int .i64 (n : Int), .int .i64 (m : Int)] Try.func38 rfl Try.ntmps38 rfl rfl ?_
  have S0 := St.start w0 noM
  refine T_seq fun K1 hK1 => ?_
  refine T_region ?_
  refine L_y (y_assign rfl) rfl ?_
  refine L_nil ?_
  refine hK1 _ _ ?_
  refine T_seq fun K2 hK2 => ?_
  refine T_region ?_
  refine L_y (y_move rfl) rfl ?_
  refine L_y (y_geq rfl rfl) rfl ?_
  refine L_y (y_move rfl) rfl ?_
  refine L_split 7 rfl (fun h7 => ?_) (fun h7 => ?_)
  ·
    refine L_gyes rfl rfl ?_
    refine L_y (y_move rfl) rfl ?_
    refine L_gyes rfl rfl ?_
    refine L_y (y_leq rfl rfl) rfl ?_
    refine L_y ((by first | exact y_pickT rfl rfl | exact y_pickF rfl rfl)) rfl ?_
    refine L_y (y_move rfl) rfl ?_
    refine L_split 11 rfl (fun h11 => ?_) (fun h11 => ?_)
    ·
      refine L_gyes rfl rfl ?_
      refine L_y (y_move rfl) rfl ?_
      refine L_gyes rfl rfl ?_
      refine L_y (y_geq rfl rfl) rfl ?_
      refine L_y ((by first | exact y_pickT rfl rfl | exact y_pickF rfl rfl)) rfl ?_
      refine L_y (y_move rfl) rfl ?_
      refine L_split 15 rfl (fun h15 => ?_) (fun h15 => ?_)
      ·
        refine L_gyes rfl rfl ?_
        refine L_y (y_move rfl) rfl ?_
        refine L_gyes rfl rfl ?_
        refine L_y (y_leq rfl rfl) rfl ?_
        refine L_y ((by first | exact y_pickT rfl rfl | exact y_pickF rfl rfl)) rfl ?_
        refine L_y (y_assign rfl) rfl ?_
        refine L_nil ?_
        refine hK2 _ _ ?_
        refine T_ret ?_
        repeat (first | with_reducible refine up_then ?_ | with_reducible refine up_in ?_)
        refine ret1 rfl rfl ?_
        exact ⟨_, rfl, S0.like0, congrArg Value.bool (decide_eq_true (by omega))⟩
      ·
        exact absurd h15 (by omega)
    ·
      exact absurd h11 (by omega)
  ·
    exact absurd h7 (by omega)


set_option maxRecDepth 100000 in
theorem rcheck (n m : Nat) (A : Option Addr) (t c : Nat) (xs : List (Nat × Nat)) (w0 : World) (hx : Rs w0 2 A t c (xs.flatMap pf)) (hn : n ≤ 800) (hm : m ≤ 800) (hin : ∀ p ∈ xs, p.1 < n ∧ p.2 < m) (hinc : ∀ (i j : Nat) (p q : Nat × Nat), i < j → xs[i]? = some p → xs[j]? = some q → p.1 < q.1 ∧ p.2 < q.2) :
    Calls Try.prog 16 #[.int .i64 (n : Int), .int .i64 (m : Int), .slice A t c] w0 fun e w' => ∃ u, e = .returned u ∧ Like w0 w' ∧ u = .int .i64 0 := by
  refine enter1 (env := [(0, .int .i64 (n : Int)), (1, .int .i64 (m : Int)), (2, .slice A t c)]) [.int .i64 (n : Int), .int .i64 (m : Int), .slice A t c] Try.func16 rfl Try.ntmps16 rfl rfl ?_
  have ht := pf_n hx; have hcap := hx.cap; have hmax := hx.max; have S0 := St.start w0 noM
  refine T_seq fun K1 hK1 => ?_
  refine T_region ?_
  refine L_y (y_assign rfl) rfl ?_
  refine L_nil ?_
  refine hK1 _ _ ?_
  refine T_seq fun K2 hK2 => ?_
  refine T_seq fun K3 hK3 => ?_
  refine T_region ?_
  refine L_y (y_move rfl) rfl ?_
  refine L_y (y_move rfl) rfl ?_
  refine L_o (o_call Try.func38 rfl rfl (rsizes n m w0 hn hm) rfl rfl ?_)
  rintro e1 w1 ⟨v1, rfl, l1, rfl⟩
  refine ⟨_, rfl, ?_⟩
  have S1 := S0.like l1
  refine L_y ((by first | exact y_notD rfl | exact y_not rfl)) rfl ?_
  refine L_nil ?_
  refine hK3 _ _ ?_
  refine T_false rfl ?_
  refine T_skip ?_
  refine hK2 _ _ ?_
  refine T_seq fun K4 hK4 => ?_
  refine T_seq fun K5 hK5 => ?_
  refine T_region ?_
  refine L_y (y_assign rfl) rfl ?_
  refine L_nil ?_
  refine hK5 _ _ ?_
  refine T_block ?_
  refine T_loop1 [(0, _), (1, _), (2, _)] (fun (k : Nat) => [(7, .int .i64 (k : Int))]) (fun (k : Nat) => t - k) (fun (k : Nat) (w : World) => k ≤ t ∧ St w0 noM [] w) 0 (Sub.cons rfl (by first | rfl | exact congrArg (Value.int _) (by omega)) (Sub.nil _)) (Sub.cons rfl rfl (Sub.cons rfl rfl (Sub.cons rfl rfl (Sub.nil _)))) ?_ ?_
  ·
    exact ⟨Nat.zero_le _, S1⟩
  ·
    intro k w2 hrel
    obtain ⟨hk, S2⟩ := hrel
    refine T_seq fun K6 hK6 => ?_
    refine T_seq fun K7 hK7 => ?_
    refine T_region ?_
    refine L_y (y_move rfl) rfl ?_
    refine L_y (y_move rfl) rfl ?_
    refine L_y (y_len Try.underlying25 rfl) rfl ?_
    refine L_y (y_lss rfl rfl) rfl ?_
    refine L_nil ?_
    refine hK7 _ _ ?_
    refine T_cond rfl (fun h15 => ?_) (fun h15 => ?_)
    ·
      obtain ⟨p, hp⟩ : ∃ p, xs[k]? = some p := ⟨_, List.getElem?_eq_getElem (by omega)⟩
      have hpg := pf_get xs k p hp
      obtain ⟨hp1, hp2⟩ := hin p (List.mem_of_getElem? hp)
      refine T_skip ?_
      refine hK6 _ _ ?_
      refine T_seq fun K8 hK8 => ?_
      refine T_block ?_
      refine T_seq fun K9 hK9 => ?_
      refine T_seq fun K10 hK10 => ?_
      refine T_region ?_
      refine L_y (y_move rfl) rfl ?_
      refine L_y (y_move rfl) rfl ?_
      refine L_y (y_idx Try.underlying25 sz34 rfl rfl (S2.rd hx) inferInstance (by omega)) rfl ?_
      refine L_y (y_fieldR 0 Try.underlying34 rfl sz3 rfl rfl (S2.rd hx) (by omega) rfl) rfl ?_
      refine L_y (y_ldf Try.underlying3 rfl rfl (S2.rd hx) (by omega) hpg.1) rfl ?_
      refine L_y (y_lss rfl rfl) rfl ?_
      refine L_y (y_move rfl) rfl ?_
      refine L_split 24 rfl (fun h24 => ?_) (fun h24 => ?_)
      ·
        exact absurd h24 (by omega)
      ·
        refine L_gyes rfl rfl ?_
        refine L_y (y_move rfl) rfl ?_
        refine L_gyes rfl rfl ?_
        refine L_y (y_move rfl) rfl ?_
        refine L_gyes rfl rfl ?_
        refine L_y (y_idx Try.underlying25 sz34 rfl rfl (S2.rd hx) inferInstance (by omega)) rfl ?_
        refine L_gyes rfl rfl ?_
        refine L_y (y_fieldR 0 Try.underlying34 rfl sz3 rfl rfl (S2.rd hx) (by omega) rfl) rfl ?_
        refine L_gyes rfl rfl ?_
        refine L_y (y_ldf Try.underlying3 rfl rfl (S2.rd hx) (by omega) hpg.1) rfl ?_
        refine L_gyes rfl rfl ?_
        refine L_y (y_move rfl) rfl ?_
        refine L_gyes rfl rfl ?_
        refine L_y (y_geq rfl rfl) rfl ?_
        refine L_y ((by first | exact y_pickT rfl rfl | exact y_pickF rfl rfl)) rfl ?_
        refine L_y (y_move rfl) rfl ?_
        refine L_split 33 rfl (fun h33 => ?_) (fun h33 => ?_)
        ·
          exact absurd h33 (by omega)
        ·
          refine L_gyes rfl rfl ?_
          refine L_y (y_move rfl) rfl ?_
          refine L_gyes rfl rfl ?_
          refine L_y (y_move rfl) rfl ?_
          refine L_gyes rfl rfl ?_
          refine L_y (y_idx Try.underlying25 sz34 rfl rfl (S2.rd hx) inferInstance (by omega)) rfl ?_
          refine L_gyes rfl rfl ?_
          refine L_y (y_fieldR 1 Try.underlying34 rfl sz3 rfl rfl (S2.rd hx) (by omega) rfl) rfl ?_
          refine L_gyes rfl rfl ?_
          refine L_y (y_ldf Try.underlying3 rfl rfl (S2.rd hx) (by omega) hpg.2) rfl ?_
          refine L_gyes rfl rfl ?_
          refine L_y (y_lss rfl rfl) rfl ?_
          refine L_y ((by first | exact y_pickT rfl rfl | exact y_pickF rfl rfl)) rfl ?_
          refine L_y (y_move rfl) rfl ?_
          refine L_split 41 rfl (fun h41 => ?_) (fun h41 => ?_)
          ·
            exact absurd h41 (by omega)
          ·
            refine L_gyes rfl rfl ?_
            refine L_y (y_move rfl) rfl ?_
            refine L_gyes rfl rfl ?_
            refine L_y (y_move rfl) rfl ?_
            refine L_gyes rfl rfl ?_
            refine L_y (y_idx Try.underlying25 sz34 rfl rfl (S2.rd hx) inferInstance (by omega)) rfl ?_
            refine L_gyes rfl rfl ?_
            refine L_y (y_fieldR 1 Try.underlying34 rfl sz3 rfl rfl (S2.rd hx) (by omega) rfl) rfl ?_
            refine L_gyes rfl rfl ?_
            refine L_y (y_ldf Try.underlying3 rfl rfl (S2.rd hx) (by omega) hpg.2) rfl ?_
            refine L_gyes rfl rfl ?_
            refine L_y (y_move rfl) rfl ?_
            refine L_gyes rfl rfl ?_
            refine L_y (y_geq rfl rfl) rfl ?_
            refine L_y ((by first | exact y_pickT rfl rfl | exact y_pickF rfl rfl)) rfl ?_
            refine L_nil ?_
            refine hK10 _ _ ?_
            refine T_cond rfl (fun h49 => ?_) (fun h49 => ?_)
            ·
              exact absurd h49 (by omega)
            ·
              refine T_skip ?_
              refine hK9 _ _ ?_
              refine T_seq fun K11 hK11 => ?_
              refine T_drawnL [(0, true), (1, true), (2, true), (3, true), (4, true), (5, true), (6, true), (7, true), (8, true), (9, true), (10, true), (11, true), (12, true), (13, true), (14, true), (15, true), (16, true), (17, true), (18, true), (19, true), (20, true), (21, true), (22, true), (23, true), (24, true), (25, true), (26, true), (27, true), (28, true), (29, true)] hmix (by kernel_rfl) fun w6 l6 => ?_
              have S6 := S2.like l6
              refine DL_y rfl (y_move rfl) rfl ?_
              refine DL_y rfl (y_gtr rfl rfl) rfl ?_
              refine DL_y rfl (y_move rfl) rfl ?_
              refine DL_split 52 rfl (fun h52 => ?_) (fun h52 => ?_)
              ·
                obtain ⟨q, hq⟩ : ∃ q, xs[k - 1]? = some q := ⟨_, List.getElem?_eq_getElem (by omega)⟩
                have hqg := pf_get xs (k - 1) q hq
                obtain ⟨hq1, hq2⟩ := hinc (k - 1) k q p (by omega) hq hp
                refine DL_gyes rfl rfl rfl (y_move rfl) rfl ?_
                refine DL_gyes rfl rfl rfl (y_move rfl) rfl ?_
                refine DL_gyes rfl rfl rfl (y_idx Try.underlying25 sz34 rfl rfl (S6.rd hx) inferInstance (by omega)) rfl ?_
                refine DL_gyes rfl rfl rfl (y_fieldR 0 Try.underlying34 rfl sz3 rfl rfl (S6.rd hx) (by omega) rfl) rfl ?_
                refine DL_gyes rfl rfl rfl (y_ldf Try.underlying3 rfl rfl (S6.rd hx) (by omega) hpg.1) rfl ?_
                refine DL_gyes rfl rfl rfl (y_move rfl) rfl ?_
                refine DL_gyes rfl rfl rfl (y_move rfl) rfl ?_
                refine DL_gyes rfl rfl rfl (y_sub rfl rfl (i64w (by omega))) rfl ?_
                refine DL_gyes rfl rfl rfl (y_idx Try.underlying25 sz34 rfl rfl (S6.rd hx) (Nt.mk (by omega) : Nt _ (k - 1)) (by omega)) rfl ?_
                refine DL_gyes rfl rfl rfl (y_fieldR 0 Try.underlying34 rfl sz3 rfl rfl (S6.rd hx) (by omega) rfl) rfl ?_
                refine DL_gyes rfl rfl rfl (y_ldf Try.underlying3 rfl rfl (S6.rd hx) (by omega) hqg.1) rfl ?_
                refine DL_gyes rfl rfl rfl (y_leq rfl rfl) rfl ?_
                refine DL_gyes rfl rfl rfl (y_move rfl) rfl ?_
                refine DL_split 65 rfl (fun h65 => ?_) (fun h65 => ?_)
                ·
                  exact absurd h65 (by omega)
                ·
                  refine DL_gyes rfl rfl rfl (y_move rfl) rfl ?_
                  refine DL_gyes rfl rfl rfl (y_move rfl) rfl ?_
                  refine DL_gyes rfl rfl rfl (y_idx Try.underlying25 sz34 rfl rfl (S6.rd hx) inferInstance (by omega)) rfl ?_
                  refine DL_gyes rfl rfl rfl (y_fieldR 1 Try.underlying34 rfl sz3 rfl rfl (S6.rd hx) (by omega) rfl) rfl ?_
                  refine DL_gyes rfl rfl rfl (y_ldf Try.underlying3 rfl rfl (S6.rd hx) (by omega) hpg.2) rfl ?_
                  refine DL_gyes rfl rfl rfl (y_move rfl) rfl ?_
                  refine DL_gyes rfl rfl rfl (y_move rfl) rfl ?_
                  refine DL_gyes rfl rfl rfl (y_sub rfl rfl (i64w (by omega))) rfl ?_
                  refine DL_gyes rfl rfl rfl (y_idx Try.underlying25 sz34 rfl rfl (S6.rd hx) (Nt.mk (by omega) : Nt _ (k - 1)) (by omega)) rfl ?_
                  refine DL_gyes rfl rfl rfl (y_fieldR 1 Try.underlying34 rfl sz3 rfl rfl (S6.rd hx) (by omega) rfl) rfl ?_
                  refine DL_gyes rfl rfl rfl (y_ldf Try.underlying3 rfl rfl (S6.rd hx) (by omega) hqg.2) rfl ?_
                  refine DL_gyes rfl rfl rfl (y_leq rfl rfl) rfl ?_
                  refine DL_gyes rfl rfl rfl ((by first | exact y_pickT rfl rfl | exact y_pickF rfl rfl)) rfl ?_
                  refine DL_y rfl ((by first | exact y_pickT rfl rfl | exact y_pickF rfl rfl)) rfl ?_
                  refine DL_nil ?_
                  refine hK11 _ _ ?_
                  refine T_cond rfl (fun h79 => ?_) (fun h79 => ?_)
                  ·
                    exact absurd h79 (by omega)
                  ·
                    refine T_skip ?_
                    refine hK8 _ _ ?_
                    refine T_region ?_
                    refine L_y (y_move rfl) rfl ?_
                    refine L_y (y_add rfl rfl (i64w (by omega))) rfl ?_
                    refine L_y (y_assign rfl) rfl ?_
                    refine L_nil ?_
                    refine ⟨k + 1, by omega, ⟨by omega, S6⟩, ?_⟩
                    exact (Sub.cons rfl (by first | rfl | exact congrArg (Value.int _) (by omega)) (Sub.cons rfl rfl (Sub.cons rfl rfl (Sub.cons rfl rfl (Sub.nil _)))))
              ·
                refine DL_gno rfl rfl rfl rfl ?_
                refine DL_gno rfl rfl rfl rfl ?_
                refine DL_gno rfl rfl rfl rfl ?_
                refine DL_gno rfl rfl rfl rfl ?_
                refine DL_gno rfl rfl rfl rfl ?_
                refine DL_gno rfl rfl rfl rfl ?_
                refine DL_gno rfl rfl rfl rfl ?_
                refine DL_gno rfl rfl rfl rfl ?_
                refine DL_gno rfl rfl rfl rfl ?_
                refine DL_gno rfl rfl rfl rfl ?_
                refine DL_gno rfl rfl rfl rfl ?_
                refine DL_gno rfl rfl rfl rfl ?_
                refine DL_gno rfl rfl rfl rfl ?_
                refine DL_gnu rfl rfl rfl rfl ?_
                refine DL_gnu rfl rfl rfl rfl ?_
                refine DL_gnu rfl rfl rfl rfl ?_
                refine DL_gnu rfl rfl rfl rfl ?_
                refine DL_gnu rfl rfl rfl rfl ?_
                refine DL_gnu rfl rfl rfl rfl ?_
                refine DL_gnu rfl rfl rfl rfl ?_
                refine DL_gnu rfl rfl rfl rfl ?_
                refine DL_gnu rfl rfl rfl rfl ?_
                refine DL_gnu rfl rfl rfl rfl ?_
                refine DL_gnu rfl rfl rfl rfl ?_
                refine DL_gnu rfl rfl rfl rfl ?_
                refine DL_gno rfl rfl rfl rfl ?_
                refine DL_y rfl ((by first | exact y_pickT rfl rfl | exact y_pickF rfl rfl)) rfl ?_
                refine DL_nil ?_
                refine hK11 _ _ ?_
                refine T_false rfl ?_
                refine T_skip ?_
                refine hK8 _ _ ?_
                refine T_region ?_
                refine L_y (y_move rfl) rfl ?_
                refine L_y (y_add rfl rfl (i64w (by omega))) rfl ?_
                refine L_y (y_assign rfl) rfl ?_
                refine L_nil ?_
                refine ⟨k + 1, by omega, ⟨by omega, S6⟩, ?_⟩
                exact (Sub.cons rfl (by first | rfl | exact congrArg (Value.int _) (by omega)) (Sub.cons rfl rfl (Sub.cons rfl rfl (Sub.cons rfl rfl (Sub.nil _)))))
    ·
      refine T_exit ?_
      refine hK4 _ _ ?_
      refine T_seq fun K12 hK12 => ?_
      refine T_region ?_
      refine L_y (y_assign rfl) rfl ?_
      refine L_nil ?_
      refine hK12 _ _ ?_
      refine T_ret ?_
      repeat (first | with_reducible refine up_then ?_ | with_reducible refine up_in ?_)
      refine ret1 rfl rfl ?_
      exact ⟨_, rfl, S2.like0, rfl⟩


set_option maxRecDepth 100000 in
theorem rlcs (A B : Option Addr) (n ca m cb : Nat) (la lb : List Int) (w0 : World) (ha : Rs w0 1 A n ca (iL la)) (hb : Rs w0 1 B m cb (iL lb)) (hn : n ≤ 4096) (hm : m ≤ 4096) :
    Calls Try.prog 17 #[.slice A n ca, .slice B m cb] w0 fun e w' => ∃ u, e = .returned u ∧ Like w0 w' ∧ u = .int .i64 (lC la lb 0 0 : Int) := by
  refine enter1 (env := [(0, .slice A n ca), (1, .slice B m cb)]) [.slice A n ca, .slice B m cb] Try.func17 rfl Try.ntmps17 rfl rfl ?_
  have hla := lenI ha; have hlb := lenI hb; have S0 := St.start w0 noM
  refine T_seq fun K1 hK1 => ?_
  refine T_region ?_
  refine L_y (y_assign rfl) rfl ?_
  refine L_nil ?_
  refine hK1 _ _ ?_
  refine T_seq fun K2 hK2 => ?_
  refine T_region ?_
  refine L_y (y_move rfl) rfl ?_
  refine L_y (y_len Try.underlying22 rfl) rfl ?_
  refine L_y (y_add rfl rfl (i64w (by omega))) rfl ?_
  refine L_o (o_make te22 rfl S0 rfl rfl (Nt.mk (by omega) : Nt _ (m + 1)) (Nt.mk (by omega) : Nt _ (m + 1)) rfl (by omega) (by omega) (by omega) fun b1 w1 S1 => ?_)
  refine L_y (y_assign rfl) rfl ?_
  refine L_nil ?_
  refine hK2 _ _ ?_
  refine T_seq fun K3 hK3 => ?_
  refine T_seq fun K4 hK4 => ?_
  refine T_region ?_
  refine L_y (y_move rfl) rfl ?_
  refine L_y (y_len Try.underlying22 rfl) rfl ?_
  refine L_y (y_sub rfl rfl (i64w (by omega))) rfl ?_
  refine L_y (y_assign rfl) rfl ?_
  refine L_nil ?_
  refine hK4 _ _ ?_
  refine T_block ?_
  refine T_loop3 [(0, _), (1, _)] (fun (i1 : Nat) (bb : Nat) (xs : List Value) => [(0, .slice A n ca), (1, .slice B m cb), (5, .slice (some ⟨bb, 0, none⟩) (m + 1) (m + 1)), (6, .int .i64 ((i1 : Int) - 1))]) (fun (i1 : Nat) (bb : Nat) (xs : List Value) => i1) (fun (i1 : Nat) (bb : Nat) (xs : List Value) (w : World) => (i1 ≤ n ∧ xs.length = m + 1 ∧ ∀ k, k ≤ m → xs[k]? = some (Value.int .i64 (lC la lb i1 k : Int))) ∧ St w0 noM [row 3 1 (some ⟨bb, 0, none⟩) (m + 1) (m + 1) xs] w) n b1 (List.replicate (m + 1) (Value.int .i64 0)) (Sub.cons rfl (by first | rfl | exact congrArg (Value.int _) (by omega)) (Sub.cons rfl (by first | rfl | exact congrArg (Value.int _) (by omega)) (Sub.cons rfl (by first | rfl | exact congrArg (Value.int _) (by omega)) (Sub.cons rfl (by first | rfl | exact congrArg (Value.int _) (by omega)) (Sub.nil _))))) (Sub.cons rfl rfl (Sub.cons rfl rfl (Sub.nil _))) ?_ ?_
  ·
    exact ⟨⟨Nat.le_refl _, by simp, fun k hk => by rw [List.getElem?_replicate_of_lt (by omega), lC_endA (by omega)]; rfl⟩, S1⟩
  ·
    intro i1 bb xs w2 hrel
    obtain ⟨⟨hi1, hxl, hxs⟩, S2⟩ := hrel
    refine T_seq fun K5 hK5 => ?_
    refine T_seq fun K6 hK6 => ?_
    refine T_region ?_
    refine L_y (y_move rfl) rfl ?_
    refine L_y (y_geq rfl rfl) rfl ?_
    refine L_nil ?_
    refine hK6 _ _ ?_
    refine T_cond rfl (fun h17 => ?_) (fun h17 => ?_)
    ·
      obtain ⟨i, rfl⟩ : ∃ i, i1 = i + 1 := ⟨i1 - 1, by omega⟩
      refine T_skip ?_
      refine hK5 _ _ ?_
      refine T_seq fun K7 hK7 => ?_
      refine T_block ?_
      refine T_seq fun K8 hK8 => ?_
      refine T_region ?_
      refine L_y (y_move rfl) rfl ?_
      refine L_y (y_len Try.underlying22 rfl) rfl ?_
      refine L_y (y_add rfl rfl (i64w (by omega))) rfl ?_
      refine L_o (o_make te22 rfl S2 rfl rfl (Nt.mk (by omega) : Nt _ (m + 1)) (Nt.mk (by omega) : Nt _ (m + 1)) rfl (by omega) (by omega) (by omega) fun b3 w3 S3 => ?_)
      refine L_y (y_assign rfl) rfl ?_
      refine L_nil ?_
      refine hK8 _ _ ?_
      refine T_seq fun K9 hK9 => ?_
      refine T_seq fun K10 hK10 => ?_
      refine T_region ?_
      refine L_y (y_move rfl) rfl ?_
      refine L_y (y_len Try.underlying22 rfl) rfl ?_
      refine L_y (y_sub rfl rfl (i64w (by omega))) rfl ?_
      refine L_y (y_assign rfl) rfl ?_
      refine L_nil ?_
      refine hK10 _ _ ?_
      refine T_block ?_
      refine T_loop2 [(0, _), (1, _), (5, _), (6, _), (7, _)] (fun (k1 : Nat) (ys : List Value) => [(0, .slice A n ca), (1, .slice B m cb), (5, .slice (some ⟨bb, 0, none⟩) (m + 1) (m + 1)), (6, .int .i64 (((i + 1 : Nat) : Int) - 1)), (7, .slice (some ⟨b3, 0, none⟩) (m + 1) (m + 1)), (8, .int .i64 ((k1 : Int) - 1))]) (fun (k1 : Nat) (ys : List Value) => k1) (fun (k1 : Nat) (ys : List Value) (w : World) => (k1 ≤ m ∧ ys.length = m + 1 ∧ ∀ k, k1 ≤ k → k ≤ m → ys[k]? = some (Value.int .i64 (lC la lb i k : Int))) ∧ St w0 noM [row 3 1 (some ⟨bb, 0, none⟩) (m + 1) (m + 1) xs, row 3 1 (some ⟨b3, 0, none⟩) (m + 1) (m + 1) ys] w) m (List.replicate (m + 1) (Value.int .i64 0)) (Sub.cons rfl (by first | rfl | exact congrArg (Value.int _) (by omega)) (Sub.cons rfl (by first | rfl | exact congrArg (Value.int _) (by omega)) (Sub.cons rfl (by first | rfl | exact congrArg (Value.int _) (by omega)) (Sub.cons rfl (by first | rfl | exact congrArg (Value.int _) (by omega)) (Sub.cons rfl (by first | rfl | exact congrArg (Value.int _) (by omega)) (Sub.cons rfl (by first | rfl | exact congrArg (Value.int _) (by omega)) (Sub.nil _))))))) (Sub.cons rfl rfl (Sub.cons rfl rfl (Sub.cons rfl rfl (Sub.cons rfl rfl (Sub.cons rfl rfl (Sub.nil _)))))) ?_ ?_
      ·
        exact ⟨⟨Nat.le_refl _, by simp, fun k h1 h2 => by rw [List.getElem?_replicate_of_lt (by omega), lC_endB (by omega)]; rfl⟩, S3⟩
      ·
        intro k1 ys w4 hrel
        obtain ⟨⟨hk1, hyl, hys⟩, S4⟩ := hrel
        refine T_seq fun K11 hK11 => ?_
        refine T_seq fun K12 hK12 => ?_
        refine T_region ?_
        refine L_y (y_move rfl) rfl ?_
        refine L_y (y_geq rfl rfl) rfl ?_
        refine L_nil ?_
        refine hK12 _ _ ?_
        refine T_cond rfl (fun h28 => ?_) (fun h28 => ?_)
        ·
          obtain ⟨k, rfl⟩ : ∃ k, k1 = k + 1 := ⟨k1 - 1, by omega⟩
          obtain ⟨x, hx⟩ : ∃ x, la[i]? = some x := ⟨_, List.getElem?_eq_getElem (by omega)⟩
          obtain ⟨y, hy⟩ : ∃ y, lb[k]? = some y := ⟨_, List.getElem?_eq_getElem (by omega)⟩
          have hf1 : lC la lb (i + 1) k ≤ 4096 := by unfold lC; omega
          have hf2 : lC la lb i (k + 1) ≤ 4096 := by unfold lC; omega
          have hf3 : lC la lb (i + 1) (k + 1) ≤ 4096 := by unfold lC; omega
          refine T_skip ?_
          refine hK11 _ _ ?_
          refine T_seq fun K13 hK13 => ?_
          refine T_block ?_
          refine T_seq fun K14 hK14 => ?_
          refine T_region ?_
          refine L_y (y_move rfl) rfl ?_
          refine L_y (y_move rfl) rfl ?_
          refine L_y (y_move rfl) rfl ?_
          refine L_y (y_move rfl) rfl ?_
          refine L_y (y_idx Try.underlying22 sz3 rfl rfl (S4.row 0 rfl) (Nt.mk (by omega) : Nt _ (k)) (by omega)) rfl ?_
          refine L_y (y_ldr Try.underlying3 rfl rfl (S4.row 0 rfl) (hxs k (by omega))) rfl ?_
          refine L_y (y_idx Try.underlying22 sz3 rfl rfl (S4.row 1 rfl) (Nt.mk (by omega) : Nt _ (k)) (by omega)) rfl ?_
          refine L_o (o_strow S4 1 rfl rfl rfl rfl sz3 (by omega) fun w5 S5 => ?_)
          refine L_nil ?_
          refine hK14 _ _ ?_
          refine T_seq fun K15 hK15 => ?_
          refine T_seq fun K16 hK16 => ?_
          refine T_drawnL [(0, true), (1, true), (2, true), (3, true), (4, true), (5, true), (6, true), (7, true), (8, true), (9, true)] hmix (by kernel_rfl) fun w6 l6 => ?_
          have S6 := S5.like l6
          refine DL_y rfl (y_move rfl) rfl ?_
          refine DL_y rfl (y_move rfl) rfl ?_
          refine DL_y rfl (y_add rfl rfl (i64w (by omega))) rfl ?_
          refine DL_y rfl (y_idx Try.underlying22 sz3 rfl rfl (S6.row 1 rfl) (Nt.mk (by omega) : Nt _ (k + 1)) (by omega)) rfl ?_
          refine DL_y rfl (y_ldr Try.underlying3 rfl rfl (S6.row 1 rfl) (by first | (rw [List.getElem?_set_ne (by omega)]; exact hys (k + 1) (by omega) (by omega)) | (rw [List.getElem?_set_ne (by omega), List.getElem?_set_ne (by omega)]; exact hys (k + 1) (by omega) (by omega)))) rfl ?_
          refine DL_y rfl (y_move rfl) rfl ?_
          refine DL_y rfl (y_move rfl) rfl ?_
          refine DL_y rfl (y_idx Try.underlying22 sz3 rfl rfl (S6.row 1 rfl) (Nt.mk (by omega) : Nt _ (k)) (by omega)) rfl ?_
          refine DL_y rfl (y_ldr Try.underlying3 rfl rfl (S6.row 1 rfl) (by first | exact List.getElem?_set_self (by first | omega | (rw [List.length_set]; omega)))) rfl ?_
          refine DL_y rfl (y_gtr rfl rfl) rfl ?_
          refine DL_nil ?_
          refine hK16 _ _ ?_
          refine T_cond rfl (fun h47 => ?_) (fun h47 => ?_)
          ·
            refine T_region ?_
            refine L_y (y_move rfl) rfl ?_
            refine L_y (y_move rfl) rfl ?_
            refine L_y (y_move rfl) rfl ?_
            refine L_y (y_move rfl) rfl ?_
            refine L_y (y_add rfl rfl (i64w (by omega))) rfl ?_
            refine L_y (y_idx Try.underlying22 sz3 rfl rfl (S6.row 1 rfl) (Nt.mk (by omega) : Nt _ (k + 1)) (by omega)) rfl ?_
            refine L_y (y_ldr Try.underlying3 rfl rfl (S6.row 1 rfl) (by first | (rw [List.getElem?_set_ne (by omega)]; exact hys (k + 1) (by omega) (by omega)) | (rw [List.getElem?_set_ne (by omega), List.getElem?_set_ne (by omega)]; exact hys (k + 1) (by omega) (by omega)))) rfl ?_
            refine L_y (y_idx Try.underlying22 sz3 rfl rfl (S6.row 1 rfl) (Nt.mk (by omega) : Nt _ (k)) (by omega)) rfl ?_
            refine L_o (o_strow S6 1 rfl rfl rfl rfl sz3 (by omega) fun w7 S7 => ?_)
            refine L_nil ?_
            refine hK15 _ _ ?_
            refine T_seq fun K17 hK17 => ?_
            refine T_drawnL [(0, true), (1, true), (2, true), (3, true), (4, true), (5, true), (6, true), (7, true), (8, true), (9, true), (10, true), (11, true), (12, true), (13, true), (14, true), (15, true), (16, true), (17, true), (18, true), (19, true), (20, true), (21, true)] hmix (by kernel_rfl) fun w8 l8 => ?_
            have S8 := S7.like l8
            refine DL_y rfl (y_move rfl) rfl ?_
            refine DL_y rfl (y_move rfl) rfl ?_
            refine DL_y rfl (y_idx Try.underlying22 sz3 rfl rfl (S8.rd ha) (Nt.mk (by omega) : Nt _ (i)) (by omega)) rfl ?_
            refine DL_y rfl (y_ldr Try.underlying3 rfl rfl (S8.rd ha) (iL_get _ _ _ hx)) rfl ?_
            refine DL_y rfl (y_move rfl) rfl ?_
            refine DL_y rfl (y_move rfl) rfl ?_
            refine DL_y rfl (y_idx Try.underlying22 sz3 rfl rfl (S8.rd hb) (Nt.mk (by omega) : Nt _ (k)) (by omega)) rfl ?_
            refine DL_y rfl (y_ldr Try.underlying3 rfl rfl (S8.rd hb) (iL_get _ _ _ hy)) rfl ?_
            refine DL_y rfl (y_eql rfl rfl) rfl ?_
            refine DL_y rfl (y_move rfl) rfl ?_
            refine DL_split 65 rfl (fun h65 => ?_) (fun h65 => ?_)
            ·
              refine DL_gyes rfl rfl rfl (y_move rfl) rfl ?_
              refine DL_gyes rfl rfl rfl (y_move rfl) rfl ?_
              refine DL_gyes rfl rfl rfl (y_add rfl rfl (i64w (by omega))) rfl ?_
              refine DL_gyes rfl rfl rfl (y_idx Try.underlying22 sz3 rfl rfl (S8.row 0 rfl) (Nt.mk (by omega) : Nt _ (k + 1)) (by omega)) rfl ?_
              refine DL_gyes rfl rfl rfl (y_ldr Try.underlying3 rfl rfl (S8.row 0 rfl) (hxs (k + 1) (by omega))) rfl ?_
              refine DL_gyes rfl rfl rfl (y_add rfl rfl (i64w (by omega))) rfl ?_
              refine DL_gyes rfl rfl rfl (y_move rfl) rfl ?_
              refine DL_gyes rfl rfl rfl (y_move rfl) rfl ?_
              refine DL_gyes rfl rfl rfl (y_idx Try.underlying22 sz3 rfl rfl (S8.row 1 rfl) (Nt.mk (by omega) : Nt _ (k)) (by omega)) rfl ?_
              refine DL_gyes rfl rfl rfl (y_ldr Try.underlying3 rfl rfl (S8.row 1 rfl) (by first | exact List.getElem?_set_self (by first | omega | (rw [List.length_set]; omega)))) rfl ?_
              refine DL_gyes rfl rfl rfl (y_gtr rfl rfl) rfl ?_
              refine DL_y rfl ((by first | exact y_pickT rfl rfl | exact y_pickF rfl rfl)) rfl ?_
              refine DL_nil ?_
              refine hK17 _ _ ?_
              refine T_cond rfl (fun h77 => ?_) (fun h77 => ?_)
              ·
                refine T_region ?_
                refine L_y (y_move rfl) rfl ?_
                refine L_y (y_move rfl) rfl ?_
                refine L_y (y_move rfl) rfl ?_
                refine L_y (y_move rfl) rfl ?_
                refine L_y (y_add rfl rfl (i64w (by omega))) rfl ?_
                refine L_y (y_idx Try.underlying22 sz3 rfl rfl (S8.row 0 rfl) (Nt.mk (by omega) : Nt _ (k + 1)) (by omega)) rfl ?_
                refine L_y (y_ldr Try.underlying3 rfl rfl (S8.row 0 rfl) (hxs (k + 1) (by omega))) rfl ?_
                refine L_y (y_add rfl rfl (i64w (by omega))) rfl ?_
                refine L_y (y_idx Try.underlying22 sz3 rfl rfl (S8.row 1 rfl) (Nt.mk (by omega) : Nt _ (k)) (by omega)) rfl ?_
                refine L_o (o_strow S8 1 rfl rfl rfl rfl sz3 (by omega) fun w9 S9 => ?_)
                refine L_nil ?_
                refine hK13 _ _ ?_
                refine T_region ?_
                refine L_y (y_move rfl) rfl ?_
                refine L_y (y_sub rfl rfl (i64w (by omega))) rfl ?_
                refine L_y (y_assign rfl) rfl ?_
                refine L_nil ?_
                have hL := lC_hit (la := la) (lb := lb) (i := i) (k := k) ⟨by omega, by omega, by rw [hx, hy, h65]⟩
                refine ⟨k, _, by omega, ⟨⟨by omega, by rw [List.length_set, List.length_set, List.length_set]; exact hyl, fun q h1 h2 => by rcases Nat.lt_or_ge k q with h3 | h3; (rw [List.getElem?_set_ne (by omega), List.getElem?_set_ne (by omega), List.getElem?_set_ne (by omega)]; exact hys q (by omega) h2); (have e : q = k := by omega); subst e; rw [List.getElem?_set_self (by first | omega | (rw [List.length_set]; omega) | (rw [List.length_set, List.length_set]; omega))]; exact congrArg (fun z : Int => some (Value.int .i64 z)) (by omega)⟩, S9⟩, ?_⟩
                exact (Sub.cons rfl (by first | rfl | exact congrArg (Value.int _) (by omega)) (Sub.cons rfl (by first | rfl | exact congrArg (Value.int _) (by omega)) (Sub.cons rfl (by first | rfl | exact congrArg (Value.int _) (by omega)) (Sub.cons rfl (by first | rfl | exact congrArg (Value.int _) (by omega)) (Sub.cons rfl (by first | rfl | exact congrArg (Value.int _) (by omega)) (Sub.cons rfl (by first | rfl | exact congrArg (Value.int _) (by omega)) (Sub.cons rfl rfl (Sub.cons rfl rfl (Sub.cons rfl rfl (Sub.cons rfl rfl (Sub.cons rfl rfl (Sub.nil _))))))))))))
              ·
                refine T_skip ?_
                refine hK13 _ _ ?_
                refine T_region ?_
                refine L_y (y_move rfl) rfl ?_
                refine L_y (y_sub rfl rfl (i64w (by omega))) rfl ?_
                refine L_y (y_assign rfl) rfl ?_
                refine L_nil ?_
                have hL := lC_hit (la := la) (lb := lb) (i := i) (k := k) ⟨by omega, by omega, by rw [hx, hy, h65]⟩
                refine ⟨k, _, by omega, ⟨⟨by omega, by rw [List.length_set, List.length_set]; exact hyl, fun q h1 h2 => by rcases Nat.lt_or_ge k q with h3 | h3; (rw [List.getElem?_set_ne (by omega), List.getElem?_set_ne (by omega)]; exact hys q (by omega) h2); (have e : q = k := by omega); subst e; rw [List.getElem?_set_self (by first | omega | (rw [List.length_set]; omega) | (rw [List.length_set, List.length_set]; omega))]; exact congrArg (fun z : Int => some (Value.int .i64 z)) (by omega)⟩, S8⟩, ?_⟩
                exact (Sub.cons rfl (by first | rfl | exact congrArg (Value.int _) (by omega)) (Sub.cons rfl (by first | rfl | exact congrArg (Value.int _) (by omega)) (Sub.cons rfl (by first | rfl | exact congrArg (Value.int _) (by omega)) (Sub.cons rfl (by first | rfl | exact congrArg (Value.int _) (by omega)) (Sub.cons rfl (by first | rfl | exact congrArg (Value.int _) (by omega)) (Sub.cons rfl (by first | rfl | exact congrArg (Value.int _) (by omega)) (Sub.cons rfl rfl (Sub.cons rfl rfl (Sub.cons rfl rfl (Sub.cons rfl rfl (Sub.cons rfl rfl (Sub.nil _))))))))))))
            ·
              refine DL_gno rfl rfl rfl rfl ?_
              refine DL_gno rfl rfl rfl rfl ?_
              refine DL_gno rfl rfl rfl rfl ?_
              refine DL_gno rfl rfl rfl rfl ?_
              refine DL_gno rfl rfl rfl rfl ?_
              refine DL_gno rfl rfl rfl rfl ?_
              refine DL_gno rfl rfl rfl rfl ?_
              refine DL_gno rfl rfl rfl rfl ?_
              refine DL_gno rfl rfl rfl rfl ?_
              refine DL_gno rfl rfl rfl rfl ?_
              refine DL_gno rfl rfl rfl rfl ?_
              refine DL_y rfl ((by first | exact y_pickT rfl rfl | exact y_pickF rfl rfl)) rfl ?_
              refine DL_nil ?_
              refine hK17 _ _ ?_
              refine T_false rfl ?_
              refine T_skip ?_
              refine hK13 _ _ ?_
              refine T_region ?_
              refine L_y (y_move rfl) rfl ?_
              refine L_y (y_sub rfl rfl (i64w (by omega))) rfl ?_
              refine L_y (y_assign rfl) rfl ?_
              refine L_nil ?_
              have hL := lC_mis (la := la) (lb := lb) (i := i) (k := k) (fun h => by have h9 := h.2.2; rw [hx, hy] at h9; exact h65 (Option.some.inj h9)) (by omega) (by omega)
              refine ⟨k, _, by omega, ⟨⟨by omega, by rw [List.length_set, List.length_set]; exact hyl, fun q h1 h2 => by rcases Nat.lt_or_ge k q with h3 | h3; (rw [List.getElem?_set_ne (by omega), List.getElem?_set_ne (by omega)]; exact hys q (by omega) h2); (have e : q = k := by omega); subst e; rw [List.getElem?_set_self (by first | omega | (rw [List.length_set]; omega) | (rw [List.length_set, List.length_set]; omega))]; exact congrArg (fun z : Int => some (Value.int .i64 z)) (by omega)⟩, S8⟩, ?_⟩
              exact (Sub.cons rfl (by first | rfl | exact congrArg (Value.int _) (by omega)) (Sub.cons rfl (by first | rfl | exact congrArg (Value.int _) (by omega)) (Sub.cons rfl (by first | rfl | exact congrArg (Value.int _) (by omega)) (Sub.cons rfl (by first | rfl | exact congrArg (Value.int _) (by omega)) (Sub.cons rfl (by first | rfl | exact congrArg (Value.int _) (by omega)) (Sub.cons rfl (by first | rfl | exact congrArg (Value.int _) (by omega)) (Sub.cons rfl rfl (Sub.cons rfl rfl (Sub.cons rfl rfl (Sub.cons rfl rfl (Sub.cons rfl rfl (Sub.nil _))))))))))))
          ·
            refine T_skip ?_
            refine hK15 _ _ ?_
            refine T_seq fun K18 hK18 => ?_
            refine T_drawnL [(0, true), (1, true), (2, true), (3, true), (4, true), (5, true), (6, true), (7, true), (8, true), (9, true), (10, true), (11, true), (12, true), (13, true), (14, true), (15, true), (16, true), (17, true), (18, true), (19, true), (20, true), (21, true)] hmix (by kernel_rfl) fun w10 l10 => ?_
            have S10 := S6.like l10
            refine DL_y rfl (y_move rfl) rfl ?_
            refine DL_y rfl (y_move rfl) rfl ?_
            refine DL_y rfl (y_idx Try.underlying22 sz3 rfl rfl (S10.rd ha) (Nt.mk (by omega) : Nt _ (i)) (by omega)) rfl ?_
            refine DL_y rfl (y_ldr Try.underlying3 rfl rfl (S10.rd ha) (iL_get _ _ _ hx)) rfl ?_
            refine DL_y rfl (y_move rfl) rfl ?_
            refine DL_y rfl (y_move rfl) rfl ?_
            refine DL_y rfl (y_idx Try.underlying22 sz3 rfl rfl (S10.rd hb) (Nt.mk (by omega) : Nt _ (k)) (by omega)) rfl ?_
            refine DL_y rfl (y_ldr Try.underlying3 rfl rfl (S10.rd hb) (iL_get _ _ _ hy)) rfl ?_
            refine DL_y rfl (y_eql rfl rfl) rfl ?_
            refine DL_y rfl (y_move rfl) rfl ?_
            refine DL_split 65 rfl (fun h65 => ?_) (fun h65 => ?_)
            ·
              refine DL_gyes rfl rfl rfl (y_move rfl) rfl ?_
              refine DL_gyes rfl rfl rfl (y_move rfl) rfl ?_
              refine DL_gyes rfl rfl rfl (y_add rfl rfl (i64w (by omega))) rfl ?_
              refine DL_gyes rfl rfl rfl (y_idx Try.underlying22 sz3 rfl rfl (S10.row 0 rfl) (Nt.mk (by omega) : Nt _ (k + 1)) (by omega)) rfl ?_
              refine DL_gyes rfl rfl rfl (y_ldr Try.underlying3 rfl rfl (S10.row 0 rfl) (hxs (k + 1) (by omega))) rfl ?_
              refine DL_gyes rfl rfl rfl (y_add rfl rfl (i64w (by omega))) rfl ?_
              refine DL_gyes rfl rfl rfl (y_move rfl) rfl ?_
              refine DL_gyes rfl rfl rfl (y_move rfl) rfl ?_
              refine DL_gyes rfl rfl rfl (y_idx Try.underlying22 sz3 rfl rfl (S10.row 1 rfl) (Nt.mk (by omega) : Nt _ (k)) (by omega)) rfl ?_
              refine DL_gyes rfl rfl rfl (y_ldr Try.underlying3 rfl rfl (S10.row 1 rfl) (by first | exact List.getElem?_set_self (by first | omega | (rw [List.length_set]; omega)))) rfl ?_
              refine DL_gyes rfl rfl rfl (y_gtr rfl rfl) rfl ?_
              refine DL_y rfl ((by first | exact y_pickT rfl rfl | exact y_pickF rfl rfl)) rfl ?_
              refine DL_nil ?_
              refine hK18 _ _ ?_
              refine T_cond rfl (fun h77 => ?_) (fun h77 => ?_)
              ·
                refine T_region ?_
                refine L_y (y_move rfl) rfl ?_
                refine L_y (y_move rfl) rfl ?_
                refine L_y (y_move rfl) rfl ?_
                refine L_y (y_move rfl) rfl ?_
                refine L_y (y_add rfl rfl (i64w (by omega))) rfl ?_
                refine L_y (y_idx Try.underlying22 sz3 rfl rfl (S10.row 0 rfl) (Nt.mk (by omega) : Nt _ (k + 1)) (by omega)) rfl ?_
                refine L_y (y_ldr Try.underlying3 rfl rfl (S10.row 0 rfl) (hxs (k + 1) (by omega))) rfl ?_
                refine L_y (y_add rfl rfl (i64w (by omega))) rfl ?_
                refine L_y (y_idx Try.underlying22 sz3 rfl rfl (S10.row 1 rfl) (Nt.mk (by omega) : Nt _ (k)) (by omega)) rfl ?_
                refine L_o (o_strow S10 1 rfl rfl rfl rfl sz3 (by omega) fun w11 S11 => ?_)
                refine L_nil ?_
                refine hK13 _ _ ?_
                refine T_region ?_
                refine L_y (y_move rfl) rfl ?_
                refine L_y (y_sub rfl rfl (i64w (by omega))) rfl ?_
                refine L_y (y_assign rfl) rfl ?_
                refine L_nil ?_
                have hL := lC_hit (la := la) (lb := lb) (i := i) (k := k) ⟨by omega, by omega, by rw [hx, hy, h65]⟩
                refine ⟨k, _, by omega, ⟨⟨by omega, by rw [List.length_set, List.length_set]; exact hyl, fun q h1 h2 => by rcases Nat.lt_or_ge k q with h3 | h3; (rw [List.getElem?_set_ne (by omega), List.getElem?_set_ne (by omega)]; exact hys q (by omega) h2); (have e : q = k := by omega); subst e; rw [List.getElem?_set_self (by first | omega | (rw [List.length_set]; omega) | (rw [List.length_set, List.length_set]; omega))]; exact congrArg (fun z : Int => some (Value.int .i64 z)) (by omega)⟩, S11⟩, ?_⟩
                exact (Sub.cons rfl (by first | rfl | exact congrArg (Value.int _) (by omega)) (Sub.cons rfl (by first | rfl | exact congrArg (Value.int _) (by omega)) (Sub.cons rfl (by first | rfl | exact congrArg (Value.int _) (by omega)) (Sub.cons rfl (by first | rfl | exact congrArg (Value.int _) (by omega)) (Sub.cons rfl (by first | rfl | exact congrArg (Value.int _) (by omega)) (Sub.cons rfl (by first | rfl | exact congrArg (Value.int _) (by omega)) (Sub.cons rfl rfl (Sub.cons rfl rfl (Sub.cons rfl rfl (Sub.cons rfl rfl (Sub.cons rfl rfl (Sub.nil _))))))))))))
              ·
                refine T_skip ?_
                refine hK13 _ _ ?_
                refine T_region ?_
                refine L_y (y_move rfl) rfl ?_
                refine L_y (y_sub rfl rfl (i64w (by omega))) rfl ?_
                refine L_y (y_assign rfl) rfl ?_
                refine L_nil ?_
                have hL := lC_hit (la := la) (lb := lb) (i := i) (k := k) ⟨by omega, by omega, by rw [hx, hy, h65]⟩
                refine ⟨k, _, by omega, ⟨⟨by omega, by rw [List.length_set]; exact hyl, fun q h1 h2 => by rcases Nat.lt_or_ge k q with h3 | h3; (rw [List.getElem?_set_ne (by omega)]; exact hys q (by omega) h2); (have e : q = k := by omega); subst e; rw [List.getElem?_set_self (by first | omega | (rw [List.length_set]; omega) | (rw [List.length_set, List.length_set]; omega))]; exact congrArg (fun z : Int => some (Value.int .i64 z)) (by omega)⟩, S10⟩, ?_⟩
                exact (Sub.cons rfl (by first | rfl | exact congrArg (Value.int _) (by omega)) (Sub.cons rfl (by first | rfl | exact congrArg (Value.int _) (by omega)) (Sub.cons rfl (by first | rfl | exact congrArg (Value.int _) (by omega)) (Sub.cons rfl (by first | rfl | exact congrArg (Value.int _) (by omega)) (Sub.cons rfl (by first | rfl | exact congrArg (Value.int _) (by omega)) (Sub.cons rfl (by first | rfl | exact congrArg (Value.int _) (by omega)) (Sub.cons rfl rfl (Sub.cons rfl rfl (Sub.cons rfl rfl (Sub.cons rfl rfl (Sub.cons rfl rfl (Sub.nil _))))))))))))
            ·
              refine DL_gno rfl rfl rfl rfl ?_
              refine DL_gno rfl rfl rfl rfl ?_
              refine DL_gno rfl rfl rfl rfl ?_
              refine DL_gno rfl rfl rfl rfl ?_
              refine DL_gno rfl rfl rfl rfl ?_
              refine DL_gno rfl rfl rfl rfl ?_
              refine DL_gno rfl rfl rfl rfl ?_
              refine DL_gno rfl rfl rfl rfl ?_
              refine DL_gno rfl rfl rfl rfl ?_
              refine DL_gno rfl rfl rfl rfl ?_
              refine DL_gno rfl rfl rfl rfl ?_
              refine DL_y rfl ((by first | exact y_pickT rfl rfl | exact y_pickF rfl rfl)) rfl ?_
              refine DL_nil ?_
              refine hK18 _ _ ?_
              refine T_false rfl ?_
              refine T_skip ?_
              refine hK13 _ _ ?_
              refine T_region ?_
              refine L_y (y_move rfl) rfl ?_
              refine L_y (y_sub rfl rfl (i64w (by omega))) rfl ?_
              refine L_y (y_assign rfl) rfl ?_
              refine L_nil ?_
              have hL := lC_mis (la := la) (lb := lb) (i := i) (k := k) (fun h => by have h9 := h.2.2; rw [hx, hy] at h9; exact h65 (Option.some.inj h9)) (by omega) (by omega)
              refine ⟨k, _, by omega, ⟨⟨by omega, by rw [List.length_set]; exact hyl, fun q h1 h2 => by rcases Nat.lt_or_ge k q with h3 | h3; (rw [List.getElem?_set_ne (by omega)]; exact hys q (by omega) h2); (have e : q = k := by omega); subst e; rw [List.getElem?_set_self (by first | omega | (rw [List.length_set]; omega) | (rw [List.length_set, List.length_set]; omega))]; exact congrArg (fun z : Int => some (Value.int .i64 z)) (by omega)⟩, S10⟩, ?_⟩
              exact (Sub.cons rfl (by first | rfl | exact congrArg (Value.int _) (by omega)) (Sub.cons rfl (by first | rfl | exact congrArg (Value.int _) (by omega)) (Sub.cons rfl (by first | rfl | exact congrArg (Value.int _) (by omega)) (Sub.cons rfl (by first | rfl | exact congrArg (Value.int _) (by omega)) (Sub.cons rfl (by first | rfl | exact congrArg (Value.int _) (by omega)) (Sub.cons rfl (by first | rfl | exact congrArg (Value.int _) (by omega)) (Sub.cons rfl rfl (Sub.cons rfl rfl (Sub.cons rfl rfl (Sub.cons rfl rfl (Sub.cons rfl rfl (Sub.nil _))))))))))))
        ·
          refine T_exit ?_
          refine hK9 _ _ ?_
          refine T_region ?_
          refine L_y (y_move rfl) rfl ?_
          refine L_y (y_assign rfl) rfl ?_
          refine L_nil ?_
          refine hK7 _ _ ?_
          refine T_region ?_
          refine L_y (y_move rfl) rfl ?_
          refine L_y (y_sub rfl rfl (i64w (by omega))) rfl ?_
          refine L_y (y_assign rfl) rfl ?_
          refine L_nil ?_
          have S95 := S4.drop (rs' := [_]) (.cons _ (.refl _))
          refine ⟨i, _, _, by omega, ⟨⟨by omega, hyl, fun q hq => hys q (by omega) hq⟩, S95⟩, ?_⟩
          exact (Sub.cons rfl (by first | rfl | exact congrArg (Value.int _) (by omega)) (Sub.cons rfl (by first | rfl | exact congrArg (Value.int _) (by omega)) (Sub.cons rfl (by first | rfl | exact congrArg (Value.int _) (by omega)) (Sub.cons rfl (by first | rfl | exact congrArg (Value.int _) (by omega)) (Sub.cons rfl rfl (Sub.cons rfl rfl (Sub.nil _)))))))
    ·
      refine T_exit ?_
      refine hK3 _ _ ?_
      refine T_seq fun K19 hK19 => ?_
      refine T_region ?_
      refine L_y (y_move rfl) rfl ?_
      refine L_y (y_idx Try.underlying22 sz3 rfl rfl (S2.row 0 rfl) inferInstance (by omega)) rfl ?_
      refine L_y (y_ldr Try.underlying3 rfl rfl (S2.row 0 rfl) (hxs 0 (by omega))) rfl ?_
      refine L_y (y_assign rfl) rfl ?_
      refine L_nil ?_
      refine hK19 _ _ ?_
      refine T_ret ?_
      repeat (first | with_reducible refine up_then ?_ | with_reducible refine up_in ?_)
      refine ret1 rfl rfl ?_
      exact ⟨_, rfl, S2.like0, by rw [show i1 = 0 by omega]⟩
end Go.Proofs.Ytbbmkgpgiacdeaa

/-
  Maps from ints to ints; slices of ints whose numbers are of their type.
-/
namespace Go.Proofs.Ytbbmkgpgiacdeaa.Zx
open Go.RowKit Zk Go.Maps
set_option linter.unusedVariables false
set_option linter.unusedSimpArgs false
section
variable {P : Program} {N : Nat} {Q : Post} {env : Env} {w w0 : World} {M : Nat → Prop} {rs : List Res} {K : Env → World → Prop} {d : Tmp} {dst : Option Tmp} {ty : TypeId} {pos : String} {after : Array Edge} {g : Option (Nat × Bool)}
/-- An int that is one. -/
def I64 (x : Int) : Prop := (Lit.int .i64 x).wf = true
/-- The map holds just this. -/
def IM (D : DU) (f : Int → Option Int) : Prop := IsMap D ∧ ∀ x, Maps.has D (.int .i64 x) = (f x).isSome ∧ D.atKey (.int .i64 x) (.lit (.int .i64 0)) = .lit (.int .i64 ((f x).getD 0))
theorem IM.nil : IM (.map []) fun _ => none := ⟨⟨[], rfl⟩, fun _ => ⟨rfl, rfl⟩⟩
theorem IM.put {D : DU} {f : Int → Option Int} (h : IM D f) (y v : Int) : IM (D.put (.int .i64 y) (.lit (.int .i64 v))) fun x => if x = y then some v else f x := by
  refine ⟨h.1.put _ _, fun x => ?_⟩
  dsimp only
  by_cases e : x = y
  · subst e
    rw [if_pos rfl, has_put_same h.1 (show WideAt.IsKeyLit (.int _ _) from trivial), atKey_put_same h.1 (show WideAt.IsKeyLit (.int _ _) from trivial)]
    exact ⟨rfl, rfl⟩
  · rw [if_neg e, has_put_other (fun q => e (by injection q)), atKey_put_other (fun q => e (by injection q))]
    exact h.2 x
theorem IM.congr {D : DU} {f g : Int → Option Int} (h : IM D f) (e : ∀ x, f x = g x) : IM D g := by
  rwa [show g = f from (funext e).symm]
/-- 'v, ok := m[k]' -/
theorem y_lookOk {t k e : TypeId} {b n : Nat} {D : DU} {f : Int → Option Int} {m x : Operand} {key : Int} (hown : w.ownsMap P k (plainElem P e) b n D) (hk : P.underlying k = some (.int .i64)) (ht : P.underlying t = some (.map k e)) (he : P.underlying e = some (.int .i64))
    (hz : ∀ w, (zeroValue e).run P w = .ok (.int .i64 0) w) (hm : ev env m = some (.map (some b))) (hx : ev env x = some (.int .i64 key)) (hkey : I64 key) (hc : IM D f) :
    Y P (Like w) env ⟨dst, .lookup t m x true, ty, pos, after, g⟩ (.tuple #[.int .i64 ((f key).getD 0), .bool (f key).isSome]) := fun N a w' ha hw => by
  have h2 : w'.ownsMap P k (plainElem P e) b n D := (mapR P k e b n D).stable w w' (fun i hi => by have hi' : i = b := hi; subst hi'; exact hw.block i hown.lt) hown
  have hw0 : (Lit.int .i64 0).wf = true := by decide
  obtain ⟨v, ps, hrun, hv⟩ := h2.look_ok (int_keyed hk) ht (hz w') (plainElem_int (H := Unit) he hw0) (keyOf_int_mk hk hkey)
  obtain ⟨c, rfl, hc2, _⟩ := plainElem_int_inv he hv
  have h3 := congrArg Prod.fst hc2
  rw [(hc.2 key).2] at h3
  simp only [DataW.lit.injEq, Lit.int.injEq, true_and] at h3
  rw [← h3, (hc.2 key).1] at hrun
  simp only [execOp, ha.eval hm, ha.eval hx, Sem.run_bind, hrun, Sem.run_pure, Result.andThen_ok]
/-- 'm[k]' -/
theorem y_lookI {t k e : TypeId} {b n : Nat} {D : DU} {f : Int → Option Int} {m x : Operand} {key : Int} (hown : w.ownsMap P k (plainElem P e) b n D) (hk : P.underlying k = some (.int .i64)) (ht : P.underlying t = some (.map k e)) (he : P.underlying e = some (.int .i64))
    (hz : ∀ w, (zeroValue e).run P w = .ok (.int .i64 0) w) (hm : ev env m = some (.map (some b))) (hx : ev env x = some (.int .i64 key)) (hkey : I64 key) (hc : IM D f) :
    Y P (Like w) env ⟨dst, .lookup t m x false, ty, pos, after, g⟩ (.int .i64 ((f key).getD 0)) := y_look hown (int_keyed hk) ht he hz hm hx (keyOf_int_mk hk hkey) (hc.2 key).2
/-- 'make(map[K]V, n)' -/
theorem o_makeMapN {t k e : TypeId} {h0 : Operand} {c : Int} (S : St w0 M rs w) (ht : P.underlying t = some (.map k e)) (hh : ev env h0 = some (.int .i64 c)) (hd : Nat.blt d N = true)
    (h : ∀ b w', w0.heap.size ≤ b → St w0 M (rs ++ [mapR P k e b 0 (.map [])]) w' → K ((d, .map (some b)) :: env) w') :
    O P N Q ⟨some d, .makeMap t (some h0), ty, pos, after, g⟩ env w K := fun a ha => by
  unfold Oper.wp execOp
  have hrun : (Instr.makeMap t (some (.int .i64 c))).run P w = .ok (.map (some w.heap.size)) (w.alloc (.map #[] 0)) := by
    simp only [Instr.makeMap, Sem.run_bind, run_underlying ht, Result.andThen_ok]
    rfl
  simp only [Option.map_some, ha.eval hh, Sem.run_bind, Sem.run_pure, Result.andThen_ok, hrun]
  refine ⟨_, ha.put d _ hd, h _ _ S.size (S.new (like_alloc w _) _ (World.ownsMap_made w P k (plainElem P e)) fun i hi => ?_)⟩
  have hi' : i = w.heap.size := hi
  subst hi'
  exact ⟨Nat.le_refl _, (World.ownsMap_made (H := Unit) w P k (plainElem P e)).lt⟩
end
section
open Go.ChangeShapes Go.WideShapes Go.ChangeAt Go.Deep
variable {H : Type} {enc : TypeId × Value → H} {P : Program} {w : World} {base : Nat} {spare : Nat → Bool} {held : Bool}
/-- A slice of ints, each of its type. -/
theorem open_intsW {r : Reach} {b0 : Nat} {t e : TypeId} {v : Value} {d : DataW H} {p : List MemPlace} (ht : P.underlying t = some (.slice e)) (he : P.underlying e = some (.int .i64)) (hc : P.cellsOf e = 1)
    (hv : Value.okWide P w r b0 t v) (h : DataW.Trod enc P w base spare held t v d p) : ∃ A n c, ∃ l : List Int, v = .slice A n c ∧ Rs w 1 A n c (iL l) ∧ ∀ x ∈ l, I64 x := by
  obtain ⟨fuel, hf⟩ := h
  obtain ⟨A, n, c, l, h1, h2, h3⟩ := read_row1 (Value.int .i64) I64 ht hc (fun n v x h => by
    obtain ⟨a, ha, _, hw⟩ := DataW.trod_int he h
    simp only [List.cons.injEq, and_true] at ha
    exact ⟨a, ha, hw⟩) hf
  exact ⟨A, n, c, l, slice_of_cells ht hv h1, h2, h3⟩
end
end Go.Proofs.Ytbbmkgpgiacdeaa.Zx

/-
  The program: lone.
-/
namespace Go.Proofs.Ytbbmkgpgiacdeaa
open Go.RowKit Zk Zx
set_option linter.unusedVariables false
set_option linter.unusedSimpArgs false

theorem tk {α : Type} {l : List α} {i : Nat} {x : α} (h : l[i]? = some x) : l.take (i + 1) = l.take i ++ [x] := by
  rw [List.take_add_one, h]
  rfl
theorem tkl {α : Type} {l : List α} {i : Nat} (h : i ≤ l.length) : (l.take i).length = i := by
  rw [List.length_take]
  omega
theorem lone_some {m : List Int} {x : Int} (h : (loneV m x).isSome = true) (y : Int) : (if y = x then some (-1 : Int) else loneV m y) = loneV (m ++ [x]) y := by
  rw [lone_snoc]
  by_cases e : y = x
  · subst e
    rw [if_pos rfl, if_pos rfl]
    cases h2 : loneV m y with
    | none => rw [h2] at h; cases h
    | some v => rfl
  · rw [if_neg e, if_neg e]
theorem lone_none {m : List Int} {x : Int} {i : Nat} (hi : m.length = i) (h : (loneV m x).isSome = false) (y : Int) : (if y = x then some (i : Int) else loneV m y) = loneV (m ++ [x]) y := by
  rw [lone_snoc, hi]
  by_cases e : y = x
  · subst e
    rw [if_pos rfl, if_pos rfl]
    cases h2 : loneV m y with
    | none => rfl
    | some v => rw [h2] at h; cases h
  · rw [if_neg e, if_neg e]
theorem wfN (c : Nat) (h : c ≤ 9223372036854775807) : (Lit.int .i64 (c : Int)).wf = true := by
  simp [Lit.wf, IntKind.min, IntKind.max, IntKind.signed, IntKind.bits]
  omega
theorem mapR_new2 {w' : World} {b n : Nat} {D : DU} {B : Nat} (hb : B ≤ b) (h : (mapR Try.prog 3 3 b n D).holds w') : ∀ i, (mapR Try.prog 3 3 b n D).dom i → B ≤ i ∧ i < w'.heap.size := fun i hi => ⟨by have hi' : i = b := hi; omega, mapR_lt h i hi⟩


set_option maxRecDepth 100000 in
theorem plone (A : Option Addr) (n ca : Nat) (la : List Int) (w0 : World) (ha : Rs w0 1 A n ca (iL la)) (hwf : ∀ x ∈ la, I64 x) :
    Calls Try.prog 44 #[.slice A n ca] w0 fun e w' => ∃ u, e = .returned u ∧ Like w0 w' ∧ ∃ b k D, u = .map (some b) ∧ w0.heap.size ≤ b ∧ (mapR Try.prog 3 3 b k D).holds w' ∧ IM D (loneV la) := by
  refine enter1 (env := [(0, .slice A n ca)]) [.slice A n ca] Try.func44 rfl Try.ntmps44 rfl rfl ?_
  have hla := lenI ha; have hcap := ha.cap; have hmax := ha.max; have S0 := St.start w0 noM
  refine T_seq fun K1 hK1 => ?_
  refine T_region ?_
  refine L_y (y_assign rfl) rfl ?_
  refine L_nil ?_
  refine hK1 _ _ ?_
  refine T_seq fun K2 hK2 => ?_
  refine T_region ?_
  refine L_y (y_move rfl) rfl ?_
  refine L_y (y_len Try.underlying22 rfl) rfl ?_
  refine L_o (o_makeMapN S0 Try.underlying63 rfl rfl fun b1 w1 hb1 S1 => ?_)
  refine L_y (y_assign rfl) rfl ?_
  refine L_nil ?_
  refine hK2 _ _ ?_
  refine T_seq fun K3 hK3 => ?_
  refine T_seq fun K4 hK4 => ?_
  refine T_region ?_
  refine L_y (y_move rfl) rfl ?_
  refine L_y (y_len Try.underlying22 rfl) rfl ?_
  refine L_y (y_move rfl) rfl ?_
  refine L_nil ?_
  refine hK4 _ _ ?_
  refine T_block ?_
  refine T_loop2 [(3, _), (11, _), (12, _)] (fun (i : Nat) (D : DU) => [(13, .int .i64 (i : Int))]) (fun (i : Nat) (D : DU) => n - i) (fun (i : Nat) (D : DU) (w : World) => (i ≤ n ∧ IM D (loneV (la.take i))) ∧ St w0 noM [mapR Try.prog 3 3 b1 i D] w) 0 (.map []) (Sub.cons rfl (by first | rfl | exact congrArg (Value.int _) (by omega)) (Sub.nil _)) (Sub.cons rfl rfl (Sub.cons rfl rfl (Sub.cons rfl rfl (Sub.nil _)))) ?_ ?_
  ·
    exact ⟨⟨Nat.zero_le _, IM.nil.congr fun x => by simp [loneV]⟩, S1⟩
  ·
    intro i D w2 hrel
    obtain ⟨⟨hi, him⟩, S2⟩ := hrel
    refine T_seq fun K5 hK5 => ?_
    refine T_region ?_
    refine L_y (y_lss rfl rfl) rfl ?_
    refine L_nil ?_
    refine hK5 _ _ ?_
    refine T_seq fun K6 hK6 => ?_
    refine T_cond rfl (fun h14 => ?_) (fun h14 => ?_)
    ·
      obtain ⟨x, hx⟩ : ∃ x, la[i]? = some x := ⟨_, List.getElem?_eq_getElem (by omega)⟩
      refine T_skip ?_
      refine hK6 _ _ ?_
      refine T_seq fun K7 hK7 => ?_
      refine T_block ?_
      refine T_seq fun K8 hK8 => ?_
      refine T_region ?_
      refine L_y (y_move rfl) rfl ?_
      refine L_y (y_idx Try.underlying22 sz3 rfl rfl (S2.rd ha) inferInstance (by omega)) rfl ?_
      refine L_y (y_ldr Try.underlying3 rfl rfl (S2.rd ha) (iL_get _ _ _ hx)) rfl ?_
      refine L_y (y_assign rfl) rfl ?_
      refine L_y (y_assign rfl) rfl ?_
      refine L_nil ?_
      refine hK8 _ _ ?_
      refine T_seq fun K9 hK9 => ?_
      refine T_region ?_
      refine L_y (y_move rfl) rfl ?_
      refine L_y (y_move rfl) rfl ?_
      refine L_y (y_lookOk (S2.get 0 rfl) Try.underlying3 Try.underlying63 Try.underlying3 zz3 rfl rfl (hwf x (List.mem_of_getElem? hx)) him) rfl ?_
      refine L_y (y_move rfl) rfl ?_
      refine L_y (y_extract rfl rfl) rfl ?_
      refine L_y (y_extract rfl rfl) rfl ?_
      refine L_y (y_assign rfl) rfl ?_
      refine L_y (y_assign rfl) rfl ?_
      refine L_nil ?_
      refine hK9 _ _ ?_
      refine T_seq fun K10 hK10 => ?_
      refine T_region ?_
      refine L_y (y_move rfl) rfl ?_
      refine L_nil ?_
      refine hK10 _ _ ?_
      refine T_condB rfl (fun h24 => ?_) (fun h24 => ?_)
      ·
        refine T_region ?_
        refine L_y (y_move rfl) rfl ?_
        refine L_y (y_move rfl) rfl ?_
        refine L_o (o_mapUp S2 0 rfl (Maps.int_keyed Try.underlying3) Try.underlying63 Try.underlying3 rfl rfl rfl (Maps.keyOf_int_mk Try.underlying3 (hwf x (List.mem_of_getElem? hx))) (by omega) (by decide) fun w3 S3 => ?_)
        refine L_nil ?_
        refine hK7 _ _ ?_
        refine T_region ?_
        refine L_y (y_add rfl rfl (i64w (by omega))) rfl ?_
        refine L_y (y_move rfl) rfl ?_
        refine L_nil ?_
        refine ⟨i + 1, D.put (.int .i64 x) (.lit (.int .i64 (-1))), by omega, ⟨⟨by omega, (him.put x (-1)).congr fun y => by rw [tk hx]; exact lone_some h24 y⟩, S3⟩, ?_⟩
        exact (Sub.cons rfl (by first | rfl | exact congrArg (Value.int _) (by omega)) (Sub.cons rfl rfl (Sub.cons rfl rfl (Sub.cons rfl rfl (Sub.nil _)))))
      ·
        refine T_region ?_
        refine L_y (y_move rfl) rfl ?_
        refine L_y (y_move rfl) rfl ?_
        refine L_y (y_move rfl) rfl ?_
        refine L_o (o_mapUp S2 0 rfl (Maps.int_keyed Try.underlying3) Try.underlying63 Try.underlying3 rfl rfl rfl (Maps.keyOf_int_mk Try.underlying3 (hwf x (List.mem_of_getElem? hx))) (by omega) (wfN _ (by omega)) fun w4 S4 => ?_)
        refine L_nil ?_
        refine hK7 _ _ ?_
        refine T_region ?_
        refine L_y (y_add rfl rfl (i64w (by omega))) rfl ?_
        refine L_y (y_move rfl) rfl ?_
        refine L_nil ?_
        refine ⟨i + 1, D.put (.int .i64 x) (.lit (.int .i64 (i : Int))), by omega, ⟨⟨by omega, (him.put x (i : Int)).congr fun y => by rw [tk hx]; exact lone_none (tkl (by omega)) h24 y⟩, S4⟩, ?_⟩
        exact (Sub.cons rfl (by first | rfl | exact congrArg (Value.int _) (by omega)) (Sub.cons rfl rfl (Sub.cons rfl rfl (Sub.cons rfl rfl (Sub.nil _)))))
    ·
      have hin : i = n := by omega
      subst hin
      rw [List.take_of_length_le (by omega)] at him
      refine T_exit ?_
      refine hK3 _ _ ?_
      refine T_seq fun K11 hK11 => ?_
      refine T_region ?_
      refine L_y (y_move rfl) rfl ?_
      refine L_y (y_assign rfl) rfl ?_
      refine L_nil ?_
      refine hK11 _ _ ?_
      refine T_ret ?_
      repeat (first | with_reducible refine up_then ?_ | with_reducible refine up_in ?_)
      refine ret1 rfl rfl ?_
      exact ⟨_, rfl, S2.like0, b1, i, D, rfl, hb1, S2.get 0 rfl, him⟩
end Go.Proofs.Ytbbmkgpgiacdeaa

/-
  Once, twice.
-/
namespace Go.Proofs.Ytbbmkgpgiacdeaa
open Go.RowKit Zk Zx
set_option linter.unusedVariables false
set_option linter.unusedSimpArgs false

theorem once_dec {la : List Int} (lb : List Int) {i : Nat} {x : Int} (hx : la[i]? = some x) :
    ((loneV la x).getD 0 = (i : Int) ↔ la.count x = 1) ∧ ((loneV lb x).isSome = true → 0 ≤ (loneV lb x).getD 0 → lb.count x = 1 ∧ (loneV lb x).getD 0 = (lb.idxOf x : Int)) ∧ (lb.count x = 1 → (loneV lb x).isSome = true ∧ 0 ≤ (loneV lb x).getD 0) := by
  obtain ⟨v, hv, hvi⟩ := lone_at hx
  refine ⟨by rw [hv]; exact hvi, ?_⟩
  rcases lone_right lb x with ⟨h, hc⟩ | ⟨v2, h, h1, h2⟩
  · rw [h]
    exact ⟨fun h => (by cases h), fun h => absurd h hc⟩
  · rw [h]
    exact ⟨fun _ hp => ⟨h1.1 hp, h2 hp⟩, fun hc => ⟨rfl, h1.2 hc⟩⟩
theorem cnt_hit (l : List Int) (x : Int) : (l ++ [x]).count x = l.count x + 1 := by rw [List.count_append, List.count_singleton_self]
theorem cnt_miss (l : List Int) {x y : Int} (h : ¬ y = x) : (l ++ [y]).count x = l.count x := by
  rw [List.count_append, List.count_eq_zero.2 (show x ∉ [y] by simpa using fun e => h e.symm)]
  rfl


set_option maxRecDepth 100000 in
theorem ponce (A B : Option Addr) (n ca m cb : Nat) (la lb : List Int) (w0 : World) (ha : Rs w0 1 A n ca (iL la)) (hb : Rs w0 1 B m cb (iL lb)) (hwfa : ∀ x ∈ la, I64 x) (hwfb : ∀ x ∈ lb, I64 x) (hn9 : n ≤ 1048576) :
    Calls Try.prog 25 #[.slice A n ca, .slice B m cb] w0 fun e w' => ∃ u, e = .returned u ∧ Like w0 w' ∧ ∃ A m c, u = .slice A m c ∧ w'.ownsRow w0.heap.size 34 2 (.slice A m c) m ((once la lb).flatMap pf) := by
  refine enter1 (env := [(0, .slice A n ca), (1, .slice B m cb)]) [.slice A n ca, .slice B m cb] Try.func25 rfl Try.ntmps25 rfl rfl ?_
  have hla := lenI ha; have hlb := lenI hb; have hcap := ha.cap; have hmax := ha.max; have hcap2 := hb.cap; have hmax2 := hb.max; have S0 := St.start w0 noM
  refine T_seq fun K1 hK1 => ?_
  refine T_region ?_
  refine L_y (y_assign rfl) rfl ?_
  refine L_nil ?_
  refine hK1 _ _ ?_
  refine T_seq fun K2 hK2 => ?_
  refine T_region ?_
  refine L_y (y_move rfl) rfl ?_
  refine L_o (o_call Try.func44 rfl rfl (plone A n ca la w0 (S0.rd ha) hwfa) rfl rfl ?_)
  rintro e1 w1 ⟨v1, rfl, l1, b1, k1, D1, rfl, hb1, hh1, him1⟩
  refine ⟨_, rfl, ?_⟩
  have S1 := S0.new l1 _ hh1 (mapR_new2 hb1 hh1)
  refine L_y (y_move rfl) rfl ?_
  refine L_o (o_call Try.func44 rfl rfl (plone B m cb lb w1 (S1.rd hb) hwfb) rfl rfl ?_)
  rintro e2 w2 ⟨v2, rfl, l2, b2, k2, D2, rfl, hb2, hh2, him2⟩
  refine ⟨_, rfl, ?_⟩
  have S2 := S1.new l2 _ hh2 (mapR_new2 hb2 hh2)
  refine L_y (y_assign rfl) rfl ?_
  refine L_y (y_assign rfl) rfl ?_
  refine L_nil ?_
  refine hK2 _ _ ?_
  refine T_seq fun K3 hK3 => ?_
  refine T_region ?_
  have S3 := S2.nilrow 34 2
  refine L_y (y_assign rfl) rfl ?_
  refine L_nil ?_
  refine hK3 _ _ ?_
  refine T_seq fun K4 hK4 => ?_
  refine T_seq fun K5 hK5 => ?_
  refine T_region ?_
  refine L_y (y_move rfl) rfl ?_
  refine L_y (y_len Try.underlying22 rfl) rfl ?_
  refine L_y (y_move rfl) rfl ?_
  refine L_nil ?_
  refine hK5 _ _ ?_
  refine T_block ?_
  refine T_loop3 [(5, _), (6, _), (16, _), (17, _)] (fun (i : Nat) (A1 : Option Addr) (c1 : Nat) => [(18, .int .i64 (i : Int)), (7, .slice A1 (onceT la lb i).length c1)]) (fun (i : Nat) (A1 : Option Addr) (c1 : Nat) => n - i) (fun (i : Nat) (A1 : Option Addr) (c1 : Nat) (w : World) => i ≤ n ∧ St w0 noM [mapR Try.prog 3 3 b1 k1 D1, mapR Try.prog 3 3 b2 k2 D2, row 34 2 A1 (onceT la lb i).length c1 ((onceT la lb i).flatMap pf)] w) 0 none 0 (Sub.cons rfl (by first | rfl | exact congrArg (Value.int _) (by omega)) (Sub.cons rfl (by first | rfl | exact congrArg (Value.int _) (by omega)) (Sub.nil _))) (Sub.cons rfl rfl (Sub.cons rfl rfl (Sub.cons rfl rfl (Sub.cons rfl rfl (Sub.nil _))))) ?_ ?_
  ·
    exact ⟨Nat.zero_le _, S3⟩
  ·
    intro i A1 c1 w4 hrel
    obtain ⟨hi, S4⟩ := hrel
    have hol := once_len la lb i
    refine T_seq fun K6 hK6 => ?_
    refine T_region ?_
    refine L_y (y_lss rfl rfl) rfl ?_
    refine L_nil ?_
    refine hK6 _ _ ?_
    refine T_seq fun K7 hK7 => ?_
    refine T_cond rfl (fun h19 => ?_) (fun h19 => ?_)
    ·
      obtain ⟨x, hx⟩ : ∃ x, la[i]? = some x := ⟨_, List.getElem?_eq_getElem (by omega)⟩
      have hod := once_dec lb hx
      refine T_skip ?_
      refine hK7 _ _ ?_
      refine T_seq fun K8 hK8 => ?_
      refine T_block ?_
      refine T_seq fun K9 hK9 => ?_
      refine T_region ?_
      refine L_y (y_move rfl) rfl ?_
      refine L_y (y_idx Try.underlying22 sz3 rfl rfl (S4.rd ha) inferInstance (by omega)) rfl ?_
      refine L_y (y_ldr Try.underlying3 rfl rfl (S4.rd ha) (iL_get _ _ _ hx)) rfl ?_
      refine L_y (y_assign rfl) rfl ?_
      refine L_y (y_assign rfl) rfl ?_
      refine L_nil ?_
      refine hK9 _ _ ?_
      refine T_seq fun K10 hK10 => ?_
      refine T_region ?_
      refine L_y (y_move rfl) rfl ?_
      refine L_y (y_move rfl) rfl ?_
      refine L_y (y_lookOk (S4.get 1 rfl) Try.underlying3 Try.underlying63 Try.underlying3 zz3 rfl rfl (hwfa x (List.mem_of_getElem? hx)) him2) rfl ?_
      refine L_y (y_move rfl) rfl ?_
      refine L_y (y_extract rfl rfl) rfl ?_
      refine L_y (y_extract rfl rfl) rfl ?_
      refine L_y (y_assign rfl) rfl ?_
      refine L_y (y_assign rfl) rfl ?_
      refine L_nil ?_
      refine hK10 _ _ ?_
      refine T_seq fun K11 hK11 => ?_
      refine T_region ?_
      refine L_y (y_move rfl) rfl ?_
      refine L_y (y_move rfl) rfl ?_
      refine L_y (y_lookI (S4.get 0 rfl) Try.underlying3 Try.underlying63 Try.underlying3 zz3 rfl rfl (hwfa x (List.mem_of_getElem? hx)) him1) rfl ?_
      refine L_y (y_move rfl) rfl ?_
      refine L_y (y_eql rfl rfl) rfl ?_
      refine L_y (y_move rfl) rfl ?_
      refine L_split 34 rfl (fun h34 => ?_) (fun h34 => ?_)
      ·
        refine L_gyes rfl rfl ?_
        refine L_y (y_move rfl) rfl ?_
        refine L_y ((by first | exact y_pickT rfl rfl | exact y_pickF rfl rfl)) rfl ?_
        refine L_y (y_move rfl) rfl ?_
        refine L_splitB 37 rfl (fun h37 => ?_) (fun h37 => ?_)
        ·
          refine L_gyes rfl rfl ?_
          refine L_y (y_move rfl) rfl ?_
          refine L_gyes rfl rfl ?_
          refine L_y (y_geq rfl rfl) rfl ?_
          refine L_y ((by first | exact y_pickT rfl rfl | exact y_pickF rfl rfl)) rfl ?_
          refine L_nil ?_
          refine hK11 _ _ ?_
          refine T_cond rfl (fun h40 => ?_) (fun h40 => ?_)
          ·
            refine T_region ?_
            refine L_y (y_move rfl) rfl ?_
            refine L_y (y_move rfl) rfl ?_
            refine L_y (y_move rfl) rfl ?_
            refine L_y (y_build rfl (show _ = some #[Value.int .i64 (i : Int), Value.int .i64 ((loneV lb x).getD 0)] by kernel_rfl)) rfl ?_
            refine L_o (o_bsl [_, _] te25 zz34 S4 rfl rfl rfl rfl rfl rfl rfl rfl fun b7 w7 S7 => ?_)
            refine L_o (o_app te25 S7 2 rfl rfl rfl (by first | exact S7.row 2 rfl | exact S7.row 3 rfl) (by intro u hu; simp at hu; rcases hu with rfl | rfl <;> rfl) rfl (by omega) (by omega) fun A8 c8 w8 S8 => ?_)
            have S8d := S8.drop (rs' := [_, _, _]) (.cons_cons _ (.cons_cons _ (.cons_cons _ (.cons _ (.refl _)))))
            refine L_y (y_assign rfl) rfl ?_
            refine L_nil ?_
            refine hK8 _ _ ?_
            refine T_region ?_
            refine L_y (y_add rfl rfl (i64w (by omega))) rfl ?_
            refine L_y (y_move rfl) rfl ?_
            refine L_nil ?_
            have hcb := hod.2.1 h37 h40
            have hoh := once_hit hx (hod.1.1 h34) hcb.1
            have S90 := S8d.rowc 2 rfl (n' := (onceT la lb (i + 1)).length) (xs' := (onceT la lb (i + 1)).flatMap pf) (by rw [hoh, List.length_append]; rfl) (by rw [hoh, List.flatMap_append, hcb.2]; rfl)
            refine ⟨i + 1, _, _, by omega, ⟨by omega, S90⟩, ?_⟩
            exact (Sub.cons rfl (by first | rfl | exact congrArg (Value.int _) (by omega)) (Sub.cons rfl (by first | (rw [hoh]; done) | (rw [hoh, List.length_append]; rfl)) (Sub.cons rfl rfl (Sub.cons rfl rfl (Sub.cons rfl rfl (Sub.cons rfl rfl (Sub.nil _)))))))
          ·
            refine T_skip ?_
            refine hK8 _ _ ?_
            refine T_region ?_
            refine L_y (y_add rfl rfl (i64w (by omega))) rfl ?_
            refine L_y (y_move rfl) rfl ?_
            refine L_nil ?_
            have hoh := once_miss (b := lb) hx (by first | exact (fun h => h34 (hod.1.2 h.1)) | exact (fun h => h40 (hod.2.2 h.2).2) | exact (fun h => by rw [(hod.2.2 h.2).1] at h37; cases h37))
            have S90 := S4.rowc 2 rfl (n' := (onceT la lb (i + 1)).length) (xs' := (onceT la lb (i + 1)).flatMap pf) (by rw [hoh]) (by rw [hoh])
            refine ⟨i + 1, A1, c1, by omega, ⟨by omega, S90⟩, ?_⟩
            exact (Sub.cons rfl (by first | rfl | exact congrArg (Value.int _) (by omega)) (Sub.cons rfl (by first | (rw [hoh]; done) | (rw [hoh, List.length_append]; rfl)) (Sub.cons rfl rfl (Sub.cons rfl rfl (Sub.cons rfl rfl (Sub.cons rfl rfl (Sub.nil _)))))))
        ·
          refine L_gno rfl rfl rfl ?_
          refine L_gno rfl rfl rfl ?_
          refine L_y ((by first | exact y_pickT rfl rfl | exact y_pickF rfl rfl)) rfl ?_
          refine L_nil ?_
          refine hK11 _ _ ?_
          refine T_false rfl ?_
          refine T_skip ?_
          refine hK8 _ _ ?_
          refine T_region ?_
          refine L_y (y_add rfl rfl (i64w (by omega))) rfl ?_
          refine L_y (y_move rfl) rfl ?_
          refine L_nil ?_
          have hoh := once_miss (b := lb) hx (by first | exact (fun h => h34 (hod.1.2 h.1)) | exact (fun h => h40 (hod.2.2 h.2).2) | exact (fun h => by rw [(hod.2.2 h.2).1] at h37; cases h37))
          have S90 := S4.rowc 2 rfl (n' := (onceT la lb (i + 1)).length) (xs' := (onceT la lb (i + 1)).flatMap pf) (by rw [hoh]) (by rw [hoh])
          refine ⟨i + 1, A1, c1, by omega, ⟨by omega, S90⟩, ?_⟩
          exact (Sub.cons rfl (by first | rfl | exact congrArg (Value.int _) (by omega)) (Sub.cons rfl (by first | (rw [hoh]; done) | (rw [hoh, List.length_append]; rfl)) (Sub.cons rfl rfl (Sub.cons rfl rfl (Sub.cons rfl rfl (Sub.cons rfl rfl (Sub.nil _)))))))
      ·
        refine L_gno rfl rfl rfl ?_
        refine L_y ((by first | exact y_pickT rfl rfl | exact y_pickF rfl rfl)) rfl ?_
        refine L_y (y_move rfl) rfl ?_
        refine L_gno rfl rfl rfl ?_
        refine L_gno rfl rfl rfl ?_
        refine L_y ((by first | exact y_pickT rfl rfl | exact y_pickF rfl rfl)) rfl ?_
        refine L_nil ?_
        refine hK11 _ _ ?_
        refine T_false rfl ?_
        refine T_skip ?_
        refine hK8 _ _ ?_
        refine T_region ?_
        refine L_y (y_add rfl rfl (i64w (by omega))) rfl ?_
        refine L_y (y_move rfl) rfl ?_
        refine L_nil ?_
        have hoh := once_miss (b := lb) hx (by first | exact (fun h => h34 (hod.1.2 h.1)) | exact (fun h => h40 (hod.2.2 h.2).2) | exact (fun h => by rw [(hod.2.2 h.2).1] at h37; cases h37))
        have S90 := S4.rowc 2 rfl (n' := (onceT la lb (i + 1)).length) (xs' := (onceT la lb (i + 1)).flatMap pf) (by rw [hoh]) (by rw [hoh])
        refine ⟨i + 1, A1, c1, by omega, ⟨by omega, S90⟩, ?_⟩
        exact (Sub.cons rfl (by first | rfl | exact congrArg (Value.int _) (by omega)) (Sub.cons rfl (by first | (rw [hoh]; done) | (rw [hoh, List.length_append]; rfl)) (Sub.cons rfl rfl (Sub.cons rfl rfl (Sub.cons rfl rfl (Sub.cons rfl rfl (Sub.nil _)))))))
    ·
      refine T_exit ?_
      refine hK4 _ _ ?_
      refine T_seq fun K12 hK12 => ?_
      refine T_region ?_
      refine L_y (y_move rfl) rfl ?_
      refine L_y (y_assign rfl) rfl ?_
      refine L_nil ?_
      refine hK12 _ _ ?_
      refine T_ret ?_
      repeat (first | with_reducible refine up_then ?_ | with_reducible refine up_in ?_)
      refine ret1 rfl rfl ?_
      have hin : i = n := by omega
      subst hin
      exact ⟨_, rfl, S4.like0, _, _, _, rfl, by have h9 := S4.own 2 rfl; unfold once; rwa [hla]⟩


set_option maxRecDepth 100000 in
theorem rcount (A : Option Addr) (n ca : Nat) (la : List Int) (x : Int) (w0 : World) (ha : Rs w0 1 A n ca (iL la)) (hn9 : n ≤ 1048576) :
    Calls Try.prog 45 #[.slice A n ca, .int .i64 x] w0 fun e w' => ∃ u, e = .returned u ∧ Like w0 w' ∧ ∃ at1 : Int, u = .tuple #[.int .i64 (la.count x : Int), .int .i64 at1] ∧ (la.count x = 1 → at1 = (la.idxOf x : Int)) := by
  refine enter1 (env := [(0, .slice A n ca), (1, .int .i64 x)]) [.slice A n ca, .int .i64 x] Try.func45 rfl Try.ntmps45 rfl rfl ?_
  have hla := lenI ha; have hcap := ha.cap; have hmax := ha.max; have S0 := St.start w0 noM
  refine T_seq fun K1 hK1 => ?_
  refine T_region ?_
  refine L_y (y_assign rfl) rfl ?_
  refine L_y (y_assign rfl) rfl ?_
  refine L_nil ?_
  refine hK1 _ _ ?_
  refine T_seq fun K2 hK2 => ?_
  refine T_region ?_
  refine L_y (y_assign rfl) rfl ?_
  refine L_y (y_assign rfl) rfl ?_
  refine L_nil ?_
  refine hK2 _ _ ?_
  refine T_seq fun K3 hK3 => ?_
  refine T_seq fun K4 hK4 => ?_
  refine T_region ?_
  refine L_y (y_assign rfl) rfl ?_
  refine L_nil ?_
  refine hK4 _ _ ?_
  refine T_block ?_
  refine T_loop3 [(0, _), (1, _)] (fun (k : Nat) (at1 : Int) (c : Nat) => [(6, .int .i64 (c : Int)), (7, .int .i64 at1), (8, .int .i64 (k : Int))]) (fun (k : Nat) (at1 : Int) (c : Nat) => n - k) (fun (k : Nat) (at1 : Int) (c : Nat) (w : World) => ((k ≤ n ∧ c ≤ k) ∧ c = (la.take k).count x ∧ (0 < c → ∃ j : Nat, at1 = (j : Int) ∧ la[j]? = some x)) ∧ St w0 noM [] w) 0 (-1) 0 (Sub.cons rfl (by first | rfl | exact congrArg (Value.int _) (by omega)) (Sub.cons rfl (by first | rfl | exact congrArg (Value.int _) (by omega)) (Sub.cons rfl (by first | rfl | exact congrArg (Value.int _) (by omega)) (Sub.nil _)))) (Sub.cons rfl rfl (Sub.cons rfl rfl (Sub.nil _))) ?_ ?_
  ·
    exact ⟨⟨⟨Nat.zero_le _, Nat.le_refl _⟩, rfl, fun h => by omega⟩, S0⟩
  ·
    intro k at1 c w1 hrel
    obtain ⟨⟨⟨hk, hck⟩, hc, hj⟩, S1⟩ := hrel
    refine T_seq fun K5 hK5 => ?_
    refine T_seq fun K6 hK6 => ?_
    refine T_region ?_
    refine L_y (y_move rfl) rfl ?_
    refine L_y (y_move rfl) rfl ?_
    refine L_y (y_len Try.underlying22 rfl) rfl ?_
    refine L_y (y_lss rfl rfl) rfl ?_
    refine L_nil ?_
    refine hK6 _ _ ?_
    refine T_cond rfl (fun h12 => ?_) (fun h12 => ?_)
    ·
      obtain ⟨y, hy⟩ : ∃ y, la[k]? = some y := ⟨_, List.getElem?_eq_getElem (by omega)⟩
      refine T_skip ?_
      refine hK5 _ _ ?_
      refine T_seq fun K7 hK7 => ?_
      refine T_block ?_
      refine T_seq fun K8 hK8 => ?_
      refine T_region ?_
      refine L_y (y_move rfl) rfl ?_
      refine L_y (y_move rfl) rfl ?_
      refine L_y (y_idx Try.underlying22 sz3 rfl rfl (S1.rd ha) (Nt.mk (by omega) : Nt _ (k)) (by omega)) rfl ?_
      refine L_y (y_ldr Try.underlying3 rfl rfl (S1.rd ha) (iL_get _ _ _ hy)) rfl ?_
      refine L_y (y_move rfl) rfl ?_
      refine L_y (y_eql rfl rfl) rfl ?_
      refine L_nil ?_
      refine hK8 _ _ ?_
      refine T_cond rfl (fun h20 => ?_) (fun h20 => ?_)
      ·
        refine T_seq fun K9 hK9 => ?_
        refine T_region ?_
        refine L_y (y_move rfl) rfl ?_
        refine L_y (y_add rfl rfl (i64w (by omega))) rfl ?_
        refine L_y (y_assign rfl) rfl ?_
        refine L_nil ?_
        refine hK9 _ _ ?_
        refine T_region ?_
        refine L_y (y_move rfl) rfl ?_
        refine L_y (y_assign rfl) rfl ?_
        refine L_nil ?_
        refine hK7 _ _ ?_
        refine T_region ?_
        refine L_y (y_move rfl) rfl ?_
        refine L_y (y_add rfl rfl (i64w (by omega))) rfl ?_
        refine L_y (y_assign rfl) rfl ?_
        refine L_nil ?_
        refine ⟨k + 1, (k : Int), c + 1, by omega, ⟨⟨⟨by omega, by omega⟩, by rw [tk hy, h20, cnt_hit, hc], fun _ => ⟨k, rfl, by rw [hy, h20]⟩⟩, S1⟩, ?_⟩
        exact (Sub.cons rfl (by first | rfl | exact congrArg (Value.int _) (by omega)) (Sub.cons rfl (by first | rfl | exact congrArg (Value.int _) (by omega)) (Sub.cons rfl (by first | rfl | exact congrArg (Value.int _) (by omega)) (Sub.cons rfl rfl (Sub.cons rfl rfl (Sub.nil _))))))
      ·
        refine T_skip ?_
        refine hK7 _ _ ?_
        refine T_region ?_
        refine L_y (y_move rfl) rfl ?_
        refine L_y (y_add rfl rfl (i64w (by omega))) rfl ?_
        refine L_y (y_assign rfl) rfl ?_
        refine L_nil ?_
        refine ⟨k + 1, at1, c, by omega, ⟨⟨⟨by omega, by omega⟩, by rw [tk hy, cnt_miss _ h20, hc], hj⟩, S1⟩, ?_⟩
        exact (Sub.cons rfl (by first | rfl | exact congrArg (Value.int _) (by omega)) (Sub.cons rfl (by first | rfl | exact congrArg (Value.int _) (by omega)) (Sub.cons rfl (by first | rfl | exact congrArg (Value.int _) (by omega)) (Sub.cons rfl rfl (Sub.cons rfl rfl (Sub.nil _))))))
    ·
      refine T_exit ?_
      refine hK3 _ _ ?_
      refine T_seq fun K10 hK10 => ?_
      refine T_region ?_
      refine L_y (y_move rfl) rfl ?_
      refine L_y (y_move rfl) rfl ?_
      refine L_y (y_assign rfl) rfl ?_
      refine L_y (y_assign rfl) rfl ?_
      refine L_nil ?_
      refine hK10 _ _ ?_
      refine T_ret ?_
      repeat (first | with_reducible refine up_then ?_ | with_reducible refine up_in ?_)
      refine ret2 rfl rfl rfl ?_
      have hkn : k = n := by omega
      subst hkn
      rw [List.take_of_length_le (by omega)] at hc
      exact ⟨_, rfl, S1.like0, at1, by rw [hc], fun h1 => by obtain ⟨j, e, hj2⟩ := hj (by omega); rw [e, count_one_idx h1 hj2]⟩


set_option maxRecDepth 100000 in
theorem ronce (A B : Option Addr) (n ca m cb : Nat) (la lb : List Int) (w0 : World) (ha : Rs w0 1 A n ca (iL la)) (hb : Rs w0 1 B m cb (iL lb)) (hn9 : n ≤ 1048576) (hm9 : m ≤ 1048576) :
    Calls Try.prog 26 #[.slice A n ca, .slice B m cb] w0 fun e w' => ∃ u, e = .returned u ∧ Like w0 w' ∧ ∃ A m c, u = .slice A m c ∧ w'.ownsRow w0.heap.size 34 2 (.slice A m c) m ((once la lb).flatMap pf) := by
  refine enter1 (env := [(0, .slice A n ca), (1, .slice B m cb)]) [.slice A n ca, .slice B m cb] Try.func26 rfl Try.ntmps26 rfl rfl ?_
  have hla := lenI ha; have hlb := lenI hb; have hcap := ha.cap; have hmax := ha.max; have hcap2 := hb.cap; have hmax2 := hb.max; have S0 := St.start w0 noM
  refine T_seq fun K1 hK1 => ?_
  refine T_region ?_
  refine L_y (y_assign rfl) rfl ?_
  refine L_nil ?_
  refine hK1 _ _ ?_
  refine T_seq fun K2 hK2 => ?_
  refine T_region ?_
  have S1 := S0.nilrow 34 2
  refine L_y (y_assign rfl) rfl ?_
  refine L_nil ?_
  refine hK2 _ _ ?_
  refine T_seq fun K3 hK3 => ?_
  refine T_seq fun K4 hK4 => ?_
  refine T_region ?_
  refine L_y (y_assign rfl) rfl ?_
  refine L_nil ?_
  refine hK4 _ _ ?_
  refine T_block ?_
  refine T_loop3 [(0, _), (1, _)] (fun (i : Nat) (A1 : Option Addr) (c1 : Nat) => [(6, .int .i64 (i : Int)), (5, .slice A1 (onceT la lb i).length c1)]) (fun (i : Nat) (A1 : Option Addr) (c1 : Nat) => n - i) (fun (i : Nat) (A1 : Option Addr) (c1 : Nat) (w : World) => i ≤ n ∧ St w0 noM [row 34 2 A1 (onceT la lb i).length c1 ((onceT la lb i).flatMap pf)] w) 0 none 0 (Sub.cons rfl (by first | rfl | exact congrArg (Value.int _) (by omega)) (Sub.cons rfl (by first | rfl | exact congrArg (Value.int _) (by omega)) (Sub.nil _))) (Sub.cons rfl rfl (Sub.cons rfl rfl (Sub.nil _))) ?_ ?_
  ·
    exact ⟨Nat.zero_le _, S1⟩
  ·
    intro i A1 c1 w2 hrel
    obtain ⟨hi, S2⟩ := hrel
    have hol := once_len la lb i
    refine T_seq fun K5 hK5 => ?_
    refine T_seq fun K6 hK6 => ?_
    refine T_region ?_
    refine L_y (y_move rfl) rfl ?_
    refine L_y (y_move rfl) rfl ?_
    refine L_y (y_len Try.underlying22 rfl) rfl ?_
    refine L_y (y_lss rfl rfl) rfl ?_
    refine L_nil ?_
    refine hK6 _ _ ?_
    refine T_cond rfl (fun h14 => ?_) (fun h14 => ?_)
    ·
      obtain ⟨x, hx⟩ : ∃ x, la[i]? = some x := ⟨_, List.getElem?_eq_getElem (by omega)⟩
      refine T_skip ?_
      refine hK5 _ _ ?_
      refine T_seq fun K7 hK7 => ?_
      refine T_block ?_
      refine T_seq fun K8 hK8 => ?_
      refine T_region ?_
      refine L_y (y_move rfl) rfl ?_
      refine L_y (y_move rfl) rfl ?_
      refine L_y (y_move rfl) rfl ?_
      refine L_y (y_idx Try.underlying22 sz3 rfl rfl (S2.rd ha) (Nt.mk (by omega) : Nt _ (i)) (by omega)) rfl ?_
      refine L_y (y_ldr Try.underlying3 rfl rfl (S2.rd ha) (iL_get _ _ _ hx)) rfl ?_
      refine L_o (o_call Try.func45 rfl rfl (rcount A n ca la x w2 (S2.rd ha) hn9) rfl rfl ?_)
      rintro e3 w3 ⟨v3, rfl, l3, at1, rfl, hat1⟩
      refine ⟨_, rfl, ?_⟩
      have S3 := S2.like l3
      refine L_y (y_move rfl) rfl ?_
      refine L_y (y_extract rfl rfl) rfl ?_
      refine L_y (y_extract rfl rfl) rfl ?_
      refine L_y (y_assign rfl) rfl ?_
      refine L_y (y_assign rfl) rfl ?_
      refine L_nil ?_
      refine hK8 _ _ ?_
      refine T_seq fun K9 hK9 => ?_
      refine T_region ?_
      refine L_y (y_move rfl) rfl ?_
      refine L_y (y_move rfl) rfl ?_
      refine L_y (y_move rfl) rfl ?_
      refine L_y (y_idx Try.underlying22 sz3 rfl rfl (S3.rd ha) (Nt.mk (by omega) : Nt _ (i)) (by omega)) rfl ?_
      refine L_y (y_ldr Try.underlying3 rfl rfl (S3.rd ha) (iL_get _ _ _ hx)) rfl ?_
      refine L_o (o_call Try.func45 rfl rfl (rcount B m cb lb x w3 (S3.rd hb) hm9) rfl rfl ?_)
      rintro e4 w4 ⟨v4, rfl, l4, at2, rfl, hat2⟩
      refine ⟨_, rfl, ?_⟩
      have S4 := S3.like l4
      refine L_y (y_move rfl) rfl ?_
      refine L_y (y_extract rfl rfl) rfl ?_
      refine L_y (y_extract rfl rfl) rfl ?_
      refine L_y (y_assign rfl) rfl ?_
      refine L_y (y_assign rfl) rfl ?_
      refine L_nil ?_
      refine hK9 _ _ ?_
      refine T_seq fun K10 hK10 => ?_
      refine T_region ?_
      refine L_y (y_move rfl) rfl ?_
      refine L_y (y_eql rfl rfl) rfl ?_
      refine L_y (y_move rfl) rfl ?_
      refine L_split 37 rfl (fun h37 => ?_) (fun h37 => ?_)
      ·
        refine L_gyes rfl rfl ?_
        refine L_y (y_move rfl) rfl ?_
        refine L_gyes rfl rfl ?_
        refine L_y (y_eql rfl rfl) rfl ?_
        refine L_y ((by first | exact y_pickT rfl rfl | exact y_pickF rfl rfl)) rfl ?_
        refine L_nil ?_
        refine hK10 _ _ ?_
        refine T_cond rfl (fun h40 => ?_) (fun h40 => ?_)
        ·
          refine T_region ?_
          refine L_y (y_move rfl) rfl ?_
          refine L_y (y_move rfl) rfl ?_
          refine L_y (y_move rfl) rfl ?_
          refine L_y (y_build rfl (show _ = some #[Value.int .i64 (i : Int), Value.int .i64 at2] by kernel_rfl)) rfl ?_
          refine L_o (o_bsl [_, _] te25 zz34 S4 rfl rfl rfl rfl rfl rfl rfl rfl fun b6 w6 S6 => ?_)
          refine L_o (o_app te25 S6 0 rfl rfl rfl (by first | exact S6.row 0 rfl | exact S6.row 1 rfl) (by intro u hu; simp at hu; rcases hu with rfl | rfl <;> rfl) rfl (by omega) (by omega) fun A7 c7 w7 S7 => ?_)
          have S7d := S7.drop (rs' := [_]) (.cons_cons _ (.cons _ (.refl _)))
          refine L_y (y_assign rfl) rfl ?_
          refine L_nil ?_
          refine hK7 _ _ ?_
          refine T_region ?_
          refine L_y (y_move rfl) rfl ?_
          refine L_y (y_add rfl rfl (i64w (by omega))) rfl ?_
          refine L_y (y_assign rfl) rfl ?_
          refine L_nil ?_
          have hoh := once_hit hx (by omega) (show lb.count x = 1 by omega)
          have S90 := S7d.rowc 0 rfl (n' := (onceT la lb (i + 1)).length) (xs' := (onceT la lb (i + 1)).flatMap pf) (by rw [hoh, List.length_append]; rfl) (by rw [hoh, List.flatMap_append, hat2 (by omega)]; rfl)
          refine ⟨i + 1, _, _, by omega, ⟨by omega, S90⟩, ?_⟩
          exact (Sub.cons rfl (by first | rfl | exact congrArg (Value.int _) (by omega)) (Sub.cons rfl (by first | (rw [hoh]; done) | (rw [hoh, List.length_append]; rfl)) (Sub.cons rfl rfl (Sub.cons rfl rfl (Sub.nil _)))))
        ·
          refine T_skip ?_
          refine hK7 _ _ ?_
          refine T_region ?_
          refine L_y (y_move rfl) rfl ?_
          refine L_y (y_add rfl rfl (i64w (by omega))) rfl ?_
          refine L_y (y_assign rfl) rfl ?_
          refine L_nil ?_
          have hoh := once_miss (b := lb) hx (fun h => by omega)
          have S90 := S4.rowc 0 rfl (n' := (onceT la lb (i + 1)).length) (xs' := (onceT la lb (i + 1)).flatMap pf) (by rw [hoh]) (by rw [hoh])
          refine ⟨i + 1, A1, c1, by omega, ⟨by omega, S90⟩, ?_⟩
          exact (Sub.cons rfl (by first | rfl | exact congrArg (Value.int _) (by omega)) (Sub.cons rfl (by first | (rw [hoh]; done) | (rw [hoh, List.length_append]; rfl)) (Sub.cons rfl rfl (Sub.cons rfl rfl (Sub.nil _)))))
      ·
        refine L_gno rfl rfl rfl ?_
        refine L_gno rfl rfl rfl ?_
        refine L_y ((by first | exact y_pickT rfl rfl | exact y_pickF rfl rfl)) rfl ?_
        refine L_nil ?_
        refine hK10 _ _ ?_
        refine T_false rfl ?_
        refine T_skip ?_
        refine hK7 _ _ ?_
        refine T_region ?_
        refine L_y (y_move rfl) rfl ?_
        refine L_y (y_add rfl rfl (i64w (by omega))) rfl ?_
        refine L_y (y_assign rfl) rfl ?_
        refine L_nil ?_
        have hoh := once_miss (b := lb) hx (fun h => by omega)
        have S90 := S4.rowc 0 rfl (n' := (onceT la lb (i + 1)).length) (xs' := (onceT la lb (i + 1)).flatMap pf) (by rw [hoh]) (by rw [hoh])
        refine ⟨i + 1, A1, c1, by omega, ⟨by omega, S90⟩, ?_⟩
        exact (Sub.cons rfl (by first | rfl | exact congrArg (Value.int _) (by omega)) (Sub.cons rfl (by first | (rw [hoh]; done) | (rw [hoh, List.length_append]; rfl)) (Sub.cons rfl rfl (Sub.cons rfl rfl (Sub.nil _)))))
    ·
      refine T_exit ?_
      refine hK3 _ _ ?_
      refine T_seq fun K11 hK11 => ?_
      refine T_region ?_
      refine L_y (y_move rfl) rfl ?_
      refine L_y (y_assign rfl) rfl ?_
      refine L_nil ?_
      refine hK11 _ _ ?_
      refine T_ret ?_
      repeat (first | with_reducible refine up_then ?_ | with_reducible refine up_in ?_)
      refine ret1 rfl rfl ?_
      have hin : i = n := by omega
      subst hin
      exact ⟨_, rfl, S2.like0, _, _, _, rfl, by have h9 := S2.own 0 rfl; unfold once; rwa [hla]⟩
end Go.Proofs.Ytbbmkgpgiacdeaa

/-
  The two ends.
-/
namespace Go.Proofs.Ytbbmkgpgiacdeaa
open Go.RowKit Zk Zx
set_option linter.unusedVariables false
set_option linter.unusedSimpArgs false

set_option maxRecDepth 100000 in
theorem pends (A B : Option Addr) (n ca m cb : Nat) (la lb : List Int) (w0 : World) (ha : Rs w0 1 A n ca (iL la)) (hb : Rs w0 1 B m cb (iL lb)) :
    Calls Try.prog 52 #[.slice A n ca, .slice B m cb] w0 fun e w' => ∃ u, e = .returned u ∧ Like w0 w' ∧ u = .tuple #[.int .i64 (pre la lb : Int), .int .i64 (suf la lb : Int)] := by
  refine enter1 (env := [(0, .slice A n ca), (1, .slice B m cb)]) [.slice A n ca, .slice B m cb] Try.func52 rfl Try.ntmps52 rfl rfl ?_
  have hla := lenI ha; have hlb := lenI hb; have hcap := ha.cap; have hmax := ha.max; have hcap2 := hb.cap; have hmax2 := hb.max; have S0 := St.start w0 noM
  refine T_seq fun K1 hK1 => ?_
  refine T_region ?_
  refine L_y (y_assign rfl) rfl ?_
  refine L_y (y_assign rfl) rfl ?_
  refine L_nil ?_
  refine hK1 _ _ ?_
  refine T_seq fun K2 hK2 => ?_
  refine T_region ?_
  refine L_y (y_move rfl) rfl ?_
  refine L_y (y_len Try.underlying22 rfl) rfl ?_
  refine L_y (y_move rfl) rfl ?_
  refine L_y (y_len Try.underlying22 rfl) rfl ?_
  refine L_y (y_min rfl rfl) rfl ?_
  refine L_y (y_assign rfl) rfl ?_
  refine L_y (y_assign rfl) rfl ?_
  refine L_nil ?_
  refine hK2 _ _ ?_
  refine T_seq fun K3 hK3 => ?_
  refine T_block ?_
  refine T_loop1 [(0, _), (1, _), (7, _)] (fun (f : Nat) => [(6, .int .i64 (f : Int))]) (fun (f : Nat) => min n m - f) (fun (f : Nat) (w : World) => (f ≤ min n m ∧ ∀ k, k < f → ∃ x, la[k]? = some x ∧ lb[k]? = some x) ∧ St w0 noM [] w) 0 (Sub.cons rfl (by first | rfl | exact congrArg (Value.int _) (by omega)) (Sub.nil _)) (Sub.cons rfl rfl (Sub.cons rfl rfl (Sub.cons rfl rfl (Sub.nil _)))) ?_ ?_
  ·
    exact ⟨⟨Nat.zero_le _, fun k h => absurd h (by omega)⟩, S0⟩
  ·
    intro f w1 hrel
    obtain ⟨⟨hf, hfa⟩, S1⟩ := hrel
    refine T_seq fun K4 hK4 => ?_
    refine T_seq fun K5 hK5 => ?_
    refine T_drawnL [(0, true), (1, true), (2, true), (3, true), (4, true), (5, true), (6, true), (7, true), (8, true), (9, true), (10, true), (11, true), (12, true), (13, true)] hmix (by kernel_rfl) fun w2 l2 => ?_
    have S2 := S1.like l2
    refine DL_y rfl (y_move rfl) rfl ?_
    refine DL_y rfl (y_move rfl) rfl ?_
    refine DL_y rfl (y_lss rfl rfl) rfl ?_
    refine DL_y rfl (y_move rfl) rfl ?_
    refine DL_split 17 rfl (fun h17 => ?_) (fun h17 => ?_)
    ·
      obtain ⟨x, hx⟩ : ∃ x, la[f]? = some x := ⟨_, List.getElem?_eq_getElem (by omega)⟩
      obtain ⟨y, hy⟩ : ∃ y, lb[f]? = some y := ⟨_, List.getElem?_eq_getElem (by omega)⟩
      refine DL_gyes rfl rfl rfl (y_move rfl) rfl ?_
      refine DL_gyes rfl rfl rfl (y_move rfl) rfl ?_
      refine DL_gyes rfl rfl rfl (y_idx Try.underlying22 sz3 rfl rfl (S2.rd ha) (Nt.mk (by omega) : Nt _ (f)) (by omega)) rfl ?_
      refine DL_gyes rfl rfl rfl (y_ldr Try.underlying3 rfl rfl (S2.rd ha) (iL_get _ _ _ hx)) rfl ?_
      refine DL_gyes rfl rfl rfl (y_move rfl) rfl ?_
      refine DL_gyes rfl rfl rfl (y_move rfl) rfl ?_
      refine DL_gyes rfl rfl rfl (y_idx Try.underlying22 sz3 rfl rfl (S2.rd hb) (Nt.mk (by omega) : Nt _ (f)) (by omega)) rfl ?_
      refine DL_gyes rfl rfl rfl (y_ldr Try.underlying3 rfl rfl (S2.rd hb) (iL_get _ _ _ hy)) rfl ?_
      refine DL_gyes rfl rfl rfl (y_eql rfl rfl) rfl ?_
      refine DL_y rfl ((by first | exact y_pickT rfl rfl | exact y_pickF rfl rfl)) rfl ?_
      refine DL_nil ?_
      refine hK5 _ _ ?_
      refine T_cond rfl (fun h27 => ?_) (fun h27 => ?_)
      ·
        refine T_skip ?_
        refine hK4 _ _ ?_
        refine T_block ?_
        refine T_region ?_
        refine L_y (y_move rfl) rfl ?_
        refine L_y (y_add rfl rfl (i64w (by omega))) rfl ?_
        refine L_y (y_assign rfl) rfl ?_
        refine L_nil ?_
        refine ⟨f + 1, by omega, ⟨⟨by omega, fun k hk => by rcases Nat.lt_or_ge k f with h9 | h9; (exact hfa k h9); (have e9 : k = f := by omega); subst e9; exact ⟨x, hx, by rw [hy, h27]⟩⟩, S2⟩, ?_⟩
        exact (Sub.cons rfl (by first | rfl | exact congrArg (Value.int _) (by omega)) (Sub.cons rfl rfl (Sub.cons rfl rfl (Sub.cons rfl rfl (Sub.nil _)))))
      ·
        refine T_exit ?_
        refine hK3 _ _ ?_
        refine T_seq fun K6 hK6 => ?_
        have hpre : pre la lb = f := pre_of hfa (by first | exact .inl (by omega) | exact .inr (fun z hz1 hz2 => by rw [hx] at hz1; rw [hy] at hz2; exact h27 ((Option.some.inj hz1).trans (Option.some.inj hz2).symm)))
        refine T_region ?_
        refine L_y (y_assign rfl) rfl ?_
        refine L_nil ?_
        refine hK6 _ _ ?_
        refine T_seq fun K7 hK7 => ?_
        refine T_block ?_
        refine T_loop1 [(0, _), (1, _), (6, _), (7, _)] (fun (t : Nat) => [(8, .int .i64 (t : Int))]) (fun (t : Nat) => min n m - t) (fun (t : Nat) (w : World) => (t ≤ min n m - f ∧ ∀ k, k < t → ∃ x, la[la.length - 1 - k]? = some x ∧ lb[lb.length - 1 - k]? = some x) ∧ St w0 noM [] w) 0 (Sub.cons rfl (by first | rfl | exact congrArg (Value.int _) (by omega)) (Sub.nil _)) (Sub.cons rfl rfl (Sub.cons rfl rfl (Sub.cons rfl rfl (Sub.cons rfl rfl (Sub.nil _))))) ?_ ?_
        ·
          exact ⟨⟨Nat.zero_le _, fun k h => absurd h (by omega)⟩, S2⟩
        ·
          intro t w3 hrel
          obtain ⟨⟨ht, hta⟩, S3⟩ := hrel
          refine T_seq fun K8 hK8 => ?_
          refine T_seq fun K9 hK9 => ?_
          refine T_drawnL [(0, true), (1, true), (2, true), (3, true), (4, true), (5, true), (6, true), (7, true), (8, true), (9, true), (10, true), (11, true), (12, true), (13, true), (14, true), (15, true), (16, true), (17, true), (18, true), (19, true), (20, true), (21, true), (22, true), (23, true)] hmix (by kernel_rfl) fun w4 l4 => ?_
          have S4 := S3.like l4
          refine DL_y rfl (y_move rfl) rfl ?_
          refine DL_y rfl (y_move rfl) rfl ?_
          refine DL_y rfl (y_move rfl) rfl ?_
          refine DL_y rfl (y_sub rfl rfl (i64w (by omega))) rfl ?_
          refine DL_y rfl (y_lss rfl rfl) rfl ?_
          refine DL_y rfl (y_move rfl) rfl ?_
          refine DL_split 35 rfl (fun h35 => ?_) (fun h35 => ?_)
          ·
            obtain ⟨x2, hx2⟩ : ∃ x2, la[la.length - 1 - t]? = some x2 := ⟨_, List.getElem?_eq_getElem (by omega)⟩
            obtain ⟨y2, hy2⟩ : ∃ y2, lb[lb.length - 1 - t]? = some y2 := ⟨_, List.getElem?_eq_getElem (by omega)⟩
            refine DL_gyes rfl rfl rfl (y_move rfl) rfl ?_
            refine DL_gyes rfl rfl rfl (y_move rfl) rfl ?_
            refine DL_gyes rfl rfl rfl (y_len Try.underlying22 rfl) rfl ?_
            refine DL_gyes rfl rfl rfl (y_sub rfl rfl (i64w (by omega))) rfl ?_
            refine DL_gyes rfl rfl rfl (y_move rfl) rfl ?_
            refine DL_gyes rfl rfl rfl (y_sub rfl rfl (i64w (by omega))) rfl ?_
            refine DL_gyes rfl rfl rfl (y_idx Try.underlying22 sz3 rfl rfl (S4.rd ha) (Nt.mk (by omega) : Nt _ (la.length - 1 - t)) (by omega)) rfl ?_
            refine DL_gyes rfl rfl rfl (y_ldr Try.underlying3 rfl rfl (S4.rd ha) (iL_get _ _ _ hx2)) rfl ?_
            refine DL_gyes rfl rfl rfl (y_move rfl) rfl ?_
            refine DL_gyes rfl rfl rfl (y_move rfl) rfl ?_
            refine DL_gyes rfl rfl rfl (y_len Try.underlying22 rfl) rfl ?_
            refine DL_gyes rfl rfl rfl (y_sub rfl rfl (i64w (by omega))) rfl ?_
            refine DL_gyes rfl rfl rfl (y_move rfl) rfl ?_
            refine DL_gyes rfl rfl rfl (y_sub rfl rfl (i64w (by omega))) rfl ?_
            refine DL_gyes rfl rfl rfl (y_idx Try.underlying22 sz3 rfl rfl (S4.rd hb) (Nt.mk (by omega) : Nt _ (lb.length - 1 - t)) (by omega)) rfl ?_
            refine DL_gyes rfl rfl rfl (y_ldr Try.underlying3 rfl rfl (S4.rd hb) (iL_get _ _ _ hy2)) rfl ?_
            refine DL_gyes rfl rfl rfl (y_eql rfl rfl) rfl ?_
            refine DL_y rfl ((by first | exact y_pickT rfl rfl | exact y_pickF rfl rfl)) rfl ?_
            refine DL_nil ?_
            refine hK9 _ _ ?_
            refine T_cond rfl (fun h53 => ?_) (fun h53 => ?_)
            ·
              refine T_skip ?_
              refine hK8 _ _ ?_
              refine T_block ?_
              refine T_region ?_
              refine L_y (y_move rfl) rfl ?_
              refine L_y (y_add rfl rfl (i64w (by omega))) rfl ?_
              refine L_y (y_assign rfl) rfl ?_
              refine L_nil ?_
              refine ⟨t + 1, by omega, ⟨⟨by omega, fun k hk => by rcases Nat.lt_or_ge k t with h9 | h9; (exact hta k h9); (have e9 : k = t := by omega); subst e9; exact ⟨x2, hx2, by rw [hy2, h53]⟩⟩, S4⟩, ?_⟩
              exact (Sub.cons rfl (by first | rfl | exact congrArg (Value.int _) (by omega)) (Sub.cons rfl rfl (Sub.cons rfl rfl (Sub.cons rfl rfl (Sub.cons rfl rfl (Sub.nil _))))))
            ·
              refine T_exit ?_
              refine hK7 _ _ ?_
              refine T_seq fun K10 hK10 => ?_
              have hsuf : suf la lb = t := suf_of hpre (by omega) hta (by first | exact .inl (by omega) | exact .inr (fun z hz1 hz2 => by rw [hx2] at hz1; rw [hy2] at hz2; exact h53 ((Option.some.inj hz1).trans (Option.some.inj hz2).symm)))
              refine T_region ?_
              refine L_y (y_move rfl) rfl ?_
              refine L_y (y_move rfl) rfl ?_
              refine L_y (y_assign rfl) rfl ?_
              refine L_y (y_assign rfl) rfl ?_
              refine L_nil ?_
              refine hK10 _ _ ?_
              refine T_ret ?_
              repeat (first | with_reducible refine up_then ?_ | with_reducible refine up_in ?_)
              refine ret2 rfl rfl rfl ?_
              exact ⟨_, rfl, S4.like0, by rw [hpre, hsuf]⟩
          ·
            refine DL_gno rfl rfl rfl rfl ?_
            refine DL_gno rfl rfl rfl rfl ?_
            refine DL_gno rfl rfl rfl rfl ?_
            refine DL_gno rfl rfl rfl rfl ?_
            refine DL_gno rfl rfl rfl rfl ?_
            refine DL_gno rfl rfl rfl rfl ?_
            refine DL_gno rfl rfl rfl rfl ?_
            refine DL_gno rfl rfl rfl rfl ?_
            refine DL_gno rfl rfl rfl rfl ?_
            refine DL_gno rfl rfl rfl rfl ?_
            refine DL_gno rfl rfl rfl rfl ?_
            refine DL_gno rfl rfl rfl rfl ?_
            refine DL_gno rfl rfl rfl rfl ?_
            refine DL_gno rfl rfl rfl rfl ?_
            refine DL_gno rfl rfl rfl rfl ?_
            refine DL_gno rfl rfl rfl rfl ?_
            refine DL_gno rfl rfl rfl rfl ?_
            refine DL_y rfl ((by first | exact y_pickT rfl rfl | exact y_pickF rfl rfl)) rfl ?_
            refine DL_nil ?_
            refine hK9 _ _ ?_
            refine T_false rfl ?_
            refine T_exit ?_
            refine hK7 _ _ ?_
            refine T_seq fun K11 hK11 => ?_
            have hsuf : suf la lb = t := suf_of hpre (by omega) hta (by first | exact .inl (by omega) | exact .inr (fun z hz1 hz2 => by rw [hx2] at hz1; rw [hy2] at hz2; exact h53 ((Option.some.inj hz1).trans (Option.some.inj hz2).symm)))
            refine T_region ?_
            refine L_y (y_move rfl) rfl ?_
            refine L_y (y_move rfl) rfl ?_
            refine L_y (y_assign rfl) rfl ?_
            refine L_y (y_assign rfl) rfl ?_
            refine L_nil ?_
            refine hK11 _ _ ?_
            refine T_ret ?_
            repeat (first | with_reducible refine up_then ?_ | with_reducible refine up_in ?_)
            refine ret2 rfl rfl rfl ?_
            exact ⟨_, rfl, S4.like0, by rw [hpre, hsuf]⟩
    ·
      refine DL_gno rfl rfl rfl rfl ?_
      refine DL_gno rfl rfl rfl rfl ?_
      refine DL_gno rfl rfl rfl rfl ?_
      refine DL_gno rfl rfl rfl rfl ?_
      refine DL_gno rfl rfl rfl rfl ?_
      refine DL_gno rfl rfl rfl rfl ?_
      refine DL_gno rfl rfl rfl rfl ?_
      refine DL_gno rfl rfl rfl rfl ?_
      refine DL_gno rfl rfl rfl rfl ?_
      refine DL_y rfl ((by first | exact y_pickT rfl rfl | exact y_pickF rfl rfl)) rfl ?_
      refine DL_nil ?_
      refine hK5 _ _ ?_
      refine T_false rfl ?_
      refine T_exit ?_
      refine hK3 _ _ ?_
      refine T_seq fun K12 hK12 => ?_
      have hpre : pre la lb = f := pre_of hfa (by first | exact .inl (by omega) | exact .inr (fun z hz1 hz2 => by rw [hx] at hz1; rw [hy] at hz2; exact h27 ((Option.some.inj hz1).trans (Option.some.inj hz2).symm)))
      refine T_region ?_
      refine L_y (y_assign rfl) rfl ?_
      refine L_nil ?_
      refine hK12 _ _ ?_
      refine T_seq fun K13 hK13 => ?_
      refine T_block ?_
      refine T_loop1 [(0, _), (1, _), (6, _), (7, _)] (fun (t : Nat) => [(8, .int .i64 (t : Int))]) (fun (t : Nat) => min n m - t) (fun (t : Nat) (w : World) => (t ≤ min n m - f ∧ ∀ k, k < t → ∃ x, la[la.length - 1 - k]? = some x ∧ lb[lb.length - 1 - k]? = some x) ∧ St w0 noM [] w) 0 (Sub.cons rfl (by first | rfl | exact congrArg (Value.int _) (by omega)) (Sub.nil _)) (Sub.cons rfl rfl (Sub.cons rfl rfl (Sub.cons rfl rfl (Sub.cons rfl rfl (Sub.nil _))))) ?_ ?_
      ·
        exact ⟨⟨Nat.zero_le _, fun k h => absurd h (by omega)⟩, S2⟩
      ·
        intro t w5 hrel
        obtain ⟨⟨ht, hta⟩, S5⟩ := hrel
        refine T_seq fun K14 hK14 => ?_
        refine T_seq fun K15 hK15 => ?_
        refine T_drawnL [(0, true), (1, true), (2, true), (3, true), (4, true), (5, true), (6, true), (7, true), (8, true), (9, true), (10, true), (11, true), (12, true), (13, true), (14, true), (15, true), (16, true), (17, true), (18, true), (19, true), (20, true), (21, true), (22, true), (23, true)] hmix (by kernel_rfl) fun w6 l6 => ?_
        have S6 := S5.like l6
        refine DL_y rfl (y_move rfl) rfl ?_
        refine DL_y rfl (y_move rfl) rfl ?_
        refine DL_y rfl (y_move rfl) rfl ?_
        refine DL_y rfl (y_sub rfl rfl (i64w (by omega))) rfl ?_
        refine DL_y rfl (y_lss rfl rfl) rfl ?_
        refine DL_y rfl (y_move rfl) rfl ?_
        refine DL_split 35 rfl (fun h35 => ?_) (fun h35 => ?_)
        ·
          obtain ⟨x2, hx2⟩ : ∃ x2, la[la.length - 1 - t]? = some x2 := ⟨_, List.getElem?_eq_getElem (by omega)⟩
          obtain ⟨y2, hy2⟩ : ∃ y2, lb[lb.length - 1 - t]? = some y2 := ⟨_, List.getElem?_eq_getElem (by omega)⟩
          refine DL_gyes rfl rfl rfl (y_move rfl) rfl ?_
          refine DL_gyes rfl rfl rfl (y_move rfl) rfl ?_
          refine DL_gyes rfl rfl rfl (y_len Try.underlying22 rfl) rfl ?_
          refine DL_gyes rfl rfl rfl (y_sub rfl rfl (i64w (by omega))) rfl ?_
          refine DL_gyes rfl rfl rfl (y_move rfl) rfl ?_
          refine DL_gyes rfl rfl rfl (y_sub rfl rfl (i64w (by omega))) rfl ?_
          refine DL_gyes rfl rfl rfl (y_idx Try.underlying22 sz3 rfl rfl (S6.rd ha) (Nt.mk (by omega) : Nt _ (la.length - 1 - t)) (by omega)) rfl ?_
          refine DL_gyes rfl rfl rfl (y_ldr Try.underlying3 rfl rfl (S6.rd ha) (iL_get _ _ _ hx2)) rfl ?_
          refine DL_gyes rfl rfl rfl (y_move rfl) rfl ?_
          refine DL_gyes rfl rfl rfl (y_move rfl) rfl ?_
          refine DL_gyes rfl rfl rfl (y_len Try.underlying22 rfl) rfl ?_
          refine DL_gyes rfl rfl rfl (y_sub rfl rfl (i64w (by omega))) rfl ?_
          refine DL_gyes rfl rfl rfl (y_move rfl) rfl ?_
          refine DL_gyes rfl rfl rfl (y_sub rfl rfl (i64w (by omega))) rfl ?_
          refine DL_gyes rfl rfl rfl (y_idx Try.underlying22 sz3 rfl rfl (S6.rd hb) (Nt.mk (by omega) : Nt _ (lb.length - 1 - t)) (by omega)) rfl ?_
          refine DL_gyes rfl rfl rfl (y_ldr Try.underlying3 rfl rfl (S6.rd hb) (iL_get _ _ _ hy2)) rfl ?_
          refine DL_gyes rfl rfl rfl (y_eql rfl rfl) rfl ?_
          refine DL_y rfl ((by first | exact y_pickT rfl rfl | exact y_pickF rfl rfl)) rfl ?_
          refine DL_nil ?_
          refine hK15 _ _ ?_
          refine T_cond rfl (fun h53 => ?_) (fun h53 => ?_)
          ·
            refine T_skip ?_
            refine hK14 _ _ ?_
            refine T_block ?_
            refine T_region ?_
            refine L_y (y_move rfl) rfl ?_
            refine L_y (y_add rfl rfl (i64w (by omega))) rfl ?_
            refine L_y (y_assign rfl) rfl ?_
            refine L_nil ?_
            refine ⟨t + 1, by omega, ⟨⟨by omega, fun k hk => by rcases Nat.lt_or_ge k t with h9 | h9; (exact hta k h9); (have e9 : k = t := by omega); subst e9; exact ⟨x2, hx2, by rw [hy2, h53]⟩⟩, S6⟩, ?_⟩
            exact (Sub.cons rfl (by first | rfl | exact congrArg (Value.int _) (by omega)) (Sub.cons rfl rfl (Sub.cons rfl rfl (Sub.cons rfl rfl (Sub.cons rfl rfl (Sub.nil _))))))
          ·
            refine T_exit ?_
            refine hK13 _ _ ?_
            refine T_seq fun K16 hK16 => ?_
            have hsuf : suf la lb = t := suf_of hpre (by omega) hta (by first | exact .inl (by omega) | exact .inr (fun z hz1 hz2 => by rw [hx2] at hz1; rw [hy2] at hz2; exact h53 ((Option.some.inj hz1).trans (Option.some.inj hz2).symm)))
            refine T_region ?_
            refine L_y (y_move rfl) rfl ?_
            refine L_y (y_move rfl) rfl ?_
            refine L_y (y_assign rfl) rfl ?_
            refine L_y (y_assign rfl) rfl ?_
            refine L_nil ?_
            refine hK16 _ _ ?_
            refine T_ret ?_
            repeat (first | with_reducible refine up_then ?_ | with_reducible refine up_in ?_)
            refine ret2 rfl rfl rfl ?_
            exact ⟨_, rfl, S6.like0, by rw [hpre, hsuf]⟩
        ·
          refine DL_gno rfl rfl rfl rfl ?_
          refine DL_gno rfl rfl rfl rfl ?_
          refine DL_gno rfl rfl rfl rfl ?_
          refine DL_gno rfl rfl rfl rfl ?_
          refine DL_gno rfl rfl rfl rfl ?_
          refine DL_gno rfl rfl rfl rfl ?_
          refine DL_gno rfl rfl rfl rfl ?_
          refine DL_gno rfl rfl rfl rfl ?_
          refine DL_gno rfl rfl rfl rfl ?_
          refine DL_gno rfl rfl rfl rfl ?_
          refine DL_gno rfl rfl rfl rfl ?_
          refine DL_gno rfl rfl rfl rfl ?_
          refine DL_gno rfl rfl rfl rfl ?_
          refine DL_gno rfl rfl rfl rfl ?_
          refine DL_gno rfl rfl rfl rfl ?_
          refine DL_gno rfl rfl rfl rfl ?_
          refine DL_gno rfl rfl rfl rfl ?_
          refine DL_y rfl ((by first | exact y_pickT rfl rfl | exact y_pickF rfl rfl)) rfl ?_
          refine DL_nil ?_
          refine hK15 _ _ ?_
          refine T_false rfl ?_
          refine T_exit ?_
          refine hK13 _ _ ?_
          refine T_seq fun K17 hK17 => ?_
          have hsuf : suf la lb = t := suf_of hpre (by omega) hta (by first | exact .inl (by omega) | exact .inr (fun z hz1 hz2 => by rw [hx2] at hz1; rw [hy2] at hz2; exact h53 ((Option.some.inj hz1).trans (Option.some.inj hz2).symm)))
          refine T_region ?_
          refine L_y (y_move rfl) rfl ?_
          refine L_y (y_move rfl) rfl ?_
          refine L_y (y_assign rfl) rfl ?_
          refine L_y (y_assign rfl) rfl ?_
          refine L_nil ?_
          refine hK17 _ _ ?_
          refine T_ret ?_
          repeat (first | with_reducible refine up_then ?_ | with_reducible refine up_in ?_)
          refine ret2 rfl rfl rfl ?_
          exact ⟨_, rfl, S6.like0, by rw [hpre, hsuf]⟩


set_option maxRecDepth 100000 in
theorem rends (A B : Option Addr) (n ca m cb : Nat) (la lb : List Int) (w0 : World) (ha : Rs w0 1 A n ca (iL la)) (hb : Rs w0 1 B m cb (iL lb)) :
    Calls Try.prog 31 #[.slice A n ca, .slice B m cb] w0 fun e w' => ∃ u, e = .returned u ∧ Like w0 w' ∧ u = .tuple #[.int .i64 (pre la lb : Int), .int .i64 (suf la lb : Int)] := by
  refine enter1 (env := [(0, .slice A n ca), (1, .slice B m cb)]) [.slice A n ca, .slice B m cb] Try.func31 rfl Try.ntmps31 rfl rfl ?_
  have hla := lenI ha; have hlb := lenI hb; have hcap := ha.cap; have hmax := ha.max; have hcap2 := hb.cap; have hmax2 := hb.max; have S0 := St.start w0 noM
  refine T_seq fun K1 hK1 => ?_
  refine T_region ?_
  refine L_y (y_assign rfl) rfl ?_
  refine L_y (y_assign rfl) rfl ?_
  refine L_nil ?_
  refine hK1 _ _ ?_
  refine T_seq fun K2 hK2 => ?_
  refine T_region ?_
  refine L_y (y_assign rfl) rfl ?_
  refine L_nil ?_
  refine hK2 _ _ ?_
  refine T_seq fun K3 hK3 => ?_
  refine T_block ?_
  refine T_loop1 [(0, _), (1, _)] (fun (f : Nat) => [(6, .int .i64 (f : Int))]) (fun (f : Nat) => min n m - f) (fun (f : Nat) (w : World) => (f ≤ min n m ∧ ∀ k, k < f → ∃ x, la[k]? = some x ∧ lb[k]? = some x) ∧ St w0 noM [] w) 0 (Sub.cons rfl (by first | rfl | exact congrArg (Value.int _) (by omega)) (Sub.nil _)) (Sub.cons rfl rfl (Sub.cons rfl rfl (Sub.nil _))) ?_ ?_
  ·
    exact ⟨⟨Nat.zero_le _, fun k h => absurd h (by omega)⟩, S0⟩
  ·
    intro f w1 hrel
    obtain ⟨⟨hf, hfa⟩, S1⟩ := hrel
    refine T_seq fun K4 hK4 => ?_
    refine T_seq fun K5 hK5 => ?_
    refine T_drawnL [(0, true), (1, true), (2, true), (3, true), (4, true), (5, true), (6, true), (7, true), (8, true), (9, true), (10, true), (11, true), (12, true), (13, true), (14, true), (15, true), (16, true), (17, true), (18, true), (19, true), (20, true)] hmix (by kernel_rfl) fun w2 l2 => ?_
    have S2 := S1.like l2
    refine DL_y rfl (y_move rfl) rfl ?_
    refine DL_y rfl (y_move rfl) rfl ?_
    refine DL_y rfl (y_len Try.underlying22 rfl) rfl ?_
    refine DL_y rfl (y_lss rfl rfl) rfl ?_
    refine DL_y rfl (y_move rfl) rfl ?_
    refine DL_split 12 rfl (fun h12 => ?_) (fun h12 => ?_)
    ·
      refine DL_gyes rfl rfl rfl (y_move rfl) rfl ?_
      refine DL_gyes rfl rfl rfl (y_move rfl) rfl ?_
      refine DL_gyes rfl rfl rfl (y_len Try.underlying22 rfl) rfl ?_
      refine DL_gyes rfl rfl rfl (y_lss rfl rfl) rfl ?_
      refine DL_y rfl ((by first | exact y_pickT rfl rfl | exact y_pickF rfl rfl)) rfl ?_
      refine DL_y rfl (y_move rfl) rfl ?_
      refine DL_split 18 rfl (fun h18 => ?_) (fun h18 => ?_)
      ·
        obtain ⟨x, hx⟩ : ∃ x, la[f]? = some x := ⟨_, List.getElem?_eq_getElem (by omega)⟩
        obtain ⟨y, hy⟩ : ∃ y, lb[f]? = some y := ⟨_, List.getElem?_eq_getElem (by omega)⟩
        refine DL_gyes rfl rfl rfl (y_move rfl) rfl ?_
        refine DL_gyes rfl rfl rfl (y_move rfl) rfl ?_
        refine DL_gyes rfl rfl rfl (y_idx Try.underlying22 sz3 rfl rfl (S2.rd ha) (Nt.mk (by omega) : Nt _ (f)) (by omega)) rfl ?_
        refine DL_gyes rfl rfl rfl (y_ldr Try.underlying3 rfl rfl (S2.rd ha) (iL_get _ _ _ hx)) rfl ?_
        refine DL_gyes rfl rfl rfl (y_move rfl) rfl ?_
        refine DL_gyes rfl rfl rfl (y_move rfl) rfl ?_
        refine DL_gyes rfl rfl rfl (y_idx Try.underlying22 sz3 rfl rfl (S2.rd hb) (Nt.mk (by omega) : Nt _ (f)) (by omega)) rfl ?_
        refine DL_gyes rfl rfl rfl (y_ldr Try.underlying3 rfl rfl (S2.rd hb) (iL_get _ _ _ hy)) rfl ?_
        refine DL_gyes rfl rfl rfl (y_eql rfl rfl) rfl ?_
        refine DL_y rfl ((by first | exact y_pickT rfl rfl | exact y_pickF rfl rfl)) rfl ?_
        refine DL_nil ?_
        refine hK5 _ _ ?_
        refine T_cond rfl (fun h28 => ?_) (fun h28 => ?_)
        ·
          refine T_skip ?_
          refine hK4 _ _ ?_
          refine T_block ?_
          refine T_region ?_
          refine L_y (y_move rfl) rfl ?_
          refine L_y (y_add rfl rfl (i64w (by omega))) rfl ?_
          refine L_y (y_assign rfl) rfl ?_
          refine L_nil ?_
          refine ⟨f + 1, by omega, ⟨⟨by omega, fun k hk => by rcases Nat.lt_or_ge k f with h9 | h9; (exact hfa k h9); (have e9 : k = f := by omega); subst e9; exact ⟨x, hx, by rw [hy, h28]⟩⟩, S2⟩, ?_⟩
          exact (Sub.cons rfl (by first | rfl | exact congrArg (Value.int _) (by omega)) (Sub.cons rfl rfl (Sub.cons rfl rfl (Sub.nil _))))
        ·
          refine T_exit ?_
          refine hK3 _ _ ?_
          refine T_seq fun K6 hK6 => ?_
          have hpre : pre la lb = f := pre_of hfa (by first | exact .inl (by omega) | exact .inr (fun z hz1 hz2 => by rw [hx] at hz1; rw [hy] at hz2; exact h28 ((Option.some.inj hz1).trans (Option.some.inj hz2).symm)))
          refine T_region ?_
          refine L_y (y_assign rfl) rfl ?_
          refine L_nil ?_
          refine hK6 _ _ ?_
          refine T_seq fun K7 hK7 => ?_
          refine T_block ?_
          refine T_loop1 [(0, _), (1, _), (6, _)] (fun (t : Nat) => [(7, .int .i64 (t : Int))]) (fun (t : Nat) => min n m - t) (fun (t : Nat) (w : World) => (t ≤ min n m - f ∧ ∀ k, k < t → ∃ x, la[la.length - 1 - k]? = some x ∧ lb[lb.length - 1 - k]? = some x) ∧ St w0 noM [] w) 0 (Sub.cons rfl (by first | rfl | exact congrArg (Value.int _) (by omega)) (Sub.nil _)) (Sub.cons rfl rfl (Sub.cons rfl rfl (Sub.cons rfl rfl (Sub.nil _)))) ?_ ?_
          ·
            exact ⟨⟨Nat.zero_le _, fun k h => absurd h (by omega)⟩, S2⟩
          ·
            intro t w3 hrel
            obtain ⟨⟨ht, hta⟩, S3⟩ := hrel
            refine T_seq fun K8 hK8 => ?_
            refine T_seq fun K9 hK9 => ?_
            refine T_drawnL [(0, true), (1, true), (2, true), (3, true), (4, true), (5, true), (6, true), (7, true), (8, true), (9, true), (10, true), (11, true), (12, true), (13, true), (14, true), (15, true), (16, true), (17, true), (18, true), (19, true), (20, true), (21, true), (22, true), (23, true), (24, true), (25, true), (26, true), (27, true), (28, true), (29, true), (30, true), (31, true), (32, true)] hmix (by kernel_rfl) fun w4 l4 => ?_
            have S4 := S3.like l4
            refine DL_y rfl (y_move rfl) rfl ?_
            refine DL_y rfl (y_move rfl) rfl ?_
            refine DL_y rfl (y_len Try.underlying22 rfl) rfl ?_
            refine DL_y rfl (y_move rfl) rfl ?_
            refine DL_y rfl (y_sub rfl rfl (i64w (by omega))) rfl ?_
            refine DL_y rfl (y_lss rfl rfl) rfl ?_
            refine DL_y rfl (y_move rfl) rfl ?_
            refine DL_split 37 rfl (fun h37 => ?_) (fun h37 => ?_)
            ·
              refine DL_gyes rfl rfl rfl (y_move rfl) rfl ?_
              refine DL_gyes rfl rfl rfl (y_move rfl) rfl ?_
              refine DL_gyes rfl rfl rfl (y_len Try.underlying22 rfl) rfl ?_
              refine DL_gyes rfl rfl rfl (y_move rfl) rfl ?_
              refine DL_gyes rfl rfl rfl (y_sub rfl rfl (i64w (by omega))) rfl ?_
              refine DL_gyes rfl rfl rfl (y_lss rfl rfl) rfl ?_
              refine DL_y rfl ((by first | exact y_pickT rfl rfl | exact y_pickF rfl rfl)) rfl ?_
              refine DL_y rfl (y_move rfl) rfl ?_
              refine DL_split 45 rfl (fun h45 => ?_) (fun h45 => ?_)
              ·
                obtain ⟨x2, hx2⟩ : ∃ x2, la[la.length - 1 - t]? = some x2 := ⟨_, List.getElem?_eq_getElem (by omega)⟩
                obtain ⟨y2, hy2⟩ : ∃ y2, lb[lb.length - 1 - t]? = some y2 := ⟨_, List.getElem?_eq_getElem (by omega)⟩
                refine DL_gyes rfl rfl rfl (y_move rfl) rfl ?_
                refine DL_gyes rfl rfl rfl (y_move rfl) rfl ?_
                refine DL_gyes rfl rfl rfl (y_len Try.underlying22 rfl) rfl ?_
                refine DL_gyes rfl rfl rfl (y_sub rfl rfl (i64w (by omega))) rfl ?_
                refine DL_gyes rfl rfl rfl (y_move rfl) rfl ?_
                refine DL_gyes rfl rfl rfl (y_sub rfl rfl (i64w (by omega))) rfl ?_
                refine DL_gyes rfl rfl rfl (y_idx Try.underlying22 sz3 rfl rfl (S4.rd ha) (Nt.mk (by omega) : Nt _ (la.length - 1 - t)) (by omega)) rfl ?_
                refine DL_gyes rfl rfl rfl (y_ldr Try.underlying3 rfl rfl (S4.rd ha) (iL_get _ _ _ hx2)) rfl ?_
                refine DL_gyes rfl rfl rfl (y_move rfl) rfl ?_
                refine DL_gyes rfl rfl rfl (y_move rfl) rfl ?_
                refine DL_gyes rfl rfl rfl (y_len Try.underlying22 rfl) rfl ?_
                refine DL_gyes rfl rfl rfl (y_sub rfl rfl (i64w (by omega))) rfl ?_
                refine DL_gyes rfl rfl rfl (y_move rfl) rfl ?_
                refine DL_gyes rfl rfl rfl (y_sub rfl rfl (i64w (by omega))) rfl ?_
                refine DL_gyes rfl rfl rfl (y_idx Try.underlying22 sz3 rfl rfl (S4.rd hb) (Nt.mk (by omega) : Nt _ (lb.length - 1 - t)) (by omega)) rfl ?_
                refine DL_gyes rfl rfl rfl (y_ldr Try.underlying3 rfl rfl (S4.rd hb) (iL_get _ _ _ hy2)) rfl ?_
                refine DL_gyes rfl rfl rfl (y_eql rfl rfl) rfl ?_
                refine DL_y rfl ((by first | exact y_pickT rfl rfl | exact y_pickF rfl rfl)) rfl ?_
                refine DL_nil ?_
                refine hK9 _ _ ?_
                refine T_cond rfl (fun h63 => ?_) (fun h63 => ?_)
                ·
                  refine T_skip ?_
                  refine hK8 _ _ ?_
                  refine T_block ?_
                  refine T_region ?_
                  refine L_y (y_move rfl) rfl ?_
                  refine L_y (y_add rfl rfl (i64w (by omega))) rfl ?_
                  refine L_y (y_assign rfl) rfl ?_
                  refine L_nil ?_
                  refine ⟨t + 1, by omega, ⟨⟨by omega, fun k hk => by rcases Nat.lt_or_ge k t with h9 | h9; (exact hta k h9); (have e9 : k = t := by omega); subst e9; exact ⟨x2, hx2, by rw [hy2, h63]⟩⟩, S4⟩, ?_⟩
                  exact (Sub.cons rfl (by first | rfl | exact congrArg (Value.int _) (by omega)) (Sub.cons rfl rfl (Sub.cons rfl rfl (Sub.cons rfl rfl (Sub.nil _)))))
                ·
                  refine T_exit ?_
                  refine hK7 _ _ ?_
                  refine T_seq fun K10 hK10 => ?_
                  have hsuf : suf la lb = t := suf_of hpre (by omega) hta (by first | exact .inl (by omega) | exact .inr (fun z hz1 hz2 => by rw [hx2] at hz1; rw [hy2] at hz2; exact h63 ((Option.some.inj hz1).trans (Option.some.inj hz2).symm)))
                  refine T_region ?_
                  refine L_y (y_move rfl) rfl ?_
                  refine L_y (y_move rfl) rfl ?_
                  refine L_y (y_assign rfl) rfl ?_
                  refine L_y (y_assign rfl) rfl ?_
                  refine L_nil ?_
                  refine hK10 _ _ ?_
                  refine T_ret ?_
                  repeat (first | with_reducible refine up_then ?_ | with_reducible refine up_in ?_)
                  refine ret2 rfl rfl rfl ?_
                  exact ⟨_, rfl, S4.like0, by rw [hpre, hsuf]⟩
              ·
                refine DL_gno rfl rfl rfl rfl ?_
                refine DL_gno rfl rfl rfl rfl ?_
                refine DL_gno rfl rfl rfl rfl ?_
                refine DL_gno rfl rfl rfl rfl ?_
                refine DL_gno rfl rfl rfl rfl ?_
                refine DL_gno rfl rfl rfl rfl ?_
                refine DL_gno rfl rfl rfl rfl ?_
                refine DL_gno rfl rfl rfl rfl ?_
                refine DL_gno rfl rfl rfl rfl ?_
                refine DL_gno rfl rfl rfl rfl ?_
                refine DL_gno rfl rfl rfl rfl ?_
                refine DL_gno rfl rfl rfl rfl ?_
                refine DL_gno rfl rfl rfl rfl ?_
                refine DL_gno rfl rfl rfl rfl ?_
                refine DL_gno rfl rfl rfl rfl ?_
                refine DL_gno rfl rfl rfl rfl ?_
                refine DL_gno rfl rfl rfl rfl ?_
                refine DL_y rfl ((by first | exact y_pickT rfl rfl | exact y_pickF rfl rfl)) rfl ?_
                refine DL_nil ?_
                refine hK9 _ _ ?_
                refine T_false rfl ?_
                refine T_exit ?_
                refine hK7 _ _ ?_
                refine T_seq fun K11 hK11 => ?_
                have hsuf : suf la lb = t := suf_of hpre (by omega) hta (by first | exact .inl (by omega) | exact .inr (fun z hz1 hz2 => by rw [hx2] at hz1; rw [hy2] at hz2; exact h63 ((Option.some.inj hz1).trans (Option.some.inj hz2).symm)))
                refine T_region ?_
                refine L_y (y_move rfl) rfl ?_
                refine L_y (y_move rfl) rfl ?_
                refine L_y (y_assign rfl) rfl ?_
                refine L_y (y_assign rfl) rfl ?_
                refine L_nil ?_
                refine hK11 _ _ ?_
                refine T_ret ?_
                repeat (first | with_reducible refine up_then ?_ | with_reducible refine up_in ?_)
                refine ret2 rfl rfl rfl ?_
                exact ⟨_, rfl, S4.like0, by rw [hpre, hsuf]⟩
            ·
              refine DL_gno rfl rfl rfl rfl ?_
              refine DL_gno rfl rfl rfl rfl ?_
              refine DL_gno rfl rfl rfl rfl ?_
              refine DL_gno rfl rfl rfl rfl ?_
              refine DL_gno rfl rfl rfl rfl ?_
              refine DL_gno rfl rfl rfl rfl ?_
              refine DL_y rfl ((by first | exact y_pickT rfl rfl | exact y_pickF rfl rfl)) rfl ?_
              refine DL_y rfl (y_move rfl) rfl ?_
              refine DL_gno rfl rfl rfl rfl ?_
              refine DL_gno rfl rfl rfl rfl ?_
              refine DL_gno rfl rfl rfl rfl ?_
              refine DL_gno rfl rfl rfl rfl ?_
              refine DL_gno rfl rfl rfl rfl ?_
              refine DL_gno rfl rfl rfl rfl ?_
              refine DL_gno rfl rfl rfl rfl ?_
              refine DL_gno rfl rfl rfl rfl ?_
              refine DL_gno rfl rfl rfl rfl ?_
              refine DL_gno rfl rfl rfl rfl ?_
              refine DL_gno rfl rfl rfl rfl ?_
              refine DL_gno rfl rfl rfl rfl ?_
              refine DL_gno rfl rfl rfl rfl ?_
              refine DL_gno rfl rfl rfl rfl ?_
              refine DL_gno rfl rfl rfl rfl ?_
              refine DL_gno rfl rfl rfl rfl ?_
              refine DL_gno rfl rfl rfl rfl ?_
              refine DL_y rfl ((by first | exact y_pickT rfl rfl | exact y_pickF rfl rfl)) rfl ?_
              refine DL_nil ?_
              refine hK9 _ _ ?_
              refine T_false rfl ?_
              refine T_exit ?_
              refine hK7 _ _ ?_
              refine T_seq fun K12 hK12 => ?_
              have hsuf : suf la lb = t := suf_of hpre (by omega) hta (by first | exact .inl (by omega) | exact .inr (fun z hz1 hz2 => by rw [hx2] at hz1; rw [hy2] at hz2; exact h63 ((Option.some.inj hz1).trans (Option.some.inj hz2).symm)))
              refine T_region ?_
              refine L_y (y_move rfl) rfl ?_
              refine L_y (y_move rfl) rfl ?_
              refine L_y (y_assign rfl) rfl ?_
              refine L_y (y_assign rfl) rfl ?_
              refine L_nil ?_
              refine hK12 _ _ ?_
              refine T_ret ?_
              repeat (first | with_reducible refine up_then ?_ | with_reducible refine up_in ?_)
              refine ret2 rfl rfl rfl ?_
              exact ⟨_, rfl, S4.like0, by rw [hpre, hsuf]⟩
      ·
        refine DL_gno rfl rfl rfl rfl ?_
        refine DL_gno rfl rfl rfl rfl ?_
        refine DL_gno rfl rfl rfl rfl ?_
        refine DL_gno rfl rfl rfl rfl ?_
        refine DL_gno rfl rfl rfl rfl ?_
        refine DL_gno rfl rfl rfl rfl ?_
        refine DL_gno rfl rfl rfl rfl ?_
        refine DL_gno rfl rfl rfl rfl ?_
        refine DL_gno rfl rfl rfl rfl ?_
        refine DL_y rfl ((by first | exact y_pickT rfl rfl | exact y_pickF rfl rfl)) rfl ?_
        refine DL_nil ?_
        refine hK5 _ _ ?_
        refine T_false rfl ?_
        refine T_exit ?_
        refine hK3 _ _ ?_
        refine T_seq fun K13 hK13 => ?_
        have hpre : pre la lb = f := pre_of hfa (by first | exact .inl (by omega) | exact .inr (fun z hz1 hz2 => by rw [hx] at hz1; rw [hy] at hz2; exact h28 ((Option.some.inj hz1).trans (Option.some.inj hz2).symm)))
        refine T_region ?_
        refine L_y (y_assign rfl) rfl ?_
        refine L_nil ?_
        refine hK13 _ _ ?_
        refine T_seq fun K14 hK14 => ?_
        refine T_block ?_
        refine T_loop1 [(0, _), (1, _), (6, _)] (fun (t : Nat) => [(7, .int .i64 (t : Int))]) (fun (t : Nat) => min n m - t) (fun (t : Nat) (w : World) => (t ≤ min n m - f ∧ ∀ k, k < t → ∃ x, la[la.length - 1 - k]? = some x ∧ lb[lb.length - 1 - k]? = some x) ∧ St w0 noM [] w) 0 (Sub.cons rfl (by first | rfl | exact congrArg (Value.int _) (by omega)) (Sub.nil _)) (Sub.cons rfl rfl (Sub.cons rfl rfl (Sub.cons rfl rfl (Sub.nil _)))) ?_ ?_
        ·
          exact ⟨⟨Nat.zero_le _, fun k h => absurd h (by omega)⟩, S2⟩
        ·
          intro t w5 hrel
          obtain ⟨⟨ht, hta⟩, S5⟩ := hrel
          refine T_seq fun K15 hK15 => ?_
          refine T_seq fun K16 hK16 => ?_
          refine T_drawnL [(0, true), (1, true), (2, true), (3, true), (4, true), (5, true), (6, true), (7, true), (8, true), (9, true), (10, true), (11, true), (12, true), (13, true), (14, true), (15, true), (16, true), (17, true), (18, true), (19, true), (20, true), (21, true), (22, true), (23, true), (24, true), (25, true), (26, true), (27, true), (28, true), (29, true), (30, true), (31, true), (32, true)] hmix (by kernel_rfl) fun w6 l6 => ?_
          have S6 := S5.like l6
          refine DL_y rfl (y_move rfl) rfl ?_
          refine DL_y rfl (y_move rfl) rfl ?_
          refine DL_y rfl (y_len Try.underlying22 rfl) rfl ?_
          refine DL_y rfl (y_move rfl) rfl ?_
          refine DL_y rfl (y_sub rfl rfl (i64w (by omega))) rfl ?_
          refine DL_y rfl (y_lss rfl rfl) rfl ?_
          refine DL_y rfl (y_move rfl) rfl ?_
          refine DL_split 37 rfl (fun h37 => ?_) (fun h37 => ?_)
          ·
            refine DL_gyes rfl rfl rfl (y_move rfl) rfl ?_
            refine DL_gyes rfl rfl rfl (y_move rfl) rfl ?_
            refine DL_gyes rfl rfl rfl (y_len Try.underlying22 rfl) rfl ?_
            refine DL_gyes rfl rfl rfl (y_move rfl) rfl ?_
            refine DL_gyes rfl rfl rfl (y_sub rfl rfl (i64w (by omega))) rfl ?_
            refine DL_gyes rfl rfl rfl (y_lss rfl rfl) rfl ?_
            refine DL_y rfl ((by first | exact y_pickT rfl rfl | exact y_pickF rfl rfl)) rfl ?_
            refine DL_y rfl (y_move rfl) rfl ?_
            refine DL_split 45 rfl (fun h45 => ?_) (fun h45 => ?_)
            ·
              obtain ⟨x2, hx2⟩ : ∃ x2, la[la.length - 1 - t]? = some x2 := ⟨_, List.getElem?_eq_getElem (by omega)⟩
              obtain ⟨y2, hy2⟩ : ∃ y2, lb[lb.length - 1 - t]? = some y2 := ⟨_, List.getElem?_eq_getElem (by omega)⟩
              refine DL_gyes rfl rfl rfl (y_move rfl) rfl ?_
              refine DL_gyes rfl rfl rfl (y_move rfl) rfl ?_
              refine DL_gyes rfl rfl rfl (y_len Try.underlying22 rfl) rfl ?_
              refine DL_gyes rfl rfl rfl (y_sub rfl rfl (i64w (by omega))) rfl ?_
              refine DL_gyes rfl rfl rfl (y_move rfl) rfl ?_
              refine DL_gyes rfl rfl rfl (y_sub rfl rfl (i64w (by omega))) rfl ?_
              refine DL_gyes rfl rfl rfl (y_idx Try.underlying22 sz3 rfl rfl (S6.rd ha) (Nt.mk (by omega) : Nt _ (la.length - 1 - t)) (by omega)) rfl ?_
              refine DL_gyes rfl rfl rfl (y_ldr Try.underlying3 rfl rfl (S6.rd ha) (iL_get _ _ _ hx2)) rfl ?_
              refine DL_gyes rfl rfl rfl (y_move rfl) rfl ?_
              refine DL_gyes rfl rfl rfl (y_move rfl) rfl ?_
              refine DL_gyes rfl rfl rfl (y_len Try.underlying22 rfl) rfl ?_
              refine DL_gyes rfl rfl rfl (y_sub rfl rfl (i64w (by omega))) rfl ?_
              refine DL_gyes rfl rfl rfl (y_move rfl) rfl ?_
              refine DL_gyes rfl rfl rfl (y_sub rfl rfl (i64w (by omega))) rfl ?_
              refine DL_gyes rfl rfl rfl (y_idx Try.underlying22 sz3 rfl rfl (S6.rd hb) (Nt.mk (by omega) : Nt _ (lb.length - 1 - t)) (by omega)) rfl ?_
              refine DL_gyes rfl rfl rfl (y_ldr Try.underlying3 rfl rfl (S6.rd hb) (iL_get _ _ _ hy2)) rfl ?_
              refine DL_gyes rfl rfl rfl (y_eql rfl rfl) rfl ?_
              refine DL_y rfl ((by first | exact y_pickT rfl rfl | exact y_pickF rfl rfl)) rfl ?_
              refine DL_nil ?_
              refine hK16 _ _ ?_
              refine T_cond rfl (fun h63 => ?_) (fun h63 => ?_)
              ·
                refine T_skip ?_
                refine hK15 _ _ ?_
                refine T_block ?_
                refine T_region ?_
                refine L_y (y_move rfl) rfl ?_
                refine L_y (y_add rfl rfl (i64w (by omega))) rfl ?_
                refine L_y (y_assign rfl) rfl ?_
                refine L_nil ?_
                refine ⟨t + 1, by omega, ⟨⟨by omega, fun k hk => by rcases Nat.lt_or_ge k t with h9 | h9; (exact hta k h9); (have e9 : k = t := by omega); subst e9; exact ⟨x2, hx2, by rw [hy2, h63]⟩⟩, S6⟩, ?_⟩
                exact (Sub.cons rfl (by first | rfl | exact congrArg (Value.int _) (by omega)) (Sub.cons rfl rfl (Sub.cons rfl rfl (Sub.cons rfl rfl (Sub.nil _)))))
              ·
                refine T_exit ?_
                refine hK14 _ _ ?_
                refine T_seq fun K17 hK17 => ?_
                have hsuf : suf la lb = t := suf_of hpre (by omega) hta (by first | exact .inl (by omega) | exact .inr (fun z hz1 hz2 => by rw [hx2] at hz1; rw [hy2] at hz2; exact h63 ((Option.some.inj hz1).trans (Option.some.inj hz2).symm)))
                refine T_region ?_
                refine L_y (y_move rfl) rfl ?_
                refine L_y (y_move rfl) rfl ?_
                refine L_y (y_assign rfl) rfl ?_
                refine L_y (y_assign rfl) rfl ?_
                refine L_nil ?_
                refine hK17 _ _ ?_
                refine T_ret ?_
                repeat (first | with_reducible refine up_then ?_ | with_reducible refine up_in ?_)
                refine ret2 rfl rfl rfl ?_
                exact ⟨_, rfl, S6.like0, by rw [hpre, hsuf]⟩
            ·
              refine DL_gno rfl rfl rfl rfl ?_
              refine DL_gno rfl rfl rfl rfl ?_
              refine DL_gno rfl rfl rfl rfl ?_
              refine DL_gno rfl rfl rfl rfl ?_
              refine DL_gno rfl rfl rfl rfl ?_
              refine DL_gno rfl rfl rfl rfl ?_
              refine DL_gno rfl rfl rfl rfl ?_
              refine DL_gno rfl rfl rfl rfl ?_
              refine DL_gno rfl rfl rfl rfl ?_
              refine DL_gno rfl rfl rfl rfl ?_
              refine DL_gno rfl rfl rfl rfl ?_
              refine DL_gno rfl rfl rfl rfl ?_
              refine DL_gno rfl rfl rfl rfl ?_
              refine DL_gno rfl rfl rfl rfl ?_
              refine DL_gno rfl rfl rfl rfl ?_
              refine DL_gno rfl rfl rfl rfl ?_
              refine DL_gno rfl rfl rfl rfl ?_
              refine DL_y rfl ((by first | exact y_pickT rfl rfl | exact y_pickF rfl rfl)) rfl ?_
              refine DL_nil ?_
              refine hK16 _ _ ?_
              refine T_false rfl ?_
              refine T_exit ?_
              refine hK14 _ _ ?_
              refine T_seq fun K18 hK18 => ?_
              have hsuf : suf la lb = t := suf_of hpre (by omega) hta (by first | exact .inl (by omega) | exact .inr (fun z hz1 hz2 => by rw [hx2] at hz1; rw [hy2] at hz2; exact h63 ((Option.some.inj hz1).trans (Option.some.inj hz2).symm)))
              refine T_region ?_
              refine L_y (y_move rfl) rfl ?_
              refine L_y (y_move rfl) rfl ?_
              refine L_y (y_assign rfl) rfl ?_
              refine L_y (y_assign rfl) rfl ?_
              refine L_nil ?_
              refine hK18 _ _ ?_
              refine T_ret ?_
              repeat (first | with_reducible refine up_then ?_ | with_reducible refine up_in ?_)
              refine ret2 rfl rfl rfl ?_
              exact ⟨_, rfl, S6.like0, by rw [hpre, hsuf]⟩
          ·
            refine DL_gno rfl rfl rfl rfl ?_
            refine DL_gno rfl rfl rfl rfl ?_
            refine DL_gno rfl rfl rfl rfl ?_
            refine DL_gno rfl rfl rfl rfl ?_
            refine DL_gno rfl rfl rfl rfl ?_
            refine DL_gno rfl rfl rfl rfl ?_
            refine DL_y rfl ((by first | exact y_pickT rfl rfl | exact y_pickF rfl rfl)) rfl ?_
            refine DL_y rfl (y_move rfl) rfl ?_
            refine DL_gno rfl rfl rfl rfl ?_
            refine DL_gno rfl rfl rfl rfl ?_
            refine DL_gno rfl rfl rfl rfl ?_
            refine DL_gno rfl rfl rfl rfl ?_
            refine DL_gno rfl rfl rfl rfl ?_
            refine DL_gno rfl rfl rfl rfl ?_
            refine DL_gno rfl rfl rfl rfl ?_
            refine DL_gno rfl rfl rfl rfl ?_
            refine DL_gno rfl rfl rfl rfl ?_
            refine DL_gno rfl rfl rfl rfl ?_
            refine DL_gno rfl rfl rfl rfl ?_
            refine DL_gno rfl rfl rfl rfl ?_
            refine DL_gno rfl rfl rfl rfl ?_
            refine DL_gno rfl rfl rfl rfl ?_
            refine DL_gno rfl rfl rfl rfl ?_
            refine DL_gno rfl rfl rfl rfl ?_
            refine DL_gno rfl rfl rfl rfl ?_
            refine DL_y rfl ((by first | exact y_pickT rfl rfl | exact y_pickF rfl rfl)) rfl ?_
            refine DL_nil ?_
            refine hK16 _ _ ?_
            refine T_false rfl ?_
            refine T_exit ?_
            refine hK14 _ _ ?_
            refine T_seq fun K19 hK19 => ?_
            have hsuf : suf la lb = t := suf_of hpre (by omega) hta (by first | exact .inl (by omega) | exact .inr (fun z hz1 hz2 => by rw [hx2] at hz1; rw [hy2] at hz2; exact h63 ((Option.some.inj hz1).trans (Option.some.inj hz2).symm)))
            refine T_region ?_
            refine L_y (y_move rfl) rfl ?_
            refine L_y (y_move rfl) rfl ?_
            refine L_y (y_assign rfl) rfl ?_
            refine L_y (y_assign rfl) rfl ?_
            refine L_nil ?_
            refine hK19 _ _ ?_
            refine T_ret ?_
            repeat (first | with_reducible refine up_then ?_ | with_reducible refine up_in ?_)
            refine ret2 rfl rfl rfl ?_
            exact ⟨_, rfl, S6.like0, by rw [hpre, hsuf]⟩
    ·
      refine DL_gno rfl rfl rfl rfl ?_
      refine DL_gno rfl rfl rfl rfl ?_
      refine DL_gno rfl rfl rfl rfl ?_
      refine DL_gno rfl rfl rfl rfl ?_
      refine DL_y rfl ((by first | exact y_pickT rfl rfl | exact y_pickF rfl rfl)) rfl ?_
      refine DL_y rfl (y_move rfl) rfl ?_
      refine DL_gno rfl rfl rfl rfl ?_
      refine DL_gno rfl rfl rfl rfl ?_
      refine DL_gno rfl rfl rfl rfl ?_
      refine DL_gno rfl rfl rfl rfl ?_
      refine DL_gno rfl rfl rfl rfl ?_
      refine DL_gno rfl rfl rfl rfl ?_
      refine DL_gno rfl rfl rfl rfl ?_
      refine DL_gno rfl rfl rfl rfl ?_
      refine DL_gno rfl rfl rfl rfl ?_
      refine DL_y rfl ((by first | exact y_pickT rfl rfl | exact y_pickF rfl rfl)) rfl ?_
      refine DL_nil ?_
      refine hK5 _ _ ?_
      refine T_false rfl ?_
      refine T_exit ?_
      refine hK3 _ _ ?_
      refine T_seq fun K20 hK20 => ?_
      have hpre : pre la lb = f := pre_of hfa (by first | exact .inl (by omega) | exact .inr (fun z hz1 hz2 => by rw [hx] at hz1; rw [hy] at hz2; exact h28 ((Option.some.inj hz1).trans (Option.some.inj hz2).symm)))
      refine T_region ?_
      refine L_y (y_assign rfl) rfl ?_
      refine L_nil ?_
      refine hK20 _ _ ?_
      refine T_seq fun K21 hK21 => ?_
      refine T_block ?_
      refine T_loop1 [(0, _), (1, _), (6, _)] (fun (t : Nat) => [(7, .int .i64 (t : Int))]) (fun (t : Nat) => min n m - t) (fun (t : Nat) (w : World) => (t ≤ min n m - f ∧ ∀ k, k < t → ∃ x, la[la.length - 1 - k]? = some x ∧ lb[lb.length - 1 - k]? = some x) ∧ St w0 noM [] w) 0 (Sub.cons rfl (by first | rfl | exact congrArg (Value.int _) (by omega)) (Sub.nil _)) (Sub.cons rfl rfl (Sub.cons rfl rfl (Sub.cons rfl rfl (Sub.nil _)))) ?_ ?_
      ·
        exact ⟨⟨Nat.zero_le _, fun k h => absurd h (by omega)⟩, S2⟩
      ·
        intro t w7 hrel
        obtain ⟨⟨ht, hta⟩, S7⟩ := hrel
        refine T_seq fun K22 hK22 => ?_
        refine T_seq fun K23 hK23 => ?_
        refine T_drawnL [(0, true), (1, true), (2, true), (3, true), (4, true), (5, true), (6, true), (7, true), (8, true), (9, true), (10, true), (11, true), (12, true), (13, true), (14, true), (15, true), (16, true), (17, true), (18, true), (19, true), (20, true), (21, true), (22, true), (23, true), (24, true), (25, true), (26, true), (27, true), (28, true), (29, true), (30, true), (31, true), (32, true)] hmix (by kernel_rfl) fun w8 l8 => ?_
        have S8 := S7.like l8
        refine DL_y rfl (y_move rfl) rfl ?_
        refine DL_y rfl (y_move rfl) rfl ?_
        refine DL_y rfl (y_len Try.underlying22 rfl) rfl ?_
        refine DL_y rfl (y_move rfl) rfl ?_
        refine DL_y rfl (y_sub rfl rfl (i64w (by omega))) rfl ?_
        refine DL_y rfl (y_lss rfl rfl) rfl ?_
        refine DL_y rfl (y_move rfl) rfl ?_
        refine DL_split 37 rfl (fun h37 => ?_) (fun h37 => ?_)
        ·
          refine DL_gyes rfl rfl rfl (y_move rfl) rfl ?_
          refine DL_gyes rfl rfl rfl (y_move rfl) rfl ?_
          refine DL_gyes rfl rfl rfl (y_len Try.underlying22 rfl) rfl ?_
          refine DL_gyes rfl rfl rfl (y_move rfl) rfl ?_
          refine DL_gyes rfl rfl rfl (y_sub rfl rfl (i64w (by omega))) rfl ?_
          refine DL_gyes rfl rfl rfl (y_lss rfl rfl) rfl ?_
          refine DL_y rfl ((by first | exact y_pickT rfl rfl | exact y_pickF rfl rfl)) rfl ?_
          refine DL_y rfl (y_move rfl) rfl ?_
          refine DL_split 45 rfl (fun h45 => ?_) (fun h45 => ?_)
          ·
            obtain ⟨x2, hx2⟩ : ∃ x2, la[la.length - 1 - t]? = some x2 := ⟨_, List.getElem?_eq_getElem (by omega)⟩
            obtain ⟨y2, hy2⟩ : ∃ y2, lb[lb.length - 1 - t]? = some y2 := ⟨_, List.getElem?_eq_getElem (by omega)⟩
            refine DL_gyes rfl rfl rfl (y_move rfl) rfl ?_
            refine DL_gyes rfl rfl rfl (y_move rfl) rfl ?_
            refine DL_gyes rfl rfl rfl (y_len Try.underlying22 rfl) rfl ?_
            refine DL_gyes rfl rfl rfl (y_sub rfl rfl (i64w (by omega))) rfl ?_
            refine DL_gyes rfl rfl rfl (y_move rfl) rfl ?_
            refine DL_gyes rfl rfl rfl (y_sub rfl rfl (i64w (by omega))) rfl ?_
            refine DL_gyes rfl rfl rfl (y_idx Try.underlying22 sz3 rfl rfl (S8.rd ha) (Nt.mk (by omega) : Nt _ (la.length - 1 - t)) (by omega)) rfl ?_
            refine DL_gyes rfl rfl rfl (y_ldr Try.underlying3 rfl rfl (S8.rd ha) (iL_get _ _ _ hx2)) rfl ?_
            refine DL_gyes rfl rfl rfl (y_move rfl) rfl ?_
            refine DL_gyes rfl rfl rfl (y_move rfl) rfl ?_
            refine DL_gyes rfl rfl rfl (y_len Try.underlying22 rfl) rfl ?_
            refine DL_gyes rfl rfl rfl (y_sub rfl rfl (i64w (by omega))) rfl ?_
            refine DL_gyes rfl rfl rfl (y_move rfl) rfl ?_
            refine DL_gyes rfl rfl rfl (y_sub rfl rfl (i64w (by omega))) rfl ?_
            refine DL_gyes rfl rfl rfl (y_idx Try.underlying22 sz3 rfl rfl (S8.rd hb) (Nt.mk (by omega) : Nt _ (lb.length - 1 - t)) (by omega)) rfl ?_
            refine DL_gyes rfl rfl rfl (y_ldr Try.underlying3 rfl rfl (S8.rd hb) (iL_get _ _ _ hy2)) rfl ?_
            refine DL_gyes rfl rfl rfl (y_eql rfl rfl) rfl ?_
            refine DL_y rfl ((by first | exact y_pickT rfl rfl | exact y_pickF rfl rfl)) rfl ?_
            refine DL_nil ?_
            refine hK23 _ _ ?_
            refine T_cond rfl (fun h63 => ?_) (fun h63 => ?_)
            ·
              refine T_skip ?_
              refine hK22 _ _ ?_
              refine T_block ?_
              refine T_region ?_
              refine L_y (y_move rfl) rfl ?_
              refine L_y (y_add rfl rfl (i64w (by omega))) rfl ?_
              refine L_y (y_assign rfl) rfl ?_
              refine L_nil ?_
              refine ⟨t + 1, by omega, ⟨⟨by omega, fun k hk => by rcases Nat.lt_or_ge k t with h9 | h9; (exact hta k h9); (have e9 : k = t := by omega); subst e9; exact ⟨x2, hx2, by rw [hy2, h63]⟩⟩, S8⟩, ?_⟩
              exact (Sub.cons rfl (by first | rfl | exact congrArg (Value.int _) (by omega)) (Sub.cons rfl rfl (Sub.cons rfl rfl (Sub.cons rfl rfl (Sub.nil _)))))
            ·
              refine T_exit ?_
              refine hK21 _ _ ?_
              refine T_seq fun K24 hK24 => ?_
              have hsuf : suf la lb = t := suf_of hpre (by omega) hta (by first | exact .inl (by omega) | exact .inr (fun z hz1 hz2 => by rw [hx2] at hz1; rw [hy2] at hz2; exact h63 ((Option.some.inj hz1).trans (Option.some.inj hz2).symm)))
              refine T_region ?_
              refine L_y (y_move rfl) rfl ?_
              refine L_y (y_move rfl) rfl ?_
              refine L_y (y_assign rfl) rfl ?_
              refine L_y (y_assign rfl) rfl ?_
              refine L_nil ?_
              refine hK24 _ _ ?_
              refine T_ret ?_
              repeat (first | with_reducible refine up_then ?_ | with_reducible refine up_in ?_)
              refine ret2 rfl rfl rfl ?_
              exact ⟨_, rfl, S8.like0, by rw [hpre, hsuf]⟩
          ·
            refine DL_gno rfl rfl rfl rfl ?_
            refine DL_gno rfl rfl rfl rfl ?_
            refine DL_gno rfl rfl rfl rfl ?_
            refine DL_gno rfl rfl rfl rfl ?_
            refine DL_gno rfl rfl rfl rfl ?_
            refine DL_gno rfl rfl rfl rfl ?_
            refine DL_gno rfl rfl rfl rfl ?_
            refine DL_gno rfl rfl rfl rfl ?_
            refine DL_gno rfl rfl rfl rfl ?_
            refine DL_gno rfl rfl rfl rfl ?_
            refine DL_gno rfl rfl rfl rfl ?_
            refine DL_gno rfl rfl rfl rfl ?_
            refine DL_gno rfl rfl rfl rfl ?_
            refine DL_gno rfl rfl rfl rfl ?_
            refine DL_gno rfl rfl rfl rfl ?_
            refine DL_gno rfl rfl rfl rfl ?_
            refine DL_gno rfl rfl rfl rfl ?_
            refine DL_y rfl ((by first | exact y_pickT rfl rfl | exact y_pickF rfl rfl)) rfl ?_
            refine DL_nil ?_
            refine hK23 _ _ ?_
            refine T_false rfl ?_
            refine T_exit ?_
            refine hK21 _ _ ?_
            refine T_seq fun K25 hK25 => ?_
            have hsuf : suf la lb = t := suf_of hpre (by omega) hta (by first | exact .inl (by omega) | exact .inr (fun z hz1 hz2 => by rw [hx2] at hz1; rw [hy2] at hz2; exact h63 ((Option.some.inj hz1).trans (Option.some.inj hz2).symm)))
            refine T_region ?_
            refine L_y (y_move rfl) rfl ?_
            refine L_y (y_move rfl) rfl ?_
            refine L_y (y_assign rfl) rfl ?_
            refine L_y (y_assign rfl) rfl ?_
            refine L_nil ?_
            refine hK25 _ _ ?_
            refine T_ret ?_
            repeat (first | with_reducible refine up_then ?_ | with_reducible refine up_in ?_)
            refine ret2 rfl rfl rfl ?_
            exact ⟨_, rfl, S8.like0, by rw [hpre, hsuf]⟩
        ·
          refine DL_gno rfl rfl rfl rfl ?_
          refine DL_gno rfl rfl rfl rfl ?_
          refine DL_gno rfl rfl rfl rfl ?_
          refine DL_gno rfl rfl rfl rfl ?_
          refine DL_gno rfl rfl rfl rfl ?_
          refine DL_gno rfl rfl rfl rfl ?_
          refine DL_y rfl ((by first | exact y_pickT rfl rfl | exact y_pickF rfl rfl)) rfl ?_
          refine DL_y rfl (y_move rfl) rfl ?_
          refine DL_gno rfl rfl rfl rfl ?_
          refine DL_gno rfl rfl rfl rfl ?_
          refine DL_gno rfl rfl rfl rfl ?_
          refine DL_gno rfl rfl rfl rfl ?_
          refine DL_gno rfl rfl rfl rfl ?_
          refine DL_gno rfl rfl rfl rfl ?_
          refine DL_gno rfl rfl rfl rfl ?_
          refine DL_gno rfl rfl rfl rfl ?_
          refine DL_gno rfl rfl rfl rfl ?_
          refine DL_gno rfl rfl rfl rfl ?_
          refine DL_gno rfl rfl rfl rfl ?_
          refine DL_gno rfl rfl rfl rfl ?_
          refine DL_gno rfl rfl rfl rfl ?_
          refine DL_gno rfl rfl rfl rfl ?_
          refine DL_gno rfl rfl rfl rfl ?_
          refine DL_gno rfl rfl rfl rfl ?_
          refine DL_gno rfl rfl rfl rfl ?_
          refine DL_y rfl ((by first | exact y_pickT rfl rfl | exact y_pickF rfl rfl)) rfl ?_
          refine DL_nil ?_
          refine hK23 _ _ ?_
          refine T_false rfl ?_
          refine T_exit ?_
          refine hK21 _ _ ?_
          refine T_seq fun K26 hK26 => ?_
          have hsuf : suf la lb = t := suf_of hpre (by omega) hta (by first | exact .inl (by omega) | exact .inr (fun z hz1 hz2 => by rw [hx2] at hz1; rw [hy2] at hz2; exact h63 ((Option.some.inj hz1).trans (Option.some.inj hz2).symm)))
          refine T_region ?_
          refine L_y (y_move rfl) rfl ?_
          refine L_y (y_move rfl) rfl ?_
          refine L_y (y_assign rfl) rfl ?_
          refine L_y (y_assign rfl) rfl ?_
          refine L_nil ?_
          refine hK26 _ _ ?_
          refine T_ret ?_
          repeat (first | with_reducible refine up_then ?_ | with_reducible refine up_in ?_)
          refine ret2 rfl rfl rfl ?_
          exact ⟨_, rfl, S8.like0, by rw [hpre, hsuf]⟩
end Go.Proofs.Ytbbmkgpgiacdeaa

/-
  Search.
-/
namespace Go.Proofs.Ytbbmkgpgiacdeaa
open Go.RowKit Zk Zx
set_option linter.unusedVariables false
set_option linter.unusedSimpArgs false

def pI (p : PI) : List Value := [.int .i64 p.1, .int .i64 p.2]
theorem pf_pI (xs : List (Nat × Nat)) : xs.flatMap pf = (xs.map cI).flatMap pI := by rw [List.flatMap_map]; rfl
theorem pI_len (x : PI) : (pI x).length = 2 := rfl
theorem pIs_len (xs : List PI) : (xs.flatMap pI).length = xs.length * 2 := flat_len pI 2 pI_len xs
theorem pI_one (xs : List PI) : ∀ u ∈ xs.flatMap pI, u.oneCell' = true := fun u hu => by
  obtain ⟨p, _, hp⟩ := List.mem_flatMap.1 hu
  simp only [pI, List.mem_cons, List.not_mem_nil, or_false] at hp
  rcases hp with rfl | rfl <;> rfl
theorem pI_get : ∀ (xs : List PI) (i : Nat) (x : PI), xs[i]? = some x → (xs.flatMap pI)[i * 2]? = some (.int .i64 x.1) ∧ (xs.flatMap pI)[i * 2 + 1]? = some (Value.int .i64 x.2)
  | [], i, x, h => by cases h
  | y :: xs, 0, x, h => by
    obtain rfl : y = x := by simpa using h
    exact ⟨rfl, rfl⟩
  | y :: xs, i + 1, x, h => by
    have := pI_get xs i x (by simpa using h)
    rw [List.flatMap_cons, show (i + 1) * 2 = i * 2 + 1 + 1 by omega]
    exact this
theorem pI_n {w : World} {A : Option Addr} {n c : Nat} {xs : List PI} (h : Rs w 2 A n c (xs.flatMap pI)) : n = xs.length := by
  have := h.len
  rw [pIs_len] at this
  omega
/-- Natural numbers as ints. -/
def nI (ns : List Nat) : List Int := ns.map fun (n : Nat) => (n : Int)
theorem nI_len (ns : List Nat) : (nI ns).length = ns.length := by simp [nI]
theorem nI_get {ns : List Nat} {k n : Nat} (h : ns[k]? = some n) : (nI ns)[k]? = some (n : Int) := by simp [nI, h]
theorem nI_set (ns : List Nat) (k n : Nat) : (iL (nI ns)).set k (.int .i64 (n : Int)) = iL (nI (ns.set k n)) := by simp [iL, nI, List.map_set]
theorem iL_set (l : List Int) (k : Nat) (v : Int) : (iL l).set k (.int .i64 v) = iL (l.set k v) := by simp [iL, List.map_set]
theorem iL_snoc (l : List Int) (v : Int) : iL l ++ [Value.int .i64 v] = iL (l ++ [v]) := by simp [iL]
theorem zer_nI (n : Nat) : List.replicate n (Value.int .i64 0) = iL (nI (List.replicate n 0)) := by simp [iL, nI]
theorem long_set {l : List PI} {j v : Nat} (h : 0 < j) : (List.replicate j 0 ++ lens (l.drop j)).set (j - 1) v = List.replicate (j - 1) 0 ++ v :: lens (l.drop j) := by
  obtain ⟨k, rfl⟩ : ∃ k, j = k + 1 := ⟨j - 1, by omega⟩
  rw [Nat.add_sub_cancel, List.replicate_succ', List.append_assoc]
  rw [List.set_append_right _ _ (by simp)]
  simp
theorem shr1 (i j : Nat) : Int.fdiv ((i : Int) + (j : Int)) (2 ^ (min (1 : Int).toNat IntKind.u64.bits)) = (((i + j) / 2 : Nat) : Int) := by
  have e1 : min (1 : Int).toNat IntKind.u64.bits = 1 := by decide
  rw [e1, Int.fdiv_eq_ediv_of_nonneg _ (Int.pow_nonneg (by omega)), Int.natCast_ediv]
  rfl


set_option maxRecDepth 100000 in
theorem lcl (g1 g2 : Nat) (PA : Option Addr) (pc : Nat) (piles : List Int) (b : Int) (k : Nat) (y : Int) (w0 : World) (h1 : Blk w0 g1 22 #[.slice PA piles.length pc]) (h2 : Blk w0 g2 3 #[.int .i64 b]) (hp : Rs w0 1 PA piles.length pc (iL piles)) (hy : piles[k]? = some y) :
    Calls Try.prog 62 #[.int .i64 (k : Int), .pointer (some ⟨g1, 0, none⟩), .pointer (some ⟨g2, 0, none⟩)] w0 fun e w' => ∃ u, e = .returned u ∧ Like w0 w' ∧ u = .bool (decide (y ≤ b)) := by
  refine enter1 (env := [(0, .int .i64 (k : Int)), (1, .pointer (some ⟨g1, 0, none⟩)), (2, .pointer (some ⟨g2, 0, none⟩))]) [.int .i64 (k : Int), .pointer (some ⟨g1, 0, none⟩), .pointer (some ⟨g2, 0, none⟩)] Try.func62 rfl Try.ntmps62 rfl rfl ?_
  have hkl := (List.getElem?_eq_some_iff.1 hy).1; have S0 := St.start w0 noM
  refine T_seq fun K1 hK1 => ?_
  refine T_region ?_
  refine L_y (y_assign rfl) rfl ?_
  refine L_nil ?_
  refine hK1 _ _ ?_
  refine T_seq fun K2 hK2 => ?_
  refine T_drawnL [(0, true), (1, true), (2, true), (3, true), (4, true), (5, true), (6, true)] hmix (by kernel_rfl) fun w1 l1 => ?_
  have S1 := S0.like l1
  refine DL_y rfl (y_ldc Try.underlying22 rfl rfl (((S1.rdB h1).cell _).trans (by rfl))) rfl ?_
  refine DL_y rfl (y_move rfl) rfl ?_
  refine DL_y rfl (y_idx Try.underlying22 sz3 rfl rfl (S1.rd hp) (Nt.mk rfl : Nt _ (k)) (by omega)) rfl ?_
  refine DL_y rfl (y_ldr Try.underlying3 rfl rfl (S1.rd hp) (iL_get _ _ _ hy)) rfl ?_
  refine DL_y rfl (y_ldc Try.underlying3 rfl rfl (((S1.rdB h2).cell _).trans (by rfl))) rfl ?_
  refine DL_y rfl (y_leq rfl rfl) rfl ?_
  refine DL_y rfl (y_assign rfl) rfl ?_
  refine DL_nil ?_
  refine hK2 _ _ ?_
  refine T_ret ?_
  repeat (first | with_reducible refine up_then ?_ | with_reducible refine up_in ?_)
  refine ret1 rfl rfl ?_
  exact ⟨_, rfl, S1.like0, rfl⟩


set_option maxRecDepth 100000 in
theorem srch (g1 g2 : Nat) (PA : Option Addr) (pc : Nat) (piles : List Int) (b : Int) (w0 : World) (h1 : Blk w0 g1 22 #[.slice PA piles.length pc]) (h2 : Blk w0 g2 3 #[.int .i64 b]) (hp : Rs w0 1 PA piles.length pc (iL piles)) (hdec : ∀ (i j : Nat) (x y : Int), i < j → piles[i]? = some x → piles[j]? = some y → y < x) (hl9 : piles.length ≤ 1048576) :
    Calls Try.prog 61 #[.int .i64 (piles.length : Int), .func (.func 62) #[] #[.pointer (some ⟨g1, 0, none⟩), .pointer (some ⟨g2, 0, none⟩)]] w0 fun e w' => ∃ u, e = .returned u ∧ Like w0 w' ∧ ∃ t : Nat, u = .int .i64 (t : Int) ∧ t ≤ piles.length ∧ (∀ (k : Nat) (y : Int), k < t → piles[k]? = some y → b < y) ∧ (∀ (k : Nat) (y : Int), t ≤ k → piles[k]? = some y → y ≤ b) := by
  refine enter1 (env := [(0, .int .i64 (piles.length : Int)), (1, .func (.func 62) #[] #[.pointer (some ⟨g1, 0, none⟩), .pointer (some ⟨g2, 0, none⟩)])]) [.int .i64 (piles.length : Int), .func (.func 62) #[] #[.pointer (some ⟨g1, 0, none⟩), .pointer (some ⟨g2, 0, none⟩)]] Try.func61 rfl Try.ntmps61 rfl rfl ?_
  have S0 := St.start w0 noM
  refine T_seq fun K1 hK1 => ?_
  refine T_region ?_
  refine L_y (y_assign rfl) rfl ?_
  refine L_nil ?_
  refine hK1 _ _ ?_
  refine T_seq fun K2 hK2 => ?_
  refine T_region ?_
  refine L_y (y_move rfl) rfl ?_
  refine L_y (y_assign rfl) rfl ?_
  refine L_y (y_assign rfl) rfl ?_
  refine L_nil ?_
  refine hK2 _ _ ?_
  refine T_seq fun K3 hK3 => ?_
  refine T_block ?_
  refine T_loop2 [(1, _)] (fun (i : Nat) (j : Nat) => [(5, .int .i64 (i : Int)), (6, .int .i64 (j : Int))]) (fun (i : Nat) (j : Nat) => j - i) (fun (i : Nat) (j : Nat) (w : World) => ((i ≤ j ∧ j ≤ piles.length) ∧ (∀ (k : Nat) (y : Int), k < i → piles[k]? = some y → b < y) ∧ (∀ (k : Nat) (y : Int), j ≤ k → piles[k]? = some y → y ≤ b)) ∧ St w0 noM [] w) 0 piles.length (Sub.cons rfl (by first | rfl | exact congrArg (Value.int _) (by omega)) (Sub.cons rfl (by first | rfl | exact congrArg (Value.int _) (by omega)) (Sub.nil _))) (Sub.cons rfl rfl (Sub.nil _)) ?_ ?_
  ·
    exact ⟨⟨⟨Nat.zero_le _, Nat.le_refl _⟩, fun k y h => absurd h (by omega), fun k y h h2 => absurd (List.getElem?_eq_some_iff.1 h2).1 (by omega)⟩, S0⟩
  ·
    intro i j w1 hrel
    obtain ⟨⟨⟨hij, hjl⟩, hlo, hhi⟩, S1⟩ := hrel
    refine T_seq fun K4 hK4 => ?_
    refine T_seq fun K5 hK5 => ?_
    refine T_region ?_
    refine L_y (y_move rfl) rfl ?_
    refine L_y (y_move rfl) rfl ?_
    refine L_y (y_lss rfl rfl) rfl ?_
    refine L_nil ?_
    refine hK5 _ _ ?_
    refine T_cond rfl (fun h11 => ?_) (fun h11 => ?_)
    ·
      obtain ⟨y, hy⟩ : ∃ y, piles[(i + j) / 2]? = some y := ⟨_, List.getElem?_eq_getElem (by omega)⟩
      refine T_skip ?_
      refine hK4 _ _ ?_
      refine T_block ?_
      refine T_seq fun K6 hK6 => ?_
      refine T_region ?_
      refine L_y (y_move rfl) rfl ?_
      refine L_y (y_move rfl) rfl ?_
      refine L_y (y_add rfl rfl (i64w (by omega))) rfl ?_
      refine L_y (y_conv is3 Try.underlying82 rfl (u64w (by omega))) rfl ?_
      refine L_y (y_shr rfl rfl (by omega) (shr1 i j)) rfl ?_
      refine L_y (y_conv is82 Try.underlying3 rfl (i64w (by omega))) rfl ?_
      refine L_y (y_assign rfl) rfl ?_
      refine L_nil ?_
      refine hK6 _ _ ?_
      refine T_seq fun K7 hK7 => ?_
      refine T_region ?_
      refine L_y (y_move rfl) rfl ?_
      refine L_y (y_move rfl) rfl ?_
      refine L_o (o_callv rfl Try.func62 rfl rfl (lcl g1 g2 PA pc piles b ((i + j) / 2) y w1 (S1.rdB h1) (S1.rdB h2) (S1.rd hp) hy) rfl rfl (fun d' hd => by cases hd <;> rfl) ?_)
      rintro e2 w2 ⟨v2, rfl, l2, rfl⟩
      refine ⟨_, rfl, ?_⟩
      have S2 := S1.like l2
      refine L_y ((by first | exact y_notD rfl | exact y_not rfl)) rfl ?_
      refine L_nil ?_
      refine hK7 _ _ ?_
      refine T_cond rfl (fun h21 => ?_) (fun h21 => ?_)
      ·
        refine T_region ?_
        refine L_y (y_move rfl) rfl ?_
        refine L_y (y_add rfl rfl (i64w (by omega))) rfl ?_
        refine L_y (y_assign rfl) rfl ?_
        refine L_nil ?_
        refine ⟨(i + j) / 2 + 1, j, by omega, ⟨⟨⟨by omega, by omega⟩, fun k z hk hz => by rcases Nat.lt_or_ge k ((i + j) / 2) with h9 | h9; (have := hdec _ _ _ _ h9 hz hy; omega); (have e9 : k = (i + j) / 2 := by omega); subst e9; rw [hy] at hz; cases hz; omega, hhi⟩, S2⟩, ?_⟩
        exact (Sub.cons rfl (by first | rfl | exact congrArg (Value.int _) (by omega)) (Sub.cons rfl (by first | rfl | exact congrArg (Value.int _) (by omega)) (Sub.cons rfl rfl (Sub.nil _))))
      ·
        refine T_region ?_
        refine L_y (y_move rfl) rfl ?_
        refine L_y (y_assign rfl) rfl ?_
        refine L_nil ?_
        refine ⟨i, (i + j) / 2, by omega, ⟨⟨⟨by omega, by omega⟩, hlo, fun k z hk hz => by rcases Nat.lt_or_ge ((i + j) / 2) k with h9 | h9; (have := hdec _ _ _ _ h9 hy hz; omega); (have e9 : k = (i + j) / 2 := by omega); subst e9; rw [hy] at hz; cases hz; omega⟩, S2⟩, ?_⟩
        exact (Sub.cons rfl (by first | rfl | exact congrArg (Value.int _) (by omega)) (Sub.cons rfl (by first | rfl | exact congrArg (Value.int _) (by omega)) (Sub.cons rfl rfl (Sub.nil _))))
    ·
      refine T_exit ?_
      refine hK3 _ _ ?_
      refine T_seq fun K8 hK8 => ?_
      refine T_region ?_
      refine L_y (y_move rfl) rfl ?_
      refine L_y (y_assign rfl) rfl ?_
      refine L_nil ?_
      refine hK8 _ _ ?_
      refine T_ret ?_
      repeat (first | with_reducible refine up_then ?_ | with_reducible refine up_in ?_)
      refine ret1 rfl rfl ?_
      have hie : i = j := by omega
      subst hie
      exact ⟨_, rfl, S1.like0, i, rfl, hjl, hlo, hhi⟩
end Go.Proofs.Ytbbmkgpgiacdeaa
