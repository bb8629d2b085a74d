import Derived.Test.YtbbmkgpgiacdeaaMgHParts1
import Derived.Laws.StructEq
import Derived.Maps.OwnSet
import Derived.Maps.Views
import Derived.Shelf.SlSortCmp.InsertionK
import Derived.Lib.Small
import Derived.Lib.Walk
import Derived.Shelf.SlSortCmp.NoneTotal

/-
  The field: row.
-/
namespace Go.Proofs.Ytbbmkgpgiacdeaa
open Go.RowKit Zk Zx
set_option linter.unusedVariables false
set_option linter.unusedSimpArgs false

/-- The room that is left: nothing yet, or a block. -/
def Room (ss : Nat → Option (Array Value)) (SA : Option Addr) (ns cs : Nat) : Prop := (SA = none ∧ ns = 0 ∧ cs = 0) ∨ ∃ st cur, SA = some ⟨st, 0, none⟩ ∧ ss st = some cur ∧ cur.size = cs ∧ ns ≤ cs ∧ cs ≤ 9223372036854775807
theorem Room.le {ss : Nat → Option (Array Value)} {SA : Option Addr} {ns cs : Nat} (h : Room ss SA ns cs) : ns ≤ cs ∧ cs ≤ 9223372036854775807 := by
  rcases h with ⟨_, h1, h2⟩ | ⟨_, _, _, _, _, h1, h2⟩ <;> omega
theorem upd_id {ss : Nat → Option (Array Value)} {b : Nat} {cur : Array Value} (h : ss b = some cur) : upd ss b cur = ss := by
  funext i
  by_cases e : i = b
  · subst e; rw [upd_same, h]
  · rw [upd_ne e]
theorem upd_upd (ss : Nat → Option (Array Value)) (b : Nat) (c1 c2 : Array Value) : upd (upd ss b c1) b c2 = upd ss b c2 := by
  funext i
  by_cases e : i = b
  · subst e; rw [upd_same, upd_same]
  · rw [upd_ne e, upd_ne e, upd_ne e]
theorem cutA_at (st c l : Nat) (h : c ≠ l) : cutA (some ⟨st, 0, none⟩) c l 1 = some ⟨st, l, none⟩ := by
  unfold cutA
  rw [if_neg h, Nat.mul_one]
  show some (Addr.add ⟨st, 0, none⟩ l) = _
  rw [Addr.add_lit, Nat.zero_add]


set_option maxRecDepth 100000 in
theorem frow (g : Nat) (X0 X1 X2 : Value) (SA : Option Addr) (ns cs : Nat) (ss : Nat → Option (Array Value)) (k : Nat) (kI : Int) (w0 : World) (hkI : kI = k) (hw : (sep (blk g 107 #[X0, X1, X2, .slice SA ns cs]) (heapR 3 ss)).holds w0) (hlt : ∀ i, (sep (blk g 107 #[X0, X1, X2, .slice SA ns cs]) (heapR 3 ss)).dom i → i < w0.heap.size) (hroom : Room ss SA ns cs) (hk1 : 1 ≤ k) (hk2 : k ≤ 1048576) (hns : ns ≤ 1099511627776) :
    Calls Try.prog 85 #[.pointer (some ⟨g, 0, none⟩), .int .i64 kI] w0 fun e w' => ∃ u, e = .returned u ∧ ∃ st fr cs' cur, u = .slice (some ⟨st, fr, none⟩) k k ∧ Turned w0 w' (sep (blk g 107 #[X0, X1, X2, .slice SA ns cs]) (heapR 3 ss)) (sep (blk g 107 #[X0, X1, X2, .slice (some ⟨st, 0, none⟩) (fr + k) cs']) (heapR 3 (upd ss st cur))) ∧ cur.size = cs' ∧ fr + k ≤ cs' ∧ cs' ≤ 9223372036854775807 ∧ ((SA = some ⟨st, 0, none⟩ ∧ fr = ns ∧ ss st = some cur) ∨ (fr = 0 ∧ ss st = none)) := by
  refine enter1 (env := [(0, .pointer (some ⟨g, 0, none⟩)), (1, .int .i64 kI)]) [.pointer (some ⟨g, 0, none⟩), .int .i64 kI] Try.func85 rfl Try.ntmps85 rfl rfl ?_
  subst hkI; have hrl := hroom.le; have S0 := St.borrow2 (blk g 107 #[X0, X1, X2, .slice SA ns cs]) (heapR 3 ss) hw.1 hw.2.1 hlt hw.2.2
  refine T_seq fun K1 hK1 => ?_
  refine T_region ?_
  refine L_y (y_assign rfl) rfl ?_
  refine L_nil ?_
  refine hK1 _ _ ?_
  refine T_seq fun K2 hK2 => ?_
  refine T_seq fun K3 hK3 => ?_
  refine T_drawnL [(0, true), (1, true), (2, true), (3, true), (4, true), (5, true), (6, true), (7, true), (8, true), (9, true), (10, true), (11, true), (12, true)] hmix (by kernel_rfl) fun w1 l1 => ?_
  have S1 := S0.like l1
  refine DL_y rfl (y_move rfl) rfl ?_
  refine DL_y rfl (y_nilp rfl) rfl ?_
  refine DL_y rfl (y_fieldA 3 Try.underlying107 rfl sz22 rfl rfl rfl) rfl ?_
  refine DL_y rfl (y_ldc Try.underlying22 rfl rfl (((S1.blk 0 rfl).cell _).trans (by rfl))) rfl ?_
  refine DL_y rfl (y_cap Try.underlying22 rfl) rfl ?_
  refine DL_y rfl (y_move rfl) rfl ?_
  refine DL_y rfl (y_nilp rfl) rfl ?_
  refine DL_y rfl (y_fieldA 3 Try.underlying107 rfl sz22 rfl rfl rfl) rfl ?_
  refine DL_y rfl (y_ldc Try.underlying22 rfl rfl (((S1.blk 0 rfl).cell _).trans (by rfl))) rfl ?_
  refine DL_y rfl (y_len Try.underlying22 rfl) rfl ?_
  refine DL_y rfl (y_sub rfl rfl (i64w (by omega))) rfl ?_
  refine DL_y rfl (y_move rfl) rfl ?_
  refine DL_y rfl (y_lss rfl rfl) rfl ?_
  refine DL_nil ?_
  refine hK3 _ _ ?_
  refine T_cond rfl (fun h18 => ?_) (fun h18 => ?_)
  ·
    refine T_region ?_
    refine L_y (y_move rfl) rfl ?_
    refine L_y (y_move rfl) rfl ?_
    refine L_y (y_max rfl rfl) rfl ?_
    refine L_o (o_make te22 rfl S1 rfl rfl inferInstance (Nt.mk (by omega) : Nt _ (max k 4096)) rfl (by omega) (by omega) (by omega) fun b2 w2 S2 => ?_)
    refine L_y (y_nilp rfl) rfl ?_
    refine L_y (y_fieldA 3 Try.underlying107 rfl sz22 rfl rfl rfl) rfl ?_
    refine L_o (o_st1 S2 0 rfl rfl rfl rfl sz22 (by simp; done) fun w3 S3 => ?_)
    refine L_nil ?_
    refine hK2 _ _ ?_
    refine T_seq fun K4 hK4 => ?_
    obtain ⟨cur, hcs, hno, hcm, S80⟩ := heap_join (rs := [_]) S3
    have S81 := S80.blkc 0 rfl (cs' := #[X0, X1, X2, .slice (some ⟨b2, 0, none⟩) 0 (max k 4096)]) rfl
    refine T_region ?_
    refine L_y (y_move rfl) rfl ?_
    refine L_y (y_nilp rfl) rfl ?_
    refine L_y (y_fieldA 3 Try.underlying107 rfl sz22 rfl rfl rfl) rfl ?_
    refine L_y (y_ldc Try.underlying22 rfl rfl (((S81.blk 0 rfl).cell _).trans (by rfl))) rfl ?_
    refine L_y (y_len Try.underlying22 rfl) rfl ?_
    refine L_y (y_assign rfl) rfl ?_
    refine L_nil ?_
    refine hK4 _ _ ?_
    refine T_seq fun K5 hK5 => ?_
    refine T_region ?_
    refine L_y (y_move rfl) rfl ?_
    refine L_y (y_move rfl) rfl ?_
    refine L_y (y_nilp rfl) rfl ?_
    refine L_y (y_fieldA 3 Try.underlying107 rfl sz22 rfl rfl rfl) rfl ?_
    refine L_y (y_ldc Try.underlying22 rfl rfl (((S81.blk 0 rfl).cell _).trans (by rfl))) rfl ?_
    refine L_y (y_move rfl) rfl ?_
    refine L_y (y_move rfl) rfl ?_
    refine L_y (y_add rfl rfl (i64w (by omega))) rfl ?_
    refine L_y (y_sliceH Try.underlying22 sz3 rfl rfl inferInstance (by omega)) rfl ?_
    refine L_y (y_nilp rfl) rfl ?_
    refine L_y (y_fieldA 3 Try.underlying107 rfl sz22 rfl rfl rfl) rfl ?_
    refine L_o (o_st1 S81 0 rfl rfl rfl rfl sz22 (by simp; done) fun w4 S4 => ?_)
    refine L_nil ?_
    refine hK5 _ _ ?_
    refine T_seq fun K6 hK6 => ?_
    have S85 := S4.blkc 0 rfl (cs' := #[X0, X1, X2, .slice (some ⟨b2, 0, none⟩) (0 + k) (max k 4096)]) (by rw [cutA_at _ _ _ (by omega)]; rfl)
    refine T_region ?_
    refine L_y (y_move rfl) rfl ?_
    refine L_y (y_nilp rfl) rfl ?_
    refine L_y (y_fieldA 3 Try.underlying107 rfl sz22 rfl rfl rfl) rfl ?_
    refine L_y (y_ldc Try.underlying22 rfl rfl (((S85.blk 0 rfl).cell _).trans (by rfl))) rfl ?_
    refine L_y (y_move rfl) rfl ?_
    refine L_y (y_move rfl) rfl ?_
    refine L_y (y_move rfl) rfl ?_
    refine L_y (y_add rfl rfl (i64w (by omega))) rfl ?_
    refine L_y (y_move rfl) rfl ?_
    refine L_y (y_move rfl) rfl ?_
    refine L_y (y_add rfl rfl (i64w (by omega))) rfl ?_
    refine L_y (y_sliceX Try.underlying22 sz3 rfl rfl rfl rfl (l := 0) (u := 0 + k) (m := 0 + k) (by omega) (by omega) (by omega) (by omega) (by omega) (by omega)) rfl ?_
    refine L_y (y_assign rfl) rfl ?_
    refine L_nil ?_
    refine hK6 _ _ ?_
    refine T_ret ?_
    repeat (first | with_reducible refine up_then ?_ | with_reducible refine up_in ?_)
    refine ret1 rfl rfl ?_
    exact ⟨_, rfl, b2, 0, max k 4096, cur, by rw [cutA_at _ _ _ (by omega)]; congr 1 <;> omega, S85.turnedS, hcs, by omega, by omega, .inr ⟨rfl, hno⟩⟩
  ·
    obtain ⟨st, cur, rfl, hss, hcs, hns2, hcm⟩ : ∃ st cur, SA = some ⟨st, 0, none⟩ ∧ ss st = some cur ∧ cur.size = cs ∧ ns ≤ cs ∧ cs ≤ 9223372036854775807 := hroom.resolve_left (fun h => by omega)
    refine T_skip ?_
    refine hK2 _ _ ?_
    refine T_seq fun K7 hK7 => ?_
    refine T_region ?_
    refine L_y (y_move rfl) rfl ?_
    refine L_y (y_nilp rfl) rfl ?_
    refine L_y (y_fieldA 3 Try.underlying107 rfl sz22 rfl rfl rfl) rfl ?_
    refine L_y (y_ldc Try.underlying22 rfl rfl (((S1.blk 0 rfl).cell _).trans (by rfl))) rfl ?_
    refine L_y (y_len Try.underlying22 rfl) rfl ?_
    refine L_y (y_assign rfl) rfl ?_
    refine L_nil ?_
    refine hK7 _ _ ?_
    refine T_seq fun K8 hK8 => ?_
    refine T_region ?_
    refine L_y (y_move rfl) rfl ?_
    refine L_y (y_move rfl) rfl ?_
    refine L_y (y_nilp rfl) rfl ?_
    refine L_y (y_fieldA 3 Try.underlying107 rfl sz22 rfl rfl rfl) rfl ?_
    refine L_y (y_ldc Try.underlying22 rfl rfl (((S1.blk 0 rfl).cell _).trans (by rfl))) rfl ?_
    refine L_y (y_move rfl) rfl ?_
    refine L_y (y_move rfl) rfl ?_
    refine L_y (y_add rfl rfl (i64w (by omega))) rfl ?_
    refine L_y (y_sliceH Try.underlying22 sz3 rfl rfl inferInstance (by omega)) rfl ?_
    refine L_y (y_nilp rfl) rfl ?_
    refine L_y (y_fieldA 3 Try.underlying107 rfl sz22 rfl rfl rfl) rfl ?_
    refine L_o (o_st1 S1 0 rfl rfl rfl rfl sz22 (by simp; done) fun w5 S5 => ?_)
    refine L_nil ?_
    refine hK8 _ _ ?_
    refine T_seq fun K9 hK9 => ?_
    have S85 := S5.blkc 0 rfl (cs' := #[X0, X1, X2, .slice (some ⟨st, 0, none⟩) (ns + k) cs]) (by rw [cutA_at _ _ _ (by omega)]; rfl)
    refine T_region ?_
    refine L_y (y_move rfl) rfl ?_
    refine L_y (y_nilp rfl) rfl ?_
    refine L_y (y_fieldA 3 Try.underlying107 rfl sz22 rfl rfl rfl) rfl ?_
    refine L_y (y_ldc Try.underlying22 rfl rfl (((S85.blk 0 rfl).cell _).trans (by rfl))) rfl ?_
    refine L_y (y_move rfl) rfl ?_
    refine L_y (y_move rfl) rfl ?_
    refine L_y (y_move rfl) rfl ?_
    refine L_y (y_add rfl rfl (i64w (by omega))) rfl ?_
    refine L_y (y_move rfl) rfl ?_
    refine L_y (y_move rfl) rfl ?_
    refine L_y (y_add rfl rfl (i64w (by omega))) rfl ?_
    refine L_y (y_sliceX Try.underlying22 sz3 rfl rfl rfl rfl (l := ns) (u := ns + k) (m := ns + k) (by omega) (by omega) (by omega) (by omega) (by omega) (by omega)) rfl ?_
    refine L_y (y_assign rfl) rfl ?_
    refine L_nil ?_
    refine hK9 _ _ ?_
    refine T_ret ?_
    repeat (first | with_reducible refine up_then ?_ | with_reducible refine up_in ?_)
    refine ret1 rfl rfl ?_
    exact ⟨_, rfl, st, ns, cs, cur, by rw [cutA_at _ _ _ (by omega)]; congr 1 <;> omega, by rw [upd_id hss]; exact S85.turnedS, hcs, by omega, by omega, .inl ⟨rfl, rfl, hss⟩⟩
end Go.Proofs.Ytbbmkgpgiacdeaa


/-
  The field's rows in memory.
-/
namespace Go.Proofs.Ytbbmkgpgiacdeaa
open Go.RowKit Zk Zx
set_option linter.unusedVariables false
/-- The rows lie in the blocks ss, below the room that is left. -/
def RowsOk (ss : Nat → Option (Array Value)) (SA : Option Addr) (ns : Nat) (D : List (List Int)) (vs : List Value) : Prop :=
  ∀ d x, D[d]? = some x → ∃ s o cur, vs[d]? = some (.slice (some ⟨s, o, none⟩) x.length x.length) ∧ x.length = 2 * d + 1 ∧ ss s = some cur ∧ (∀ j y, x[j]? = some y → cur[o + j]? = some (Value.int .i64 y)) ∧ (SA = some ⟨s, 0, none⟩ → o + x.length ≤ ns)
theorem RowsOk.upd {ss : Nat → Option (Array Value)} {SA : Option Addr} {ns : Nat} {D : List (List Int)} {vs : List Value} (h : RowsOk ss SA ns D vs) {st : Nat} {cur' : Array Value}
    (hc : ∀ cur, ss st = some cur → SA = some ⟨st, 0, none⟩ ∧ ∀ i, i < ns → cur'[i]? = cur[i]?) : RowsOk (Zx.upd ss st cur') SA ns D vs := fun d x hx => by
  obtain ⟨s, o, cur, h1, h2, h3, h4, h5⟩ := h d x hx
  by_cases e : s = st
  · subst e
    obtain ⟨h6, h7⟩ := hc cur h3
    refine ⟨s, o, cur', h1, h2, upd_same _ _ _, fun j y hy => ?_, h5⟩
    have hj := (List.getElem?_eq_some_iff.1 hy).1
    rw [h7 _ (by have := h5 h6; omega)]
    exact h4 j y hy
  · exact ⟨s, o, cur, h1, h2, by rw [upd_ne e]; exact h3, h4, h5⟩
/-- One row more. -/
theorem RowsOk.add {ss : Nat → Option (Array Value)} {SA : Option Addr} {ns : Nat} {D : List (List Int)} {vs : List Value} {st fr : Nat} {cur cur0 : Array Value} {x : List Int} (h : RowsOk ss SA ns D vs) (hl : vs.length = D.length) (hx : x.length = 2 * D.length + 1)
    (hcase : (SA = some ⟨st, 0, none⟩ ∧ fr = ns ∧ ss st = some cur0) ∨ (fr = 0 ∧ ss st = none)) (hpre : ∀ i, i < fr → cur[i]? = cur0[i]?) (hcell : ∀ j y, x[j]? = some y → cur[fr + j]? = some (Value.int .i64 y)) {k : Nat} (hk : k = x.length) :
    RowsOk (Zx.upd ss st cur) (some ⟨st, 0, none⟩) (fr + k) (D ++ [x]) (vs ++ [.slice (some ⟨st, fr, none⟩) k k]) := by
  subst hk
  have h2 : RowsOk (Zx.upd ss st cur) SA ns D vs := h.upd fun c hc => by
    rcases hcase with ⟨h1, h3, h4⟩ | ⟨_, h4⟩
    · rw [h4] at hc
      cases hc
      exact ⟨h1, fun i hi => hpre i (by omega)⟩
    · rw [h4] at hc; cases hc
  intro d y hy
  rcases Nat.lt_or_ge d D.length with hd | hd
  · rw [List.getElem?_append_left hd] at hy
    obtain ⟨s, o, c, a1, a2, a3, a4, a5⟩ := h2 d y hy
    obtain ⟨s', o', c', b1, b2, b3, b4, b5⟩ := h d y hy
    refine ⟨s, o, c, by rw [List.getElem?_append_left (by omega)]; exact a1, a2, a3, a4, fun e => ?_⟩
    have e2 : s = st := by injection e with e; injection e with e; exact e.symm
    subst e2
    rw [b1] at a1
    simp only [Option.some.injEq, Value.slice.injEq, Addr.mk.injEq, and_true] at a1
    obtain ⟨rfl, rfl⟩ := a1
    rcases hcase with ⟨h1, h3, h4⟩ | ⟨_, h4⟩
    · have := b5 h1
      omega
    · rw [h4] at b3; cases b3
  · rw [List.getElem?_append_right hd] at hy
    have hd2 : d - D.length = 0 := by have := (List.getElem?_eq_some_iff.1 hy).1; simp at this; omega
    rw [hd2] at hy
    obtain rfl : x = y := by simpa using hy
    have hde : d = D.length := by omega
    subst hde
    exact ⟨st, fr, cur, by rw [List.getElem?_append_right (by omega), hl, Nat.sub_self]; rfl, hx, upd_same _ _ _, hcell, fun _ => Nat.le_refl _⟩
theorem FR.of {w0 w : World} {M : Nat → Prop} {R : Option Addr} {nr cr g n ca m cb ns : Nat} {vs : List Value} {A B : Option Addr} {SS : Value} {ss : Nat → Option (Array Value)} {la lb : List Int} {D : List (List Int)} {SA : Option Addr}
    (S : St w0 M [row 22 1 R nr cr vs, blk g 107 #[.slice A n ca, .slice B m cb, .slice R nr cr, SS], heapR 3 ss] w) (ha : Rs w 1 A n ca (iL la)) (hb : Rs w 1 B m cb (iL lb)) (hnr : nr = D.length) (ho : RowsOk ss SA ns D vs) (hD : D.length ≤ 1048576) : FR w g A n ca B m cb la lb D :=
  ⟨R, nr, cr, SS, vs, S.blk 1 rfl, ha, hb, S.row 0 rfl, hnr, fun d x hx => by
    obtain ⟨s, o, cur, h1, h2, h3, h4, _⟩ := ho d x hx
    have hd := (List.getElem?_eq_some_iff.1 hx).1
    exact ⟨_, h1, heapR_rs (S.get 2 rfl) h3 (by simp) (fun j u hu => by
      unfold iL at hu
      rw [List.getElem?_map] at hu
      cases hj : x[j]? with
      | none => rw [hj] at hu; cases hu
      | some y =>
        rw [hj] at hu
        simp only [Option.map_some, Option.some.injEq] at hu
        subst hu
        exact h4 j y hj) (Nat.le_refl _) (by omega), h2⟩⟩
theorem tab_nil (la lb : List Int) : Tab la lb [] := fun d off hd => by
  have e : atV [] d off = farN := by
    rw [atV, if_pos (.inl (by simpa using hd))]
  rw [e]
  exact good_out (.inl (by simpa using hd))
theorem atV_old (D : List (List Int)) (x : List Int) (d off : Int) (hd : d < D.length) : atV (D ++ [x]) d off = atV D d off := by
  unfold atV
  by_cases h : d < 0 ∨ off < -d ∨ off > d
  · rw [if_pos h, if_pos h]
  · rw [if_neg h, if_neg h]
    have e : (D ++ [x]).getD d.toNat [] = D.getD d.toNat [] := by rw [List.getD_eq_getElem?_getD, List.getD_eq_getElem?_getD, List.getElem?_append_left (by omega)]
    rw [e]
theorem tab_add {la lb : List Int} {D : List (List Int)} {x : List Int} (h : Tab la lb D) (hx : x.length = 2 * D.length + 1) (hg : ∀ (t : Nat) y, x[t]? = some y → Good la lb D.length ((t : Int) - D.length) y) : Tab la lb (D ++ [x]) := fun d off hd => by
  rw [List.length_append] at hd
  rcases Int.lt_or_le d D.length with h1 | h1
  · rw [atV_old D x d off h1]
    exact h d off h1
  · have hde : d = (D.length : Int) := by simp at hd; omega
    subst hde
    unfold atV
    by_cases h2 : (D.length : Int) < 0 ∨ off < -(D.length : Int) ∨ off > (D.length : Int)
    · rw [if_pos h2]
      exact good_out h2
    · rw [if_neg h2, Int.toNat_natCast, List.getD_eq_getElem?_getD (l := D ++ [x]), List.getElem?_append_right (Nat.le_refl _), Nat.sub_self]
      obtain ⟨t, ht⟩ : ∃ t : Nat, (D.length : Int) + off = t := ⟨((D.length : Int) + off).toNat, by omega⟩
      obtain ⟨y, hy⟩ : ∃ y, x[t]? = some y := ⟨_, List.getElem?_eq_getElem (by omega)⟩
      have := hg t y hy
      rw [ht, Int.toNat_natCast, List.getD_eq_getElem?_getD]
      show Good la lb D.length off (x[t]?.getD 0)
      rw [hy, show off = (t : Int) - D.length by omega]
      exact this
theorem heapc {w0 w : World} {M : Nat → Prop} {rs : List Res} {t : Nat} {ss ss' : Nat → Option (Array Value)} (S : St w0 M rs w) (k : Nat) (hk : rs[k]? = some (heapR t ss)) (h : ss = ss') : St w0 M (rs.set k (heapR t ss')) w := by
  subst h
  obtain ⟨h1, h2⟩ := List.getElem?_eq_some_iff.1 hk
  rw [← h2, List.set_getElem_self]
  exact S
end Go.Proofs.Ytbbmkgpgiacdeaa


/-
  The field: fill.
-/
namespace Go.Proofs.Ytbbmkgpgiacdeaa
open Go.RowKit Zk Zx
set_option linter.unusedVariables false
set_option linter.unusedSimpArgs false

theorem St_swap2 {w0 w : World} {M : Nat → Prop} {a b : Res} (S : St w0 M [a, b] w) : St w0 M [b, a] w :=
  ⟨S.os, S.tape, S.output, S.size, S.old, fun q hq => S.res q (by rcases List.mem_cons.1 hq with rfl | hq; exact List.mem_cons_of_mem _ (List.mem_singleton_self _); obtain rfl := List.mem_singleton.1 hq; exact List.mem_cons_self), by
    have h := S.apart
    rw [List.pairwise_cons] at h ⊢
    refine ⟨fun q hq i hi hx => ?_, List.pairwise_singleton _ _⟩
    obtain rfl := List.mem_singleton.1 hq
    exact h.1 _ (List.mem_singleton_self _) i hx hi⟩
theorem now_rs {t : Nat} {ss : Nat → Option (Array Value)} {w : World} (h : (heapR t ss).holds w) {b o n : Nat} {cur : Array Value} (hb : ss b = some cur) (ho : o + n ≤ cur.size) (hn : n ≤ 9223372036854775807) : Rs w 1 (some ⟨b, o, none⟩) n n ((cur.toList.drop o).take n) :=
  heapR_rs h hb (by rw [List.length_take, List.length_drop, Array.length_toList]; omega) (fun j u hu => by
    rw [List.getElem?_take] at hu
    split at hu
    · rw [List.getElem?_drop, Array.getElem?_toList] at hu; exact hu
    · cases hu) (Nat.le_refl _) hn
theorem pR_at (b o k size : Nat) : pR (some ⟨b, o, none⟩) k size = .pointer (some ⟨b, o + k * size, none⟩) := by
  unfold pR
  rw [Option.map_some, Addr.add_lit]
theorem fill_step {cur cur0 : Array Value} {fr j k : Nat} {xs : List Int} {v : Int} (hk : k = fr + j) (hxl : xs.length = j) (hb : k < cur.size) (h1 : ∀ i, i < fr → cur[i]? = cur0[i]?) (h2 : ∀ (t : Nat) y, xs[t]? = some y → cur[fr + t]? = some (Value.int .i64 y)) :
    (∀ i, i < fr → (cur.setIfInBounds k (.int .i64 v))[i]? = cur0[i]?) ∧ ∀ (t : Nat) y, (xs ++ [v])[t]? = some y → (cur.setIfInBounds k (.int .i64 v))[fr + t]? = some (Value.int .i64 y) := by
  subst hk
  refine ⟨fun i hi => ?_, fun t y hy => ?_⟩
  · rw [Array.getElem?_setIfInBounds_ne (by omega)]
    exact h1 i hi
  · rcases Nat.lt_or_ge t xs.length with ht | ht
    · rw [List.getElem?_append_left ht] at hy
      rw [Array.getElem?_setIfInBounds_ne (by omega)]
      exact h2 t y hy
    · rw [List.getElem?_append_right ht] at hy
      have h0 : t - xs.length = 0 := by have := (List.getElem?_eq_some_iff.1 hy).1; simp at this; omega
      rw [h0] at hy
      obtain rfl : v = y := by simpa using hy
      have e : t = j := by omega
      subst e
      rw [Array.getElem?_setIfInBounds_self_of_lt hb]
theorem good_step {la lb : List Int} {d j : Nat} {xs : List Int} {v : Int} (hxl : xs.length = j) (h : ∀ (t : Nat) y, xs[t]? = some y → Good la lb d ((t : Int) - d) y) (hv : Good la lb d ((j : Int) - d) v) : ∀ (t : Nat) y, (xs ++ [v])[t]? = some y → Good la lb d ((t : Int) - d) y := fun t y hy => by
  rcases Nat.lt_or_ge t xs.length with ht | ht
  · rw [List.getElem?_append_left ht] at hy
    exact h t y hy
  · rw [List.getElem?_append_right ht] at hy
    have h0 : t - xs.length = 0 := by have := (List.getElem?_eq_some_iff.1 hy).1; simp at this; omega
    rw [h0] at hy
    obtain rfl : v = y := by simpa using hy
    have e : t = j := by omega
    subst e
    exact hv


set_option maxRecDepth 100000 in
theorem ffill (g : Nat) (A : Option Addr) (n ca : Nat) (B : Option Addr) (m cb : Nat) (la lb : List Int) (w0 : World) (hw : Blk w0 g 107 #[.slice A n ca, .slice B m cb, .slice none 0 0, .slice none 0 0]) (hA1 : Rs w0 1 A n ca (iL la)) (hB1 : Rs w0 1 B m cb (iL lb)) (hAg : ∀ ad, 0 < n → A = some ad → ¬ ad.block = g) (hBg : ∀ ad, 0 < m → B = some ad → ¬ ad.block = g) (hn : n ≤ 4096) (hm : m ≤ 4096) :
    Calls Try.prog 77 #[.pointer (some ⟨g, 0, none⟩)] w0 fun e w' => ∃ u, e = .returned u ∧ ∃ X, Turned w0 w' (blk g 107 #[.slice A n ca, .slice B m cb, .slice none 0 0, .slice none 0 0]) (blk g 107 X) ∧ u = .int .i64 (rR la lb 0 0 : Int) ∧ ∃ D, FR w' g A n ca B m cb la lb D ∧ D.length = rR la lb 0 0 + 1 ∧ Tab la lb D := by
  refine enter1 (env := [(0, .pointer (some ⟨g, 0, none⟩))]) [.pointer (some ⟨g, 0, none⟩)] Try.func77 rfl Try.ntmps77 rfl rfl ?_
  have hla := lenI hA1; have hlb := lenI hB1; have hrf := rR_facts la lb 0 0; have S0 := St.borrow1 (blk g 107 #[.slice A n ca, .slice B m cb, .slice none 0 0, .slice none 0 0]) hw (fun i hi => by (have hi2 : i = g := hi); subst hi2; exact hw.lt)
  refine T_seq fun K1 hK1 => ?_
  refine T_region ?_
  refine L_y (y_assign rfl) rfl ?_
  refine L_nil ?_
  refine hK1 _ _ ?_
  refine T_seq fun K2 hK2 => ?_
  refine T_drawnL [(0, true), (1, true), (2, true), (3, true), (4, true), (5, true), (6, true), (7, true), (8, true), (9, true), (10, true), (11, true)] hmix (by kernel_rfl) fun w1 l1 => ?_
  have S1 := S0.like l1
  refine DL_y rfl (y_move rfl) rfl ?_
  refine DL_y rfl (y_nilp rfl) rfl ?_
  refine DL_y rfl (y_fieldA 0 Try.underlying107 rfl sz22 rfl rfl rfl) rfl ?_
  refine DL_y rfl (y_ldc Try.underlying22 rfl rfl (((S1.blk 0 rfl).cell _).trans (by rfl))) rfl ?_
  refine DL_y rfl (y_len Try.underlying22 rfl) rfl ?_
  refine DL_y rfl (y_move rfl) rfl ?_
  refine DL_y rfl (y_nilp rfl) rfl ?_
  refine DL_y rfl (y_fieldA 1 Try.underlying107 rfl sz22 rfl rfl rfl) rfl ?_
  refine DL_y rfl (y_ldc Try.underlying22 rfl rfl (((S1.blk 0 rfl).cell _).trans (by rfl))) rfl ?_
  refine DL_y rfl (y_len Try.underlying22 rfl) rfl ?_
  refine DL_y rfl (y_assign rfl) rfl ?_
  refine DL_y rfl (y_assign rfl) rfl ?_
  refine DL_nil ?_
  refine hK2 _ _ ?_
  refine T_seq fun K3 hK3 => ?_
  refine T_region ?_
  refine L_y (y_move rfl) rfl ?_
  refine L_y (y_move rfl) rfl ?_
  refine L_y (y_sub rfl rfl (i64w (by omega))) rfl ?_
  refine L_y (y_assign rfl) rfl ?_
  refine L_nil ?_
  refine hK3 _ _ ?_
  refine T_seq fun K4 hK4 => ?_
  refine T_region ?_
  refine L_y (y_assign rfl) rfl ?_
  refine L_nil ?_
  refine hK4 _ _ ?_
  refine T_block ?_
  refine T_loop9 [(0, _), (5, _)] (fun (d : Nat) (R : Option Addr) (cr : Nat) (vs : List Value) (SA : Option Addr) (ns : Nat) (cs : Nat) (ss : Nat → Option (Array Value)) (D : List (List Int)) => [(0, .pointer (some ⟨g, 0, none⟩)), (5, .int .i64 ((n : Int) - m)), (6, .int .i64 (d : Int))]) (fun (d : Nat) (R : Option Addr) (cr : Nat) (vs : List Value) (SA : Option Addr) (ns : Nat) (cs : Nat) (ss : Nat → Option (Array Value)) (D : List (List Int)) => rR la lb 0 0 + 1 - d) (fun (d : Nat) (R : Option Addr) (cr : Nat) (vs : List Value) (SA : Option Addr) (ns : Nat) (cs : Nat) (ss : Nat → Option (Array Value)) (D : List (List Int)) (w : World) => (d ≤ rR la lb 0 0 ∧ D.length = d ∧ vs.length = d ∧ Room ss SA ns cs ∧ RowsOk ss SA ns D vs ∧ Tab la lb D ∧ ns ≤ d * 1048576) ∧ St w0 (blk g 107 #[.slice A n ca, .slice B m cb, .slice none 0 0, .slice none 0 0]).dom [row 22 1 R d cr vs, blk g 107 #[.slice A n ca, .slice B m cb, .slice R d cr, .slice SA ns cs], heapR 3 ss] w) 0 none 0 [] none 0 0 (fun _ => none) [] (Sub.cons rfl (by first | rfl | exact congrArg (Value.int _) (by omega)) (Sub.cons rfl (by first | rfl | exact congrArg (Value.int _) (by omega)) (Sub.cons rfl (by first | rfl | exact congrArg (Value.int _) (by omega)) (Sub.nil _)))) (Sub.cons rfl rfl (Sub.cons rfl rfl (Sub.nil _))) ?_ ?_
  ·
    have S52 := St_swap2 (S1.nilrow 22 1)
    have S53 := S52.new (Like.refl _) (heapR 3 fun _ => none) (heapR_none _ _) (fun i hi => by cases hi)
    exact ⟨⟨Nat.zero_le _, rfl, rfl, .inl ⟨rfl, rfl, rfl⟩, (fun d x hx => by cases hx), tab_nil la lb, Nat.zero_le _⟩, S53⟩
  ·
    intro d R cr vs SA ns cs ss D w2 hrel
    obtain ⟨⟨hd, hDd, hvd, hroom, hrow, htab, hns⟩, S2⟩ := hrel
    refine T_seq fun K5 hK5 => ?_
    refine T_block ?_
    refine T_seq fun K6 hK6 => ?_
    have S60 := St.sepj (rs := [_]) S2
    refine T_region ?_
    refine L_y (y_move rfl) rfl ?_
    refine L_y (y_move rfl) rfl ?_
    refine L_y (y_mul rfl rfl (i64w (by omega))) rfl ?_
    refine L_y (y_add rfl rfl (i64w (by omega))) rfl ?_
    refine L_o (o_call Try.func85 rfl rfl (frow g _ _ _ SA ns cs ss (2 * d + 1) _ w2 (by omega) (S60.get 1 rfl) (S60.lt 1 rfl) hroom (by omega) (by omega) (by omega)) rfl rfl ?_)
    rintro e3 w3 ⟨v3, rfl, st, fr, cs2, cur0, rfl, T3, hcs, hfit, hcmx, hcase⟩
    refine ⟨_, rfl, ?_⟩
    have S3 := S60.turn 1 rfl T3
    have S62 := St.seps (rs := [_]) S3
    refine L_y (y_assign rfl) rfl ?_
    refine L_nil ?_
    refine hK6 _ _ ?_
    refine T_seq fun K7 hK7 => ?_
    refine T_seq fun K8 hK8 => ?_
    refine T_region ?_
    refine L_y (y_move rfl) rfl ?_
    refine L_y (y_neg rfl (i64w (by omega))) rfl ?_
    refine L_y (y_assign rfl) rfl ?_
    refine L_nil ?_
    refine hK8 _ _ ?_
    refine T_block ?_
    refine T_loop3 [(0, _), (5, _), (6, _), (7, _)] (fun (j : Nat) (cur : Array Value) (xs : List Int) => [(0, .pointer (some ⟨g, 0, none⟩)), (5, .int .i64 ((n : Int) - m)), (6, .int .i64 (d : Int)), (7, .slice (some ⟨st, fr, none⟩) (2 * d + 1) (2 * d + 1)), (8, .int .i64 ((j : Int) - d))]) (fun (j : Nat) (cur : Array Value) (xs : List Int) => 2 * d + 1 - j) (fun (j : Nat) (cur : Array Value) (xs : List Int) (w : World) => (j ≤ 2 * d + 1 ∧ xs.length = j ∧ cur.size = cs2 ∧ (∀ i, i < fr → cur[i]? = cur0[i]?) ∧ (∀ (t : Nat) y, xs[t]? = some y → cur[fr + t]? = some (Value.int .i64 y)) ∧ ∀ (t : Nat) y, xs[t]? = some y → Good la lb d ((t : Int) - d) y) ∧ St w0 (blk g 107 #[.slice A n ca, .slice B m cb, .slice none 0 0, .slice none 0 0]).dom [row 22 1 R d cr vs, blk g 107 #[.slice A n ca, .slice B m cb, .slice R d cr, .slice (some ⟨st, 0, none⟩) (fr + (2 * d + 1)) cs2], heapR 3 (Zx.upd ss st cur)] w) 0 cur0 [] (Sub.cons rfl (by first | rfl | exact congrArg (Value.int _) (by omega)) (Sub.cons rfl (by first | rfl | exact congrArg (Value.int _) (by omega)) (Sub.cons rfl (by first | rfl | exact congrArg (Value.int _) (by omega)) (Sub.cons rfl (by first | rfl | exact congrArg (Value.int _) (by omega)) (Sub.cons rfl (by first | rfl | exact congrArg (Value.int _) (by omega)) (Sub.nil _)))))) (Sub.cons rfl rfl (Sub.cons rfl rfl (Sub.cons rfl rfl (Sub.cons rfl rfl (Sub.nil _))))) ?_ ?_
    ·
      exact ⟨⟨Nat.zero_le _, rfl, hcs, fun i hi => rfl, (fun t y hy => by cases hy), (fun t y hy => by cases hy)⟩, S62⟩
    ·
      intro j cur xs w4 hrel
      obtain ⟨⟨hj, hxl, hcsz, hpre, hcell, hgood⟩, S4⟩ := hrel
      refine T_seq fun K9 hK9 => ?_
      refine T_seq fun K10 hK10 => ?_
      refine T_region ?_
      refine L_y (y_move rfl) rfl ?_
      refine L_y (y_move rfl) rfl ?_
      refine L_y (y_leq rfl rfl) rfl ?_
      refine L_nil ?_
      refine hK10 _ _ ?_
      refine T_cond rfl (fun h33 => ?_) (fun h33 => ?_)
      ·
        have hrow2 : RowsOk (Zx.upd ss st cur) SA ns D vs := hrow.upd fun c hc => by rcases hcase with ⟨q1, q2, q3⟩ | ⟨q1, q2⟩; (rw [q3] at hc; cases hc; exact ⟨q1, fun i hi => hpre i (by omega)⟩); (rw [q2] at hc; cases hc)
        refine T_skip ?_
        refine hK9 _ _ ?_
        refine T_seq fun K11 hK11 => ?_
        refine T_block ?_
        refine T_region ?_
        refine L_y (y_move rfl) rfl ?_
        refine L_y (y_move rfl) rfl ?_
        refine L_y (y_move rfl) rfl ?_
        refine L_y (y_add rfl rfl (i64w (by omega))) rfl ?_
        refine L_y (y_move rfl) rfl ?_
        refine L_y (y_move rfl) rfl ?_
        refine L_y (y_move rfl) rfl ?_
        refine L_y (y_move rfl) rfl ?_
        refine L_o (o_call Try.func86 rfl rfl (fbest g A n ca B m cb la lb D (d : Int) ((j : Int) - d) ((n : Int) - m) w4 (FR.of S4 (S4.rdM hA1 hAg) (S4.rdM hB1 hBg) hDd.symm hrow2 (by omega)) (by omega) (by omega) (by omega) (by omega) (by omega) (by omega) (by omega) rfl htab) rfl rfl ?_)
        rintro e5 w5 ⟨v5, rfl, l5, v, rfl, hgv⟩
        refine ⟨_, rfl, ?_⟩
        have S5 := S4.like l5
        refine L_y (y_idx Try.underlying22 sz3 rfl rfl (now_rs (S5.get 2 rfl) (upd_same _ _ _) (by omega) (by omega)) (Nt.mk (by omega) : Nt _ (j)) (by omega)) rfl ?_
        refine L_o (o_stH (o := fr + j * 1) S5 2 rfl (upd_same _ _ _) (congrArg some (pR_at st fr j 1)) rfl rfl sz3 (by rw [hcsz]; omega) fun w6 S6 => ?_)
        refine L_nil ?_
        refine hK11 _ _ ?_
        refine T_region ?_
        refine L_y (y_move rfl) rfl ?_
        refine L_y (y_add rfl rfl (i64w (by omega))) rfl ?_
        refine L_y (y_assign rfl) rfl ?_
        refine L_nil ?_
        have S91 := heapc S6 2 rfl (upd_upd _ _ _ _)
        have hst := fill_step (v := v) (k := fr + j * 1) (by omega) hxl (by omega) hpre hcell
        refine ⟨j + 1, _, xs ++ [v], by omega, ⟨⟨by omega, by rw [List.length_append]; simp only [List.length_cons, List.length_nil]; omega, by rw [Array.size_setIfInBounds]; exact hcsz, hst.1, hst.2, good_step hxl hgood hgv⟩, S91⟩, ?_⟩
        exact (Sub.cons rfl (by first | rfl | exact congrArg (Value.int _) (by omega)) (Sub.cons rfl (by first | rfl | exact congrArg (Value.int _) (by omega)) (Sub.cons rfl (by first | rfl | exact congrArg (Value.int _) (by omega)) (Sub.cons rfl (by first | rfl | exact congrArg (Value.int _) (by omega)) (Sub.cons rfl (by first | rfl | exact congrArg (Value.int _) (by omega)) (Sub.cons rfl rfl (Sub.cons rfl rfl (Sub.cons rfl rfl (Sub.cons rfl rfl (Sub.nil _))))))))))
      ·
        refine T_exit ?_
        refine hK7 _ _ ?_
        refine T_seq fun K12 hK12 => ?_
        refine T_region ?_
        refine L_y (y_move rfl) rfl ?_
        refine L_y (y_move rfl) rfl ?_
        refine L_y (y_nilp rfl) rfl ?_
        refine L_y (y_fieldA 2 Try.underlying107 rfl sz84 rfl rfl rfl) rfl ?_
        refine L_y (y_ldc Try.underlying84 rfl rfl (((S4.blk 1 rfl).cell _).trans (by rfl))) rfl ?_
        refine L_y (y_move rfl) rfl ?_
        refine L_o (o_bsl [_] te84 zz22 S4 rfl rfl rfl rfl rfl rfl rfl rfl fun b7 w7 S7 => ?_)
        refine L_o (o_app te84 S7 0 rfl rfl rfl (by first | exact S7.row 0 rfl | exact S7.row 3 rfl) (by first | exact bL_one _ | exact iL_one _ | (intro u hu; simp at hu; subst hu; rfl) | (simp; done) | (simp [Value.oneCell']; done)) rfl (by omega) (by omega) fun A8 c8 w8 S8 => ?_)
        have S8d := S8.drop (rs' := [_, _, _]) (.cons_cons _ (.cons_cons _ (.cons_cons _ (.cons _ (.refl _)))))
        refine L_y (y_nilp rfl) rfl ?_
        refine L_y (y_fieldA 2 Try.underlying107 rfl sz84 rfl rfl rfl) rfl ?_
        refine L_o (o_st1 S8d 1 rfl rfl rfl rfl sz84 (by simp; done) fun w9 S9 => ?_)
        refine L_nil ?_
        refine hK12 _ _ ?_
        refine T_seq fun K13 hK13 => ?_
        have S70 := S9.blkc 1 rfl (cs' := #[.slice A n ca, .slice B m cb, .slice A8 (d + 1) c8, .slice (some ⟨st, 0, none⟩) (fr + (2 * d + 1)) cs2]) rfl
        have hje : j = 2 * d + 1 := by omega
        have hrow3 := hrow.add (x := xs) (by omega) (by omega) hcase hpre hcell (k := 2 * d + 1) (by omega)
        have htab3 := tab_add htab (x := xs) (by omega) (by rw [hDd]; exact hgood)
        have hDl : (D ++ [xs]).length = d + 1 := by rw [List.length_append, hDd]; rfl
        have hfr3 := FR.of S70 (S70.rdM hA1 hAg) (S70.rdM hB1 hBg) hDl.symm hrow3 (by omega)
        have hgz := good_zero (la := la) (lb := lb) (d := (d : Int)) (v := atV (D ++ [xs]) d (0 - ((n : Int) - m))) (by rw [hla, hlb, ← Int.zero_sub]; exact htab3 d _ (by omega))
        refine T_region ?_
        refine L_y (y_move rfl) rfl ?_
        refine L_y (y_move rfl) rfl ?_
        refine L_y (y_move rfl) rfl ?_
        refine L_y (y_neg rfl (i64w (by omega))) rfl ?_
        refine L_o (o_call Try.func87 rfl rfl (fat g A n ca B m cb la lb (D ++ [xs]) (d : Int) (0 - ((n : Int) - m)) w9 hfr3 (by omega) (by omega) (by omega) (by omega)) rfl rfl ?_)
        rintro e10 w10 ⟨v10, rfl, l10, rfl⟩
        refine ⟨_, rfl, ?_⟩
        have S10 := S70.like l10
        refine L_y (y_eql rfl rfl) rfl ?_
        refine L_nil ?_
        refine hK13 _ _ ?_
        refine T_cond rfl (fun h61 => ?_) (fun h61 => ?_)
        ·
          have hle := hgz.1 h61
          have hde : d = rR la lb 0 0 := by omega
          refine T_seq fun K14 hK14 => ?_
          refine T_region ?_
          refine L_y (y_move rfl) rfl ?_
          refine L_y (y_assign rfl) rfl ?_
          refine L_nil ?_
          refine hK14 _ _ ?_
          refine T_ret ?_
          repeat (first | with_reducible refine up_then ?_ | with_reducible refine up_in ?_)
          refine ret1 rfl rfl ?_
          exact ⟨_, rfl, _, S10.turned1 1 rfl, by rw [hde], D ++ [xs], FR.of S10 (S10.rdM hA1 hAg) (S10.rdM hB1 hBg) hDl.symm hrow3 (by omega), by omega, htab3⟩
        ·
          have hne : ¬ ((d : Int) = rR la lb 0 0) := fun h => h61 (hgz.2 h)
          refine T_skip ?_
          refine hK5 _ _ ?_
          refine T_region ?_
          refine L_y (y_move rfl) rfl ?_
          refine L_y (y_add rfl rfl (i64w (by omega))) rfl ?_
          refine L_y (y_assign rfl) rfl ?_
          refine L_nil ?_
          refine ⟨d + 1, A8, c8, _, _, _, _, _, D ++ [xs], by omega, ⟨⟨by omega, hDl, by rw [List.length_append, hvd]; rfl, .inr ⟨st, cur, rfl, upd_same _ _ _, hcsz, by omega, by omega⟩, hrow3, htab3, by omega⟩, S10⟩, ?_⟩
          exact (Sub.cons rfl (by first | rfl | exact congrArg (Value.int _) (by omega)) (Sub.cons rfl (by first | rfl | exact congrArg (Value.int _) (by omega)) (Sub.cons rfl (by first | rfl | exact congrArg (Value.int _) (by omega)) (Sub.cons rfl rfl (Sub.cons rfl rfl (Sub.nil _))))))
end Go.Proofs.Ytbbmkgpgiacdeaa


/-
  The program: start, Diff, Distance.
-/
namespace Go.Proofs.Ytbbmkgpgiacdeaa
open Go.RowKit Zk Zx
set_option linter.unusedVariables false
set_option linter.unusedSimpArgs false

set_option maxRecDepth 100000 in
theorem fstart (A B : Option Addr) (n ca m cb : Nat) (la lb : List Int) (w0 : World) (ha : Rs w0 1 A n ca (iL la)) (hb : Rs w0 1 B m cb (iL lb)) (hn : n ≤ 800) (hm : m ≤ 800) :
    Calls Try.prog 64 #[.slice A n ca, .slice B m cb] w0 fun e w' => ∃ u, e = .returned u ∧ Like w0 w' ∧ ∃ g D, u = .tuple #[.pointer (some ⟨g, 0, none⟩), .int .i64 (rR la lb 0 0 : Int), .int .i64 0] ∧ FR w' g A n ca B m cb la lb D ∧ D.length = rR la lb 0 0 + 1 ∧ Tab la lb D := by
  refine enter1 (env := [(0, .slice A n ca), (1, .slice B m cb)]) [.slice A n ca, .slice B m cb] Try.func64 rfl Try.ntmps64 rfl rfl ?_
  have hrf := rR_facts la lb 0 0; have hla := lenI ha; have hlb := lenI hb; have S0 := St.start w0 noM
  refine T_seq fun K1 hK1 => ?_
  refine T_region ?_
  refine L_y (y_assign rfl) rfl ?_
  refine L_y (y_assign rfl) rfl ?_
  refine L_y (y_assign rfl) rfl ?_
  refine L_nil ?_
  refine hK1 _ _ ?_
  refine T_seq fun K2 hK2 => ?_
  refine T_seq fun K3 hK3 => ?_
  refine T_region ?_
  refine L_y (y_move rfl) rfl ?_
  refine L_y (y_len Try.underlying22 rfl) rfl ?_
  refine L_y (y_gtr rfl rfl) rfl ?_
  refine L_y (y_move rfl) rfl ?_
  refine L_split 11 rfl (fun h11 => ?_) (fun h11 => ?_)
  ·
    exact absurd h11 (by omega)
  ·
    refine L_gyes rfl rfl ?_
    refine L_y (y_move rfl) rfl ?_
    refine L_gyes rfl rfl ?_
    refine L_y (y_len Try.underlying22 rfl) rfl ?_
    refine L_gyes rfl rfl ?_
    refine L_y (y_gtr rfl rfl) rfl ?_
    refine L_y ((by first | exact y_pickT rfl rfl | exact y_pickF rfl rfl)) rfl ?_
    refine L_nil ?_
    refine hK3 _ _ ?_
    refine T_cond rfl (fun h15 => ?_) (fun h15 => ?_)
    ·
      exact absurd h15 (by omega)
    ·
      refine T_skip ?_
      refine hK2 _ _ ?_
      refine T_seq fun K4 hK4 => ?_
      refine T_region ?_
      refine L_y (y_move rfl) rfl ?_
      refine L_y (y_move rfl) rfl ?_
      refine L_y (y_build rfl (show _ = some #[Value.slice A n ca, .slice B m cb, .slice none 0 0, .slice none 0 0] by kernel_rfl)) rfl ?_
      refine L_o (o_box rfl S0 rfl fun b2 w2 hb2 S2 => ?_)
      refine L_y (y_assign rfl) rfl ?_
      refine L_nil ?_
      refine hK4 _ _ ?_
      refine T_seq fun K5 hK5 => ?_
      refine T_region ?_
      refine L_y (y_move rfl) rfl ?_
      refine L_y (y_move rfl) rfl ?_
      refine L_o (o_call Try.func77 rfl rfl (ffill _ A n ca B m cb la lb w2 (S2.blk 0 rfl) (S2.rd ha) (S2.rd hb) (fun ad h0 hA e => absurd (old_block ha h0 hA) (by omega)) (fun ad h0 hA e => absurd (old_block hb h0 hA) (by omega)) (by omega) (by omega)) rfl rfl ?_)
      rintro e3 w3 ⟨v3, rfl, X, T3, rfl, D, hfr, hDl, htab⟩
      refine ⟨_, rfl, ?_⟩
      have S3 := S2.turn 0 rfl T3
      refine L_y (y_assign rfl) rfl ?_
      refine L_y (y_assign rfl) rfl ?_
      refine L_y (y_assign rfl) rfl ?_
      refine L_nil ?_
      refine hK5 _ _ ?_
      refine T_ret ?_
      repeat (first | with_reducible refine up_then ?_ | with_reducible refine up_in ?_)
      refine ret3 rfl rfl rfl rfl ?_
      exact ⟨_, rfl, S3.like0, _, D, rfl, hfr, hDl, htab⟩


set_option maxRecDepth 100000 in
theorem fdiff (A B : Option Addr) (n ca m cb : Nat) (la lb : List Int) (w0 : World) (ha : Rs w0 1 A n ca (iL la)) (hb : Rs w0 1 B m cb (iL lb)) (hn : n ≤ 800) (hm : m ≤ 800) :
    Calls Try.prog 53 #[.slice A n ca, .slice B m cb] w0 fun e w' => ∃ u, e = .returned u ∧ Like w0 w' ∧ ∃ A m c, u = .tuple #[.slice A m c, .int .i64 0] ∧ w'.ownsRow w0.heap.size 34 2 (.slice A m c) m ((keepT la lb 0 0).flatMap pf) := by
  refine enter1 (env := [(0, .slice A n ca), (1, .slice B m cb)]) [.slice A n ca, .slice B m cb] Try.func53 rfl Try.ntmps53 rfl rfl ?_
  have hrf := rR_facts la lb 0 0; have hla := lenI ha; have hlb := lenI hb; have S0 := St.start w0 noM
  refine T_seq fun K1 hK1 => ?_
  refine T_region ?_
  refine L_y (y_assign rfl) rfl ?_
  refine L_y (y_assign rfl) rfl ?_
  refine L_nil ?_
  refine hK1 _ _ ?_
  refine T_seq fun K2 hK2 => ?_
  refine T_region ?_
  refine L_y (y_move rfl) rfl ?_
  refine L_y (y_move rfl) rfl ?_
  refine L_o (o_call Try.func64 rfl rfl (fstart A B n ca m cb la lb w0 (S0.rd ha) (S0.rd hb) hn hm) rfl rfl ?_)
  rintro e1 w1 ⟨v1, rfl, l1, g, D, rfl, hfr, hDl, htab⟩
  refine ⟨_, rfl, ?_⟩
  have S1 := S0.like l1
  refine L_y (y_move rfl) rfl ?_
  refine L_y (y_extract rfl rfl) rfl ?_
  refine L_y (y_extract rfl rfl) rfl ?_
  refine L_y (y_extract rfl rfl) rfl ?_
  refine L_y (y_assign rfl) rfl ?_
  refine L_y (y_assign rfl) rfl ?_
  refine L_y (y_assign rfl) rfl ?_
  refine L_nil ?_
  refine hK2 _ _ ?_
  refine T_seq fun K3 hK3 => ?_
  refine T_seq fun K4 hK4 => ?_
  refine T_region ?_
  refine L_y (y_move rfl) rfl ?_
  refine L_y (y_neq rfl rfl) rfl ?_
  refine L_nil ?_
  refine hK4 _ _ ?_
  refine T_false rfl ?_
  refine T_skip ?_
  refine hK3 _ _ ?_
  refine T_seq fun K5 hK5 => ?_
  refine T_region ?_
  refine L_y (y_move rfl) rfl ?_
  refine L_y (y_move rfl) rfl ?_
  refine L_o (o_call Try.func65 rfl rfl (fway g A n ca B m cb la lb D (rR la lb 0 0) w1 hfr (by omega) (by omega) (by omega) rfl hDl htab) rfl rfl ?_)
  rintro e2 w2 ⟨v2, rfl, l2, AR, mR, cR, rfl, O2⟩
  refine ⟨_, rfl, ?_⟩
  have S2 := S1.adopt l2 O2
  refine L_y (y_assign rfl) rfl ?_
  refine L_y (y_assign rfl) rfl ?_
  refine L_nil ?_
  refine hK5 _ _ ?_
  refine T_ret ?_
  repeat (first | with_reducible refine up_then ?_ | with_reducible refine up_in ?_)
  refine ret2 rfl rfl rfl ?_
  exact ⟨_, rfl, S2.like0, AR, mR, cR, rfl, S2.own 0 rfl⟩


end Go.Proofs.Ytbbmkgpgiacdeaa


/-
  The document: Rests.
-/
namespace Go.Proofs.Ytbbmkgpgiacdeaa
open Go.RowKit Zk Zx
set_option linter.unusedVariables false
set_option linter.unusedSimpArgs false

/-- A row of the document's table. -/
def rowV (la lb : List Int) (i : Nat) : List Value := (List.range (lb.length + 1)).map fun k => Value.int .i64 (rR la lb i k : Int)
def RestOk (la lb : List Int) (ss : Nat → Option (Array Value)) (vs : List Value) (i1 : Nat) : Prop :=
  ∀ j, i1 ≤ j → j ≤ la.length → ∃ b cur, vs[j]? = some (.slice (some ⟨b, 0, none⟩) (lb.length + 1) (lb.length + 1)) ∧ ss b = some cur ∧ cur.toList = rowV la lb j
theorem RestOk.add {la lb : List Int} {ss : Nat → Option (Array Value)} {vs : List Value} {i b : Nat} {cur : Array Value} (h : RestOk la lb ss vs (i + 1)) (hno : ss b = none) (hc : cur.toList = rowV la lb i) (hi : i < vs.length) :
    RestOk la lb (Zx.upd ss b cur) (vs.set i (.slice (some ⟨b, 0, none⟩) (lb.length + 1) (lb.length + 1))) i := fun j h1 h2 => by
  rcases Nat.lt_or_ge i j with h3 | h3
  · obtain ⟨b', cur', a1, a2, a3⟩ := h j (by omega) h2
    refine ⟨b', cur', by rw [List.getElem?_set_ne (by omega)]; exact a1, ?_, a3⟩
    rw [upd_ne (fun e => by subst e; rw [hno] at a2; cases a2)]
    exact a2
  · have e : j = i := by omega
    subst e
    exact ⟨b, cur, by rw [List.getElem?_set_self hi], upd_same _ _ _, hc⟩
/-- The document's table, read. -/
def RT (w : World) (la lb : List Int) (R : Option Addr) (c : Nat) : Prop :=
  ∃ vs, Rs w 1 R (la.length + 1) c vs ∧ ∀ j, j ≤ la.length → ∃ ad, vs[j]? = some (.slice ad (lb.length + 1) (lb.length + 1)) ∧ Rs w 1 ad (lb.length + 1) (lb.length + 1) (rowV la lb j)
theorem RT.like {w w' : World} {la lb : List Int} {R : Option Addr} {c : Nat} (h : RT w la lb R c) (l : Like w w') : RT w' la lb R c := by
  obtain ⟨vs, h1, h2⟩ := h
  exact ⟨vs, h1.like l, fun j hj => by obtain ⟨ad, a1, a2⟩ := h2 j hj; exact ⟨ad, a1, a2.like l⟩⟩
end Go.Proofs.Ytbbmkgpgiacdeaa


/-
  The document: Distance, Diff.
-/
namespace Go.Proofs.Ytbbmkgpgiacdeaa
open Go.RowKit Zk Zx
set_option linter.unusedVariables false
set_option linter.unusedSimpArgs false

end Go.Proofs.Ytbbmkgpgiacdeaa


/-
  '==' on structs of ints. General; nothing here names a program.
-/
namespace Go.Proofs.Ytbbmkgpgiacdeaa.Zx
open Go.RowKit Zk
set_option linter.unusedVariables false
set_option linter.unusedSimpArgs false
/-- Fields that are ints, one behind the other. -/
def FieldsI (P : Program) : List Field → Nat → Prop
  | [], _ => True
  | f :: fs, o => f.name ≠ "_" ∧ f.offset = o ∧ (P.underlying f.type = some (.int .i64)) ∧ FieldsI P fs (o + 1)
section
variable {P : Program}
theorem run_part_int {t : TypeId} {k : IntKind} (ht : P.underlying t = some (.int k)) {cs : Array Value} {o : Nat} {v : Value} (hv : cs[o]? = some v) (w : World) : (part t cs o).run P w = .ok v w := by
  have h : (isAgg t).run P w = .ok false w := by
    unfold isAgg
    rw [Sem.run_bind, run_underlying ht w]
    rfl
  unfold part
  rw [Sem.run_bind, h]
  simp only [Result.andThen_ok, Bool.false_eq_true, if_false, hv, Sem.run_pure]
theorem run_eqFields_ints (d : Nat) (xs ys : List Int) (w : World) : ∀ (fs : List Field) (o : Nat), FieldsI P fs o → xs.length = o + fs.length → ys.length = o + fs.length →
    (Op.eqFields (d + 1) (iL xs).toArray (iL ys).toArray fs).run P w = .ok (decide (xs.drop o = ys.drop o)) w
  | [], o, _, h1, h2 => by
    rw [List.drop_eq_nil_of_le (by simp at h1; omega), List.drop_eq_nil_of_le (by simp at h2; omega)]
    rfl
  | f :: fs, o, ⟨a1, a2, a4, a3⟩, h1, h2 => by
    simp only [List.length_cons] at h1 h2
    have ex : xs[o]? = some xs[o] := List.getElem?_eq_getElem (by omega)
    have ey : ys[o]? = some ys[o] := List.getElem?_eq_getElem (by omega)
    have ih := run_eqFields_ints d xs ys w fs (o + 1) a3 (by omega) (by omega)
    have hx : ((iL xs).toArray)[o]? = some (.int .i64 xs[o]) := by rw [List.getElem?_toArray]; exact iL_get _ _ _ ex
    have hy : ((iL ys).toArray)[o]? = some (.int .i64 ys[o]) := by rw [List.getElem?_toArray]; exact iL_get _ _ _ ey
    rw [Op.eqFields, if_pos a1, a2, Sem.run_bind, run_part_int a4 hx, Result.andThen_ok, Sem.run_bind, run_part_int a4 hy, Result.andThen_ok, Sem.run_bind, run_equalIn_int w d _ _ _ _ _ a4, Result.andThen_ok]
    have dx : xs.drop o = xs[o] :: xs.drop (o + 1) := List.drop_eq_getElem_cons (by omega)
    have dy : ys.drop o = ys[o] :: ys.drop (o + 1) := List.drop_eq_getElem_cons (by omega)
    by_cases h : xs[o] = ys[o]
    · have hb : (xs[o] == ys[o]) = true := by simpa using h
      rw [hb]
      simp only [Bool.not_true, Bool.false_eq_true, if_false]
      rw [ih, dx, dy, h]
      exact congrArg (fun b => Result.ok b w) (decide_eq_decide.2 ⟨fun q => by rw [q], fun q => by injection q⟩)
    · have hb : (xs[o] == ys[o]) = false := by simpa using h
      rw [hb]
      simp only [Bool.not_false, if_true, Sem.run_pure]
      rw [dx, dy]
      exact congrArg (fun b => Result.ok b w) (decide_eq_false (fun q => h (by injection q))).symm
theorem run_eq_ints {t : TypeId} {fs : Array Field} (ht : P.underlying t = some (.struct fs)) (hp : P.stoodInHeld t = false) (hf : FieldsI P fs.toList 0) (xs ys : List Int) (hx : xs.length = fs.size) (hy : ys.length = fs.size) (w : World) :
    (Op.equalIn 10000 t (.agg (iL xs).toArray) (.agg (iL ys).toArray)).run P w = .ok (decide (xs = ys)) w := by
  have e : P.fieldsOf t = fs := by simp [Program.fieldsOf, ht]
  rw [run_equalIn_struct w 9999 t _ _ (by rw [e]; exact ht) hp, e]
  have := run_eqFields_ints 9998 xs ys w fs.toList 0 hf (by simp; omega) (by simp; omega)
  rw [List.drop_zero, List.drop_zero] at this
  exact this
variable {S : World → Prop} {env : Env} {dst : Option Tmp} {ty : TypeId} {pos : String} {after : Array Edge} {g : Option (Nat × Bool)}
theorem y_eqI {x y : Operand} {t u : TypeId} {fs : Array Field} {xs ys : List Int} (ht : P.underlying t = some (.struct fs)) (hp : P.stoodInHeld t = false) (hm : P.eqGuardType P.depth t = false) (hf : FieldsI P fs.toList 0) (hx : ev env x = some (.agg (iL xs).toArray)) (hy : ev env y = some (.agg (iL ys).toArray))
    (hl : xs.length = fs.size) (hml : ys.length = fs.size) : Y P S env ⟨dst, .binOp .eql t x y u, ty, pos, after, g⟩ (.bool (decide (xs = ys))) := fun N a w ha _ => by
  have h1 := run_eql_struct (P := P) w t (iL xs).toArray (iL ys).toArray
  rw [run_eq_ints ht hp hf xs ys hl hml w, Result.andThen_ok] at h1
  simp only [execOp, ha.eval hx, ha.eval hy, Sem.run_bind, eqGuard_run .eql x y _ _ hm w, Result.andThen_ok, h1, Sem.run_pure]
end
section
open Go.ChangeShapes Go.WideShapes Go.ChangeAt Go.Deep
variable {H : Type} {enc : TypeId × Value → H} {P : Program} {w : World} {base : Nat} {spare : Nat → Bool} {held : Bool}
theorem read_intsS {t e : TypeId} {k : IntKind} (ht : P.underlying t = some (.slice e)) (he : P.underlying e = some (.int k)) (hc : P.cellsOf e = 1)
    {fuel : Nat} {cs : List Value} {x : DataW H × List MemPlace} (h : DataW.trod enc P w base spare held fuel t cs = some x) :
    ∃ A n c, ∃ l : List Int, cs = [.slice A n c] ∧ Rs w 1 A n c (l.map (Value.int k)) := by
  obtain ⟨A, n, c, l, h1, h2, _⟩ := read_row1 (Value.int k) (fun _ => True) ht hc (fun n v x h => by
    obtain ⟨a, ha, _, hw⟩ := DataW.trod_int he h
    simp only [List.cons.injEq, and_true] at ha
    exact ⟨a, ha, trivial⟩) h
  exact ⟨A, n, c, l, h1, h2⟩
/-- A slice of ints. -/
theorem open_intsS {r : Reach} {b0 : Nat} {t e : TypeId} {v : Value} {d : DataW H} {p : List MemPlace} (ht : P.underlying t = some (.slice e)) (he : P.underlying e = some (.int .i64)) (hc : P.cellsOf e = 1)
    (hv : Value.okWide P w r b0 t v) (h : DataW.Trod enc P w base spare held t v d p) : ∃ A n c, ∃ l : List Int, v = .slice A n c ∧ Rs w 1 A n c (iL l) := by
  obtain ⟨fuel, hf⟩ := h
  obtain ⟨A, n, c, l, h1, h2⟩ := read_intsS ht he hc hf
  exact ⟨A, n, c, l, slice_of_cells ht hv h1, h2⟩
end
end Go.Proofs.Ytbbmkgpgiacdeaa.Zx


/-
  The laws MyersDiffs, MyersDistances.
-/
namespace Go.Proofs.Ytbbmkgpgiacdeaa
open Go.RowKit Zk Zx
set_option linter.unusedVariables false
set_option linter.unusedSimpArgs false

theorem pf_n {w : World} {A : Option Addr} {n c : Nat} {xs : List (Nat × Nat)} (h : Rs w 2 A n c (xs.flatMap pf)) : n = xs.length := by
  have := h.len
  rw [pf_len] at this
  omega
end Go.Proofs.Ytbbmkgpgiacdeaa


/-
  The document: Check, Common.
-/
namespace Go.Proofs.Ytbbmkgpgiacdeaa
open Go.RowKit Zk Zx
set_option linter.unusedVariables false
set_option linter.unusedSimpArgs false

end Go.Proofs.Ytbbmkgpgiacdeaa


/-
  Maps from ints to ints; slices of ints whose numbers are of their type.
-/
namespace Go.Proofs.Ytbbmkgpgiacdeaa.Zx
open Go.RowKit Zk Go.Maps
set_option linter.unusedVariables false
set_option linter.unusedSimpArgs false
section
variable {P : Program} {N : Nat} {Q : Post} {env : Env} {w w0 : World} {M : Nat → Prop} {rs : List Res} {K : Env → World → Prop} {d : Tmp} {dst : Option Tmp} {ty : TypeId} {pos : String} {after : Array Edge} {g : Option (Nat × Bool)}
/-- The map holds just this. -/
def IM (D : DU) (f : Int → Option Int) : Prop := IsMap D ∧ ∀ x, Maps.has D (.int .i64 x) = (f x).isSome ∧ D.atKey (.int .i64 x) (.lit (.int .i64 0)) = .lit (.int .i64 ((f x).getD 0))
theorem IM.nil : IM (.map []) fun _ => none := ⟨⟨[], rfl⟩, fun _ => ⟨rfl, rfl⟩⟩
theorem IM.put {D : DU} {f : Int → Option Int} (h : IM D f) (y v : Int) : IM (D.put (.int .i64 y) (.lit (.int .i64 v))) fun x => if x = y then some v else f x := by
  refine ⟨h.1.put _ _, fun x => ?_⟩
  dsimp only
  by_cases e : x = y
  · subst e
    rw [if_pos rfl, has_put_same h.1 (show WideAt.IsKeyLit (.int _ _) from trivial), atKey_put_same h.1 (show WideAt.IsKeyLit (.int _ _) from trivial)]
    exact ⟨rfl, rfl⟩
  · rw [if_neg e, has_put_other (fun q => e (by injection q)), atKey_put_other (fun q => e (by injection q))]
    exact h.2 x
end
section
open Go.ChangeShapes Go.WideShapes Go.ChangeAt Go.Deep
variable {H : Type} {enc : TypeId × Value → H} {P : Program} {w : World} {base : Nat} {spare : Nat → Bool} {held : Bool}
end
end Go.Proofs.Ytbbmkgpgiacdeaa.Zx


/-
  The program: lone.
-/
namespace Go.Proofs.Ytbbmkgpgiacdeaa
open Go.RowKit Zk Zx
set_option linter.unusedVariables false
set_option linter.unusedSimpArgs false

theorem tk {α : Type} {l : List α} {i : Nat} {x : α} (h : l[i]? = some x) : l.take (i + 1) = l.take i ++ [x] := by
  rw [List.take_add_one, h]
  rfl
end Go.Proofs.Ytbbmkgpgiacdeaa


/-
  Once, twice.
-/
namespace Go.Proofs.Ytbbmkgpgiacdeaa
open Go.RowKit Zk Zx
set_option linter.unusedVariables false
set_option linter.unusedSimpArgs false

theorem cnt_hit (l : List Int) (x : Int) : (l ++ [x]).count x = l.count x + 1 := by rw [List.count_append, List.count_singleton_self]
theorem cnt_miss (l : List Int) {x y : Int} (h : ¬ y = x) : (l ++ [y]).count x = l.count x := by
  rw [List.count_append, List.count_eq_zero.2 (show x ∉ [y] by simpa using fun e => h e.symm)]
  rfl


end Go.Proofs.Ytbbmkgpgiacdeaa


/-
  The two ends.
-/
namespace Go.Proofs.Ytbbmkgpgiacdeaa
open Go.RowKit Zk Zx
set_option linter.unusedVariables false
set_option linter.unusedSimpArgs false

set_option maxRecDepth 100000 in
theorem pends (A B : Option Addr) (n ca m cb : Nat) (la lb : List Int) (w0 : World) (ha : Rs w0 1 A n ca (iL la)) (hb : Rs w0 1 B m cb (iL lb)) :
    Calls Try.prog 52 #[.slice A n ca, .slice B m cb] w0 fun e w' => ∃ u, e = .returned u ∧ Like w0 w' ∧ u = .tuple #[.int .i64 (pre la lb : Int), .int .i64 (suf la lb : Int)] := by
  refine enter1 (env := [(0, .slice A n ca), (1, .slice B m cb)]) [.slice A n ca, .slice B m cb] Try.func52 rfl Try.ntmps52 rfl rfl ?_
  have hla := lenI ha; have hlb := lenI hb; have hcap := ha.cap; have hmax := ha.max; have hcap2 := hb.cap; have hmax2 := hb.max; have S0 := St.start w0 noM
  refine T_seq fun K1 hK1 => ?_
  refine T_region ?_
  refine L_y (y_assign rfl) rfl ?_
  refine L_y (y_assign rfl) rfl ?_
  refine L_nil ?_
  refine hK1 _ _ ?_
  refine T_seq fun K2 hK2 => ?_
  refine T_region ?_
  refine L_y (y_move rfl) rfl ?_
  refine L_y (y_len Try.underlying22 rfl) rfl ?_
  refine L_y (y_move rfl) rfl ?_
  refine L_y (y_len Try.underlying22 rfl) rfl ?_
  refine L_y (y_min rfl rfl) rfl ?_
  refine L_y (y_assign rfl) rfl ?_
  refine L_y (y_assign rfl) rfl ?_
  refine L_nil ?_
  refine hK2 _ _ ?_
  refine T_seq fun K3 hK3 => ?_
  refine T_block ?_
  refine T_loop1 [(0, _), (1, _), (7, _)] (fun (f : Nat) => [(6, .int .i64 (f : Int))]) (fun (f : Nat) => min n m - f) (fun (f : Nat) (w : World) => (f ≤ min n m ∧ ∀ k, k < f → ∃ x, la[k]? = some x ∧ lb[k]? = some x) ∧ St w0 noM [] w) 0 (Sub.cons rfl (by first | rfl | exact congrArg (Value.int _) (by omega)) (Sub.nil _)) (Sub.cons rfl rfl (Sub.cons rfl rfl (Sub.cons rfl rfl (Sub.nil _)))) ?_ ?_
  ·
    exact ⟨⟨Nat.zero_le _, fun k h => absurd h (by omega)⟩, S0⟩
  ·
    intro f w1 hrel
    obtain ⟨⟨hf, hfa⟩, S1⟩ := hrel
    refine T_seq fun K4 hK4 => ?_
    refine T_seq fun K5 hK5 => ?_
    refine T_drawnL [(0, true), (1, true), (2, true), (3, true), (4, true), (5, true), (6, true), (7, true), (8, true), (9, true), (10, true), (11, true), (12, true), (13, true)] hmix (by kernel_rfl) fun w2 l2 => ?_
    have S2 := S1.like l2
    refine DL_y rfl (y_move rfl) rfl ?_
    refine DL_y rfl (y_move rfl) rfl ?_
    refine DL_y rfl (y_lss rfl rfl) rfl ?_
    refine DL_y rfl (y_move rfl) rfl ?_
    refine DL_split 17 rfl (fun h17 => ?_) (fun h17 => ?_)
    ·
      obtain ⟨x, hx⟩ : ∃ x, la[f]? = some x := ⟨_, List.getElem?_eq_getElem (by omega)⟩
      obtain ⟨y, hy⟩ : ∃ y, lb[f]? = some y := ⟨_, List.getElem?_eq_getElem (by omega)⟩
      refine DL_gyes rfl rfl rfl (y_move rfl) rfl ?_
      refine DL_gyes rfl rfl rfl (y_move rfl) rfl ?_
      refine DL_gyes rfl rfl rfl (y_idx Try.underlying22 sz3 rfl rfl (S2.rd ha) (Nt.mk (by omega) : Nt _ (f)) (by omega)) rfl ?_
      refine DL_gyes rfl rfl rfl (y_ldr Try.underlying3 rfl rfl (S2.rd ha) (iL_get _ _ _ hx)) rfl ?_
      refine DL_gyes rfl rfl rfl (y_move rfl) rfl ?_
      refine DL_gyes rfl rfl rfl (y_move rfl) rfl ?_
      refine DL_gyes rfl rfl rfl (y_idx Try.underlying22 sz3 rfl rfl (S2.rd hb) (Nt.mk (by omega) : Nt _ (f)) (by omega)) rfl ?_
      refine DL_gyes rfl rfl rfl (y_ldr Try.underlying3 rfl rfl (S2.rd hb) (iL_get _ _ _ hy)) rfl ?_
      refine DL_gyes rfl rfl rfl (y_eql rfl rfl) rfl ?_
      refine DL_y rfl ((by first | exact y_pickT rfl rfl | exact y_pickF rfl rfl)) rfl ?_
      refine DL_nil ?_
      refine hK5 _ _ ?_
      refine T_cond rfl (fun h27 => ?_) (fun h27 => ?_)
      ·
        refine T_skip ?_
        refine hK4 _ _ ?_
        refine T_block ?_
        refine T_region ?_
        refine L_y (y_move rfl) rfl ?_
        refine L_y (y_add rfl rfl (i64w (by omega))) rfl ?_
        refine L_y (y_assign rfl) rfl ?_
        refine L_nil ?_
        refine ⟨f + 1, by omega, ⟨⟨by omega, fun k hk => by rcases Nat.lt_or_ge k f with h9 | h9; (exact hfa k h9); (have e9 : k = f := by omega); subst e9; exact ⟨x, hx, by rw [hy, h27]⟩⟩, S2⟩, ?_⟩
        exact (Sub.cons rfl (by first | rfl | exact congrArg (Value.int _) (by omega)) (Sub.cons rfl rfl (Sub.cons rfl rfl (Sub.cons rfl rfl (Sub.nil _)))))
      ·
        refine T_exit ?_
        refine hK3 _ _ ?_
        refine T_seq fun K6 hK6 => ?_
        have hpre : pre la lb = f := pre_of hfa (by first | exact .inl (by omega) | exact .inr (fun z hz1 hz2 => by rw [hx] at hz1; rw [hy] at hz2; exact h27 ((Option.some.inj hz1).trans (Option.some.inj hz2).symm)))
        refine T_region ?_
        refine L_y (y_assign rfl) rfl ?_
        refine L_nil ?_
        refine hK6 _ _ ?_
        refine T_seq fun K7 hK7 => ?_
        refine T_block ?_
        refine T_loop1 [(0, _), (1, _), (6, _), (7, _)] (fun (t : Nat) => [(8, .int .i64 (t : Int))]) (fun (t : Nat) => min n m - t) (fun (t : Nat) (w : World) => (t ≤ min n m - f ∧ ∀ k, k < t → ∃ x, la[la.length - 1 - k]? = some x ∧ lb[lb.length - 1 - k]? = some x) ∧ St w0 noM [] w) 0 (Sub.cons rfl (by first | rfl | exact congrArg (Value.int _) (by omega)) (Sub.nil _)) (Sub.cons rfl rfl (Sub.cons rfl rfl (Sub.cons rfl rfl (Sub.cons rfl rfl (Sub.nil _))))) ?_ ?_
        ·
          exact ⟨⟨Nat.zero_le _, fun k h => absurd h (by omega)⟩, S2⟩
        ·
          intro t w3 hrel
          obtain ⟨⟨ht, hta⟩, S3⟩ := hrel
          refine T_seq fun K8 hK8 => ?_
          refine T_seq fun K9 hK9 => ?_
          refine T_drawnL [(0, true), (1, true), (2, true), (3, true), (4, true), (5, true), (6, true), (7, true), (8, true), (9, true), (10, true), (11, true), (12, true), (13, true), (14, true), (15, true), (16, true), (17, true), (18, true), (19, true), (20, true), (21, true), (22, true), (23, true)] hmix (by kernel_rfl) fun w4 l4 => ?_
          have S4 := S3.like l4
          refine DL_y rfl (y_move rfl) rfl ?_
          refine DL_y rfl (y_move rfl) rfl ?_
          refine DL_y rfl (y_move rfl) rfl ?_
          refine DL_y rfl (y_sub rfl rfl (i64w (by omega))) rfl ?_
          refine DL_y rfl (y_lss rfl rfl) rfl ?_
          refine DL_y rfl (y_move rfl) rfl ?_
          refine DL_split 35 rfl (fun h35 => ?_) (fun h35 => ?_)
          ·
            obtain ⟨x2, hx2⟩ : ∃ x2, la[la.length - 1 - t]? = some x2 := ⟨_, List.getElem?_eq_getElem (by omega)⟩
            obtain ⟨y2, hy2⟩ : ∃ y2, lb[lb.length - 1 - t]? = some y2 := ⟨_, List.getElem?_eq_getElem (by omega)⟩
            refine DL_gyes rfl rfl rfl (y_move rfl) rfl ?_
            refine DL_gyes rfl rfl rfl (y_move rfl) rfl ?_
            refine DL_gyes rfl rfl rfl (y_len Try.underlying22 rfl) rfl ?_
            refine DL_gyes rfl rfl rfl (y_sub rfl rfl (i64w (by omega))) rfl ?_
            refine DL_gyes rfl rfl rfl (y_move rfl) rfl ?_
            refine DL_gyes rfl rfl rfl (y_sub rfl rfl (i64w (by omega))) rfl ?_
            refine DL_gyes rfl rfl rfl (y_idx Try.underlying22 sz3 rfl rfl (S4.rd ha) (Nt.mk (by omega) : Nt _ (la.length - 1 - t)) (by omega)) rfl ?_
            refine DL_gyes rfl rfl rfl (y_ldr Try.underlying3 rfl rfl (S4.rd ha) (iL_get _ _ _ hx2)) rfl ?_
            refine DL_gyes rfl rfl rfl (y_move rfl) rfl ?_
            refine DL_gyes rfl rfl rfl (y_move rfl) rfl ?_
            refine DL_gyes rfl rfl rfl (y_len Try.underlying22 rfl) rfl ?_
            refine DL_gyes rfl rfl rfl (y_sub rfl rfl (i64w (by omega))) rfl ?_
            refine DL_gyes rfl rfl rfl (y_move rfl) rfl ?_
            refine DL_gyes rfl rfl rfl (y_sub rfl rfl (i64w (by omega))) rfl ?_
            refine DL_gyes rfl rfl rfl (y_idx Try.underlying22 sz3 rfl rfl (S4.rd hb) (Nt.mk (by omega) : Nt _ (lb.length - 1 - t)) (by omega)) rfl ?_
            refine DL_gyes rfl rfl rfl (y_ldr Try.underlying3 rfl rfl (S4.rd hb) (iL_get _ _ _ hy2)) rfl ?_
            refine DL_gyes rfl rfl rfl (y_eql rfl rfl) rfl ?_
            refine DL_y rfl ((by first | exact y_pickT rfl rfl | exact y_pickF rfl rfl)) rfl ?_
            refine DL_nil ?_
            refine hK9 _ _ ?_
            refine T_cond rfl (fun h53 => ?_) (fun h53 => ?_)
            ·
              refine T_skip ?_
              refine hK8 _ _ ?_
              refine T_block ?_
              refine T_region ?_
              refine L_y (y_move rfl) rfl ?_
              refine L_y (y_add rfl rfl (i64w (by omega))) rfl ?_
              refine L_y (y_assign rfl) rfl ?_
              refine L_nil ?_
              refine ⟨t + 1, by omega, ⟨⟨by omega, fun k hk => by rcases Nat.lt_or_ge k t with h9 | h9; (exact hta k h9); (have e9 : k = t := by omega); subst e9; exact ⟨x2, hx2, by rw [hy2, h53]⟩⟩, S4⟩, ?_⟩
              exact (Sub.cons rfl (by first | rfl | exact congrArg (Value.int _) (by omega)) (Sub.cons rfl rfl (Sub.cons rfl rfl (Sub.cons rfl rfl (Sub.cons rfl rfl (Sub.nil _))))))
            ·
              refine T_exit ?_
              refine hK7 _ _ ?_
              refine T_seq fun K10 hK10 => ?_
              have hsuf : suf la lb = t := suf_of hpre (by omega) hta (by first | exact .inl (by omega) | exact .inr (fun z hz1 hz2 => by rw [hx2] at hz1; rw [hy2] at hz2; exact h53 ((Option.some.inj hz1).trans (Option.some.inj hz2).symm)))
              refine T_region ?_
              refine L_y (y_move rfl) rfl ?_
              refine L_y (y_move rfl) rfl ?_
              refine L_y (y_assign rfl) rfl ?_
              refine L_y (y_assign rfl) rfl ?_
              refine L_nil ?_
              refine hK10 _ _ ?_
              refine T_ret ?_
              repeat (first | with_reducible refine up_then ?_ | with_reducible refine up_in ?_)
              refine ret2 rfl rfl rfl ?_
              exact ⟨_, rfl, S4.like0, by rw [hpre, hsuf]⟩
          ·
            refine DL_gno rfl rfl rfl rfl ?_
            refine DL_gno rfl rfl rfl rfl ?_
            refine DL_gno rfl rfl rfl rfl ?_
            refine DL_gno rfl rfl rfl rfl ?_
            refine DL_gno rfl rfl rfl rfl ?_
            refine DL_gno rfl rfl rfl rfl ?_
            refine DL_gno rfl rfl rfl rfl ?_
            refine DL_gno rfl rfl rfl rfl ?_
            refine DL_gno rfl rfl rfl rfl ?_
            refine DL_gno rfl rfl rfl rfl ?_
            refine DL_gno rfl rfl rfl rfl ?_
            refine DL_gno rfl rfl rfl rfl ?_
            refine DL_gno rfl rfl rfl rfl ?_
            refine DL_gno rfl rfl rfl rfl ?_
            refine DL_gno rfl rfl rfl rfl ?_
            refine DL_gno rfl rfl rfl rfl ?_
            refine DL_gno rfl rfl rfl rfl ?_
            refine DL_y rfl ((by first | exact y_pickT rfl rfl | exact y_pickF rfl rfl)) rfl ?_
            refine DL_nil ?_
            refine hK9 _ _ ?_
            refine T_false rfl ?_
            refine T_exit ?_
            refine hK7 _ _ ?_
            refine T_seq fun K11 hK11 => ?_
            have hsuf : suf la lb = t := suf_of hpre (by omega) hta (by first | exact .inl (by omega) | exact .inr (fun z hz1 hz2 => by rw [hx2] at hz1; rw [hy2] at hz2; exact h53 ((Option.some.inj hz1).trans (Option.some.inj hz2).symm)))
            refine T_region ?_
            refine L_y (y_move rfl) rfl ?_
            refine L_y (y_move rfl) rfl ?_
            refine L_y (y_assign rfl) rfl ?_
            refine L_y (y_assign rfl) rfl ?_
            refine L_nil ?_
            refine hK11 _ _ ?_
            refine T_ret ?_
            repeat (first | with_reducible refine up_then ?_ | with_reducible refine up_in ?_)
            refine ret2 rfl rfl rfl ?_
            exact ⟨_, rfl, S4.like0, by rw [hpre, hsuf]⟩
    ·
      refine DL_gno rfl rfl rfl rfl ?_
      refine DL_gno rfl rfl rfl rfl ?_
      refine DL_gno rfl rfl rfl rfl ?_
      refine DL_gno rfl rfl rfl rfl ?_
      refine DL_gno rfl rfl rfl rfl ?_
      refine DL_gno rfl rfl rfl rfl ?_
      refine DL_gno rfl rfl rfl rfl ?_
      refine DL_gno rfl rfl rfl rfl ?_
      refine DL_gno rfl rfl rfl rfl ?_
      refine DL_y rfl ((by first | exact y_pickT rfl rfl | exact y_pickF rfl rfl)) rfl ?_
      refine DL_nil ?_
      refine hK5 _ _ ?_
      refine T_false rfl ?_
      refine T_exit ?_
      refine hK3 _ _ ?_
      refine T_seq fun K12 hK12 => ?_
      have hpre : pre la lb = f := pre_of hfa (by first | exact .inl (by omega) | exact .inr (fun z hz1 hz2 => by rw [hx] at hz1; rw [hy] at hz2; exact h27 ((Option.some.inj hz1).trans (Option.some.inj hz2).symm)))
      refine T_region ?_
      refine L_y (y_assign rfl) rfl ?_
      refine L_nil ?_
      refine hK12 _ _ ?_
      refine T_seq fun K13 hK13 => ?_
      refine T_block ?_
      refine T_loop1 [(0, _), (1, _), (6, _), (7, _)] (fun (t : Nat) => [(8, .int .i64 (t : Int))]) (fun (t : Nat) => min n m - t) (fun (t : Nat) (w : World) => (t ≤ min n m - f ∧ ∀ k, k < t → ∃ x, la[la.length - 1 - k]? = some x ∧ lb[lb.length - 1 - k]? = some x) ∧ St w0 noM [] w) 0 (Sub.cons rfl (by first | rfl | exact congrArg (Value.int _) (by omega)) (Sub.nil _)) (Sub.cons rfl rfl (Sub.cons rfl rfl (Sub.cons rfl rfl (Sub.cons rfl rfl (Sub.nil _))))) ?_ ?_
      ·
        exact ⟨⟨Nat.zero_le _, fun k h => absurd h (by omega)⟩, S2⟩
      ·
        intro t w5 hrel
        obtain ⟨⟨ht, hta⟩, S5⟩ := hrel
        refine T_seq fun K14 hK14 => ?_
        refine T_seq fun K15 hK15 => ?_
        refine T_drawnL [(0, true), (1, true), (2, true), (3, true), (4, true), (5, true), (6, true), (7, true), (8, true), (9, true), (10, true), (11, true), (12, true), (13, true), (14, true), (15, true), (16, true), (17, true), (18, true), (19, true), (20, true), (21, true), (22, true), (23, true)] hmix (by kernel_rfl) fun w6 l6 => ?_
        have S6 := S5.like l6
        refine DL_y rfl (y_move rfl) rfl ?_
        refine DL_y rfl (y_move rfl) rfl ?_
        refine DL_y rfl (y_move rfl) rfl ?_
        refine DL_y rfl (y_sub rfl rfl (i64w (by omega))) rfl ?_
        refine DL_y rfl (y_lss rfl rfl) rfl ?_
        refine DL_y rfl (y_move rfl) rfl ?_
        refine DL_split 35 rfl (fun h35 => ?_) (fun h35 => ?_)
        ·
          obtain ⟨x2, hx2⟩ : ∃ x2, la[la.length - 1 - t]? = some x2 := ⟨_, List.getElem?_eq_getElem (by omega)⟩
          obtain ⟨y2, hy2⟩ : ∃ y2, lb[lb.length - 1 - t]? = some y2 := ⟨_, List.getElem?_eq_getElem (by omega)⟩
          refine DL_gyes rfl rfl rfl (y_move rfl) rfl ?_
          refine DL_gyes rfl rfl rfl (y_move rfl) rfl ?_
          refine DL_gyes rfl rfl rfl (y_len Try.underlying22 rfl) rfl ?_
          refine DL_gyes rfl rfl rfl (y_sub rfl rfl (i64w (by omega))) rfl ?_
          refine DL_gyes rfl rfl rfl (y_move rfl) rfl ?_
          refine DL_gyes rfl rfl rfl (y_sub rfl rfl (i64w (by omega))) rfl ?_
          refine DL_gyes rfl rfl rfl (y_idx Try.underlying22 sz3 rfl rfl (S6.rd ha) (Nt.mk (by omega) : Nt _ (la.length - 1 - t)) (by omega)) rfl ?_
          refine DL_gyes rfl rfl rfl (y_ldr Try.underlying3 rfl rfl (S6.rd ha) (iL_get _ _ _ hx2)) rfl ?_
          refine DL_gyes rfl rfl rfl (y_move rfl) rfl ?_
          refine DL_gyes rfl rfl rfl (y_move rfl) rfl ?_
          refine DL_gyes rfl rfl rfl (y_len Try.underlying22 rfl) rfl ?_
          refine DL_gyes rfl rfl rfl (y_sub rfl rfl (i64w (by omega))) rfl ?_
          refine DL_gyes rfl rfl rfl (y_move rfl) rfl ?_
          refine DL_gyes rfl rfl rfl (y_sub rfl rfl (i64w (by omega))) rfl ?_
          refine DL_gyes rfl rfl rfl (y_idx Try.underlying22 sz3 rfl rfl (S6.rd hb) (Nt.mk (by omega) : Nt _ (lb.length - 1 - t)) (by omega)) rfl ?_
          refine DL_gyes rfl rfl rfl (y_ldr Try.underlying3 rfl rfl (S6.rd hb) (iL_get _ _ _ hy2)) rfl ?_
          refine DL_gyes rfl rfl rfl (y_eql rfl rfl) rfl ?_
          refine DL_y rfl ((by first | exact y_pickT rfl rfl | exact y_pickF rfl rfl)) rfl ?_
          refine DL_nil ?_
          refine hK15 _ _ ?_
          refine T_cond rfl (fun h53 => ?_) (fun h53 => ?_)
          ·
            refine T_skip ?_
            refine hK14 _ _ ?_
            refine T_block ?_
            refine T_region ?_
            refine L_y (y_move rfl) rfl ?_
            refine L_y (y_add rfl rfl (i64w (by omega))) rfl ?_
            refine L_y (y_assign rfl) rfl ?_
            refine L_nil ?_
            refine ⟨t + 1, by omega, ⟨⟨by omega, fun k hk => by rcases Nat.lt_or_ge k t with h9 | h9; (exact hta k h9); (have e9 : k = t := by omega); subst e9; exact ⟨x2, hx2, by rw [hy2, h53]⟩⟩, S6⟩, ?_⟩
            exact (Sub.cons rfl (by first | rfl | exact congrArg (Value.int _) (by omega)) (Sub.cons rfl rfl (Sub.cons rfl rfl (Sub.cons rfl rfl (Sub.cons rfl rfl (Sub.nil _))))))
          ·
            refine T_exit ?_
            refine hK13 _ _ ?_
            refine T_seq fun K16 hK16 => ?_
            have hsuf : suf la lb = t := suf_of hpre (by omega) hta (by first | exact .inl (by omega) | exact .inr (fun z hz1 hz2 => by rw [hx2] at hz1; rw [hy2] at hz2; exact h53 ((Option.some.inj hz1).trans (Option.some.inj hz2).symm)))
            refine T_region ?_
            refine L_y (y_move rfl) rfl ?_
            refine L_y (y_move rfl) rfl ?_
            refine L_y (y_assign rfl) rfl ?_
            refine L_y (y_assign rfl) rfl ?_
            refine L_nil ?_
            refine hK16 _ _ ?_
            refine T_ret ?_
            repeat (first | with_reducible refine up_then ?_ | with_reducible refine up_in ?_)
            refine ret2 rfl rfl rfl ?_
            exact ⟨_, rfl, S6.like0, by rw [hpre, hsuf]⟩
        ·
          refine DL_gno rfl rfl rfl rfl ?_
          refine DL_gno rfl rfl rfl rfl ?_
          refine DL_gno rfl rfl rfl rfl ?_
          refine DL_gno rfl rfl rfl rfl ?_
          refine DL_gno rfl rfl rfl rfl ?_
          refine DL_gno rfl rfl rfl rfl ?_
          refine DL_gno rfl rfl rfl rfl ?_
          refine DL_gno rfl rfl rfl rfl ?_
          refine DL_gno rfl rfl rfl rfl ?_
          refine DL_gno rfl rfl rfl rfl ?_
          refine DL_gno rfl rfl rfl rfl ?_
          refine DL_gno rfl rfl rfl rfl ?_
          refine DL_gno rfl rfl rfl rfl ?_
          refine DL_gno rfl rfl rfl rfl ?_
          refine DL_gno rfl rfl rfl rfl ?_
          refine DL_gno rfl rfl rfl rfl ?_
          refine DL_gno rfl rfl rfl rfl ?_
          refine DL_y rfl ((by first | exact y_pickT rfl rfl | exact y_pickF rfl rfl)) rfl ?_
          refine DL_nil ?_
          refine hK15 _ _ ?_
          refine T_false rfl ?_
          refine T_exit ?_
          refine hK13 _ _ ?_
          refine T_seq fun K17 hK17 => ?_
          have hsuf : suf la lb = t := suf_of hpre (by omega) hta (by first | exact .inl (by omega) | exact .inr (fun z hz1 hz2 => by rw [hx2] at hz1; rw [hy2] at hz2; exact h53 ((Option.some.inj hz1).trans (Option.some.inj hz2).symm)))
          refine T_region ?_
          refine L_y (y_move rfl) rfl ?_
          refine L_y (y_move rfl) rfl ?_
          refine L_y (y_assign rfl) rfl ?_
          refine L_y (y_assign rfl) rfl ?_
          refine L_nil ?_
          refine hK17 _ _ ?_
          refine T_ret ?_
          repeat (first | with_reducible refine up_then ?_ | with_reducible refine up_in ?_)
          refine ret2 rfl rfl rfl ?_
          exact ⟨_, rfl, S6.like0, by rw [hpre, hsuf]⟩


end Go.Proofs.Ytbbmkgpgiacdeaa


/-
  Search.
-/
namespace Go.Proofs.Ytbbmkgpgiacdeaa
open Go.RowKit Zk Zx
set_option linter.unusedVariables false
set_option linter.unusedSimpArgs false

/-- Natural numbers as ints. -/
def nI (ns : List Nat) : List Int := ns.map fun (n : Nat) => (n : Int)
theorem nI_get {ns : List Nat} {k n : Nat} (h : ns[k]? = some n) : (nI ns)[k]? = some (n : Int) := by simp [nI, h]
end Go.Proofs.Ytbbmkgpgiacdeaa


/-
  Regions that draw their order and make two variables in either order. General; nothing here names a program.
-/
namespace Go.Proofs.Ytbbmkgpgiacdeaa.Zx
open Go.RowKit Zk
set_option linter.unusedVariables false
set_option linter.unusedSimpArgs false

section
variable {P : Program} {N : Nat} {Q : Post} {env : Env} {w w0 : World} {M : Nat → Prop} {rs : List Res} {S : World → Prop} {ops : Array Oper} {listed : Array Bool} {fuel : Nat}
theorem y_of {o : Oper} {v : Value} (h : ∀ w, S w → Y P (Like w) env o v) : Y P S env o v := fun N a w' ha hw => h w' hw N a w' ha (Like.refl w')
def DX (P : Program) (N : Nat) (ops : Array Oper) (Q : Post) (S : World → Prop) (listed : Array Bool) (fuel : Nat) (env : Env) (w : World) : Prop :=
  Region.noSelect ops = true → S w → ∀ a, Fits N env a → wpAnyH P .any ops (lift N Q) S fuel listed a w
theorem T_drawnX {id : Nat} {l : List Oper} (S : World → Prop) (hm : P.follows .mixedOrders = true) (hB : Region.noSelect l.toArray = true) (hS : ∀ w1, Like w w1 → S w1)
    (h : ∀ w1, Like w w1 → DX P N l.toArray Q S (Array.replicate l.toArray.size false) l.toArray.size env w1) : T P N (.region id l.toArray true) Q env w := fun a ha =>
  wp_region_held hm (h _ (Like.drew w) hB (hS _ (Like.drew w)) a ha)
theorem DX_y {d : Tmp} {op : Op} {ty : TypeId} {pos : String} {after : Array Edge} {v : Value} (i : Nat) (hr : ((Region.ready .any ops listed).contains i && Region.free .any ops listed i) = true) (hi : ops[i]? = some ⟨some d, op, ty, pos, after, none⟩)
    (hy : Y P S env ⟨some d, op, ty, pos, after, none⟩ v) (hd : Nat.blt d N = true) (h : DX P N ops Q S (listed.setIfInBounds i true) fuel ((d, v) :: env) w) : DX P N ops Q S listed (fuel + 1) env w := fun hs hS a ha => by
  simp only [Bool.and_eq_true] at hr
  exact wpAnyH_take hi hs hr.2 hr.1 (fun c a w hq => hq.elim) (.inl ⟨by simp [Region.wanted], fun w hw => hy N a w ha hw⟩) hS (h hs hS _ (ha.put d v hd))
end
end Go.Proofs.Ytbbmkgpgiacdeaa.Zx


/-
  Maps whose keys are bytes in arrays; families of pieces; a choice of pieces. General; nothing here names a program.
-/
namespace Go.Proofs.Ytbbmkgpgiacdeaa.Zx
open Go.RowKit Zk
set_option linter.unusedVariables false
set_option linter.unusedSimpArgs false
section
variable {w w0 : World} {M : Nat → Prop} {rs : List Res}
/-- Pieces, chosen by their numbers. -/
theorem St.sel (S : St w0 M rs w) (ix : List Nat) (hnd : ix.Nodup) : St w0 M (ix.filterMap (rs[·]?)) w := by
  refine ⟨S.os, S.tape, S.output, S.size, S.old, fun r hr => ?_, ?_⟩
  · obtain ⟨i, _, hi⟩ := List.mem_filterMap.1 hr
    exact S.res r (List.mem_of_getElem? hi)
  · rw [List.pairwise_filterMap]
    refine List.Pairwise.imp ?_ hnd
    intro i j hij a ha b hb x hx hy
    have hp := List.pairwise_iff_getElem.1 S.apart
    obtain ⟨h1, h2⟩ := List.getElem?_eq_some_iff.1 ha
    obtain ⟨h3, h4⟩ := List.getElem?_eq_some_iff.1 hb
    rcases Nat.lt_or_gt_of_ne hij with h | h
    · exact hp i j h1 h3 h x (by rw [h2]; exact hx) (by rw [h4]; exact hy)
    · exact hp j i h3 h1 h x (by rw [h4]; exact hy) (by rw [h2]; exact hx)
/-- Many pieces as one. -/
def fam (L : List Res) : Res where
  dom i := ∃ r ∈ L, r.dom i
  holds w := (∀ r ∈ L, r.holds w) ∧ L.Pairwise fun (r s : Res) => ∀ i, r.dom i → ¬ s.dom i
  stable w w' h hh := ⟨fun r hr => r.stable w w' (fun i hi => h i ⟨r, hr, hi⟩) (hh.1 r hr), hh.2⟩
theorem St.fam0 (S : St w0 M rs w) : St w0 M (rs ++ [fam []]) w := by
  refine ⟨S.os, S.tape, S.output, S.size, S.old, fun r hr => ?_, ?_⟩
  · rcases List.mem_append.1 hr with hr | hr
    · exact S.res r hr
    · obtain rfl := List.mem_singleton.1 hr
      exact ⟨⟨fun r hr => (List.not_mem_nil hr).elim, List.Pairwise.nil⟩, fun i ⟨r, hr, _⟩ => (List.not_mem_nil hr).elim⟩
  · rw [List.pairwise_append]
    exact ⟨S.apart, List.pairwise_singleton _ _, fun a _ b hb i _ hi => by
      obtain rfl := List.mem_singleton.1 hb
      obtain ⟨r, hr, _⟩ := hi
      cases hr⟩
theorem St.famIn {L1 L2 : List Res} {r : Res} (S : St w0 M (rs ++ [fam (L1 ++ L2), r]) w) : St w0 M (rs ++ [fam (L1 ++ r :: L2)]) w := by
  have hap := S.apart
  rw [List.pairwise_append] at hap
  obtain ⟨a1, a2, a3⟩ := hap
  have hfr := (List.pairwise_cons.1 a2).1 r (by simp)
  have hf := S.res (fam (L1 ++ L2)) (by simp)
  have hr := S.res r (by simp)
  refine ⟨S.os, S.tape, S.output, S.size, S.old, fun q hq => ?_, ?_⟩
  · rcases List.mem_append.1 hq with hq | hq
    · exact S.res q (by simp [hq])
    · obtain rfl := List.mem_singleton.1 hq
      refine ⟨⟨fun q hq => ?_, ?_⟩, fun i ⟨q, hq, hi⟩ => ?_⟩
      · rcases List.mem_append.1 hq with h | h
        · exact hf.1.1 q (by simp [h])
        · rcases List.mem_cons.1 h with rfl | h
          · exact hr.1
          · exact hf.1.1 q (by simp [h])
      · have h2 := hf.1.2
        rw [List.pairwise_append] at h2 ⊢
        refine ⟨h2.1, List.pairwise_cons.2 ⟨fun q hq i hi hqi => hfr i ⟨q, by simp [hq], hqi⟩ hi, h2.2.1⟩, fun a ha b hb i hi hbi => ?_⟩
        rcases List.mem_cons.1 hb with rfl | hb
        · exact hfr i ⟨a, by simp [ha], hi⟩ hbi
        · exact h2.2.2 a ha b hb i hi hbi
      · rcases List.mem_append.1 hq with h | h
        · exact hf.2 i ⟨q, by simp [h], hi⟩
        · rcases List.mem_cons.1 h with rfl | h
          · exact hr.2 i hi
          · exact hf.2 i ⟨q, by simp [h], hi⟩
  · rw [List.pairwise_append]
    refine ⟨a1, List.pairwise_singleton _ _, fun a ha b hb i hi hbi => ?_⟩
    obtain rfl := List.mem_singleton.1 hb
    obtain ⟨q, hq, hqi⟩ := hbi
    rcases List.mem_append.1 hq with h | h
    · exact a3 a ha (fam (L1 ++ L2)) (by simp) i hi ⟨q, by simp [h], hqi⟩
    · rcases List.mem_cons.1 h with rfl | h
      · exact a3 a ha q (by simp) i hi hqi
      · exact a3 a ha (fam (L1 ++ L2)) (by simp) i hi ⟨q, by simp [h], hqi⟩
theorem St.famOut {L1 L2 : List Res} {r : Res} (S : St w0 M (rs ++ [fam (L1 ++ r :: L2)]) w) : St w0 M (rs ++ [fam (L1 ++ L2), r]) w := by
  have hap := S.apart
  rw [List.pairwise_append] at hap
  obtain ⟨a1, _, a3⟩ := hap
  have hf := S.res (fam (L1 ++ r :: L2)) (by simp)
  have hp := hf.1.2
  rw [List.pairwise_append, List.pairwise_cons] at hp
  have hsub : ∀ q, q ∈ L1 ++ L2 → q ∈ L1 ++ r :: L2 := fun q hq => by
    rcases List.mem_append.1 hq with h | h
    · simp [h]
    · simp [h]
  have hfr : ∀ i, (fam (L1 ++ L2)).dom i → ¬ r.dom i := fun i ⟨q, hq, hqi⟩ hri => by
    rcases List.mem_append.1 hq with h | h
    · exact hp.2.2 q h r (by simp) i hqi hri
    · exact hp.2.1.1 q h i hri hqi
  refine ⟨S.os, S.tape, S.output, S.size, S.old, fun q hq => ?_, ?_⟩
  · rcases List.mem_append.1 hq with hq | hq
    · exact S.res q (by simp [hq])
    · rcases List.mem_cons.1 hq with rfl | hq
      · refine ⟨⟨fun q hq => hf.1.1 q (hsub q hq), ?_⟩, fun i ⟨q, hq, hi⟩ => hf.2 i ⟨q, hsub q hq, hi⟩⟩
        rw [List.pairwise_append]
        exact ⟨hp.1, hp.2.1.2, fun a ha b hb => hp.2.2 a ha b (by simp [hb])⟩
      · obtain rfl := List.mem_singleton.1 hq
        exact ⟨hf.1.1 q (by simp), fun i hi => hf.2 i ⟨q, by simp, hi⟩⟩
  · rw [List.pairwise_append]
    refine ⟨a1, List.pairwise_cons.2 ⟨fun b hb => by rw [List.mem_singleton.1 hb]; exact hfr, List.pairwise_singleton _ _⟩, fun a ha b hb i hi hbi => ?_⟩
    rcases List.mem_cons.1 hb with rfl | hb
    · obtain ⟨q, hq, hqi⟩ := hbi
      exact a3 a ha (fam (L1 ++ r :: L2)) (by simp) i hi ⟨q, hsub q hq, hqi⟩
    · rw [List.mem_singleton.1 hb] at hbi
      exact a3 a ha (fam (L1 ++ r :: L2)) (by simp) i hi ⟨r, by simp, hbi⟩
end
section
variable {P : Program}
end
section
variable {P : Program} {N : Nat} {Q : Post} {env : Env} {w w0 : World} {M : Nat → Prop} {rs : List Res} {K : Env → World → Prop} {d : Tmp} {ty : TypeId} {pos : String} {after : Array Edge} {g : Option (Nat × Bool)} {dst : Option Tmp}
theorem getM {r : Nat} {es : Array MapEntry} {clock : Nat} (hb : w.heap[r]? = some (.map es clock)) : (getObj r).run P w = .ok (.map es clock) w := by
  simp [getObj, Sem.run, hb]
theorem setM {r : Nat} {es : Array MapEntry} {clock : Nat} (o : Obj) (hb : w.heap[r]? = some (.map es clock)) : (setObj r o).run P w = .ok () { w with heap := w.heap.setIfInBounds r o } := by
  simp [setObj, Sem.run, hb]
theorem set_map_other (w : World) (b : Nat) (o : Obj) (i : Nat) (h : i ≠ b) : ({ w with heap := w.heap.setIfInBounds b o } : World).heap[i]? = w.heap[i]? := by
  show (w.heap.setIfInBounds b o)[i]? = _
  rw [Array.getElem?_setIfInBounds_ne (Ne.symm h)]
end
end Go.Proofs.Ytbbmkgpgiacdeaa.Zx


/-
  Maps from ints to values of any kind, by their entries. General; nothing here names a program.
-/
namespace Go.Proofs.Ytbbmkgpgiacdeaa.Zx
open Go.RowKit Zk
set_option linter.unusedVariables false
set_option linter.unusedSimpArgs false
section
variable {P : Program}
/-- The entries, in the order in which they came. -/
def entI (D : List (Int × Value)) : List MapEntry := D.zipIdx.map fun p => ⟨.int .i64 p.1.1, p.1.2, p.2⟩
theorem entI_get (D : List (Int × Value)) (i : Nat) : (entI D)[i]? = D[i]?.map fun p => ⟨.int .i64 p.1, p.2, i⟩ := by
  unfold entI
  rw [List.getElem?_map, List.getElem?_zipIdx, Option.map_map]
  cases D[i]? <;> simp
def posI (a : Int) : List (Int × Value) → Nat → Option (Nat × Value)
  | [], _ => none
  | p :: r, i => if a = p.1 then some (i, p.2) else posI a r (i + 1)
theorem posI_some {a : Int} : ∀ {D : List (Int × Value)} {i j : Nat} {v : Value}, posI a D i = some (j, v) → i ≤ j ∧ D[j - i]? = some (a, v)
  | [], i, j, v, h => by cases h
  | p :: r, i, j, v, h => by
    unfold posI at h
    split at h
    · rename_i e
      cases h
      refine ⟨Nat.le_refl _, ?_⟩
      rw [Nat.sub_self, e]
      rfl
    · obtain ⟨h1, h2⟩ := posI_some h
      refine ⟨by omega, ?_⟩
      rw [show j - i = j - (i + 1) + 1 by omega, List.getElem?_cons_succ]
      exact h2
theorem posI_none {a : Int} : ∀ {D : List (Int × Value)} {i : Nat}, posI a D i = none → ∀ p ∈ D, p.1 ≠ a
  | [], i, h => by intro p hp; cases hp
  | q :: r, i, h => by
    unfold posI at h
    split at h
    · cases h
    · rename_i e
      intro p hp
      rcases List.mem_cons.1 hp with rfl | hp
      · intro e2; exact e e2.symm
      · exact posI_none h p hp
theorem findNow_I (a : Int) : ∀ (D : List (Int × Value)) (es : List MapEntry) (i : Nat), es.map (fun m => (m.key, m.val)) = D.map (fun p => (.int .i64 p.1, p.2)) → Instr.findNow (.int .i64) (.int .i64 a) es i = some (posI a D i)
  | [], es, i, h => by
    have : es = [] := by simpa using h
    subst this
    rfl
  | p :: D, es, i, h => by
    cases es with
    | nil => cases h
    | cons m es =>
      simp only [List.map_cons, List.cons.injEq, Prod.mk.injEq] at h
      obtain ⟨⟨h1, h2⟩, h3⟩ := h
      unfold Instr.findNow posI
      rw [h1]
      by_cases e : a = p.1
      · subst e
        simp [Instr.sameNow, h2]
      · have e2 : (a == p.1) = false := by simp [e]
        simp only [Instr.sameNow, if_true, e2, e, if_false]
        exact findNow_I a D es (i + 1) h3
theorem run_findI {t : TypeId} (ht : P.underlying t = some (.int .i64)) (a : Int) (w : World) (D : List (Int × Value)) : (Instr.findKey t (.int .i64 a) (entI D)).run P w = .ok (posI a D 0) w := by
  unfold Instr.findKey
  simp only [Sem.run_bind, run_underlying ht, Result.andThen_ok]
  rw [findNow_I a D (entI D) 0 (by
    unfold entI
    rw [List.map_map]
    apply List.ext_getElem?
    intro i
    rw [List.getElem?_map, List.getElem?_map, List.getElem?_zipIdx]
    cases D[i]? <;> simp)]
  rfl
theorem run_checkI {t : TypeId} (ht : P.underlying t = some (.int .i64)) (a : Int) (w : World) (b : Bool) : (Instr.checkKey b 10000 t (.int .i64 a)).run P w = .ok () w := by
  unfold Instr.checkKey
  simp only [Sem.run_bind, run_underlying ht, Result.andThen_ok]
  rfl
def mapJ (b : Nat) (D : List (Int × Value)) : Res where
  dom i := i = b
  holds w := w.heap[b]? = some (.map (entI D).toArray D.length)
  stable w w' h hh := (h b rfl).trans hh
def getJ (a : Int) (D : List (Int × Value)) (z : Value) : Value := (posI a D 0).elim z (·.2)
def upJ (a : Int) (v : Value) (D : List (Int × Value)) : List (Int × Value) := match posI a D 0 with
  | some (i, _) => D.set i (a, v)
  | none => D ++ [(a, v)]
end
section
variable {P : Program} {N : Nat} {Q : Post} {env : Env} {w w0 : World} {M : Nat → Prop} {rs : List Res} {K : Env → World → Prop} {d : Tmp} {ty : TypeId} {pos : String} {after : Array Edge} {g : Option (Nat × Bool)} {dst : Option Tmp}
theorem y_lookJ {t k e : TypeId} {b : Nat} {D : List (Int × Value)} {m x : Operand} {a : Int} {z : Value} (hw : (mapJ b D).holds w) (ht : P.underlying t = some (.map k e)) (hk : P.underlying k = some (.int .i64))
    (hz : ∀ W, (zeroValue e).run P W = .ok z W) (hm : ev env m = some (.map (some b))) (hx : ev env x = some (.int .i64 a)) :
    Y P (Like w) env ⟨dst, .lookup t m x false, ty, pos, after, g⟩ (getJ a D z) := fun N c w' hc hl => by
  have hw : w.heap[b]? = some (.map (entI D).toArray D.length) := hw
  have hh : w'.heap[b]? = some (.map (entI D).toArray D.length) := by
    have hb : b < w.heap.size := by
      rcases Nat.lt_or_ge b w.heap.size with q | q
      · exact q
      · rw [Array.getElem?_eq_none q] at hw; cases hw
    rw [hl.block b hb]; exact hw
  have hf := run_findI (P := P) hk a w' D
  simp only [execOp, hc.eval hm, hc.eval hx, Instr.lookup, Sem.run_bind, run_underlying ht, Result.andThen_ok, getM hh, Sem.run_pure, run_checkI hk a w', hf]
  unfold getJ
  cases posI a D 0 with
  | none => simp [hz]
  | some p => rfl
theorem y_lookJv {t k e : TypeId} {b : Nat} {D : List (Int × Value)} {m x : Operand} {a : Int} {z v : Value} (hw : (mapJ b D).holds w) (ht : P.underlying t = some (.map k e)) (hk : P.underlying k = some (.int .i64))
    (hz : ∀ W, (zeroValue e).run P W = .ok z W) (hm : ev env m = some (.map (some b))) (hx : ev env x = some (.int .i64 a)) (hv : getJ a D z = v) :
    Y P (Like w) env ⟨dst, .lookup t m x false, ty, pos, after, g⟩ v := by
  subst hv
  exact y_lookJ hw ht hk hz hm hx
theorem o_makeMapJ {t : TypeId} (S : St w0 M rs w) (hd : Nat.blt d N = true)
    (h : ∀ b w', w0.heap.size ≤ b → St w0 M (rs ++ [mapJ b []]) w' → K ((d, .map (some b)) :: env) w') :
    O P N Q ⟨some d, .makeMap t none, ty, pos, after, g⟩ env w K := fun a ha => by
  unfold Oper.wp execOp
  simp only [run_makeMap, Option.map_none, Sem.run_bind, Sem.run_pure, Result.andThen_ok]
  refine ⟨_, ha.put d _ hd, h _ _ S.size (S.new (like_alloc w _) _ (heap_alloc_new w _) fun i hi => ?_)⟩
  have hi' : i = w.heap.size := hi
  subst hi'
  exact ⟨Nat.le_refl _, by simp⟩
/-- 'm[k] = v' -/
theorem o_mapUpJ {t k e : TypeId} {b : Nat} {D : List (Int × Value)} {m x v : Operand} {a : Int} {new : Value} (S : St w0 M rs w) (j : Nat) (hj : rs[j]? = some (mapJ b D)) (ht : P.underlying t = some (.map k e)) (hk : P.underlying k = some (.int .i64))
    (hm : ev env m = some (.map (some b))) (hx : ev env x = some (.int .i64 a)) (hv : ev env v = some new)
    (h : ∀ w', St w0 M (rs.set j (mapJ b (upJ a new D))) w' → K env w') :
    O P N Q ⟨none, .mapUpdate t m x v, ty, pos, after, g⟩ env w K := fun c hc => by
  have hw : w.heap[b]? = some (.map (entI D).toArray D.length) := S.get j hj
  have hf := run_findI (P := P) hk a w D
  have hbl : b < w.heap.size := (Array.getElem?_eq_some_iff.1 hw).1
  unfold Oper.wp execOp
  simp only [hc.eval hm, hc.eval hx, hc.eval hv, Instr.mapUpdate, Sem.run_bind, run_underlying ht, Result.andThen_ok, getM hw, Sem.run_pure, run_checkI hk a w, hf]
  have fin : ∀ D', upJ a new D = D' → St w0 M (rs.set j (mapJ b (upJ a new D))) { w with heap := w.heap.setIfInBounds b (.map (entI D').toArray D'.length) } := fun D' e => by
    rw [e]
    exact S.upd j hj rfl rfl rfl (by simp) (fun i hi hn => set_map_other w b _ i hn) (by
      show (w.heap.setIfInBounds b _)[b]? = _
      rw [Array.getElem?_setIfInBounds_self_of_lt hbl]) fun i hi => .inl hi
  cases hp : posI a D 0 with
  | some p =>
    obtain ⟨i, v0⟩ := p
    obtain ⟨_, hi⟩ := posI_some hp
    rw [Nat.sub_zero] at hi
    have hil := (List.getElem?_eq_some_iff.1 hi).1
    have hg : (entI D).toArray[i]? = some ⟨.int .i64 a, v0, i⟩ := by rw [List.getElem?_toArray, entI_get, hi]; rfl
    have hnew : ((entI D).toArray.modify i fun e => { e with key := Value.int .i64 a, val := new }) = (entI (D.set i (a, new))).toArray := by
      apply Array.ext_getElem?
      intro q
      rw [Array.getElem?_modify, List.getElem?_toArray, List.getElem?_toArray, entI_get, entI_get]
      by_cases e : i = q
      · subst e
        rw [if_pos rfl, List.getElem?_set_self hil, hi]
        rfl
      · rw [if_neg e, List.getElem?_set_ne e]
    have hsb : Instr.sameBits 10000 (Value.int .i64 a) (.int .i64 a) = true := by simp [Instr.sameBits]
    simp only [hg, Option.map_some, Option.getD_some, Instr.keyThatStays, hsb, if_true, Sem.run_pure, Sem.run_bind, Result.andThen_ok, hnew, setM _ hw]
    have h9 := fin (D.set i (a, new)) (by unfold upJ; rw [hp])
    rw [List.length_set] at h9
    exact ⟨_, hc, h _ h9⟩
  | none =>
    have hnew : (entI D).toArray.push { key := Value.int .i64 a, val := new, born := D.length } = (entI (D ++ [(a, new)])).toArray := by
      unfold entI
      rw [List.zipIdx_append, List.map_append]
      simp
    simp only [Sem.run_pure, Sem.run_bind, Result.andThen_ok, hnew, setM _ hw]
    have h9 := fin (D ++ [(a, new)]) (by unfold upJ; rw [hp])
    rw [List.length_append] at h9
    exact ⟨_, hc, h _ h9⟩
end
end Go.Proofs.Ytbbmkgpgiacdeaa.Zx


/-
  Many pieces handed to a callee at once. General; nothing here names a program.
-/
namespace Go.Proofs.Ytbbmkgpgiacdeaa.Zx
open Go.RowKit Zk
set_option linter.unusedVariables false
set_option linter.unusedSimpArgs false
def apartL (rs : List Res) : Prop := rs.Pairwise fun r s => ∀ i, r.dom i → ¬ s.dom i
/-- Pieces apart from one another, as one. -/
def sepL (rs : List Res) : Res where
  dom i := ∃ r ∈ rs, r.dom i
  holds w := (∀ r ∈ rs, r.holds w ∧ ∀ i, r.dom i → i < w.heap.size) ∧ apartL rs
  stable w w' h hh := ⟨fun r hr => ⟨r.stable w w' (fun i hi => h i ⟨r, hr, hi⟩) (hh.1 r hr).1, fun i hi => by
    have h1 := (hh.1 r hr).2 i hi
    have h2 := h i ⟨r, hr, hi⟩
    rw [Array.getElem?_eq_getElem h1] at h2
    exact (Array.getElem?_eq_some_iff.1 h2).1⟩, hh.2⟩
section
variable {w0 w w' : World} {M : Nat → Prop} {rs ps rs' : List Res}
theorem St.borrowL (h : (sepL rs).holds w) : St w (sepL rs).dom rs w :=
  ⟨rfl, rfl, rfl, Nat.le_refl _, fun _ _ _ => rfl, fun q hq => ⟨(h.1 q hq).1, fun i hi => ⟨(h.1 q hq).2 i hi, .inr ⟨q, hq, hi⟩⟩⟩, h.2⟩
theorem St.getL (S : St w0 M (ps ++ rs) w) : (sepL rs).holds w :=
  ⟨fun r hr => ⟨(S.res r (List.mem_append_right _ hr)).1, fun i hi => ((S.res r (List.mem_append_right _ hr)).2 i hi).1⟩, (List.pairwise_append.1 S.apart).2.1⟩
theorem St.turnedL {r0 : List Res} (S : St w0 (sepL r0).dom rs w) : Turned w0 w (sepL r0) (sepL rs) :=
  ⟨S.os, S.tape, S.output, S.size, S.old, St.getL (ps := []) S, fun i ⟨r, hr, hi⟩ => by
    have h := (S.res r hr).2 i hi
    rcases h.2 with h2 | h2
    · exact .inr ⟨h2, h.1⟩
    · exact .inl h2⟩
theorem St.turnL (S : St w0 M (ps ++ rs) w) (T : Turned w w' (sepL rs) (sepL rs')) : St w0 M (ps ++ rs') w' := by
  have hap := List.pairwise_append.1 S.apart
  refine ⟨T.os.trans S.os, T.tape.trans S.tape, T.output.trans S.output, Nat.le_trans S.size T.size, fun i hi hm => ?_, fun q hq => ?_, ?_⟩
  · rw [T.old i (Nat.lt_of_lt_of_le hi S.size) fun ⟨r, hr, hd⟩ => by
      rcases ((S.res r (List.mem_append_right _ hr)).2 i hd).2 with h | h
      · omega
      · exact hm h]
    exact S.old i hi hm
  · rcases List.mem_append.1 hq with hq | hq
    · have h := S.res q (List.mem_append_left _ hq)
      refine ⟨q.stable w w' (fun i hi => T.old i (h.2 i hi).1 fun ⟨r, hr, hd⟩ => hap.2.2 q hq r hr i hi hd) h.1, fun i hi => ⟨Nat.lt_of_lt_of_le (h.2 i hi).1 T.size, (h.2 i hi).2⟩⟩
    · have h := T.holds.1 q hq
      refine ⟨h.1, fun i hi => ⟨h.2 i hi, ?_⟩⟩
      rcases T.dom i ⟨q, hq, hi⟩ with ⟨r, hr, hd⟩ | h2
      · exact ((S.res r (List.mem_append_right _ hr)).2 i hd).2
      · exact .inl (Nat.le_trans S.size h2.1)
  · rw [List.pairwise_append]
    refine ⟨hap.1, T.holds.2, fun a ha b hb i hi hbi => ?_⟩
    rcases T.dom i ⟨b, hb, hbi⟩ with ⟨r, hr, hd⟩ | h2
    · exact hap.2.2 a ha r hr i hi hd
    · have := ((S.res a (List.mem_append_left _ ha)).2 i hi).1
      omega
end
end Go.Proofs.Ytbbmkgpgiacdeaa.Zx


/-
  Where each thing stands, as a map of own rows.
-/
namespace Go.Proofs.Ytbbmkgpgiacdeaa
open Go.RowKit Zk Zx
set_option linter.unusedVariables false
set_option linter.unusedSimpArgs false
structure PL where
  x : Int
  A : Option Addr
  c : Nat
  ks : List Nat
def PL.ent (p : PL) : Int × Value := (p.x, .slice p.A p.ks.length p.c)
def PL.row (p : PL) : Res := Zx.row 3 1 p.A p.ks.length p.c (iL (nI p.ks))
structure PlOk (l : List Int) (ps : List PL) : Prop where
  eq : ∀ p ∈ ps, p.ks = plc l p.x
  all : ∀ x ∈ l, ∃ p ∈ ps, p.x = x
  one : ps.Pairwise fun p q => p.x ≠ q.x
theorem PlOk.nil : PlOk [] [] := ⟨(fun p hp => by cases hp), (fun x hx => by cases hx), List.Pairwise.nil⟩
theorem plc_none {l : List Int} {x : Int} (h : x ∉ l) : plc l x = [] := by
  apply List.eq_nil_of_length_eq_zero
  rw [plc_len]
  exact List.count_eq_zero.2 h
theorem pos_case {ps : List PL} (x : Int) : (posI x (ps.map PL.ent) 0 = none ∧ ∀ p ∈ ps, p.x ≠ x) ∨ ∃ j p, ps[j]? = some p ∧ p.x = x ∧ posI x (ps.map PL.ent) 0 = some (j, .slice p.A p.ks.length p.c) := by
  cases h : posI x (ps.map PL.ent) 0 with
  | none => exact .inl ⟨rfl, fun p hp => posI_none h (PL.ent p) (List.mem_map_of_mem hp)⟩
  | some r =>
    obtain ⟨j, v⟩ := r
    obtain ⟨_, h2⟩ := posI_some h
    rw [Nat.sub_zero, List.getElem?_map] at h2
    cases hp : ps[j]? with
    | none => rw [hp] at h2; cases h2
    | some p =>
      rw [hp] at h2
      have h3 := Option.some.inj h2
      have h4 : p.x = x := congrArg Prod.fst h3
      have h5 : Value.slice p.A p.ks.length p.c = v := congrArg Prod.snd h3
      exact .inr ⟨j, p, hp, h4, by rw [h5]⟩
theorem mid_of {α : Type} {l : List α} {j : Nat} {x : α} (h : l[j]? = some x) : l = l.take j ++ x :: l.drop (j + 1) := by
  obtain ⟨h1, h2⟩ := List.getElem?_eq_some_iff.1 h
  rw [← h2, List.getElem_cons_drop, List.take_append_drop]
theorem mid_set {α : Type} {l : List α} {j : Nat} {x : α} (y : α) (h : l[j]? = some x) : l.set j y = l.take j ++ y :: l.drop (j + 1) := by
  have h1 := (List.getElem?_eq_some_iff.1 h).1
  rw [List.set_eq_take_append_cons_drop, if_pos h1]
theorem PlOk.put {l : List Int} {ps1 ps2 : List PL} {x : Int} (A : Option Addr) (c : Nat) (he : ∀ p ∈ ps1 ++ ps2, p.ks = plc l p.x) (ho : (ps1 ++ ps2).Pairwise fun p q => p.x ≠ q.x) (hx : ∀ p ∈ ps1 ++ ps2, p.x ≠ x) (ha : ∀ y ∈ l, y = x ∨ ∃ p ∈ ps1 ++ ps2, p.x = y) :
    PlOk (l ++ [x]) (ps1 ++ ⟨x, A, c, plc l x ++ [l.length]⟩ :: ps2) := by
  refine ⟨fun p hp => ?_, fun y hy => ?_, ?_⟩
  · have h : p = ⟨x, A, c, plc l x ++ [l.length]⟩ ∨ p ∈ ps1 ++ ps2 := by
      rcases List.mem_append.1 hp with h | h
      · exact .inr (List.mem_append_left _ h)
      · rcases List.mem_cons.1 h with h | h
        · exact .inl h
        · exact .inr (List.mem_append_right _ h)
    rcases h with rfl | h
    · rw [plc_snoc, if_pos rfl]
    · rw [plc_snoc, if_neg (fun e => hx p h e.symm), List.append_nil]
      exact he p h
  · have h : y = x ∨ ∃ p ∈ ps1 ++ ps2, p.x = y := by
      rcases List.mem_append.1 hy with h | h
      · exact ha y h
      · exact .inl (List.mem_singleton.1 h)
    rcases h with h | ⟨p, hp, h⟩
    · exact ⟨_, List.mem_append_right _ List.mem_cons_self, h.symm⟩
    · refine ⟨p, ?_, h⟩
      rcases List.mem_append.1 hp with hp | hp
      · exact List.mem_append_left _ hp
      · exact List.mem_append_right _ (List.mem_cons_of_mem _ hp)
  · rw [List.pairwise_append] at ho ⊢
    refine ⟨ho.1, List.pairwise_cons.2 ⟨fun q hq e => hx q (List.mem_append_right _ hq) e.symm, ho.2.1⟩, fun p hp q hq => ?_⟩
    rcases List.mem_cons.1 hq with rfl | hq
    · exact hx p (List.mem_append_left _ hp)
    · exact ho.2.2 p hp q hq
theorem PL_out {w0 w : World} {M : Nat → Prop} {rs : List Res} {b : Nat} {l : List Int} {ps : List PL} (S : Zx.St w0 M (rs ++ [mapJ b (ps.map PL.ent), fam (ps.map PL.row)]) w) (h : PlOk l ps) (x : Int) :
    ∃ A c ps1 ps2, getJ x (ps.map PL.ent) (.slice none 0 0) = .slice A (plc l x).length c ∧ Zx.St w0 M (rs ++ [mapJ b (ps.map PL.ent), fam ((ps1 ++ ps2).map PL.row), Zx.row 3 1 A (plc l x).length c (iL (nI (plc l x)))]) w ∧
      ∀ A2 c2, upJ x (.slice A2 (plc l x ++ [l.length]).length c2) (ps.map PL.ent) = (ps1 ++ ⟨x, A2, c2, plc l x ++ [l.length]⟩ :: ps2).map PL.ent ∧ PlOk (l ++ [x]) (ps1 ++ ⟨x, A2, c2, plc l x ++ [l.length]⟩ :: ps2) := by
  rcases pos_case (ps := ps) x with ⟨h1, h2⟩ | ⟨j, p, h1, h2, h3⟩
  · have hx : plc l x = [] := plc_none fun hm => by
      obtain ⟨p, hp, e⟩ := h.all x hm
      exact h2 p hp e
    refine ⟨none, 0, ps, [], by unfold getJ; rw [h1, hx]; rfl, ?_, fun A2 c2 => ⟨?_, ?_⟩⟩
    · rw [hx, List.append_nil]
      have S2 := S.nilrow 3 1
      rw [List.append_assoc] at S2
      exact S2
    · unfold upJ
      rw [h1, List.map_append]
      rfl
    · refine PlOk.put A2 c2 ?_ ?_ ?_ ?_
      · rw [List.append_nil]; exact h.eq
      · rw [List.append_nil]; exact h.one
      · rw [List.append_nil]; exact h2
      · rw [List.append_nil]; exact fun y hy => .inr (h.all y hy)
  · subst h2
    have hm := mid_of h1
    have hp := h.eq p (List.mem_of_getElem? h1)
    have hone := h.one
    have heq := h.eq
    have hall := h.all
    generalize ht : ps.take j = ps1 at hm
    generalize hd : ps.drop (j + 1) = ps2 at hm
    refine ⟨p.A, p.c, ps1, ps2, by unfold getJ; rw [h3, ← hp]; rfl, ?_, fun A2 c2 => ⟨?_, ?_⟩⟩
    · have S2 := S
      rw [show fam (ps.map PL.row) = fam (ps1.map PL.row ++ p.row :: ps2.map PL.row) by rw [hm, List.map_append, List.map_cons], show rs ++ [mapJ b (ps.map PL.ent), fam (ps1.map PL.row ++ p.row :: ps2.map PL.row)] = (rs ++ [mapJ b (ps.map PL.ent)]) ++ [fam (ps1.map PL.row ++ p.row :: ps2.map PL.row)] by simp] at S2
      have S3 := S2.famOut
      rw [List.append_assoc, ← List.map_append] at S3
      rw [← hp]
      exact S3
    · unfold upJ
      rw [h3]
      show (ps.map PL.ent).set j (PL.ent ⟨p.x, A2, c2, plc l p.x ++ [l.length]⟩) = _
      rw [← List.map_set, mid_set _ h1, ht, hd]
    · rw [hm, List.pairwise_append, List.pairwise_cons] at hone
      have hsub : ∀ q ∈ ps1 ++ ps2, q ∈ ps := fun q hq => by
        rw [hm]
        rcases List.mem_append.1 hq with hq | hq
        · exact List.mem_append_left _ hq
        · exact List.mem_append_right _ (List.mem_cons_of_mem _ hq)
      refine PlOk.put A2 c2 (fun q hq => heq q (hsub q hq)) ?_ (fun q hq => ?_) (fun y hy => ?_)
      · rw [List.pairwise_append]
        exact ⟨hone.1, hone.2.1.2, fun a ha b hb => hone.2.2 a ha b (List.mem_cons_of_mem _ hb)⟩
      · rcases List.mem_append.1 hq with hq | hq
        · exact hone.2.2 q hq p List.mem_cons_self
        · exact fun e => hone.2.1.1 q hq e.symm
      · obtain ⟨q, hq, e⟩ := hall y hy
        rw [hm] at hq
        rcases List.mem_append.1 hq with hq | hq
        · exact .inr ⟨q, List.mem_append_left _ hq, e⟩
        · rcases List.mem_cons.1 hq with rfl | hq
          · exact .inl e.symm
          · exact .inr ⟨q, List.mem_append_right _ hq, e⟩
/-- The map and its rows. -/
def plR (b : Nat) (ps : List PL) : Res := sepL [mapJ b (ps.map PL.ent), fam (ps.map PL.row)]
theorem plR_map {w : World} {b : Nat} {ps : List PL} (h : (plR b ps).holds w) : (mapJ b (ps.map PL.ent)).holds w := (h.1 _ List.mem_cons_self).1
theorem plR_at {w : World} {b : Nat} {l : List Int} {ps : List PL} (hw : (plR b ps).holds w) (h : PlOk l ps) (x : Int) : ∃ A c, getJ x (ps.map PL.ent) (.slice none 0 0) = .slice A (plc l x).length c ∧ Rs w 1 A (plc l x).length c (iL (nI (plc l x))) := by
  have hf : (fam (ps.map PL.row)).holds w := (hw.1 _ (List.mem_cons_of_mem _ List.mem_cons_self)).1
  rcases pos_case (ps := ps) x with ⟨h1, h2⟩ | ⟨j, p, h1, h2, h3⟩
  · have hx : plc l x = [] := plc_none fun hm => by
      obtain ⟨p, hp, e⟩ := h.all x hm
      exact h2 p hp e
    refine ⟨none, 0, by unfold getJ; rw [h1, hx]; rfl, ?_⟩
    rw [hx]
    exact ⟨⟨rfl, fun hn => absurd hn (Nat.lt_irrefl 0)⟩, Nat.le_refl _, Nat.zero_le _⟩
  · subst h2
    have hp := h.eq p (List.mem_of_getElem? h1)
    refine ⟨p.A, p.c, by unfold getJ; rw [h3, ← hp]; rfl, ?_⟩
    have hr : p.row.holds w := hf.1 _ (List.mem_map_of_mem (List.mem_of_getElem? h1))
    rw [← hp]
    exact rs_of_row hr
end Go.Proofs.Ytbbmkgpgiacdeaa


/-
  The program: places.
-/
namespace Go.Proofs.Ytbbmkgpgiacdeaa
open Go.RowKit Zk Zx
set_option linter.unusedVariables false
set_option linter.unusedSimpArgs false

theorem nI_snoc (ks : List Nat) {i j : Nat} (h : j = i) : iL (nI ks) ++ [Value.int .i64 (i : Int)] = iL (nI (ks ++ [j])) := by
  subst h
  simp [iL, nI]
theorem plR_dom {w0 w : World} {b : Nat} {ps : List PL} (S : Zx.St w0 noM [mapJ b (ps.map PL.ent), fam (ps.map PL.row)] w) : ∀ j, (plR b ps).dom j → w0.heap.size ≤ j ∧ j < w.heap.size := fun j ⟨r, hr, hd⟩ => by
  have h := (S.res r hr).2 j hd
  exact ⟨h.2.resolve_right fun h => h, h.1⟩


set_option maxRecDepth 100000 in
theorem hplaces (A : Option Addr) (n ca : Nat) (la : List Int) (w0 : World) (ha : Rs w0 1 A n ca (iL la)) (hn9 : n ≤ 1048576) :
    Calls Try.prog 58 #[.slice A n ca] w0 fun e w' => ∃ u, e = .returned u ∧ Like w0 w' ∧ ∃ b ps, u = .map (some b) ∧ PlOk la ps ∧ (plR b ps).holds w' ∧ ∀ j, (plR b ps).dom j → w0.heap.size ≤ j ∧ j < w'.heap.size := by
  refine enter1 (env := [(0, .slice A n ca)]) [.slice A n ca] Try.func58 rfl Try.ntmps58 rfl rfl ?_
  have hla := lenI ha; have hcap := ha.cap; have hmax := ha.max; have S0 := St.start w0 noM
  refine T_seq fun K1 hK1 => ?_
  refine T_region ?_
  refine L_y (y_assign rfl) rfl ?_
  refine L_nil ?_
  refine hK1 _ _ ?_
  refine T_seq fun K2 hK2 => ?_
  refine T_region ?_
  refine L_o (o_makeMapJ S0 rfl fun b6 w1 hb6 S1 => ?_)
  have S9 := S1.fam0
  refine L_y (y_assign rfl) rfl ?_
  refine L_nil ?_
  refine hK2 _ _ ?_
  refine T_seq fun K3 hK3 => ?_
  refine T_seq fun K4 hK4 => ?_
  refine T_region ?_
  refine L_y (y_move rfl) rfl ?_
  refine L_y (y_len Try.underlying22 rfl) rfl ?_
  refine L_y (y_move rfl) rfl ?_
  refine L_nil ?_
  refine hK4 _ _ ?_
  refine T_block ?_
  refine T_loop2 [(3, _), (7, _), (8, _)] (fun (i : Nat) (ps : List PL) => [(9, .int .i64 (i : Int))]) (fun (i : Nat) (ps : List PL) => n - i) (fun (i : Nat) (ps : List PL) (w : World) => (i ≤ n ∧ PlOk (la.take i) ps) ∧ St w0 noM [mapJ b6 (ps.map PL.ent), fam (ps.map PL.row)] w) 0 [] (Sub.cons rfl (by first | rfl | exact congrArg (Value.int _) (by omega)) (Sub.nil _)) (Sub.cons rfl rfl (Sub.cons rfl rfl (Sub.cons rfl rfl (Sub.nil _)))) ?_ ?_
  ·
    exact ⟨⟨Nat.zero_le _, PlOk.nil⟩, S9⟩
  ·
    intro i ps w2 hrel
    obtain ⟨⟨hi, hok⟩, S2⟩ := hrel
    refine T_seq fun K5 hK5 => ?_
    refine T_region ?_
    refine L_y (y_lss rfl rfl) rfl ?_
    refine L_nil ?_
    refine hK5 _ _ ?_
    refine T_seq fun K6 hK6 => ?_
    refine T_cond rfl (fun h10 => ?_) (fun h10 => ?_)
    ·
      obtain ⟨x, hx⟩ : ∃ x, la[i]? = some x := ⟨_, List.getElem?_eq_getElem (by omega)⟩
      refine T_skip ?_
      refine hK6 _ _ ?_
      refine T_seq fun K7 hK7 => ?_
      refine T_block ?_
      refine T_seq fun K8 hK8 => ?_
      refine T_region ?_
      refine L_y (y_move rfl) rfl ?_
      refine L_y (y_idx Try.underlying22 sz3 rfl rfl (S2.rd ha) (Nt.mk (by omega) : Nt _ (i)) (by omega)) rfl ?_
      refine L_y (y_ldr Try.underlying3 rfl rfl (S2.rd ha) (iL_get _ _ _ hx)) rfl ?_
      refine L_y (y_assign rfl) rfl ?_
      refine L_y (y_assign rfl) rfl ?_
      refine L_nil ?_
      refine hK8 _ _ ?_
      obtain ⟨A1, c1, ps1, ps2, hg, S3, hput⟩ := PL_out (rs := []) S2 hok x
      refine T_region ?_
      refine L_y (y_move rfl) rfl ?_
      refine L_y (y_move rfl) rfl ?_
      refine L_y (y_move rfl) rfl ?_
      refine L_y (y_move rfl) rfl ?_
      refine L_y (y_lookJv (S3.get 0 rfl) Try.underlying86 Try.underlying3 zz22 rfl rfl hg) rfl ?_
      refine L_y (y_move rfl) rfl ?_
      refine L_o (o_bsl [_] te22 zz3 S3 rfl rfl rfl rfl rfl rfl rfl rfl fun b4 w4 S4 => ?_)
      refine L_o (o_app te22 S4 2 rfl rfl rfl (by first | exact S4.fix 1 rfl | exact S4.row 2 rfl | exact S4.row 3 rfl) (by intro u hu; simp at hu; subst hu; rfl) rfl (by have := plc_len x (la.take i); have := List.count_le_length (a := x) (l := la.take i); have := List.length_take_le i la; omega) (by have := plc_len x (la.take i); have := List.count_le_length (a := x) (l := la.take i); have := List.length_take_le i la; omega) fun A5 c5 w5 S5 => ?_)
      have S5d := S5.drop (rs' := [_, _, _]) (.cons_cons _ (.cons_cons _ (.cons_cons _ (.cons _ (.refl _)))))
      refine L_o (o_mapUpJ S5d 0 rfl Try.underlying86 Try.underlying3 rfl rfl rfl fun w6 S6 => ?_)
      refine L_nil ?_
      refine hK7 _ _ ?_
      refine T_region ?_
      refine L_y (y_add rfl rfl (i64w (by omega))) rfl ?_
      refine L_y (y_move rfl) rfl ?_
      refine L_nil ?_
      have hlen : (plc (la.take i) x).length + 1 = ((plc (la.take i) x) ++ [(la.take i).length]).length := by simp
      have hp := hput A5 c5
      rw [hlen, hp.1, List.map_append] at S6
      have S91 := S6.rowc 2 rfl (n' := ((plc (la.take i) x) ++ [(la.take i).length]).length) (xs' := iL (nI ((plc (la.take i) x) ++ [(la.take i).length]))) rfl (nI_snoc _ (by rw [List.length_take]; omega))
      have S92 := St.famIn (rs := [mapJ b6 ((ps1 ++ ⟨x, A5, c5, ((plc (la.take i) x) ++ [(la.take i).length])⟩ :: ps2).map PL.ent)]) (L1 := ps1.map PL.row) (L2 := ps2.map PL.row) (r := PL.row ⟨x, A5, c5, ((plc (la.take i) x) ++ [(la.take i).length])⟩) S91
      have hok2 : PlOk (la.take (i + 1)) (ps1 ++ ⟨x, A5, c5, ((plc (la.take i) x) ++ [(la.take i).length])⟩ :: ps2) := by rw [tk hx]; exact hp.2
      refine ⟨i + 1, ps1 ++ ⟨x, A5, c5, ((plc (la.take i) x) ++ [(la.take i).length])⟩ :: ps2, by omega, ⟨⟨by omega, hok2⟩, by rw [← List.map_cons, ← List.map_append] at S92; exact S92⟩, ?_⟩
      exact (Sub.cons rfl (by first | rfl | exact congrArg (Value.int _) (by omega)) (Sub.cons rfl rfl (Sub.cons rfl rfl (Sub.cons rfl rfl (Sub.nil _)))))
    ·
      refine T_exit ?_
      refine hK3 _ _ ?_
      refine T_seq fun K9 hK9 => ?_
      refine T_region ?_
      refine L_y (y_move rfl) rfl ?_
      refine L_y (y_assign rfl) rfl ?_
      refine L_nil ?_
      refine hK9 _ _ ?_
      refine T_ret ?_
      repeat (first | with_reducible refine up_then ?_ | with_reducible refine up_in ?_)
      refine ret1 rfl rfl ?_
      have hin : i = n := by omega
      subst hin
      rw [← hla, List.take_length] at hok
      exact ⟨_, rfl, S2.like0, b6, ps, rfl, hok, St.getL (ps := []) S2, plR_dom S2⟩
end Go.Proofs.Ytbbmkgpgiacdeaa


/-
  What the library's sort leaves behind, as a row of the call's own. General; nothing here names a program.
-/
namespace Go.Proofs.Ytbbmkgpgiacdeaa.Zx
open Go.RowKit Zk Go.Sort
set_option linter.unusedVariables false
set_option linter.unusedSimpArgs false
set_option linter.unusedSectionVars false
section
variable {α : Type} [Inhabited α]
theorem fm_get {f : α → List Value} {k : Nat} (hk : ∀ x, (f x).length = k) (k0 : 0 < k) : ∀ (l : List α) (t : Nat), (l.flatMap f)[t]? = (l[t / k]?).bind fun x => (f x)[t % k]?
  | [], t => by simp
  | x :: l, t => by
    rw [List.flatMap_cons]
    rcases Nat.lt_or_ge t k with h | h
    · rw [List.getElem?_append_left (by rw [hk]; exact h), Nat.div_eq_of_lt h, Nat.mod_eq_of_lt h]
      rfl
    · obtain ⟨s, rfl⟩ : ∃ s, t = k + s := ⟨t - k, by omega⟩
      rw [List.getElem?_append_right (by rw [hk]; omega), hk, Nat.add_sub_cancel_left, fm_get hk k0 l s, Nat.add_div_left _ k0, Nat.add_mod_left]
      rfl
theorem flat_flatMap {enc : α → List Value} {k : Nat} (hk : ∀ x, (enc x).length = k) (k0 : 0 < k) (d : Array α) : (flatK enc k d).toList = d.toList.flatMap enc := by
  apply List.ext_getElem?
  intro t
  rw [fm_get hk k0, Array.getElem?_toList, Array.getElem?_toList]
  unfold flatK
  rw [Array.getElem?_map]
  rcases Nat.lt_or_ge t (d.size * k) with h | h
  · have hd : t / k < d.size := (Nat.div_lt_iff_lt_mul k0).2 h
    have hm : t % k < (enc d[t / k]).length := by rw [hk]; exact Nat.mod_lt _ k0
    have e1 : (Array.range (d.size * k))[t]? = some t := by rw [Array.getElem?_eq_getElem (by simpa using h)]; simp
    rw [e1, Option.map_some, Array.getElem?_eq_getElem hd, Option.bind_some, getElem!_pos d (t / k) hd, getElem!_pos (enc d[t / k]) (t % k) hm, List.getElem?_eq_getElem hm]
  · have hd : d.size ≤ t / k := (Nat.le_div_iff_mul_le k0).2 h
    rw [Array.getElem?_eq_none (by simpa using h), Array.getElem?_eq_none hd]
    rfl
theorem own_cells {w : World} {e k b n c : Nat} {xs : List Value} (h : w.ownsRow 0 e k (.slice (some ⟨b, 0, none⟩) n c) n xs) : ∃ cur, Blk w b e cur ∧ n ≤ c ∧ c ≤ maxLen ∧ cur.size = c * k ∧ cur.toList.take (n * k) = xs := by
  rcases h.2 with ⟨h1, _⟩ | ⟨g, cap, cur, h1, _, hg, hnc, hcm, hcs, hx⟩
  · cases h1
  · cases h1
    exact ⟨cur, hg, hnc, hcm, hcs, hx⟩
theorem own_holds {w : World} {e k b n c : Nat} {enc : α → List Value} (hk : ∀ x, (enc x).length = k) (k0 : 0 < k) {d : Array α} (hd : d.size = n) (h : w.ownsRow 0 e k (.slice (some ⟨b, 0, none⟩) n c) n (d.toList.flatMap enc)) :
    HoldsK enc k w b 0 d ∧ b < w.heap.size := by
  obtain ⟨cur, hB, hnc, hcm, hcs, hx⟩ := own_cells h
  refine ⟨fun j hj => ⟨?_, ?_⟩, hB.lt⟩
  · rw [size_flatK] at hj
    have hf := flat_flatMap hk k0 d
    rw [Nat.zero_add, hB.cell]
    have e1 : cur[j]? = (cur.toList.take (n * k))[j]? := by rw [List.getElem?_take, if_pos (by rw [← hd]; exact hj), Array.getElem?_toList]
    have hj2 : j < (flatK enc k d).size := by rw [size_flatK]; exact hj
    rw [e1, hx, ← hf, Array.getElem?_toList, Array.getElem?_eq_getElem hj2, getElem!_pos (flatK enc k d) j hj2]
    rfl
  · rw [Nat.zero_add]; exact hB.frozen j
theorem own_sorted {w : World} {e k b n c : Nat} {enc : α → List Value} (hk : ∀ x, (enc x).length = k) (k0 : 0 < k) {xs : List Value} (h : w.ownsRow 0 e k (.slice (some ⟨b, 0, none⟩) n c) n xs) {d' : Array α} (hd : d'.size = n) (m : Nat) (os : Array Obj) :
    w.grownBy (sortWorldK enc k w b 0 m d' os) (some b) ∧ (sortWorldK enc k w b 0 m d' os).ownsRow 0 e k (.slice (some ⟨b, 0, none⟩) n c) n (d'.toList.flatMap enc) := by
  obtain ⟨cur, hB, hnc, hcm, hcs, hx⟩ := own_cells h
  have hlt := hB.lt
  have hf := flat_flatMap hk k0 d'
  have hsz : (putRowK enc k (Sort.ahead w m) b 0 d').heap.size = w.heap.size := by simp [putRowK]
  have hheap : ∀ i, i < w.heap.size → (sortWorldK enc k w b 0 m d' os).heap[i]? = (w.heap.modify b (onCells (putCells id 0 (flatK enc k d'))))[i]? := fun i hi => by
    unfold sortWorldK
    rw [heap_grow_old _ _ (by rw [hsz]; exact hi)]
    rfl
  have hblk : (sortWorldK enc k w b 0 m d' os).heap[b]? = some (.cells (putCells id 0 (flatK enc k d') cur) e (0, 0)) := by
    rw [hheap b hlt, Array.getElem?_modify, if_pos rfl]
    have hB' : w.heap[b]? = some (.cells cur e (0, 0)) := hB
    rw [hB']
    rfl
  refine ⟨⟨rfl, rfl, rfl, ?_, fun i hi hne => ?_⟩, ?_, .inr ⟨b, c, _, rfl, Nat.zero_le _, hblk, hnc, hcm, ?_, ?_⟩⟩
  · unfold sortWorldK
    rw [size_grow, hsz]
    omega
  · rw [hheap i hi, Array.getElem?_modify, if_neg (fun e => hne (by rw [e]))]
  · rw [← hf, Array.length_toList, size_flatK, hd]
  · unfold putCells
    rw [Array.size_mapIdx, hcs]
  · apply List.ext_getElem?
    intro t
    rw [← hf, List.getElem?_take, Array.getElem?_toList (xs := flatK enc k d')]
    rcases Nat.lt_or_ge t (n * k) with ht | ht
    · have hc : n * k ≤ c * k := Nat.mul_le_mul_right _ hnc
      have h1 : t < cur.size := by omega
      have h2 : t < (flatK enc k d').size := by rw [size_flatK, hd]; exact ht
      rw [if_pos ht, Array.getElem?_toList]
      unfold putCells
      rw [Array.getElem?_mapIdx, Array.getElem?_eq_getElem h1, Option.map_some, if_pos ⟨Nat.zero_le _, by omega⟩, Nat.sub_zero, getElem!_pos (flatK enc k d') t h2, Array.getElem?_eq_getElem h2]
      rfl
    · rw [if_neg (by omega), Array.getElem?_eq_none (by rw [size_flatK, hd]; exact ht)]
end
end Go.Proofs.Ytbbmkgpgiacdeaa.Zx


/-
  The library's sort, of pairs by their first numbers.
-/
namespace Go.Proofs
open Go.Shelf Go.RowKit Go.Lib Go.Sort
def Ytbbmkgpgiacdeaa.sortL_ren : Go.Shelf.Ren := ⟨fun | 6 => 33 | 15 => 55 | 14 => 54 | 28 => 74 | 29 => 75 | 20 => 66 | 21 => 67 | 22 => 68 | 23 => 69 | 24 => 70 | 25 => 71 | 26 => 72 | 27 => 73 | 46 => 79 | 47 => 80 | 48 => 81 | 49 => 82 | 50 => 83 | 57 => 88 | n => n, fun | 22 => 25 | 24 => 34 | 25 => 56 | 3 => 3 | 39 => 82 | 0 => 0 | 53 => 102 | 55 => 104 | 4 => 4 | 46 => 96 | 45 => 95 | 50 => 65 | 5 => 5 | 9 => 9 | 66 => 110 | 70 => 114 | 76 => 118 | 77 => 52 | n => n, fun | n => n⟩
theorem Ytbbmkgpgiacdeaa.sortL : Go.Proofs.SlLaysF0.n6 Try.prog Ytbbmkgpgiacdeaa.sortL_ren := {
  mixed := by kernel_rfl,
  f6 := ⟨Try.f33.name, by decide, Try.func33.trans (congrArg some (by kernel_rfl))⟩,
  f14 := ⟨Try.f54.name, by decide, Try.func54.trans (congrArg some (by kernel_rfl))⟩,
  f15 := Try.func55.trans (congrArg some (by kernel_rfl)),
  f20 := ⟨Try.f66.name, by decide, Try.func66.trans (congrArg some (by kernel_rfl))⟩,
  f21 := ⟨Try.f67.name, by decide, Try.func67.trans (congrArg some (by kernel_rfl))⟩,
  f22 := ⟨Try.f68.name, by decide, Try.func68.trans (congrArg some (by kernel_rfl))⟩,
  f23 := ⟨Try.f69.name, by decide, Try.func69.trans (congrArg some (by kernel_rfl))⟩,
  f24 := ⟨Try.f70.name, by decide, Try.func70.trans (congrArg some (by kernel_rfl))⟩,
  f25 := ⟨Try.f71.name, by decide, Try.func71.trans (congrArg some (by kernel_rfl))⟩,
  f26 := ⟨Try.f72.name, by decide, Try.func72.trans (congrArg some (by kernel_rfl))⟩,
  f27 := ⟨Try.f73.name, by decide, Try.func73.trans (congrArg some (by kernel_rfl))⟩,
  f28 := Try.func74.trans (congrArg some (by kernel_rfl)),
  f29 := Try.func75.trans (congrArg some (by kernel_rfl)),
  f46 := ⟨Try.f79.name, by decide, Try.func79.trans (congrArg some (by kernel_rfl))⟩,
  f47 := Try.func80.trans (congrArg some (by kernel_rfl)),
  f48 := Try.func81.trans (congrArg some (by kernel_rfl)),
  f49 := ⟨Try.f82.name, by decide, Try.func82.trans (congrArg some (by kernel_rfl))⟩,
  f50 := ⟨Try.f83.name, by decide, Try.func83.trans (congrArg some (by kernel_rfl))⟩,
  f57 := ⟨Try.f88.name, by decide, Try.func88.trans (congrArg some (by kernel_rfl))⟩,
  t0 := Try.underlying0,
  a0 := Try.isAgg0,
  z0 := Try.sizeOf0,
  v0 := Try.zeroValue0,
  t3 := Try.underlying3,
  a3 := Try.isAgg3,
  z3 := Try.sizeOf3,
  v3 := Try.zeroValue3,
  t4 := Try.underlying4,
  a4 := Try.isAgg4,
  z4 := Try.sizeOf4,
  v4 := Try.zeroValue4,
  t5 := Try.underlying5,
  a5 := Try.isAgg5,
  z5 := Try.sizeOf5,
  v5 := Try.zeroValue5,
  t9 := Try.underlying9,
  a9 := Try.isAgg9,
  z9 := Try.sizeOf9,
  v9 := Try.zeroValue9,
  t22 := Try.underlying25,
  a22 := Try.isAgg25,
  z22 := Try.sizeOf25,
  v22 := Try.zeroValue25,
  t25 := Try.underlying56,
  a25 := Try.isAgg56,
  z25 := Try.sizeOf56,
  v25 := Try.zeroValue56,
  t39 := Try.underlying82,
  a39 := Try.isAgg82,
  z39 := Try.sizeOf82,
  v39 := Try.zeroValue82,
  t45 := Try.underlying95,
  a45 := Try.isAgg95,
  z45 := Try.sizeOf95,
  v45 := Try.zeroValue95,
  t46 := Try.underlying96,
  a46 := Try.isAgg96,
  z46 := Try.sizeOf96,
  v46 := Try.zeroValue96,
  t50 := Try.underlying65,
  a50 := Try.isAgg65,
  z50 := Try.sizeOf65,
  v50 := Try.zeroValue65,
  t53 := Try.underlying102,
  a53 := Try.isAgg102,
  z53 := Try.sizeOf102,
  v53 := Try.zeroValue102,
  t55 := Try.underlying104,
  a55 := Try.isAgg104,
  z55 := Try.sizeOf104,
  v55 := Try.zeroValue104,
  t66 := Try.underlying110,
  a66 := Try.isAgg110,
  z66 := Try.sizeOf110,
  v66 := Try.zeroValue110,
  t70 := Try.underlying114,
  a70 := Try.isAgg114,
  z70 := Try.sizeOf114,
  v70 := Try.zeroValue114,
  t76 := Try.underlying118,
  a76 := Try.isAgg118,
  z76 := Try.sizeOf118,
  v76 := Try.zeroValue118,
  t77 := Try.underlying52,
  a77 := Try.isAgg52,
  z77 := Try.sizeOf52,
  v77 := Try.zeroValue52 }

namespace Ytbbmkgpgiacdeaa
open Zk Zx
set_option linter.unusedVariables false
set_option linter.unusedSimpArgs false
set_option maxHeartbeats 1000000 in
theorem isnan_exact (x : Int) (w : World) : Calls Try.prog 56 #[.int .i64 x] w fun e w' => e = .returned (.bool false) ∧ w' = w := by
  go_enter Try.func56, Try.ntmps56
  go_wp2
  go_ret
  exact ⟨by simp, rfl⟩
set_option maxHeartbeats 1000000 in
theorem cmp_exact (x y : Int) (w : World) : Calls Try.prog 35 #[.int .i64 x, .int .i64 y] w fun e w' => e = .returned (.int .i64 (Lib.compareInt x y)) ∧ w' = w := by
  have e56 : ∀ args w, (callFunc 56 args).run Try.prog w = .ok (.enter 56 args) w := enters_of Try.func56 (by kernel_rfl) rfl
  go_enter Try.func35, Try.ntmps35
  go_wp2_with (go_at_call 56; refine (isnan_exact _ _).mono ?_; rintro e w' ⟨rfl, hw⟩; rw [hw])
  all_goals (go_ret; refine ⟨?_, rfl⟩; unfold Lib.compareInt; (repeat' split) <;> first | rfl | (exfalso; omega))

set_option maxHeartbeats 1000000 in
theorem closureH (x y : Nat × Nat) (W : World) : Calls Try.prog 34 #[.agg (pf x).toArray, .agg (pf y).toArray] W fun e w' => e = .returned (.int .i64 (Lib.compareInt x.1 y.1)) ∧ ∃ q os', w' = grow (W.drewN q) os' := by
  have hcon := fun W' => cmp_exact (x.1 : Int) (y.1 : Int) W'
  show Calls Try.prog 34 #[.agg #[.int .i64 (x.1 : Int), .int .i64 (x.2 : Int)], .agg #[.int .i64 (y.1 : Int), .int .i64 (y.2 : Int)]] W _
  generalize Lib.compareInt x.1 y.1 = r at hcon ⊢
  go_enter Try.func34, Try.ntmps34
  go_wp2_with (go_at_call 35; refine (hcon _).mono ?_; rintro e w' ⟨rfl, hw⟩; rw [hw])
  go_ret
  exact ⟨rfl, 0, _, by rw [alloc_eq_grow, alloc_eq_grow, grow_grow]; rfl⟩

theorem cmpI_lt (x y : Int) : Lib.compareInt x y < 0 ↔ x < y := by
  unfold Lib.compareInt
  (repeat' split) <;> omega
theorem swoN : SWO (ltOf fun x y : Nat × Nat => Lib.compareInt x.1 y.1) where
  irrefl x := by unfold ltOf; rw [decide_eq_false_iff_not, cmpI_lt]; omega
  trans x y z h1 h2 := by
    unfold ltOf at *
    rw [decide_eq_true_iff, cmpI_lt] at *
    omega
  ntrans x y z h1 h2 := by
    unfold ltOf at *
    rw [decide_eq_false_iff_not, cmpI_lt] at *
    omega
theorem pf_one2 (x : Nat × Nat) : ∀ v ∈ pf x, v.oneCell' = true := fun v hv => by
  simp only [pf, List.mem_cons, List.not_mem_nil, or_false] at hv
  rcases hv with rfl | rfl <;> rfl
theorem sortN0 {F : Nat} (eg : ∀ args w, (callFunc F args).run Try.prog w = .ok (.enter F args) w)
    (hcl : ∀ (x y : Nat × Nat) (W : World), Calls Try.prog F #[.agg (pf x).toArray, .agg (pf y).toArray] W fun e w' => e = .returned (.int .i64 (Lib.compareInt x.1 y.1)) ∧ ∃ q os', w' = grow (W.drewN q) os')
    (b n c : Nat) (ys : List (Nat × Nat)) (w0 : World) (hn : ys.length = n) (h : w0.ownsRow 0 34 2 (.slice (some ⟨b, 0, none⟩) n c) n (ys.flatMap pf)) (hsz : n < 4611686018427387904) :
    Calls Try.prog 33 #[.slice (some ⟨b, 0, none⟩) n c, .func (.func F) #[] #[]] w0 fun e w' => ∃ u, e = .returned u ∧ ∃ zs : List (Nat × Nat), zs.Perm ys ∧ (zs.Pairwise fun p q => p.1 ≤ q.1) ∧
      Turned w0 w' (row 34 2 (some ⟨b, 0, none⟩) n c (ys.flatMap pf)) (row 34 2 (some ⟨b, 0, none⟩) n c (zs.flatMap pf)) := by
  obtain ⟨hH, hb⟩ := own_holds (enc := pf) (k := 2) (d := ys.toArray) (fun _ => rfl) (by decide) (by simpa using hn) h
  have hcon := AnyQ.slices_SortFunc Ytbbmkgpgiacdeaa.sortL 2 Try.isAgg34 Try.sizeOf34 pf (fun _ => rfl) pf_one2 (fun x y => Lib.compareInt x.1 y.1) swoN F #[] b 0 c ys.toArray w0 eg (fun _ _ _ _ x y => hcl x y _) hH hb (by simpa using (by omega : ys.length < 4611686018427387904))
  have e1 : ys.toArray.size = n := by simpa using hn
  rw [e1] at hcon
  refine hcon.mono fun e w' ⟨he, d', m, os, hp, hs, hw⟩ => ⟨_, he, d'.toList, ?_, ?_, ?_⟩
  · have h3 := hp.2.2
    have h4 : d'.size = n := by rw [hp.1]; exact e1
    rw [show (d'.extract 0 n) = d' by rw [← h4]; simp, show ys.toArray.extract 0 n = ys.toArray by rw [← e1]; simp] at h3
    exact h3
  · have h4 : d'.size = n := by rw [hp.1]; exact e1
    rw [List.pairwise_iff_getElem]
    intro i j hi hj hij
    have h5 := hs i j (Nat.zero_le _) hij (by simpa [h4] using hj)
    unfold ltOf at h5
    rw [decide_eq_false_iff_not, cmpI_lt, getElem!_pos d' i (by simpa using hi), getElem!_pos d' j (by simpa using hj)] at h5
    simp only [Array.getElem_toList]
    omega
  · subst hw
    obtain ⟨hg, ho⟩ := own_sorted (enc := pf) (k := 2) (fun _ => rfl) (by decide) h (d' := d') (by rw [hp.1]; exact e1) m os
    exact ⟨hg.os, hg.tape, hg.output, hg.size, fun i hi hne => hg.block i hi (fun e => hne (by injection e with e; rw [e]; rfl)), ho, fun i hi => .inl hi⟩
theorem sortNA {F : Nat} (eg : ∀ args w, (callFunc F args).run Try.prog w = .ok (.enter F args) w)
    (hcl : ∀ (x y : Nat × Nat) (W : World), Calls Try.prog F #[.agg (pf x).toArray, .agg (pf y).toArray] W fun e w' => e = .returned (.int .i64 (Lib.compareInt x.1 y.1)) ∧ ∃ q os', w' = grow (W.drewN q) os')
    (A : Option Addr) (n c : Nat) (ys : List (Nat × Nat)) (w0 : World) (hn : ys.length = n) (h : w0.ownsRow 0 34 2 (.slice A n c) n (ys.flatMap pf)) (hsz : n < 4611686018427387904) :
    Calls Try.prog 33 #[.slice A n c, .func (.func F) #[] #[]] w0 fun e w' => ∃ u, e = .returned u ∧ ∃ zs : List (Nat × Nat), zs.Perm ys ∧ (zs.Pairwise fun p q => p.1 ≤ q.1) ∧
      Turned w0 w' (row 34 2 A n c (ys.flatMap pf)) (row 34 2 A n c (zs.flatMap pf)) := by
  rcases h.2 with ⟨h1, h2⟩ | ⟨b, cap, cur, h1, _⟩
  · cases h1
    have e0 : ys = [] := List.eq_nil_of_length_eq_zero (by omega)
    subst e0
    exact (AnyF.slices_SortFunc_none Ytbbmkgpgiacdeaa.sortL none 0 (.func (.func F) #[] #[]) w0).mono fun e w' ⟨he, hw⟩ => ⟨_, he, [], .refl _, List.Pairwise.nil, by subst hw; exact Turned.refl h⟩
  · cases h1
    exact sortN0 eg hcl b n c ys w0 hn h hsz
theorem enters34 (args : Array Value) (w : World) : (callFunc 34 args).run Try.prog w = .ok (.enter 34 args) w := enters_of Try.func34 (by kernel_rfl) rfl args w
theorem sortH (A : Option Addr) (n c : Nat) (ys : List (Nat × Nat)) (w0 : World) (hn : ys.length = n) (h : w0.ownsRow 0 34 2 (.slice A n c) n (ys.flatMap pf)) (hsz : n < 4611686018427387904) :
    Calls Try.prog 33 #[.slice A n c, .func (.func 34) #[] #[]] w0 fun e w' => ∃ u, e = .returned u ∧ ∃ zs : List (Nat × Nat), zs.Perm ys ∧ (zs.Pairwise fun p q => p.1 ≤ q.1) ∧
      Turned w0 w' (row 34 2 A n c (ys.flatMap pf)) (row 34 2 A n c (zs.flatMap pf)) := sortNA enters34 closureH A n c ys w0 hn h hsz
theorem asc_of {zs ds : List (Nat × Nat)} (hp : zs.Perm ds) (hz : zs.Pairwise fun p q => p.1 ≤ q.1) (hd : ds.Pairwise fun p q => p.1 < q.1) : zs = ds := by
  have hnd : zs.Pairwise fun p q => p.1 ≠ q.1 := by
    refine (hp.pairwise_iff (R := fun p q : Nat × Nat => p.1 ≠ q.1) fun {a b} h => Ne.symm h).2 (hd.imp fun {a b} h => by omega)
  have hz2 : zs.Pairwise fun p q => p.1 < q.1 := by
    have := List.pairwise_and_iff.2 ⟨hz, hnd⟩
    exact this.imp fun {a b} h => by omega
  exact hp.eq_of_pairwise (fun a b _ _ h1 h2 => by omega) hz2 hd
end Ytbbmkgpgiacdeaa
end Go.Proofs


/-
  Lengths, and the greatest.
-/
namespace Go.Proofs.Ytbbmkgpgiacdeaa
open Go.RowKit Zk Zx
set_option linter.unusedVariables false
set_option linter.unusedSimpArgs false

end Go.Proofs.Ytbbmkgpgiacdeaa


/-
  Chain.
-/
namespace Go.Proofs.Ytbbmkgpgiacdeaa
open Go.RowKit Zk Zx
set_option linter.unusedVariables false
set_option linter.unusedSimpArgs false

end Go.Proofs.Ytbbmkgpgiacdeaa


/-
  The document's Chain.
-/
namespace Go.Proofs.Ytbbmkgpgiacdeaa
open Go.RowKit Zk Zx
set_option linter.unusedVariables false
set_option linter.unusedSimpArgs false

end Go.Proofs.Ytbbmkgpgiacdeaa


/-
  The work: keep.
-/
namespace Go.Proofs.Ytbbmkgpgiacdeaa
open Go.RowKit Zk Zx
set_option linter.unusedVariables false
set_option linter.unusedSimpArgs false

theorem dg_snoc (i k j : Nat) : dg i k (j + 1) = dg i k j ++ [(i + j, k + j)] := by
  unfold dg
  rw [List.range_succ, List.map_append]
  rfl
theorem dg_len (i k n : Nat) : (dg i k n).length = n := by simp [dg]
theorem ks_step (ks : List (Nat × Nat)) (i k j : Nat) : (ks ++ dg i k j).flatMap pf ++ [Value.int .i64 ((i : Int) + (j : Int)), Value.int .i64 ((k : Int) + (j : Int))] = (ks ++ dg i k (j + 1)).flatMap pf := by
  rw [dg_snoc, ← List.append_assoc, List.flatMap_append (xs := ks ++ dg i k j)]
  rfl
theorem ks_len (ks : List (Nat × Nat)) (i k j : Nat) : (ks ++ dg i k j).length + 1 = (ks ++ dg i k (j + 1)).length := by
  rw [dg_snoc]
  simp only [List.length_append, List.length_cons, List.length_nil]
  omega
def kR (KA : Option Addr) (kc : Nat) (ks : List (Nat × Nat)) : Res := Zx.row 34 2 KA ks.length kc (ks.flatMap pf)
end Go.Proofs.Ytbbmkgpgiacdeaa


/-
  The work: one block.
-/
namespace Go.Proofs.Ytbbmkgpgiacdeaa
open Go.RowKit Zk Zx
set_option linter.unusedVariables false
set_option linter.unusedSimpArgs false

theorem pf_len1 (p : Nat × Nat) : (pf p).length = 2 := rfl
theorem pf_one1 (p : Nat × Nat) : ∀ u ∈ (pf p).toArray.toList, u.oneCell' = true := fun u hu => pf_one [p] u (by simpa using hu)
theorem i64e {z : Int} {k : Nat} (h : z = (k : Int) ∧ k ≤ 9223372036854775807) : IntKind.i64.wrap z = (k : Int) := by
  rw [h.1]
  exact i64w (by omega)
/-- Old cells that the call does not write to. -/
def RsM (w : World) (M : Nat → Prop) (A : Option Addr) (n c : Nat) (l : List Int) : Prop := Rs w 1 A n c (iL l) ∧ ∀ ad, 0 < n → A = some ad → ¬ M ad.block
theorem Zx.St.rdN {w0 w : World} {M : Nat → Prop} {rs : List Res} {A : Option Addr} {n c : Nat} {l : List Int} (S : Zx.St w0 M rs w) (h : RsM w0 M A n c l) : Rs w 1 A n c (iL l) := S.rdM h.1 h.2
theorem cutI {w : World} {A : Option Addr} {n c : Nat} {l : List Int} (h : Rs w 1 A n c (iL l)) {i u : Nat} (h1 : i ≤ u) (h2 : u ≤ n) : Rs w 1 (cutA A c i 1) (u - i) (c - i) (iL (sub l i u)) := by
  have h3 := h.cut h1 h2
  rw [Nat.mul_one, Nat.mul_one] at h3
  have e : ((iL l).drop i).take (u - i) = iL (sub l i u) := by
    unfold sub iL
    rw [List.map_drop, List.map_take, List.drop_take]
  rwa [e] at h3
def bf (x : BK) : List Value := [.int .i64 (x.a : Int), .int .i64 (x.an : Int), .int .i64 (x.b : Int), .int .i64 (x.bn : Int)]
def KM (x y : List Int) : List (Nat × Nat) := keepT x y 0 0
theorem bf_len (x : BK) : (bf x).length = 4 := rfl
theorem dg_one (i k : Nat) : dg i k 1 = [(i, k)] := rfl
theorem mv_snoc {l : List (Nat × Nat)} {j : Nat} {p : Nat × Nat} (h : l[j]? = some p) (i k : Nat) : mv i k (l.take (j + 1)) = mv i k (l.take j) ++ [(i + p.1, k + p.2)] := by
  rw [tk h, mv_app]
  show _ ++ [(p.1 + i, p.2 + k)] = _
  rw [Nat.add_comm p.1, Nat.add_comm p.2]
theorem perm_tail {α : Type} (ks M P : List α) : ((ks ++ M) ++ P).Perm (ks ++ (P ++ M)) := by
  rw [List.append_assoc]
  exact List.Perm.append_left ks List.perm_append_comm


end Go.Proofs.Ytbbmkgpgiacdeaa


/-
  Small functions of the histogram way.
-/
namespace Go.Proofs.Ytbbmkgpgiacdeaa
open Go.RowKit Zk Zx
set_option linter.unusedVariables false
set_option linter.unusedSimpArgs false

def ptf (p : PT) : List Value := [.int .i64 (p.A : Int), .int .i64 (p.B : Int), .int .i64 (p.N : Int), .int .i64 (p.W : Int)]
theorem ptf_len (p : PT) : (ptf p).length = 4 := rfl
theorem ptf_one2 (p : PT) : ∀ u ∈ ptf p, u.oneCell' = true := fun u hu => by
  simp only [ptf, List.mem_cons, List.not_mem_nil, or_false] at hu
  rcases hu with rfl | rfl | rfl | rfl <;> rfl
theorem ptf_one1 (p : PT) : ∀ u ∈ (ptf p).toArray.toList, u.oneCell' = true := fun u hu => ptf_one2 p u (by simpa using hu)
theorem ptf_snoc (l : List PT) (p : PT) : l.flatMap ptf ++ ptf p = (l ++ [p]).flatMap ptf := by rw [List.flatMap_append, List.flatMap_singleton]
theorem pcmp (x y : Int) (w0 : World) : Calls Try.prog 35 #[.int .i64 x, .int .i64 y] w0 fun e w' => ∃ u, e = .returned u ∧ Like w0 w' ∧ u = .int .i64 (Lib.compareInt x y) :=
  (cmp_exact x y w0).mono fun e w' ⟨h1, h2⟩ => ⟨_, h1, by rw [h2]; exact Like.refl _, rfl⟩
def orL : List Int → Int
  | [] => 0
  | x :: l => if x = 0 then orL l else x
theorem orL_drop {l : List Int} {i : Nat} {x : Int} (h : l[i]? = some x) (h2 : x = 0) : orL (l.drop (i + 1)) = orL (l.drop i) := by
  rw [drop_cons h, orL, if_pos h2]
theorem orL_hit {l : List Int} {i : Nat} {x : Int} (h : l[i]? = some x) (h2 : ¬ x = 0) : orL (l.drop i) = x := by
  rw [drop_cons h, orL, if_neg h2]
theorem bet_or {p q : PT} (h : q.A < p.A ∨ q.A = p.A ∧ q.B < p.B) : decide (orL [Lib.compareInt p.W q.W, Lib.compareInt q.N p.N, Lib.compareInt p.A q.A, Lib.compareInt p.B q.B] < 0) = bet p q := by
  have hc : ∀ x y : Int, (x < y ∧ Lib.compareInt x y = -1) ∨ (x = y ∧ Lib.compareInt x y = 0) ∨ (y < x ∧ Lib.compareInt x y = 1) := fun x y => by
    unfold Lib.compareInt
    (repeat' split) <;> omega
  unfold bet
  rcases hc p.W q.W with ⟨h1, h2⟩ | ⟨h1, h2⟩ | ⟨h1, h2⟩ <;> rw [h2]
  · rw [if_neg (by omega)]
    simp [orL]
    omega
  · rw [if_pos (by omega)]
    rcases hc q.N p.N with ⟨h3, h4⟩ | ⟨h3, h4⟩ | ⟨h3, h4⟩ <;> rw [h4]
    · simp [orL]
      omega
    · rcases hc p.A q.A with ⟨h5, h6⟩ | ⟨h5, h6⟩ | ⟨h5, h6⟩ <;> rw [h6]
      · omega
      · rcases hc p.B q.B with ⟨h7, h8⟩ | ⟨h7, h8⟩ | ⟨h7, h8⟩ <;> rw [h8]
        · omega
        · omega
        · simp [orL]
          omega
      · simp [orL]
        omega
    · simp [orL]
      omega
  · rw [if_neg (by omega)]
    simp [orL]
    omega
theorem bet_irr (p q : PT) (h : q.N = 0 ∨ q.A < p.A ∨ q.A = p.A ∧ q.B < p.B) (h2 : ¬ q.N = 0) : q.A < p.A ∨ q.A = p.A ∧ q.B < p.B := h.resolve_left h2


set_option maxRecDepth 100000 in
theorem hor (A : Option Addr) (n c : Nat) (l : List Int) (w0 : World) (hl : Rs w0 1 A n c (iL l)) :
    Calls Try.prog 84 #[.slice A n c] w0 fun e w' => ∃ u, e = .returned u ∧ Like w0 w' ∧ u = .int .i64 (orL l) := by
  refine enter1 (env := [(0, .slice A n c)]) [.slice A n c] Try.func84 rfl Try.ntmps84 rfl rfl ?_
  have hln := lenI hl; have hcap := hl.cap; have hmax := hl.max; have S0 := St.start w0 noM
  refine T_seq fun K1 hK1 => ?_
  refine T_region ?_
  refine L_y (y_assign rfl) rfl ?_
  refine L_nil ?_
  refine hK1 _ _ ?_
  refine T_seq fun K2 hK2 => ?_
  refine T_region ?_
  refine L_y (y_assign rfl) rfl ?_
  refine L_nil ?_
  refine hK2 _ _ ?_
  refine T_seq fun K3 hK3 => ?_
  refine T_seq fun K4 hK4 => ?_
  refine T_region ?_
  refine L_y (y_move rfl) rfl ?_
  refine L_y (y_len Try.underlying22 rfl) rfl ?_
  refine L_y (y_move rfl) rfl ?_
  refine L_nil ?_
  refine hK4 _ _ ?_
  refine T_block ?_
  refine T_loop1 [(3, _), (6, _), (7, _)] (fun (i : Nat) => [(8, .int .i64 (i : Int))]) (fun (i : Nat) => n - i) (fun (i : Nat) (w : World) => (i ≤ n ∧ orL (l.drop i) = orL l) ∧ St w0 noM [] w) 0 (Sub.cons rfl (by first | rfl | exact congrArg (Value.int _) (by omega)) (Sub.nil _)) (Sub.cons rfl rfl (Sub.cons rfl rfl (Sub.cons rfl rfl (Sub.nil _)))) ?_ ?_
  ·
    exact ⟨⟨Nat.zero_le _, rfl⟩, S0⟩
  ·
    intro i w1 hrel
    obtain ⟨⟨hi, hor⟩, S1⟩ := hrel
    refine T_seq fun K5 hK5 => ?_
    refine T_region ?_
    refine L_y (y_lss rfl rfl) rfl ?_
    refine L_nil ?_
    refine hK5 _ _ ?_
    refine T_seq fun K6 hK6 => ?_
    refine T_cond rfl (fun h9 => ?_) (fun h9 => ?_)
    ·
      obtain ⟨x, hx⟩ : ∃ x, l[i]? = some x := ⟨_, List.getElem?_eq_getElem (by omega)⟩
      refine T_skip ?_
      refine hK6 _ _ ?_
      refine T_seq fun K7 hK7 => ?_
      refine T_block ?_
      refine T_seq fun K8 hK8 => ?_
      refine T_region ?_
      refine L_y (y_idx Try.underlying22 sz3 rfl rfl (S1.rd hl) (Nt.mk (by omega) : Nt _ (i)) (by omega)) rfl ?_
      refine L_y (y_ldr Try.underlying3 rfl rfl (S1.rd hl) (iL_get _ _ _ hx)) rfl ?_
      refine L_y (y_assign rfl) rfl ?_
      refine L_nil ?_
      refine hK8 _ _ ?_
      refine T_seq fun K9 hK9 => ?_
      refine T_region ?_
      refine L_y (y_move rfl) rfl ?_
      refine L_y (y_move rfl) rfl ?_
      refine L_y (y_neq rfl rfl) rfl ?_
      refine L_nil ?_
      refine hK9 _ _ ?_
      refine T_cond rfl (fun h14 => ?_) (fun h14 => ?_)
      ·
        refine T_seq fun K10 hK10 => ?_
        refine T_region ?_
        refine L_y (y_move rfl) rfl ?_
        refine L_y (y_assign rfl) rfl ?_
        refine L_nil ?_
        refine hK10 _ _ ?_
        refine T_ret ?_
        repeat (first | with_reducible refine up_then ?_ | with_reducible refine up_in ?_)
        refine ret1 rfl rfl ?_
        exact ⟨_, rfl, S1.like0, by rw [← hor, orL_hit hx (by omega)]⟩
      ·
        refine T_skip ?_
        refine hK7 _ _ ?_
        refine T_region ?_
        refine L_y (y_add rfl rfl (i64w (by omega))) rfl ?_
        refine L_y (y_move rfl) rfl ?_
        refine L_nil ?_
        refine ⟨i + 1, by omega, ⟨⟨by omega, by rw [← hor]; exact orL_drop hx (by omega)⟩, S1⟩, ?_⟩
        exact (Sub.cons rfl (by first | rfl | exact congrArg (Value.int _) (by omega)) (Sub.cons rfl rfl (Sub.cons rfl rfl (Sub.cons rfl rfl (Sub.nil _)))))
    ·
      refine T_exit ?_
      refine hK3 _ _ ?_
      refine T_seq fun K11 hK11 => ?_
      refine T_region ?_
      refine L_y (y_move rfl) rfl ?_
      refine L_y (y_assign rfl) rfl ?_
      refine L_nil ?_
      refine hK11 _ _ ?_
      refine T_ret ?_
      repeat (first | with_reducible refine up_then ?_ | with_reducible refine up_in ?_)
      refine ret1 rfl rfl ?_
      exact ⟨_, rfl, S1.like0, by rw [← hor, List.drop_of_length_le (by omega)]; rfl⟩


set_option maxRecDepth 100000 in
theorem hfirst (A : Option Addr) (n c : Nat) (l : List Int) (w0 : World) (hl : Rs w0 1 A n c (iL l)) :
    Calls Try.prog 76 #[.slice A n c] w0 fun e w' => ∃ u, e = .returned u ∧ Like w0 w' ∧ u = .int .i64 (orL l) := by
  refine enter1 (env := [(0, .slice A n c)]) [.slice A n c] Try.func76 rfl Try.ntmps76 rfl rfl ?_
  have S0 := St.start w0 noM
  refine T_seq fun K1 hK1 => ?_
  refine T_region ?_
  refine L_y (y_assign rfl) rfl ?_
  refine L_nil ?_
  refine hK1 _ _ ?_
  refine T_seq fun K2 hK2 => ?_
  refine T_region ?_
  refine L_y (y_move rfl) rfl ?_
  refine L_o (o_call Try.func84 rfl rfl (hor A n c l w0 (S0.rd hl)) rfl rfl ?_)
  rintro e1 w1 ⟨v1, rfl, l1, rfl⟩
  refine ⟨_, rfl, ?_⟩
  have S1 := S0.like l1
  refine L_y (y_assign rfl) rfl ?_
  refine L_nil ?_
  refine hK2 _ _ ?_
  refine T_ret ?_
  repeat (first | with_reducible refine up_then ?_ | with_reducible refine up_in ?_)
  refine ret1 rfl rfl ?_
  exact ⟨_, rfl, S1.like0, rfl⟩


set_option maxRecDepth 100000 in
theorem hbetter (p q : PT) (w0 : World) (hlex : q.A < p.A ∨ q.A = p.A ∧ q.B < p.B) :
    Calls Try.prog 60 #[.agg (ptf p).toArray, .agg (ptf q).toArray] w0 fun e w' => ∃ u, e = .returned u ∧ Like w0 w' ∧ u = .bool (bet p q) := by
  refine enter1 (env := [(0, .agg (ptf p).toArray), (1, .agg (ptf q).toArray)]) [.agg (ptf p).toArray, .agg (ptf q).toArray] Try.func60 rfl Try.ntmps60 rfl rfl ?_
  have S0 := St.start w0 noM
  refine T_seq fun K1 hK1 => ?_
  refine T_region ?_
  refine L_o (o_box rfl S0 rfl fun b1 w1 hb1 S1 => ?_)
  refine L_o (o_box rfl S1 rfl fun b2 w2 hb2 S2 => ?_)
  refine L_y (y_assign rfl) rfl ?_
  refine L_nil ?_
  refine hK1 _ _ ?_
  refine T_seq fun K2 hK2 => ?_
  refine T_drawnL [(0, true), (1, true), (2, true), (3, true), (5, true), (6, true), (7, true), (8, true), (10, true), (11, true), (12, true), (13, true), (15, true), (16, true), (17, true), (18, true), (4, false), (9, false), (14, false), (19, false), (20, false), (21, false), (22, true), (23, true)] hmix (by kernel_rfl) fun w3 l3 => ?_
  have S3 := S2.like l3
  refine DL_y rfl (y_fieldA 3 Try.underlying43 rfl sz3 rfl rfl rfl) rfl ?_
  refine DL_y rfl (y_ldc Try.underlying3 rfl rfl (((S3.blk 0 rfl).cell _).trans (by rfl))) rfl ?_
  refine DL_y rfl (y_fieldA 3 Try.underlying43 rfl sz3 rfl rfl rfl) rfl ?_
  refine DL_y rfl (y_ldc Try.underlying3 rfl rfl (((S3.blk 1 rfl).cell _).trans (by rfl))) rfl ?_
  refine DL_y rfl (y_fieldA 2 Try.underlying43 rfl sz3 rfl rfl rfl) rfl ?_
  refine DL_y rfl (y_ldc Try.underlying3 rfl rfl (((S3.blk 1 rfl).cell _).trans (by rfl))) rfl ?_
  refine DL_y rfl (y_fieldA 2 Try.underlying43 rfl sz3 rfl rfl rfl) rfl ?_
  refine DL_y rfl (y_ldc Try.underlying3 rfl rfl (((S3.blk 0 rfl).cell _).trans (by rfl))) rfl ?_
  refine DL_y rfl (y_fieldA 0 Try.underlying43 rfl sz3 rfl rfl rfl) rfl ?_
  refine DL_y rfl (y_ldc Try.underlying3 rfl rfl (((S3.blk 0 rfl).cell _).trans (by rfl))) rfl ?_
  refine DL_y rfl (y_fieldA 0 Try.underlying43 rfl sz3 rfl rfl rfl) rfl ?_
  refine DL_y rfl (y_ldc Try.underlying3 rfl rfl (((S3.blk 1 rfl).cell _).trans (by rfl))) rfl ?_
  refine DL_y rfl (y_fieldA 1 Try.underlying43 rfl sz3 rfl rfl rfl) rfl ?_
  refine DL_y rfl (y_ldc Try.underlying3 rfl rfl (((S3.blk 0 rfl).cell _).trans (by rfl))) rfl ?_
  refine DL_y rfl (y_fieldA 1 Try.underlying43 rfl sz3 rfl rfl rfl) rfl ?_
  refine DL_y rfl (y_ldc Try.underlying3 rfl rfl (((S3.blk 1 rfl).cell _).trans (by rfl))) rfl ?_
  refine DL_o rfl (o_call Try.func35 rfl rfl (pcmp (p.W : Int) (q.W : Int) w3) rfl rfl ?_)
  rintro e4 w4 ⟨v4, rfl, l4, rfl⟩
  refine ⟨_, rfl, l4, ?_⟩
  have S4 := S3.like l4
  have q4 := l4
  refine DL_o rfl (o_call Try.func35 rfl rfl (pcmp (q.N : Int) (p.N : Int) w4) rfl rfl ?_)
  rintro e5 w5 ⟨v5, rfl, l5, rfl⟩
  refine ⟨_, rfl, (Like.trans q4 l5), ?_⟩
  have S5 := S4.like l5
  have q5 := (Like.trans q4 l5)
  refine DL_o rfl (o_call Try.func35 rfl rfl (pcmp (p.A : Int) (q.A : Int) w5) rfl rfl ?_)
  rintro e6 w6 ⟨v6, rfl, l6, rfl⟩
  refine ⟨_, rfl, (Like.trans q5 l6), ?_⟩
  have S6 := S5.like l6
  have q6 := (Like.trans q5 l6)
  refine DL_o rfl (o_call Try.func35 rfl rfl (pcmp (p.B : Int) (q.B : Int) w6) rfl rfl ?_)
  rintro e7 w7 ⟨v7, rfl, l7, rfl⟩
  refine ⟨_, rfl, (Like.trans q6 l7), ?_⟩
  have S7 := S6.like l7
  have q7 := (Like.trans q6 l7)
  refine DL_o rfl (o_bslL [_, _, _, _] te22 zz3 S7 rfl rfl rfl rfl rfl rfl rfl rfl fun b8 w8 l8 S8 => ?_)
  have q8 := (Like.trans q7 l8)
  refine ⟨q8, ?_⟩
  refine DL_o rfl (o_call Try.func76 rfl rfl (hfirst _ _ _ [Lib.compareInt p.W q.W, Lib.compareInt q.N p.N, Lib.compareInt p.A q.A, Lib.compareInt p.B q.B] w8 (S8.row 2 rfl)) rfl rfl ?_)
  rintro e9 w9 ⟨v9, rfl, l9, rfl⟩
  refine ⟨_, rfl, (Like.trans q8 l9), ?_⟩
  have S9 := S8.like l9
  have q9 := (Like.trans q8 l9)
  refine DL_y rfl (y_lss rfl rfl) rfl ?_
  refine DL_y rfl (y_assign rfl) rfl ?_
  refine DL_nil ?_
  refine hK2 _ _ ?_
  refine T_ret ?_
  repeat (first | with_reducible refine up_then ?_ | with_reducible refine up_in ?_)
  refine ret1 rfl rfl ?_
  exact ⟨_, rfl, S9.like0, congrArg Value.bool (bet_or hlex)⟩


set_option maxRecDepth 100000 in
theorem tellB (g : Nat) (p t : PT) (w0 : World) (hw : (sepL [Zx.blk g 43 (ptf t).toArray]).holds w0) (hlex : t.N = 0 ∨ t.A < p.A ∨ t.A = p.A ∧ t.B < p.B) :
    Calls Try.prog 59 #[.agg (ptf p).toArray, .pointer (some ⟨g, 0, none⟩)] w0 fun e w' => ∃ u, e = .returned u ∧ u = .tuple #[] ∧ Turned w0 w' (sepL [Zx.blk g 43 (ptf t).toArray]) (sepL [Zx.blk g 43 (ptf (if t.N = 0 ∨ bet p t = true then p else t)).toArray]) := by
  refine enter1 (env := [(0, .agg (ptf p).toArray), (1, .pointer (some ⟨g, 0, none⟩))]) [.agg (ptf p).toArray, .pointer (some ⟨g, 0, none⟩)] Try.func59 rfl Try.ntmps59 rfl rfl ?_
  have S0 := St.borrowL hw
  refine T_seq fun K1 hK1 => ?_
  refine T_region ?_
  refine L_o (o_box rfl S0 rfl fun b1 w1 hb1 S1 => ?_)
  refine L_nil ?_
  refine hK1 _ _ ?_
  refine T_seq fun K2 hK2 => ?_
  refine T_region ?_
  refine L_y (y_fieldA 2 Try.underlying43 rfl sz3 rfl rfl rfl) rfl ?_
  refine L_y (y_ldc Try.underlying3 rfl rfl (((S1.blk 0 rfl).cell _).trans (by rfl))) rfl ?_
  refine L_y (y_eql rfl rfl) rfl ?_
  refine L_y (y_move rfl) rfl ?_
  refine L_split 6 rfl (fun h6 => ?_) (fun h6 => ?_)
  ·
    refine L_gno rfl rfl rfl ?_
    refine L_gno rfl rfl rfl ?_
    refine L_gno rfl rfl rfl ?_
    refine L_y ((by first | exact y_pickT rfl rfl | exact y_pickF rfl rfl)) rfl ?_
    refine L_nil ?_
    refine hK2 _ _ ?_
    refine T_true rfl ?_
    refine T_region ?_
    refine L_y (y_ldW Try.underlying43 rfl sz43 rfl (S1.blk 1 rfl) (show _ = ptf p ∧ _ from ⟨rfl, rfl⟩)) rfl ?_
    refine L_o (o_stW S1 0 rfl rfl rfl sz43 (by rfl) (ptf_one1 p) fun w3 S3 => ?_)
    refine L_nil ?_
    first | refine end0 (fn := Try.f59) rfl ?_ | (simp only [thenQ, inB, if_true]; refine end0 (fn := Try.f59) rfl ?_)
    exact ⟨_, rfl, rfl, by rw [if_pos (by first | exact .inl (by omega) | exact .inr h10)]; exact St.turnedL (St.sel S3 [0] (by decide))⟩
  ·
    refine L_gyes rfl rfl ?_
    refine L_y (y_ldW Try.underlying43 rfl sz43 rfl (S1.blk 1 rfl) (show _ = ptf p ∧ _ from ⟨rfl, rfl⟩)) rfl ?_
    refine L_gyes rfl rfl ?_
    refine L_y (y_ldW Try.underlying43 rfl sz43 rfl (S1.blk 0 rfl) (show _ = ptf t ∧ _ from ⟨rfl, rfl⟩)) rfl ?_
    refine L_gyes rfl rfl ?_
    refine L_o (o_call Try.func60 rfl rfl (hbetter p t w1 (bet_irr p t hlex (by omega))) rfl rfl ?_)
    rintro e4 w4 ⟨v4, rfl, l4, rfl⟩
    refine ⟨_, rfl, ?_⟩
    have S4 := S1.like l4
    refine L_y ((by first | exact y_pickT rfl rfl | exact y_pickF rfl rfl)) rfl ?_
    refine L_nil ?_
    refine hK2 _ _ ?_
    refine T_condB rfl (fun h10 => ?_) (fun h10 => ?_)
    ·
      refine T_region ?_
      refine L_y (y_ldW Try.underlying43 rfl sz43 rfl (S4.blk 1 rfl) (show _ = ptf p ∧ _ from ⟨rfl, rfl⟩)) rfl ?_
      refine L_o (o_stW S4 0 rfl rfl rfl sz43 (by rfl) (ptf_one1 p) fun w5 S5 => ?_)
      refine L_nil ?_
      first | refine end0 (fn := Try.f59) rfl ?_ | (simp only [thenQ, inB, if_true]; refine end0 (fn := Try.f59) rfl ?_)
      exact ⟨_, rfl, rfl, by rw [if_pos (by first | exact .inl (by omega) | exact .inr h10)]; exact St.turnedL (St.sel S5 [0] (by decide))⟩
    ·
      refine T_skip ?_
      first | refine end0 (fn := Try.f59) rfl ?_ | (simp only [thenQ, inB, if_true]; refine end0 (fn := Try.f59) rfl ?_)
      exact ⟨_, rfl, rfl, by rw [if_neg (fun h => by rcases h with h | h; exact h6 (by omega); (rw [h10] at h; cases h))]; exact St.turnedL (St.sel S4 [0] (by decide))⟩


/-- The list that is told, as its function holds it. -/
def tR (g : Nat) (A : Option Addr) (c : Nat) (l : List PT) : Res := sepL [Zx.blk g 36 #[.slice A l.length c], Zx.row 43 4 A l.length c (l.flatMap ptf)]


set_option maxRecDepth 100000 in
theorem tellP (g : Nat) (A : Option Addr) (c : Nat) (l : List PT) (p : PT) (w0 : World) (hw : (tR g A c l).holds w0) (hl9 : l.length ≤ 1048576) :
    Calls Try.prog 40 #[.agg (ptf p).toArray, .pointer (some ⟨g, 0, none⟩)] w0 fun e w' => ∃ u, e = .returned u ∧ ∃ A2 c2, u = .tuple #[] ∧ Turned w0 w' (tR g A c l) (tR g A2 c2 (l ++ [p])) := by
  refine enter1 (env := [(0, .agg (ptf p).toArray), (1, .pointer (some ⟨g, 0, none⟩))]) [.agg (ptf p).toArray, .pointer (some ⟨g, 0, none⟩)] Try.func40 rfl Try.ntmps40 rfl rfl ?_
  have S0 := St.borrowL hw
  refine T_seq fun K1 hK1 => ?_
  refine T_region ?_
  refine L_o (o_box rfl S0 rfl fun b1 w1 hb1 S1 => ?_)
  refine L_nil ?_
  refine hK1 _ _ ?_
  refine T_region ?_
  refine L_y (y_ldc Try.underlying36 rfl rfl (((S1.blk 0 rfl).cell _).trans (by rfl))) rfl ?_
  refine L_y (y_ldW Try.underlying43 rfl sz43 rfl (S1.blk 2 rfl) (show _ = ptf p ∧ _ from ⟨rfl, rfl⟩)) rfl ?_
  refine L_o (o_bsl [_, _, _, _] te36 zz43 S1 rfl rfl rfl rfl rfl rfl rfl rfl fun b2 w2 S2 => ?_)
  refine L_o (o_app te36 S2 1 rfl rfl rfl (by first | exact S2.row 1 rfl | exact S2.row 3 rfl) (ptf_one2 p) rfl (by omega) (by omega) fun A3 c3 w3 S3 => ?_)
  have S3d := S3.drop (rs' := [_, _, _]) (.cons_cons _ (.cons_cons _ (.cons_cons _ (.cons _ (.refl _)))))
  refine L_o (o_st1 S3d 0 rfl rfl rfl rfl sz36 (by simp; done) fun w4 S4 => ?_)
  refine L_nil ?_
  first | refine end0 (fn := Try.f40) rfl ?_ | (simp only [thenQ, inB, if_true]; refine end0 (fn := Try.f40) rfl ?_)
  have S90 := S4.rowc 1 rfl (n' := (l ++ [p]).length) (xs' := (l ++ [p]).flatMap ptf) (by simp) (ptf_snoc l p)
  have S91 := S90.blkc 0 rfl (cs' := #[.slice A3 (l ++ [p]).length c3]) (by rw [List.length_append]; rfl)
  have S5 : St w0 _ [_, _] w4 := S91.sel [0, 1] (by decide)
  exact ⟨_, rfl, A3, c3, rfl, St.turnedL S5⟩


/-- What is kept, as its function holds it. -/
def gR (g : Nat) (K : Option Addr) (c : Nat) (ks : List (Nat × Nat)) : Res := sepL [Zx.blk g 25 #[.slice K ks.length c], kR K c ks]


set_option maxRecDepth 100000 in
theorem hkeep (g : Nat) (KA : Option Addr) (kc : Nat) (ks : List (Nat × Nat)) (i k n : Nat) (w0 : World) (hw : (gR g KA kc ks).holds w0) (hin : i + n ≤ 1048576) (hkn : k + n ≤ 1048576) (hks : ks.length + n ≤ 1048576) :
    Calls Try.prog 51 #[.int .i64 (i : Int), .int .i64 (k : Int), .int .i64 (n : Int), .pointer (some ⟨g, 0, none⟩)] w0 fun e w' => ∃ u, e = .returned u ∧ ∃ K1 c1, u = .tuple #[] ∧ Turned w0 w' (gR g KA kc ks) (gR g K1 c1 (ks ++ dg i k n)) := by
  refine enter1 (env := [(0, .int .i64 (i : Int)), (1, .int .i64 (k : Int)), (2, .int .i64 (n : Int)), (3, .pointer (some ⟨g, 0, none⟩))]) [.int .i64 (i : Int), .int .i64 (k : Int), .int .i64 (n : Int), .pointer (some ⟨g, 0, none⟩)] Try.func51 rfl Try.ntmps51 rfl rfl ?_
  have S0 := St.borrowL hw
  refine T_seq fun K1 hK1 => ?_
  refine T_region ?_
  refine L_y (y_move rfl) rfl ?_
  refine L_y (y_move rfl) rfl ?_
  refine L_nil ?_
  refine hK1 _ _ ?_
  refine T_block ?_
  refine T_loop3 [(0, _), (1, _), (3, _), (8, _)] (fun (j : Nat) (K1 : Option Addr) (c1 : Nat) => [(9, .int .i64 (j : Int))]) (fun (j : Nat) (K1 : Option Addr) (c1 : Nat) => n - j) (fun (j : Nat) (K1 : Option Addr) (c1 : Nat) (w : World) => j ≤ n ∧ St w0 (gR g KA kc ks).dom [blk g 25 #[.slice K1 (ks ++ dg i k j).length c1], row 34 2 K1 (ks ++ dg i k j).length c1 ((ks ++ dg i k j).flatMap pf)] w) 0 KA kc (Sub.cons rfl (by first | rfl | exact congrArg (Value.int _) (by omega)) (Sub.nil _)) (Sub.cons rfl rfl (Sub.cons rfl rfl (Sub.cons rfl rfl (Sub.cons rfl rfl (Sub.nil _))))) ?_ ?_
  ·
    have hd0 : ks ++ dg i k 0 = ks := List.append_nil ks
    exact ⟨Nat.zero_le _, by rw [hd0]; exact S0⟩
  ·
    intro j K1 c1 w1 hrel
    obtain ⟨hj, S1⟩ := hrel
    have hjl : (ks ++ dg i k j).length = ks.length + j := by rw [List.length_append, dg_len]
    refine T_seq fun K2 hK2 => ?_
    refine T_region ?_
    refine L_y (y_lss rfl rfl) rfl ?_
    refine L_nil ?_
    refine hK2 _ _ ?_
    refine T_seq fun K3 hK3 => ?_
    refine T_cond rfl (fun h10 => ?_) (fun h10 => ?_)
    ·
      refine T_skip ?_
      refine hK3 _ _ ?_
      refine T_seq fun K4 hK4 => ?_
      refine T_block ?_
      refine T_seq fun K5 hK5 => ?_
      refine T_region ?_
      refine L_y (y_move rfl) rfl ?_
      refine L_y (y_assign rfl) rfl ?_
      refine L_nil ?_
      refine hK5 _ _ ?_
      refine T_region ?_
      refine L_y (y_ldc Try.underlying25 rfl rfl (((S1.blk 0 rfl).cell _).trans (by rfl))) rfl ?_
      refine L_y (y_move rfl) rfl ?_
      refine L_y (y_move rfl) rfl ?_
      refine L_y (y_add rfl rfl (i64w (by omega))) rfl ?_
      refine L_y (y_move rfl) rfl ?_
      refine L_y (y_move rfl) rfl ?_
      refine L_y (y_add rfl rfl (i64w (by omega))) rfl ?_
      refine L_y (y_build rfl (show _ = some #[Value.int .i64 ((i : Int) + (j : Int)), Value.int .i64 ((k : Int) + (j : Int))] by kernel_rfl)) rfl ?_
      refine L_o (o_bsl [_, _] te25 zz34 S1 rfl rfl rfl rfl rfl rfl rfl rfl fun b2 w2 S2 => ?_)
      refine L_o (o_app te25 S2 1 rfl rfl rfl (by first | exact S2.row 1 rfl | exact S2.row 2 rfl) (by intro u hu; simp at hu; rcases hu with rfl | rfl <;> rfl) rfl (by omega) (by omega) fun A3 c3 w3 S3 => ?_)
      have S3d := S3.drop (rs' := [_, _]) (.cons_cons _ (.cons_cons _ (.cons _ (.refl _))))
      refine L_o (o_st1 S3d 0 rfl rfl rfl rfl sz25 (by simp; done) fun w4 S4 => ?_)
      refine L_nil ?_
      refine hK4 _ _ ?_
      refine T_region ?_
      refine L_y (y_add rfl rfl (i64w (by omega))) rfl ?_
      refine L_y (y_move rfl) rfl ?_
      refine L_nil ?_
      have S91 := S4.rowc 1 rfl (n' := (ks ++ dg i k (j + 1)).length) (xs' := (ks ++ dg i k (j + 1)).flatMap pf) (ks_len ks i k j) (ks_step ks i k j)
      have S92 := S91.blkc 0 rfl (cs' := #[.slice _ (ks ++ dg i k (j + 1)).length _]) (by rw [← ks_len]; rfl)
      refine ⟨j + 1, _, _, by omega, ⟨by omega, S92⟩, ?_⟩
      exact (Sub.cons rfl (by first | rfl | exact congrArg (Value.int _) (by omega)) (Sub.cons rfl rfl (Sub.cons rfl rfl (Sub.cons rfl rfl (Sub.cons rfl rfl (Sub.nil _))))))
    ·
      refine T_exit ?_
      first | refine end0 (fn := Try.f51) rfl ?_ | (simp only [thenQ, inB, if_true]; refine end0 (fn := Try.f51) rfl ?_)
      have hjn : j = n := by omega
      subst hjn
      exact ⟨_, rfl, K1, c1, rfl, St.turnedL S1⟩
end Go.Proofs.Ytbbmkgpgiacdeaa


/-
  The program: each.
-/
namespace Go.Proofs.Ytbbmkgpgiacdeaa
open Go.RowKit Zk Zx
set_option linter.unusedVariables false
set_option linter.unusedSimpArgs false

theorem plR_rs {w : World} {b : Nat} {l : List Int} {ps : List PL} (hw : (plR b ps).holds w) (h : PlOk l ps) {x : Int} {A : Option Addr} {n c : Nat} (hg : getJ x (ps.map PL.ent) (.slice none 0 0) = .slice A n c) : Rs w 1 A n c (iL (nI (plc l x))) := by
  obtain ⟨A', c', h1, h2⟩ := plR_at hw h x
  rw [h1] at hg
  cases hg
  exact h2
theorem minc (a b : Nat) : min (a : Int) (b : Int) = ((min a b : Nat) : Int) := by omega
theorem plc_le (l : List Int) (x : Int) : (plc l x).length ≤ l.length := by
  rw [plc_len]
  exact List.count_le_length
theorem atP_len (a b : List Int) (i k : Nat) : (atP a b i k).length ≤ 1 := by
  unfold atP
  split <;> simp
theorem rowP_len (a b : List Int) (i : Nat) : ∀ ks : List Nat, (rowP a b i ks).length ≤ ks.length
  | [] => Nat.le_refl _
  | k :: ks => by
    have h1 := rowP_len a b i ks
    have h2 := atP_len a b i k
    unfold rowP at h1 ⊢
    rw [List.flatMap_cons, List.length_append, List.length_cons]
    omega
theorem parts_len (a b : List Int) : ∀ n, (parts a b n).length ≤ n * b.length
  | 0 => Nat.zero_le _
  | n + 1 => by
    have h1 := parts_len a b n
    rw [parts, List.length_append, Nat.succ_mul]
    cases h : a[n]? with
    | none => simp only [List.length_nil]; omega
    | some x =>
      have h2 := rowP_len a b n (plc b x)
      have h3 := plc_le b x
      simp only
      omega
theorem parts_len2 {a b : List Int} {i : Nat} (hi : i ≤ 800) (hb : b.length ≤ 800) : (parts a b i).length ≤ 640000 := Nat.le_trans (parts_len a b i) (Nat.mul_le_mul hi hb)
theorem top_lex {a b : List Int} {i j k : Nat} {ks : List Nat} (hks : ks.Pairwise (· < ·)) (hk : ks[j]? = some k) : let t := top (parts a b i ++ rowP a b i (ks.take j)); t.N = 0 ∨ t.A < i ∨ t.A = i ∧ t.B < k := by
  intro t
  rcases top_mem (parts a b i ++ rowP a b i (ks.take j)) with h | h
  · exact .inl (by show (top _).N = 0; rw [h])
  · refine .inr ?_
    rcases List.mem_append.1 h with h | h
    · obtain ⟨i2, k2, x, h1, _, _, h4⟩ := parts_mem h
      have e : t = pt a b i2 k2 := h4
      exact .inl (by rw [e]; exact h1)
    · obtain ⟨k2, h1, h4⟩ := rowP_mem h
      have e : t = pt a b i k2 := h4
      refine .inr ⟨by rw [e]; rfl, ?_⟩
      rw [e]
      show k2 < k
      obtain ⟨q, hq, e2⟩ := List.getElem_of_mem h1
      rw [List.length_take] at hq
      rw [List.getElem_take] at e2
      obtain ⟨h5, h6⟩ := List.getElem?_eq_some_iff.1 hk
      have := List.pairwise_iff_getElem.1 hks q j (by omega) h5 (by omega)
      rw [e2, h6] at this
      exact this
theorem nIget {ks : List Nat} {j k : Nat} (h : ks[j]? = some k) : (iL (nI ks))[j]? = some (.int .i64 (k : Int)) := by
  rw [iL_get _ _ _ (nI_get h)]


set_option maxRecDepth 100000 in
set_option maxHeartbeats 2000000 in
theorem heachP (g : Nat) (A : Option Addr) (n ca : Nat) (B : Option Addr) (m cb : Nat) (la lb : List Int) (w0 : World) (hw : (tR g none 0 []).holds w0) (hA : RsM w0 (tR g none 0 []).dom A n ca la) (hB : RsM w0 (tR g none 0 []).dom B m cb lb) (hn9 : n ≤ 800) (hm9 : m ≤ 800) :
    Calls Try.prog 39 #[.slice A n ca, .slice B m cb, .func (.func 40) #[] #[.pointer (some ⟨g, 0, none⟩)]] w0 fun e w' => ∃ u, e = .returned u ∧ ∃ A1 c1, u = .tuple #[] ∧ Turned w0 w' (tR g none 0 []) (tR g A1 c1 (parts la lb la.length)) := by
  refine enter1 (env := [(0, .slice A n ca), (1, .slice B m cb), (2, .func (.func 40) #[] #[.pointer (some ⟨g, 0, none⟩)])]) [.slice A n ca, .slice B m cb, .func (.func 40) #[] #[.pointer (some ⟨g, 0, none⟩)]] Try.func39 rfl Try.ntmps39 rfl rfl ?_
  have hla := lenI hA.1; have hlb := lenI hB.1; have hcap := hA.1.cap; have hcap2 := hB.1.cap; have hmax := hA.1.max; have hmax2 := hB.1.max; have S0 := St.borrowL hw
  refine T_seq fun K1 hK1 => ?_
  refine T_region ?_
  refine L_y (y_move rfl) rfl ?_
  refine L_o (o_call Try.func58 rfl rfl (hplaces A n ca la w0 (S0.rdN hA) (by omega)) rfl rfl ?_)
  rintro e1 w1 ⟨v1, rfl, l1, b1, p1, rfl, hoka, hh1, hd1⟩
  refine ⟨_, rfl, ?_⟩
  have S1 := S0.new l1 _ hh1 hd1
  refine L_y (y_move rfl) rfl ?_
  refine L_o (o_call Try.func58 rfl rfl (hplaces B m cb lb w1 (S1.rdN hB) (by omega)) rfl rfl ?_)
  rintro e2 w2 ⟨v2, rfl, l2, b2, p2, rfl, hokb, hh2, hd2⟩
  refine ⟨_, rfl, ?_⟩
  have S2 := S1.new l2 _ hh2 hd2
  refine L_y (y_assign rfl) rfl ?_
  refine L_y (y_assign rfl) rfl ?_
  refine L_nil ?_
  refine hK1 _ _ ?_
  refine T_seq fun K2 hK2 => ?_
  have S3 : St w0 _ [_, _, _, _] w2 := S2.sel [2, 3, 0, 1] (by decide)
  refine T_region ?_
  refine L_y (y_move rfl) rfl ?_
  refine L_y (y_len Try.underlying22 rfl) rfl ?_
  refine L_y (y_move rfl) rfl ?_
  refine L_nil ?_
  refine hK2 _ _ ?_
  refine T_block ?_
  refine T_loop3 [(0, _), (1, _), (2, _), (6, _), (7, _), (17, _), (18, _)] (fun (i : Nat) (A1 : Option Addr) (c1 : Nat) => [(19, .int .i64 (i : Int))]) (fun (i : Nat) (A1 : Option Addr) (c1 : Nat) => n - i) (fun (i : Nat) (A1 : Option Addr) (c1 : Nat) (w : World) => i ≤ n ∧ St w0 (tR g none 0 []).dom [plR b1 p1, plR b2 p2, blk g 36 #[.slice A1 (parts la lb i).length c1], row 43 4 A1 (parts la lb i).length c1 ((parts la lb i).flatMap ptf)] w) 0 none 0 (Sub.cons rfl (by first | rfl | exact congrArg (Value.int _) (by omega)) (Sub.nil _)) (Sub.cons rfl rfl (Sub.cons rfl rfl (Sub.cons rfl rfl (Sub.cons rfl rfl (Sub.cons rfl rfl (Sub.cons rfl rfl (Sub.cons rfl rfl (Sub.nil _)))))))) ?_ ?_
  ·
    exact ⟨Nat.zero_le _, S3⟩
  ·
    intro i A1 c1 w4 hrel
    obtain ⟨hi, S4⟩ := hrel
    refine T_seq fun K3 hK3 => ?_
    refine T_region ?_
    refine L_y (y_lss rfl rfl) rfl ?_
    refine L_nil ?_
    refine hK3 _ _ ?_
    refine T_seq fun K4 hK4 => ?_
    refine T_cond rfl (fun h20 => ?_) (fun h20 => ?_)
    ·
      obtain ⟨x, hx⟩ : ∃ x, la[i]? = some x := ⟨_, List.getElem?_eq_getElem (by omega)⟩
      refine T_skip ?_
      refine hK4 _ _ ?_
      refine T_seq fun K5 hK5 => ?_
      refine T_block ?_
      refine T_seq fun K6 hK6 => ?_
      refine T_region ?_
      refine L_y (y_move rfl) rfl ?_
      refine L_y (y_idx Try.underlying22 sz3 rfl rfl (S4.rdN hA) (Nt.mk rfl : Nt _ (i)) (by omega)) rfl ?_
      refine L_y (y_ldr Try.underlying3 rfl rfl (S4.rdN hA) (iL_get _ _ _ hx)) rfl ?_
      refine L_y (y_assign rfl) rfl ?_
      refine L_y (y_assign rfl) rfl ?_
      refine L_nil ?_
      refine hK6 _ _ ?_
      refine T_seq fun K7 hK7 => ?_
      obtain ⟨AK, cK, hgk, _⟩ := plR_at (S4.get 1 rfl) hokb x
      have hkl := plc_le lb x
      refine T_region ?_
      refine L_y (y_move rfl) rfl ?_
      refine L_y (y_move rfl) rfl ?_
      refine L_y (y_lookJv (plR_map (S4.get 1 rfl)) Try.underlying86 Try.underlying3 zz22 rfl rfl hgk) rfl ?_
      refine L_y (y_len Try.underlying22 rfl) rfl ?_
      refine L_y (y_move rfl) rfl ?_
      refine L_nil ?_
      refine hK7 _ _ ?_
      refine T_block ?_
      refine T_loop3 [(0, _), (1, _), (2, _), (6, _), (7, _), (8, _), (17, _), (18, _), (19, _), (26, _), (27, _)] (fun (j : Nat) (A1 : Option Addr) (c1 : Nat) => [(28, .int .i64 (j : Int))]) (fun (j : Nat) (A1 : Option Addr) (c1 : Nat) => (plc lb x).length - j) (fun (j : Nat) (A1 : Option Addr) (c1 : Nat) (w : World) => j ≤ (plc lb x).length ∧ St w0 (tR g none 0 []).dom [plR b1 p1, plR b2 p2, blk g 36 #[.slice A1 (parts la lb i ++ rowP la lb i ((plc lb x).take (j))).length c1], row 43 4 A1 (parts la lb i ++ rowP la lb i ((plc lb x).take (j))).length c1 ((parts la lb i ++ rowP la lb i ((plc lb x).take (j))).flatMap ptf)] w) 0 A1 c1 (Sub.cons rfl (by first | rfl | exact congrArg (Value.int _) (by omega)) (Sub.nil _)) (Sub.cons rfl rfl (Sub.cons rfl rfl (Sub.cons rfl rfl (Sub.cons rfl rfl (Sub.cons rfl rfl (Sub.cons rfl rfl (Sub.cons rfl rfl (Sub.cons rfl rfl (Sub.cons rfl rfl (Sub.cons rfl rfl (Sub.cons rfl rfl (Sub.nil _)))))))))))) ?_ ?_
      ·
        exact ⟨Nat.zero_le _, by rw [show rowP la lb i ((plc lb x).take 0) = [] from rfl, List.append_nil]; exact S4⟩
      ·
        intro j A1 c1 w5 hrel
        obtain ⟨hj, S5⟩ := hrel
        have hpl := parts_len2 (a := la) (b := lb) (i := i) (by omega) (by omega)
        have hrl := rowP_len la lb i ((plc lb x).take j)
        rw [List.length_take] at hrl
        refine T_seq fun K8 hK8 => ?_
        refine T_region ?_
        refine L_y (y_lss rfl rfl) rfl ?_
        refine L_nil ?_
        refine hK8 _ _ ?_
        refine T_seq fun K9 hK9 => ?_
        refine T_cond rfl (fun h29 => ?_) (fun h29 => ?_)
        ·
          obtain ⟨k, hk⟩ : ∃ k, (plc lb x)[j]? = some k := ⟨_, List.getElem?_eq_getElem (by omega)⟩
          have hyk : lb[k]? = some x := plc_mem.1 (List.mem_of_getElem? hk)
          have hkm := (List.getElem?_eq_some_iff.1 hyk).1
          refine T_skip ?_
          refine hK9 _ _ ?_
          refine T_seq fun K10 hK10 => ?_
          refine T_block ?_
          refine T_seq fun K11 hK11 => ?_
          refine T_region ?_
          refine L_y (y_idx Try.underlying22 sz3 rfl rfl (plR_rs (S5.get 1 rfl) hokb hgk) (Nt.mk rfl : Nt _ (j)) (by omega)) rfl ?_
          refine L_y (y_ldr Try.underlying3 rfl rfl (plR_rs (S5.get 1 rfl) hokb hgk) (nIget hk)) rfl ?_
          refine L_y (y_assign rfl) rfl ?_
          refine L_nil ?_
          refine hK11 _ _ ?_
          refine T_seq fun K12 hK12 => ?_
          refine T_seq fun K13 hK13 => ?_
          refine T_drawnL [(0, true), (1, true), (2, true), (3, true), (4, true), (5, true), (6, true), (7, true), (8, true), (9, true), (10, true), (11, true), (12, true), (13, true), (14, true), (15, true), (16, true), (17, true), (18, true)] hmix (by kernel_rfl) fun w6 l6 => ?_
          have S6 := S5.like l6
          refine DL_y rfl (y_move rfl) rfl ?_
          refine DL_y rfl (y_gtr rfl rfl) rfl ?_
          refine DL_y rfl (y_move rfl) rfl ?_
          refine DL_split 34 rfl (fun h34 => ?_) (fun h34 => ?_)
          ·
            refine DL_gyes rfl rfl rfl (y_move rfl) rfl ?_
            refine DL_gyes rfl rfl rfl (y_gtr rfl rfl) rfl ?_
            refine DL_y rfl ((by first | exact y_pickT rfl rfl | exact y_pickF rfl rfl)) rfl ?_
            refine DL_y rfl (y_move rfl) rfl ?_
            refine DL_split 38 rfl (fun h38 => ?_) (fun h38 => ?_)
            ·
              obtain ⟨x1, hx1⟩ : ∃ x1, la[i - 1]? = some x1 := ⟨_, List.getElem?_eq_getElem (by omega)⟩
              obtain ⟨y1, hy1⟩ : ∃ y1, lb[k - 1]? = some y1 := ⟨_, List.getElem?_eq_getElem (by omega)⟩
              refine DL_gyes rfl rfl rfl (y_move rfl) rfl ?_
              refine DL_gyes rfl rfl rfl (y_move rfl) rfl ?_
              refine DL_gyes rfl rfl rfl (y_sub rfl rfl (i64e (k := i - 1) (by omega))) rfl ?_
              refine DL_gyes rfl rfl rfl (y_idx Try.underlying22 sz3 rfl rfl (S6.rdN hA) (Nt.mk rfl : Nt _ (i - 1)) (by omega)) rfl ?_
              refine DL_gyes rfl rfl rfl (y_ldr Try.underlying3 rfl rfl (S6.rdN hA) (iL_get _ _ _ hx1)) rfl ?_
              refine DL_gyes rfl rfl rfl (y_move rfl) rfl ?_
              refine DL_gyes rfl rfl rfl (y_move rfl) rfl ?_
              refine DL_gyes rfl rfl rfl (y_sub rfl rfl (i64e (k := k - 1) (by omega))) rfl ?_
              refine DL_gyes rfl rfl rfl (y_idx Try.underlying22 sz3 rfl rfl (S6.rdN hB) (Nt.mk rfl : Nt _ (k - 1)) (by omega)) rfl ?_
              refine DL_gyes rfl rfl rfl (y_ldr Try.underlying3 rfl rfl (S6.rdN hB) (iL_get _ _ _ hy1)) rfl ?_
              refine DL_gyes rfl rfl rfl (y_eql rfl rfl) rfl ?_
              refine DL_y rfl ((by first | exact y_pickT rfl rfl | exact y_pickF rfl rfl)) rfl ?_
              refine DL_nil ?_
              refine hK13 _ _ ?_
              refine T_cond rfl (fun h50 => ?_) (fun h50 => ?_)
              ·
                refine T_exit ?_
                refine hK10 _ _ ?_
                refine T_region ?_
                refine L_y (y_add rfl rfl (i64w (by omega))) rfl ?_
                refine L_y (y_move rfl) rfl ?_
                refine L_nil ?_
                have hrs := rowP_snoc (a := la) (b := lb) (i := i) hk
                have hat : atP la lb i k = [] := by unfold atP; rw [if_pos ⟨by omega, by omega, by rw [hx1, hy1, h50]⟩]
                have hle : (parts la lb i ++ rowP la lb i ((plc lb x).take (j + 1))) = (parts la lb i ++ rowP la lb i ((plc lb x).take (j))) := by rw [hrs, hat, List.append_nil]
                rw [← hle] at S6
                refine ⟨j + 1, _, _, by omega, ⟨by omega, S6⟩, ?_⟩
                exact (Sub.cons rfl (by first | rfl | exact congrArg (Value.int _) (by omega)) (Sub.cons rfl rfl (Sub.cons rfl rfl (Sub.cons rfl rfl (Sub.cons rfl rfl (Sub.cons rfl rfl (Sub.cons rfl rfl (Sub.cons rfl rfl (Sub.cons rfl rfl (Sub.cons rfl rfl (Sub.cons rfl rfl (Sub.cons rfl rfl (Sub.nil _)))))))))))))
              ·
                refine T_skip ?_
                refine hK12 _ _ ?_
                refine T_seq fun K14 hK14 => ?_
                have hat : atP la lb i k = [pt la lb i k] := by unfold atP; rw [if_neg (fun h => by have h9 := h.2.2; rw [hx1, hy1] at h9; exact h50 (Option.some.inj h9))]
                refine T_region ?_
                refine L_y (y_move rfl) rfl ?_
                refine L_y (y_move rfl) rfl ?_
                refine L_y (y_move rfl) rfl ?_
                refine L_y (y_len Try.underlying22 rfl) rfl ?_
                refine L_y (y_build rfl (show _ = some #[Value.int .i64 (i : Int), Value.int .i64 (k : Int), Value.int .i64 0, Value.int .i64 (n : Int)] by kernel_rfl)) rfl ?_
                refine L_o (o_alloc zz43 S6 rfl fun b7 w7 hb7 S7 => ?_)
                refine L_o (o_stW S7 4 rfl rfl rfl sz43 (by rfl) (by intro u hu; simp at hu; rcases hu with rfl | rfl | rfl | rfl <;> rfl) fun w8 S8 => ?_)
                refine L_nil ?_
                refine hK14 _ _ ?_
                refine T_seq fun K15 hK15 => ?_
                refine T_block ?_
                refine T_loop1 [(0, _), (1, _), (2, _), (6, _), (7, _), (8, _), (11, _), (12, _), (17, _), (18, _), (19, _), (26, _), (27, _), (28, _)] (fun (nn : Nat) => []) (fun (nn : Nat) => n - nn) (fun (nn : Nat) (w : World) => ((i + nn ≤ n ∧ k + nn ≤ m) ∧ ∀ q, q < nn → la[i + q]? = lb[k + q]?) ∧ St w0 (tR g none 0 []).dom [plR b1 p1, plR b2 p2, blk b7 43 #[.int .i64 (i : Int), .int .i64 (k : Int), .int .i64 (nn : Int), .int .i64 (wr la i nn : Int)], blk g 36 #[.slice A1 (parts la lb i ++ rowP la lb i ((plc lb x).take (j))).length c1], row 43 4 A1 (parts la lb i ++ rowP la lb i ((plc lb x).take (j))).length c1 ((parts la lb i ++ rowP la lb i ((plc lb x).take (j))).flatMap ptf)] w) 0 (Sub.nil _) (Sub.cons rfl rfl (Sub.cons rfl rfl (Sub.cons rfl rfl (Sub.cons rfl rfl (Sub.cons rfl rfl (Sub.cons rfl rfl (Sub.cons rfl rfl (Sub.cons rfl rfl (Sub.cons rfl rfl (Sub.cons rfl rfl (Sub.cons rfl rfl (Sub.cons rfl rfl (Sub.cons rfl rfl (Sub.cons rfl rfl (Sub.nil _))))))))))))))) ?_ ?_
                ·
                  have S9 : St w0 _ [_, _, _, _, _] w8 := S8.sel [0, 1, 4, 2, 3] (by decide)
                  exact ⟨⟨⟨by omega, by omega⟩, fun q hq => absurd hq (Nat.not_lt_zero _)⟩, by rw [show wr la i 0 = n from hla]; exact S9⟩
                ·
                  intro nn w10 hrel
                  obtain ⟨⟨⟨hn1, hn2⟩, hnn⟩, S10⟩ := hrel
                  refine T_seq fun K16 hK16 => ?_
                  refine T_seq fun K17 hK17 => ?_
                  refine T_drawnL [(0, true), (1, true), (2, true), (3, true), (4, true), (5, true), (6, true), (7, true), (8, true), (9, true), (10, true), (11, true), (12, true), (13, true), (14, true), (15, true), (16, true), (17, true), (18, true), (19, true), (20, true), (21, true), (22, true), (23, true), (24, true), (25, true), (26, true), (27, true), (28, true), (29, true), (30, true), (31, true), (32, true)] hmix (by kernel_rfl) fun w11 l11 => ?_
                  have S11 := S10.like l11
                  refine DL_y rfl (y_move rfl) rfl ?_
                  refine DL_y rfl (y_fieldA 2 Try.underlying43 rfl sz3 rfl rfl rfl) rfl ?_
                  refine DL_y rfl (y_ldc Try.underlying3 rfl rfl (((S11.blk 2 rfl).cell _).trans (by rfl))) rfl ?_
                  refine DL_y rfl (y_add rfl rfl (i64e (k := i + nn) (by omega))) rfl ?_
                  refine DL_y rfl (y_move rfl) rfl ?_
                  refine DL_y rfl (y_len Try.underlying22 rfl) rfl ?_
                  refine DL_y rfl (y_lss rfl rfl) rfl ?_
                  refine DL_y rfl (y_move rfl) rfl ?_
                  refine DL_split 63 rfl (fun h63 => ?_) (fun h63 => ?_)
                  ·
                    refine DL_gyes rfl rfl rfl (y_move rfl) rfl ?_
                    refine DL_gyes rfl rfl rfl (y_fieldA 2 Try.underlying43 rfl sz3 rfl rfl rfl) rfl ?_
                    refine DL_gyes rfl rfl rfl (y_ldc Try.underlying3 rfl rfl (((S11.blk 2 rfl).cell _).trans (by rfl))) rfl ?_
                    refine DL_gyes rfl rfl rfl (y_add rfl rfl (i64e (k := k + nn) (by omega))) rfl ?_
                    refine DL_gyes rfl rfl rfl (y_move rfl) rfl ?_
                    refine DL_gyes rfl rfl rfl (y_len Try.underlying22 rfl) rfl ?_
                    refine DL_gyes rfl rfl rfl (y_lss rfl rfl) rfl ?_
                    refine DL_y rfl ((by first | exact y_pickT rfl rfl | exact y_pickF rfl rfl)) rfl ?_
                    refine DL_y rfl (y_move rfl) rfl ?_
                    refine DL_split 72 rfl (fun h72 => ?_) (fun h72 => ?_)
                    ·
                      obtain ⟨x2, hx2⟩ : ∃ x2, la[i + nn]? = some x2 := ⟨_, List.getElem?_eq_getElem (by omega)⟩
                      obtain ⟨y2, hy2⟩ : ∃ y2, lb[k + nn]? = some y2 := ⟨_, List.getElem?_eq_getElem (by omega)⟩
                      refine DL_gyes rfl rfl rfl (y_move rfl) rfl ?_
                      refine DL_gyes rfl rfl rfl (y_move rfl) rfl ?_
                      refine DL_gyes rfl rfl rfl (y_fieldA 2 Try.underlying43 rfl sz3 rfl rfl rfl) rfl ?_
                      refine DL_gyes rfl rfl rfl (y_ldc Try.underlying3 rfl rfl (((S11.blk 2 rfl).cell _).trans (by rfl))) rfl ?_
                      refine DL_gyes rfl rfl rfl (y_add rfl rfl (i64e (k := i + nn) (by omega))) rfl ?_
                      refine DL_gyes rfl rfl rfl (y_idx Try.underlying22 sz3 rfl rfl (S11.rdN hA) (Nt.mk rfl : Nt _ (i + nn)) (by omega)) rfl ?_
                      refine DL_gyes rfl rfl rfl (y_ldr Try.underlying3 rfl rfl (S11.rdN hA) (iL_get _ _ _ hx2)) rfl ?_
                      refine DL_gyes rfl rfl rfl (y_move rfl) rfl ?_
                      refine DL_gyes rfl rfl rfl (y_move rfl) rfl ?_
                      refine DL_gyes rfl rfl rfl (y_fieldA 2 Try.underlying43 rfl sz3 rfl rfl rfl) rfl ?_
                      refine DL_gyes rfl rfl rfl (y_ldc Try.underlying3 rfl rfl (((S11.blk 2 rfl).cell _).trans (by rfl))) rfl ?_
                      refine DL_gyes rfl rfl rfl (y_add rfl rfl (i64e (k := k + nn) (by omega))) rfl ?_
                      refine DL_gyes rfl rfl rfl (y_idx Try.underlying22 sz3 rfl rfl (S11.rdN hB) (Nt.mk rfl : Nt _ (k + nn)) (by omega)) rfl ?_
                      refine DL_gyes rfl rfl rfl (y_ldr Try.underlying3 rfl rfl (S11.rdN hB) (iL_get _ _ _ hy2)) rfl ?_
                      refine DL_gyes rfl rfl rfl (y_eql rfl rfl) rfl ?_
                      refine DL_y rfl ((by first | exact y_pickT rfl rfl | exact y_pickF rfl rfl)) rfl ?_
                      refine DL_nil ?_
                      refine hK17 _ _ ?_
                      refine T_cond rfl (fun h88 => ?_) (fun h88 => ?_)
                      ·
                        refine T_skip ?_
                        refine hK16 _ _ ?_
                        refine T_block ?_
                        refine T_seq fun K18 hK18 => ?_
                        obtain ⟨AJ, cJ, hgj, _⟩ := plR_at (S11.get 0 rfl) hoka x2
                        refine T_tail 14 hmix (by kernel_rfl) fun w12 l12 K19 hK19 => ?_
                        have S12 := S11.like l12
                        refine HL_y (y_fieldA 3 Try.underlying43 rfl sz3 rfl rfl rfl) rfl ?_
                        refine HL_y (y_ldc Try.underlying3 rfl rfl (((S12.blk 2 rfl).cell _).trans (by rfl))) rfl ?_
                        refine HL_y (y_move rfl) rfl ?_
                        refine HL_y (y_move rfl) rfl ?_
                        refine HL_y (y_move rfl) rfl ?_
                        refine HL_y (y_fieldA 2 Try.underlying43 rfl sz3 rfl rfl rfl) rfl ?_
                        refine HL_y (y_ldc Try.underlying3 rfl rfl (((S12.blk 2 rfl).cell _).trans (by rfl))) rfl ?_
                        refine HL_y (y_add rfl rfl (i64e (k := i + nn) (by omega))) rfl ?_
                        refine HL_y (y_idx Try.underlying22 sz3 rfl rfl (S12.rdN hA) (Nt.mk rfl : Nt _ (i + nn)) (by omega)) rfl ?_
                        refine HL_y (y_ldr Try.underlying3 rfl rfl (S12.rdN hA) (iL_get _ _ _ hx2)) rfl ?_
                        refine HL_y (y_lookJv (plR_map (S12.get 0 rfl)) Try.underlying86 Try.underlying3 zz22 rfl rfl hgj) rfl ?_
                        refine HL_y (y_len Try.underlying22 rfl) rfl ?_
                        refine HL_y (y_min rfl rfl) rfl ?_
                        refine HL_y (y_fieldA 3 Try.underlying43 rfl sz3 rfl rfl rfl) rfl ?_
                        refine HL_nil ?_
                        refine hK19 _ ?_
                        refine L_o (o_st1 S12 2 rfl rfl rfl rfl sz3 (by simp; done) fun w13 S13 => ?_)
                        refine L_nil ?_
                        refine hK18 _ _ ?_
                        refine T_region ?_
                        refine L_y (y_fieldA 2 Try.underlying43 rfl sz3 rfl rfl rfl) rfl ?_
                        refine L_y (y_ldc Try.underlying3 rfl rfl (((S13.blk 2 rfl).cell _).trans (by rfl))) rfl ?_
                        refine L_y (y_add rfl rfl (i64e (k := nn + 1) (by omega))) rfl ?_
                        refine L_y (y_fieldA 2 Try.underlying43 rfl sz3 rfl rfl rfl) rfl ?_
                        refine L_o (o_st1 S13 2 rfl rfl rfl rfl sz3 (by simp; done) fun w14 S14 => ?_)
                        refine L_nil ?_
                        have S15 := S14.blkc 2 rfl (cs' := #[.int .i64 (i : Int), .int .i64 (k : Int), .int .i64 ((nn + 1 : Nat) : Int), .int .i64 (wr la i (nn + 1) : Int)]) (by rw [wr, cnt_at hx2, ← plc_len, ← minc]; rfl)
                        refine ⟨nn + 1, by omega, ⟨⟨⟨by omega, by omega⟩, fun q hq => by rcases Nat.lt_or_ge q nn with h9 | h9; exact hnn q h9; (obtain rfl : q = nn := by omega); rw [hx2, hy2, h88]⟩, S15⟩, ?_⟩
                        exact (Sub.cons rfl rfl (Sub.cons rfl rfl (Sub.cons rfl rfl (Sub.cons rfl rfl (Sub.cons rfl rfl (Sub.cons rfl rfl (Sub.cons rfl rfl (Sub.cons rfl rfl (Sub.cons rfl rfl (Sub.cons rfl rfl (Sub.cons rfl rfl (Sub.cons rfl rfl (Sub.cons rfl rfl (Sub.cons rfl rfl (Sub.nil _)))))))))))))))
                      ·
                        refine T_exit ?_
                        refine hK15 _ _ ?_
                        have hln : ln la lb i k = nn := ln_of hnn (by omega) (by omega) (.inr (.inr (fun h => by rw [hx2, hy2] at h; exact h88 (Option.some.inj h))))
                        have hpt : pt la lb i k = ⟨i, k, nn, wr la i nn⟩ := by unfold pt; rw [hln]
                        have S16 : St w0 _ [_, _, _, _, _] w11 := S11.sel [0, 1, 2, 3, 4] (by decide)
                        refine T_region ?_
                        refine L_y (y_move rfl) rfl ?_
                        refine L_y (y_ldW Try.underlying43 rfl sz43 rfl (S16.blk 2 rfl) (show _ = ptf ⟨i, k, nn, wr la i nn⟩ ∧ _ from ⟨rfl, rfl⟩)) rfl ?_
                        refine L_o (o_callv rfl Try.func40 rfl rfl (tellP g A1 c1 (parts la lb i ++ rowP la lb i ((plc lb x).take (j))) ⟨i, k, nn, wr la i nn⟩ w11 (St.getL (ps := [_, _, _]) (rs := [_, _]) S16) (by rw [List.length_append]; omega)) rfl rfl (fun d' hd => by cases hd <;> rfl) ?_)
                        rintro e17 w17 ⟨v17, rfl, A17, c17, rfl, T17⟩
                        refine ⟨_, rfl, ?_⟩
                        have S17 := St.turnL (ps := [_, _, _]) (rs := [_, _]) (rs' := [_, _]) S16 T17
                        rw [← hpt] at S17
                        have S18 : St w0 _ [_, _, _, _] w17 := S17.sel [0, 1, 3, 4] (by decide)
                        refine L_nil ?_
                        refine hK10 _ _ ?_
                        refine T_region ?_
                        refine L_y (y_add rfl rfl (i64w (by omega))) rfl ?_
                        refine L_y (y_move rfl) rfl ?_
                        refine L_nil ?_
                        have hrs := rowP_snoc (a := la) (b := lb) (i := i) hk
                        rw [List.append_assoc, ← hat, ← hrs] at S18
                        refine ⟨j + 1, _, _, by omega, ⟨by omega, S18⟩, ?_⟩
                        exact (Sub.cons rfl (by first | rfl | exact congrArg (Value.int _) (by omega)) (Sub.cons rfl rfl (Sub.cons rfl rfl (Sub.cons rfl rfl (Sub.cons rfl rfl (Sub.cons rfl rfl (Sub.cons rfl rfl (Sub.cons rfl rfl (Sub.cons rfl rfl (Sub.cons rfl rfl (Sub.cons rfl rfl (Sub.cons rfl rfl (Sub.nil _)))))))))))))
                    ·
                      refine DL_gno rfl rfl rfl rfl ?_
                      refine DL_gno rfl rfl rfl rfl ?_
                      refine DL_gno rfl rfl rfl rfl ?_
                      refine DL_gno rfl rfl rfl rfl ?_
                      refine DL_gno rfl rfl rfl rfl ?_
                      refine DL_gno rfl rfl rfl rfl ?_
                      refine DL_gno rfl rfl rfl rfl ?_
                      refine DL_gno rfl rfl rfl rfl ?_
                      refine DL_gno rfl rfl rfl rfl ?_
                      refine DL_gno rfl rfl rfl rfl ?_
                      refine DL_gno rfl rfl rfl rfl ?_
                      refine DL_gno rfl rfl rfl rfl ?_
                      refine DL_gno rfl rfl rfl rfl ?_
                      refine DL_gno rfl rfl rfl rfl ?_
                      refine DL_gno rfl rfl rfl rfl ?_
                      refine DL_y rfl ((by first | exact y_pickT rfl rfl | exact y_pickF rfl rfl)) rfl ?_
                      refine DL_nil ?_
                      refine hK17 _ _ ?_
                      refine T_false rfl ?_
                      refine T_exit ?_
                      refine hK15 _ _ ?_
                      have hln : ln la lb i k = nn := ln_of hnn (by omega) (by omega) (.inr (.inl (by omega)))
                      have hpt : pt la lb i k = ⟨i, k, nn, wr la i nn⟩ := by unfold pt; rw [hln]
                      have S19 : St w0 _ [_, _, _, _, _] w11 := S11.sel [0, 1, 2, 3, 4] (by decide)
                      refine T_region ?_
                      refine L_y (y_move rfl) rfl ?_
                      refine L_y (y_ldW Try.underlying43 rfl sz43 rfl (S19.blk 2 rfl) (show _ = ptf ⟨i, k, nn, wr la i nn⟩ ∧ _ from ⟨rfl, rfl⟩)) rfl ?_
                      refine L_o (o_callv rfl Try.func40 rfl rfl (tellP g A1 c1 (parts la lb i ++ rowP la lb i ((plc lb x).take (j))) ⟨i, k, nn, wr la i nn⟩ w11 (St.getL (ps := [_, _, _]) (rs := [_, _]) S19) (by rw [List.length_append]; omega)) rfl rfl (fun d' hd => by cases hd <;> rfl) ?_)
                      rintro e20 w20 ⟨v20, rfl, A20, c20, rfl, T20⟩
                      refine ⟨_, rfl, ?_⟩
                      have S20 := St.turnL (ps := [_, _, _]) (rs := [_, _]) (rs' := [_, _]) S19 T20
                      rw [← hpt] at S20
                      have S21 : St w0 _ [_, _, _, _] w20 := S20.sel [0, 1, 3, 4] (by decide)
                      refine L_nil ?_
                      refine hK10 _ _ ?_
                      refine T_region ?_
                      refine L_y (y_add rfl rfl (i64w (by omega))) rfl ?_
                      refine L_y (y_move rfl) rfl ?_
                      refine L_nil ?_
                      have hrs := rowP_snoc (a := la) (b := lb) (i := i) hk
                      rw [List.append_assoc, ← hat, ← hrs] at S21
                      refine ⟨j + 1, _, _, by omega, ⟨by omega, S21⟩, ?_⟩
                      exact (Sub.cons rfl (by first | rfl | exact congrArg (Value.int _) (by omega)) (Sub.cons rfl rfl (Sub.cons rfl rfl (Sub.cons rfl rfl (Sub.cons rfl rfl (Sub.cons rfl rfl (Sub.cons rfl rfl (Sub.cons rfl rfl (Sub.cons rfl rfl (Sub.cons rfl rfl (Sub.cons rfl rfl (Sub.cons rfl rfl (Sub.nil _)))))))))))))
                  ·
                    refine DL_gno rfl rfl rfl rfl ?_
                    refine DL_gno rfl rfl rfl rfl ?_
                    refine DL_gno rfl rfl rfl rfl ?_
                    refine DL_gno rfl rfl rfl rfl ?_
                    refine DL_gno rfl rfl rfl rfl ?_
                    refine DL_gno rfl rfl rfl rfl ?_
                    refine DL_gno rfl rfl rfl rfl ?_
                    refine DL_y rfl ((by first | exact y_pickT rfl rfl | exact y_pickF rfl rfl)) rfl ?_
                    refine DL_y rfl (y_move rfl) rfl ?_
                    refine DL_gno rfl rfl rfl rfl ?_
                    refine DL_gno rfl rfl rfl rfl ?_
                    refine DL_gno rfl rfl rfl rfl ?_
                    refine DL_gno rfl rfl rfl rfl ?_
                    refine DL_gno rfl rfl rfl rfl ?_
                    refine DL_gno rfl rfl rfl rfl ?_
                    refine DL_gno rfl rfl rfl rfl ?_
                    refine DL_gno rfl rfl rfl rfl ?_
                    refine DL_gno rfl rfl rfl rfl ?_
                    refine DL_gno rfl rfl rfl rfl ?_
                    refine DL_gno rfl rfl rfl rfl ?_
                    refine DL_gno rfl rfl rfl rfl ?_
                    refine DL_gno rfl rfl rfl rfl ?_
                    refine DL_gno rfl rfl rfl rfl ?_
                    refine DL_gno rfl rfl rfl rfl ?_
                    refine DL_y rfl ((by first | exact y_pickT rfl rfl | exact y_pickF rfl rfl)) rfl ?_
                    refine DL_nil ?_
                    refine hK17 _ _ ?_
                    refine T_false rfl ?_
                    refine T_exit ?_
                    refine hK15 _ _ ?_
                    have hln : ln la lb i k = nn := ln_of hnn (by omega) (by omega) (.inl (by omega))
                    have hpt : pt la lb i k = ⟨i, k, nn, wr la i nn⟩ := by unfold pt; rw [hln]
                    have S22 : St w0 _ [_, _, _, _, _] w11 := S11.sel [0, 1, 2, 3, 4] (by decide)
                    refine T_region ?_
                    refine L_y (y_move rfl) rfl ?_
                    refine L_y (y_ldW Try.underlying43 rfl sz43 rfl (S22.blk 2 rfl) (show _ = ptf ⟨i, k, nn, wr la i nn⟩ ∧ _ from ⟨rfl, rfl⟩)) rfl ?_
                    refine L_o (o_callv rfl Try.func40 rfl rfl (tellP g A1 c1 (parts la lb i ++ rowP la lb i ((plc lb x).take (j))) ⟨i, k, nn, wr la i nn⟩ w11 (St.getL (ps := [_, _, _]) (rs := [_, _]) S22) (by rw [List.length_append]; omega)) rfl rfl (fun d' hd => by cases hd <;> rfl) ?_)
                    rintro e23 w23 ⟨v23, rfl, A23, c23, rfl, T23⟩
                    refine ⟨_, rfl, ?_⟩
                    have S23 := St.turnL (ps := [_, _, _]) (rs := [_, _]) (rs' := [_, _]) S22 T23
                    rw [← hpt] at S23
                    have S24 : St w0 _ [_, _, _, _] w23 := S23.sel [0, 1, 3, 4] (by decide)
                    refine L_nil ?_
                    refine hK10 _ _ ?_
                    refine T_region ?_
                    refine L_y (y_add rfl rfl (i64w (by omega))) rfl ?_
                    refine L_y (y_move rfl) rfl ?_
                    refine L_nil ?_
                    have hrs := rowP_snoc (a := la) (b := lb) (i := i) hk
                    rw [List.append_assoc, ← hat, ← hrs] at S24
                    refine ⟨j + 1, _, _, by omega, ⟨by omega, S24⟩, ?_⟩
                    exact (Sub.cons rfl (by first | rfl | exact congrArg (Value.int _) (by omega)) (Sub.cons rfl rfl (Sub.cons rfl rfl (Sub.cons rfl rfl (Sub.cons rfl rfl (Sub.cons rfl rfl (Sub.cons rfl rfl (Sub.cons rfl rfl (Sub.cons rfl rfl (Sub.cons rfl rfl (Sub.cons rfl rfl (Sub.cons rfl rfl (Sub.nil _)))))))))))))
            ·
              refine DL_gno rfl rfl rfl rfl ?_
              refine DL_gno rfl rfl rfl rfl ?_
              refine DL_gno rfl rfl rfl rfl ?_
              refine DL_gno rfl rfl rfl rfl ?_
              refine DL_gno rfl rfl rfl rfl ?_
              refine DL_gno rfl rfl rfl rfl ?_
              refine DL_gno rfl rfl rfl rfl ?_
              refine DL_gno rfl rfl rfl rfl ?_
              refine DL_gno rfl rfl rfl rfl ?_
              refine DL_gno rfl rfl rfl rfl ?_
              refine DL_gno rfl rfl rfl rfl ?_
              refine DL_y rfl ((by first | exact y_pickT rfl rfl | exact y_pickF rfl rfl)) rfl ?_
              refine DL_nil ?_
              refine hK13 _ _ ?_
              refine T_false rfl ?_
              refine T_skip ?_
              refine hK12 _ _ ?_
              refine T_seq fun K20 hK20 => ?_
              have hat : atP la lb i k = [pt la lb i k] := by unfold atP; rw [if_neg (fun h => by omega)]
              refine T_region ?_
              refine L_y (y_move rfl) rfl ?_
              refine L_y (y_move rfl) rfl ?_
              refine L_y (y_move rfl) rfl ?_
              refine L_y (y_len Try.underlying22 rfl) rfl ?_
              refine L_y (y_build rfl (show _ = some #[Value.int .i64 (i : Int), Value.int .i64 (k : Int), Value.int .i64 0, Value.int .i64 (n : Int)] by kernel_rfl)) rfl ?_
              refine L_o (o_alloc zz43 S6 rfl fun b25 w25 hb25 S25 => ?_)
              refine L_o (o_stW S25 4 rfl rfl rfl sz43 (by rfl) (by intro u hu; simp at hu; rcases hu with rfl | rfl | rfl | rfl <;> rfl) fun w26 S26 => ?_)
              refine L_nil ?_
              refine hK20 _ _ ?_
              refine T_seq fun K21 hK21 => ?_
              refine T_block ?_
              refine T_loop1 [(0, _), (1, _), (2, _), (6, _), (7, _), (8, _), (11, _), (12, _), (17, _), (18, _), (19, _), (26, _), (27, _), (28, _)] (fun (nn : Nat) => []) (fun (nn : Nat) => n - nn) (fun (nn : Nat) (w : World) => ((i + nn ≤ n ∧ k + nn ≤ m) ∧ ∀ q, q < nn → la[i + q]? = lb[k + q]?) ∧ St w0 (tR g none 0 []).dom [plR b1 p1, plR b2 p2, blk b25 43 #[.int .i64 (i : Int), .int .i64 (k : Int), .int .i64 (nn : Int), .int .i64 (wr la i nn : Int)], blk g 36 #[.slice A1 (parts la lb i ++ rowP la lb i ((plc lb x).take (j))).length c1], row 43 4 A1 (parts la lb i ++ rowP la lb i ((plc lb x).take (j))).length c1 ((parts la lb i ++ rowP la lb i ((plc lb x).take (j))).flatMap ptf)] w) 0 (Sub.nil _) (Sub.cons rfl rfl (Sub.cons rfl rfl (Sub.cons rfl rfl (Sub.cons rfl rfl (Sub.cons rfl rfl (Sub.cons rfl rfl (Sub.cons rfl rfl (Sub.cons rfl rfl (Sub.cons rfl rfl (Sub.cons rfl rfl (Sub.cons rfl rfl (Sub.cons rfl rfl (Sub.cons rfl rfl (Sub.cons rfl rfl (Sub.nil _))))))))))))))) ?_ ?_
              ·
                have S27 : St w0 _ [_, _, _, _, _] w26 := S26.sel [0, 1, 4, 2, 3] (by decide)
                exact ⟨⟨⟨by omega, by omega⟩, fun q hq => absurd hq (Nat.not_lt_zero _)⟩, by rw [show wr la i 0 = n from hla]; exact S27⟩
              ·
                intro nn w28 hrel
                obtain ⟨⟨⟨hn1, hn2⟩, hnn⟩, S28⟩ := hrel
                refine T_seq fun K22 hK22 => ?_
                refine T_seq fun K23 hK23 => ?_
                refine T_drawnL [(0, true), (1, true), (2, true), (3, true), (4, true), (5, true), (6, true), (7, true), (8, true), (9, true), (10, true), (11, true), (12, true), (13, true), (14, true), (15, true), (16, true), (17, true), (18, true), (19, true), (20, true), (21, true), (22, true), (23, true), (24, true), (25, true), (26, true), (27, true), (28, true), (29, true), (30, true), (31, true), (32, true)] hmix (by kernel_rfl) fun w29 l29 => ?_
                have S29 := S28.like l29
                refine DL_y rfl (y_move rfl) rfl ?_
                refine DL_y rfl (y_fieldA 2 Try.underlying43 rfl sz3 rfl rfl rfl) rfl ?_
                refine DL_y rfl (y_ldc Try.underlying3 rfl rfl (((S29.blk 2 rfl).cell _).trans (by rfl))) rfl ?_
                refine DL_y rfl (y_add rfl rfl (i64e (k := i + nn) (by omega))) rfl ?_
                refine DL_y rfl (y_move rfl) rfl ?_
                refine DL_y rfl (y_len Try.underlying22 rfl) rfl ?_
                refine DL_y rfl (y_lss rfl rfl) rfl ?_
                refine DL_y rfl (y_move rfl) rfl ?_
                refine DL_split 63 rfl (fun h63 => ?_) (fun h63 => ?_)
                ·
                  refine DL_gyes rfl rfl rfl (y_move rfl) rfl ?_
                  refine DL_gyes rfl rfl rfl (y_fieldA 2 Try.underlying43 rfl sz3 rfl rfl rfl) rfl ?_
                  refine DL_gyes rfl rfl rfl (y_ldc Try.underlying3 rfl rfl (((S29.blk 2 rfl).cell _).trans (by rfl))) rfl ?_
                  refine DL_gyes rfl rfl rfl (y_add rfl rfl (i64e (k := k + nn) (by omega))) rfl ?_
                  refine DL_gyes rfl rfl rfl (y_move rfl) rfl ?_
                  refine DL_gyes rfl rfl rfl (y_len Try.underlying22 rfl) rfl ?_
                  refine DL_gyes rfl rfl rfl (y_lss rfl rfl) rfl ?_
                  refine DL_y rfl ((by first | exact y_pickT rfl rfl | exact y_pickF rfl rfl)) rfl ?_
                  refine DL_y rfl (y_move rfl) rfl ?_
                  refine DL_split 72 rfl (fun h72 => ?_) (fun h72 => ?_)
                  ·
                    obtain ⟨x2, hx2⟩ : ∃ x2, la[i + nn]? = some x2 := ⟨_, List.getElem?_eq_getElem (by omega)⟩
                    obtain ⟨y2, hy2⟩ : ∃ y2, lb[k + nn]? = some y2 := ⟨_, List.getElem?_eq_getElem (by omega)⟩
                    refine DL_gyes rfl rfl rfl (y_move rfl) rfl ?_
                    refine DL_gyes rfl rfl rfl (y_move rfl) rfl ?_
                    refine DL_gyes rfl rfl rfl (y_fieldA 2 Try.underlying43 rfl sz3 rfl rfl rfl) rfl ?_
                    refine DL_gyes rfl rfl rfl (y_ldc Try.underlying3 rfl rfl (((S29.blk 2 rfl).cell _).trans (by rfl))) rfl ?_
                    refine DL_gyes rfl rfl rfl (y_add rfl rfl (i64e (k := i + nn) (by omega))) rfl ?_
                    refine DL_gyes rfl rfl rfl (y_idx Try.underlying22 sz3 rfl rfl (S29.rdN hA) (Nt.mk rfl : Nt _ (i + nn)) (by omega)) rfl ?_
                    refine DL_gyes rfl rfl rfl (y_ldr Try.underlying3 rfl rfl (S29.rdN hA) (iL_get _ _ _ hx2)) rfl ?_
                    refine DL_gyes rfl rfl rfl (y_move rfl) rfl ?_
                    refine DL_gyes rfl rfl rfl (y_move rfl) rfl ?_
                    refine DL_gyes rfl rfl rfl (y_fieldA 2 Try.underlying43 rfl sz3 rfl rfl rfl) rfl ?_
                    refine DL_gyes rfl rfl rfl (y_ldc Try.underlying3 rfl rfl (((S29.blk 2 rfl).cell _).trans (by rfl))) rfl ?_
                    refine DL_gyes rfl rfl rfl (y_add rfl rfl (i64e (k := k + nn) (by omega))) rfl ?_
                    refine DL_gyes rfl rfl rfl (y_idx Try.underlying22 sz3 rfl rfl (S29.rdN hB) (Nt.mk rfl : Nt _ (k + nn)) (by omega)) rfl ?_
                    refine DL_gyes rfl rfl rfl (y_ldr Try.underlying3 rfl rfl (S29.rdN hB) (iL_get _ _ _ hy2)) rfl ?_
                    refine DL_gyes rfl rfl rfl (y_eql rfl rfl) rfl ?_
                    refine DL_y rfl ((by first | exact y_pickT rfl rfl | exact y_pickF rfl rfl)) rfl ?_
                    refine DL_nil ?_
                    refine hK23 _ _ ?_
                    refine T_cond rfl (fun h88 => ?_) (fun h88 => ?_)
                    ·
                      refine T_skip ?_
                      refine hK22 _ _ ?_
                      refine T_block ?_
                      refine T_seq fun K24 hK24 => ?_
                      obtain ⟨AJ, cJ, hgj, _⟩ := plR_at (S29.get 0 rfl) hoka x2
                      refine T_tail 14 hmix (by kernel_rfl) fun w30 l30 K25 hK25 => ?_
                      have S30 := S29.like l30
                      refine HL_y (y_fieldA 3 Try.underlying43 rfl sz3 rfl rfl rfl) rfl ?_
                      refine HL_y (y_ldc Try.underlying3 rfl rfl (((S30.blk 2 rfl).cell _).trans (by rfl))) rfl ?_
                      refine HL_y (y_move rfl) rfl ?_
                      refine HL_y (y_move rfl) rfl ?_
                      refine HL_y (y_move rfl) rfl ?_
                      refine HL_y (y_fieldA 2 Try.underlying43 rfl sz3 rfl rfl rfl) rfl ?_
                      refine HL_y (y_ldc Try.underlying3 rfl rfl (((S30.blk 2 rfl).cell _).trans (by rfl))) rfl ?_
                      refine HL_y (y_add rfl rfl (i64e (k := i + nn) (by omega))) rfl ?_
                      refine HL_y (y_idx Try.underlying22 sz3 rfl rfl (S30.rdN hA) (Nt.mk rfl : Nt _ (i + nn)) (by omega)) rfl ?_
                      refine HL_y (y_ldr Try.underlying3 rfl rfl (S30.rdN hA) (iL_get _ _ _ hx2)) rfl ?_
                      refine HL_y (y_lookJv (plR_map (S30.get 0 rfl)) Try.underlying86 Try.underlying3 zz22 rfl rfl hgj) rfl ?_
                      refine HL_y (y_len Try.underlying22 rfl) rfl ?_
                      refine HL_y (y_min rfl rfl) rfl ?_
                      refine HL_y (y_fieldA 3 Try.underlying43 rfl sz3 rfl rfl rfl) rfl ?_
                      refine HL_nil ?_
                      refine hK25 _ ?_
                      refine L_o (o_st1 S30 2 rfl rfl rfl rfl sz3 (by simp; done) fun w31 S31 => ?_)
                      refine L_nil ?_
                      refine hK24 _ _ ?_
                      refine T_region ?_
                      refine L_y (y_fieldA 2 Try.underlying43 rfl sz3 rfl rfl rfl) rfl ?_
                      refine L_y (y_ldc Try.underlying3 rfl rfl (((S31.blk 2 rfl).cell _).trans (by rfl))) rfl ?_
                      refine L_y (y_add rfl rfl (i64e (k := nn + 1) (by omega))) rfl ?_
                      refine L_y (y_fieldA 2 Try.underlying43 rfl sz3 rfl rfl rfl) rfl ?_
                      refine L_o (o_st1 S31 2 rfl rfl rfl rfl sz3 (by simp; done) fun w32 S32 => ?_)
                      refine L_nil ?_
                      have S33 := S32.blkc 2 rfl (cs' := #[.int .i64 (i : Int), .int .i64 (k : Int), .int .i64 ((nn + 1 : Nat) : Int), .int .i64 (wr la i (nn + 1) : Int)]) (by rw [wr, cnt_at hx2, ← plc_len, ← minc]; rfl)
                      refine ⟨nn + 1, by omega, ⟨⟨⟨by omega, by omega⟩, fun q hq => by rcases Nat.lt_or_ge q nn with h9 | h9; exact hnn q h9; (obtain rfl : q = nn := by omega); rw [hx2, hy2, h88]⟩, S33⟩, ?_⟩
                      exact (Sub.cons rfl rfl (Sub.cons rfl rfl (Sub.cons rfl rfl (Sub.cons rfl rfl (Sub.cons rfl rfl (Sub.cons rfl rfl (Sub.cons rfl rfl (Sub.cons rfl rfl (Sub.cons rfl rfl (Sub.cons rfl rfl (Sub.cons rfl rfl (Sub.cons rfl rfl (Sub.cons rfl rfl (Sub.cons rfl rfl (Sub.nil _)))))))))))))))
                    ·
                      refine T_exit ?_
                      refine hK21 _ _ ?_
                      have hln : ln la lb i k = nn := ln_of hnn (by omega) (by omega) (.inr (.inr (fun h => by rw [hx2, hy2] at h; exact h88 (Option.some.inj h))))
                      have hpt : pt la lb i k = ⟨i, k, nn, wr la i nn⟩ := by unfold pt; rw [hln]
                      have S34 : St w0 _ [_, _, _, _, _] w29 := S29.sel [0, 1, 2, 3, 4] (by decide)
                      refine T_region ?_
                      refine L_y (y_move rfl) rfl ?_
                      refine L_y (y_ldW Try.underlying43 rfl sz43 rfl (S34.blk 2 rfl) (show _ = ptf ⟨i, k, nn, wr la i nn⟩ ∧ _ from ⟨rfl, rfl⟩)) rfl ?_
                      refine L_o (o_callv rfl Try.func40 rfl rfl (tellP g A1 c1 (parts la lb i ++ rowP la lb i ((plc lb x).take (j))) ⟨i, k, nn, wr la i nn⟩ w29 (St.getL (ps := [_, _, _]) (rs := [_, _]) S34) (by rw [List.length_append]; omega)) rfl rfl (fun d' hd => by cases hd <;> rfl) ?_)
                      rintro e35 w35 ⟨v35, rfl, A35, c35, rfl, T35⟩
                      refine ⟨_, rfl, ?_⟩
                      have S35 := St.turnL (ps := [_, _, _]) (rs := [_, _]) (rs' := [_, _]) S34 T35
                      rw [← hpt] at S35
                      have S36 : St w0 _ [_, _, _, _] w35 := S35.sel [0, 1, 3, 4] (by decide)
                      refine L_nil ?_
                      refine hK10 _ _ ?_
                      refine T_region ?_
                      refine L_y (y_add rfl rfl (i64w (by omega))) rfl ?_
                      refine L_y (y_move rfl) rfl ?_
                      refine L_nil ?_
                      have hrs := rowP_snoc (a := la) (b := lb) (i := i) hk
                      rw [List.append_assoc, ← hat, ← hrs] at S36
                      refine ⟨j + 1, _, _, by omega, ⟨by omega, S36⟩, ?_⟩
                      exact (Sub.cons rfl (by first | rfl | exact congrArg (Value.int _) (by omega)) (Sub.cons rfl rfl (Sub.cons rfl rfl (Sub.cons rfl rfl (Sub.cons rfl rfl (Sub.cons rfl rfl (Sub.cons rfl rfl (Sub.cons rfl rfl (Sub.cons rfl rfl (Sub.cons rfl rfl (Sub.cons rfl rfl (Sub.cons rfl rfl (Sub.nil _)))))))))))))
                  ·
                    refine DL_gno rfl rfl rfl rfl ?_
                    refine DL_gno rfl rfl rfl rfl ?_
                    refine DL_gno rfl rfl rfl rfl ?_
                    refine DL_gno rfl rfl rfl rfl ?_
                    refine DL_gno rfl rfl rfl rfl ?_
                    refine DL_gno rfl rfl rfl rfl ?_
                    refine DL_gno rfl rfl rfl rfl ?_
                    refine DL_gno rfl rfl rfl rfl ?_
                    refine DL_gno rfl rfl rfl rfl ?_
                    refine DL_gno rfl rfl rfl rfl ?_
                    refine DL_gno rfl rfl rfl rfl ?_
                    refine DL_gno rfl rfl rfl rfl ?_
                    refine DL_gno rfl rfl rfl rfl ?_
                    refine DL_gno rfl rfl rfl rfl ?_
                    refine DL_gno rfl rfl rfl rfl ?_
                    refine DL_y rfl ((by first | exact y_pickT rfl rfl | exact y_pickF rfl rfl)) rfl ?_
                    refine DL_nil ?_
                    refine hK23 _ _ ?_
                    refine T_false rfl ?_
                    refine T_exit ?_
                    refine hK21 _ _ ?_
                    have hln : ln la lb i k = nn := ln_of hnn (by omega) (by omega) (.inr (.inl (by omega)))
                    have hpt : pt la lb i k = ⟨i, k, nn, wr la i nn⟩ := by unfold pt; rw [hln]
                    have S37 : St w0 _ [_, _, _, _, _] w29 := S29.sel [0, 1, 2, 3, 4] (by decide)
                    refine T_region ?_
                    refine L_y (y_move rfl) rfl ?_
                    refine L_y (y_ldW Try.underlying43 rfl sz43 rfl (S37.blk 2 rfl) (show _ = ptf ⟨i, k, nn, wr la i nn⟩ ∧ _ from ⟨rfl, rfl⟩)) rfl ?_
                    refine L_o (o_callv rfl Try.func40 rfl rfl (tellP g A1 c1 (parts la lb i ++ rowP la lb i ((plc lb x).take (j))) ⟨i, k, nn, wr la i nn⟩ w29 (St.getL (ps := [_, _, _]) (rs := [_, _]) S37) (by rw [List.length_append]; omega)) rfl rfl (fun d' hd => by cases hd <;> rfl) ?_)
                    rintro e38 w38 ⟨v38, rfl, A38, c38, rfl, T38⟩
                    refine ⟨_, rfl, ?_⟩
                    have S38 := St.turnL (ps := [_, _, _]) (rs := [_, _]) (rs' := [_, _]) S37 T38
                    rw [← hpt] at S38
                    have S39 : St w0 _ [_, _, _, _] w38 := S38.sel [0, 1, 3, 4] (by decide)
                    refine L_nil ?_
                    refine hK10 _ _ ?_
                    refine T_region ?_
                    refine L_y (y_add rfl rfl (i64w (by omega))) rfl ?_
                    refine L_y (y_move rfl) rfl ?_
                    refine L_nil ?_
                    have hrs := rowP_snoc (a := la) (b := lb) (i := i) hk
                    rw [List.append_assoc, ← hat, ← hrs] at S39
                    refine ⟨j + 1, _, _, by omega, ⟨by omega, S39⟩, ?_⟩
                    exact (Sub.cons rfl (by first | rfl | exact congrArg (Value.int _) (by omega)) (Sub.cons rfl rfl (Sub.cons rfl rfl (Sub.cons rfl rfl (Sub.cons rfl rfl (Sub.cons rfl rfl (Sub.cons rfl rfl (Sub.cons rfl rfl (Sub.cons rfl rfl (Sub.cons rfl rfl (Sub.cons rfl rfl (Sub.cons rfl rfl (Sub.nil _)))))))))))))
                ·
                  refine DL_gno rfl rfl rfl rfl ?_
                  refine DL_gno rfl rfl rfl rfl ?_
                  refine DL_gno rfl rfl rfl rfl ?_
                  refine DL_gno rfl rfl rfl rfl ?_
                  refine DL_gno rfl rfl rfl rfl ?_
                  refine DL_gno rfl rfl rfl rfl ?_
                  refine DL_gno rfl rfl rfl rfl ?_
                  refine DL_y rfl ((by first | exact y_pickT rfl rfl | exact y_pickF rfl rfl)) rfl ?_
                  refine DL_y rfl (y_move rfl) rfl ?_
                  refine DL_gno rfl rfl rfl rfl ?_
                  refine DL_gno rfl rfl rfl rfl ?_
                  refine DL_gno rfl rfl rfl rfl ?_
                  refine DL_gno rfl rfl rfl rfl ?_
                  refine DL_gno rfl rfl rfl rfl ?_
                  refine DL_gno rfl rfl rfl rfl ?_
                  refine DL_gno rfl rfl rfl rfl ?_
                  refine DL_gno rfl rfl rfl rfl ?_
                  refine DL_gno rfl rfl rfl rfl ?_
                  refine DL_gno rfl rfl rfl rfl ?_
                  refine DL_gno rfl rfl rfl rfl ?_
                  refine DL_gno rfl rfl rfl rfl ?_
                  refine DL_gno rfl rfl rfl rfl ?_
                  refine DL_gno rfl rfl rfl rfl ?_
                  refine DL_gno rfl rfl rfl rfl ?_
                  refine DL_y rfl ((by first | exact y_pickT rfl rfl | exact y_pickF rfl rfl)) rfl ?_
                  refine DL_nil ?_
                  refine hK23 _ _ ?_
                  refine T_false rfl ?_
                  refine T_exit ?_
                  refine hK21 _ _ ?_
                  have hln : ln la lb i k = nn := ln_of hnn (by omega) (by omega) (.inl (by omega))
                  have hpt : pt la lb i k = ⟨i, k, nn, wr la i nn⟩ := by unfold pt; rw [hln]
                  have S40 : St w0 _ [_, _, _, _, _] w29 := S29.sel [0, 1, 2, 3, 4] (by decide)
                  refine T_region ?_
                  refine L_y (y_move rfl) rfl ?_
                  refine L_y (y_ldW Try.underlying43 rfl sz43 rfl (S40.blk 2 rfl) (show _ = ptf ⟨i, k, nn, wr la i nn⟩ ∧ _ from ⟨rfl, rfl⟩)) rfl ?_
                  refine L_o (o_callv rfl Try.func40 rfl rfl (tellP g A1 c1 (parts la lb i ++ rowP la lb i ((plc lb x).take (j))) ⟨i, k, nn, wr la i nn⟩ w29 (St.getL (ps := [_, _, _]) (rs := [_, _]) S40) (by rw [List.length_append]; omega)) rfl rfl (fun d' hd => by cases hd <;> rfl) ?_)
                  rintro e41 w41 ⟨v41, rfl, A41, c41, rfl, T41⟩
                  refine ⟨_, rfl, ?_⟩
                  have S41 := St.turnL (ps := [_, _, _]) (rs := [_, _]) (rs' := [_, _]) S40 T41
                  rw [← hpt] at S41
                  have S42 : St w0 _ [_, _, _, _] w41 := S41.sel [0, 1, 3, 4] (by decide)
                  refine L_nil ?_
                  refine hK10 _ _ ?_
                  refine T_region ?_
                  refine L_y (y_add rfl rfl (i64w (by omega))) rfl ?_
                  refine L_y (y_move rfl) rfl ?_
                  refine L_nil ?_
                  have hrs := rowP_snoc (a := la) (b := lb) (i := i) hk
                  rw [List.append_assoc, ← hat, ← hrs] at S42
                  refine ⟨j + 1, _, _, by omega, ⟨by omega, S42⟩, ?_⟩
                  exact (Sub.cons rfl (by first | rfl | exact congrArg (Value.int _) (by omega)) (Sub.cons rfl rfl (Sub.cons rfl rfl (Sub.cons rfl rfl (Sub.cons rfl rfl (Sub.cons rfl rfl (Sub.cons rfl rfl (Sub.cons rfl rfl (Sub.cons rfl rfl (Sub.cons rfl rfl (Sub.cons rfl rfl (Sub.cons rfl rfl (Sub.nil _)))))))))))))
          ·
            refine DL_gno rfl rfl rfl rfl ?_
            refine DL_gno rfl rfl rfl rfl ?_
            refine DL_y rfl ((by first | exact y_pickT rfl rfl | exact y_pickF rfl rfl)) rfl ?_
            refine DL_y rfl (y_move rfl) rfl ?_
            refine DL_gno rfl rfl rfl rfl ?_
            refine DL_gno rfl rfl rfl rfl ?_
            refine DL_gno rfl rfl rfl rfl ?_
            refine DL_gno rfl rfl rfl rfl ?_
            refine DL_gno rfl rfl rfl rfl ?_
            refine DL_gno rfl rfl rfl rfl ?_
            refine DL_gno rfl rfl rfl rfl ?_
            refine DL_gno rfl rfl rfl rfl ?_
            refine DL_gno rfl rfl rfl rfl ?_
            refine DL_gno rfl rfl rfl rfl ?_
            refine DL_gno rfl rfl rfl rfl ?_
            refine DL_y rfl ((by first | exact y_pickT rfl rfl | exact y_pickF rfl rfl)) rfl ?_
            refine DL_nil ?_
            refine hK13 _ _ ?_
            refine T_false rfl ?_
            refine T_skip ?_
            refine hK12 _ _ ?_
            refine T_seq fun K26 hK26 => ?_
            have hat : atP la lb i k = [pt la lb i k] := by unfold atP; rw [if_neg (fun h => by omega)]
            refine T_region ?_
            refine L_y (y_move rfl) rfl ?_
            refine L_y (y_move rfl) rfl ?_
            refine L_y (y_move rfl) rfl ?_
            refine L_y (y_len Try.underlying22 rfl) rfl ?_
            refine L_y (y_build rfl (show _ = some #[Value.int .i64 (i : Int), Value.int .i64 (k : Int), Value.int .i64 0, Value.int .i64 (n : Int)] by kernel_rfl)) rfl ?_
            refine L_o (o_alloc zz43 S6 rfl fun b43 w43 hb43 S43 => ?_)
            refine L_o (o_stW S43 4 rfl rfl rfl sz43 (by rfl) (by intro u hu; simp at hu; rcases hu with rfl | rfl | rfl | rfl <;> rfl) fun w44 S44 => ?_)
            refine L_nil ?_
            refine hK26 _ _ ?_
            refine T_seq fun K27 hK27 => ?_
            refine T_block ?_
            refine T_loop1 [(0, _), (1, _), (2, _), (6, _), (7, _), (8, _), (11, _), (12, _), (17, _), (18, _), (19, _), (26, _), (27, _), (28, _)] (fun (nn : Nat) => []) (fun (nn : Nat) => n - nn) (fun (nn : Nat) (w : World) => ((i + nn ≤ n ∧ k + nn ≤ m) ∧ ∀ q, q < nn → la[i + q]? = lb[k + q]?) ∧ St w0 (tR g none 0 []).dom [plR b1 p1, plR b2 p2, blk b43 43 #[.int .i64 (i : Int), .int .i64 (k : Int), .int .i64 (nn : Int), .int .i64 (wr la i nn : Int)], blk g 36 #[.slice A1 (parts la lb i ++ rowP la lb i ((plc lb x).take (j))).length c1], row 43 4 A1 (parts la lb i ++ rowP la lb i ((plc lb x).take (j))).length c1 ((parts la lb i ++ rowP la lb i ((plc lb x).take (j))).flatMap ptf)] w) 0 (Sub.nil _) (Sub.cons rfl rfl (Sub.cons rfl rfl (Sub.cons rfl rfl (Sub.cons rfl rfl (Sub.cons rfl rfl (Sub.cons rfl rfl (Sub.cons rfl rfl (Sub.cons rfl rfl (Sub.cons rfl rfl (Sub.cons rfl rfl (Sub.cons rfl rfl (Sub.cons rfl rfl (Sub.cons rfl rfl (Sub.cons rfl rfl (Sub.nil _))))))))))))))) ?_ ?_
            ·
              have S45 : St w0 _ [_, _, _, _, _] w44 := S44.sel [0, 1, 4, 2, 3] (by decide)
              exact ⟨⟨⟨by omega, by omega⟩, fun q hq => absurd hq (Nat.not_lt_zero _)⟩, by rw [show wr la i 0 = n from hla]; exact S45⟩
            ·
              intro nn w46 hrel
              obtain ⟨⟨⟨hn1, hn2⟩, hnn⟩, S46⟩ := hrel
              refine T_seq fun K28 hK28 => ?_
              refine T_seq fun K29 hK29 => ?_
              refine T_drawnL [(0, true), (1, true), (2, true), (3, true), (4, true), (5, true), (6, true), (7, true), (8, true), (9, true), (10, true), (11, true), (12, true), (13, true), (14, true), (15, true), (16, true), (17, true), (18, true), (19, true), (20, true), (21, true), (22, true), (23, true), (24, true), (25, true), (26, true), (27, true), (28, true), (29, true), (30, true), (31, true), (32, true)] hmix (by kernel_rfl) fun w47 l47 => ?_
              have S47 := S46.like l47
              refine DL_y rfl (y_move rfl) rfl ?_
              refine DL_y rfl (y_fieldA 2 Try.underlying43 rfl sz3 rfl rfl rfl) rfl ?_
              refine DL_y rfl (y_ldc Try.underlying3 rfl rfl (((S47.blk 2 rfl).cell _).trans (by rfl))) rfl ?_
              refine DL_y rfl (y_add rfl rfl (i64e (k := i + nn) (by omega))) rfl ?_
              refine DL_y rfl (y_move rfl) rfl ?_
              refine DL_y rfl (y_len Try.underlying22 rfl) rfl ?_
              refine DL_y rfl (y_lss rfl rfl) rfl ?_
              refine DL_y rfl (y_move rfl) rfl ?_
              refine DL_split 63 rfl (fun h63 => ?_) (fun h63 => ?_)
              ·
                refine DL_gyes rfl rfl rfl (y_move rfl) rfl ?_
                refine DL_gyes rfl rfl rfl (y_fieldA 2 Try.underlying43 rfl sz3 rfl rfl rfl) rfl ?_
                refine DL_gyes rfl rfl rfl (y_ldc Try.underlying3 rfl rfl (((S47.blk 2 rfl).cell _).trans (by rfl))) rfl ?_
                refine DL_gyes rfl rfl rfl (y_add rfl rfl (i64e (k := k + nn) (by omega))) rfl ?_
                refine DL_gyes rfl rfl rfl (y_move rfl) rfl ?_
                refine DL_gyes rfl rfl rfl (y_len Try.underlying22 rfl) rfl ?_
                refine DL_gyes rfl rfl rfl (y_lss rfl rfl) rfl ?_
                refine DL_y rfl ((by first | exact y_pickT rfl rfl | exact y_pickF rfl rfl)) rfl ?_
                refine DL_y rfl (y_move rfl) rfl ?_
                refine DL_split 72 rfl (fun h72 => ?_) (fun h72 => ?_)
                ·
                  obtain ⟨x2, hx2⟩ : ∃ x2, la[i + nn]? = some x2 := ⟨_, List.getElem?_eq_getElem (by omega)⟩
                  obtain ⟨y2, hy2⟩ : ∃ y2, lb[k + nn]? = some y2 := ⟨_, List.getElem?_eq_getElem (by omega)⟩
                  refine DL_gyes rfl rfl rfl (y_move rfl) rfl ?_
                  refine DL_gyes rfl rfl rfl (y_move rfl) rfl ?_
                  refine DL_gyes rfl rfl rfl (y_fieldA 2 Try.underlying43 rfl sz3 rfl rfl rfl) rfl ?_
                  refine DL_gyes rfl rfl rfl (y_ldc Try.underlying3 rfl rfl (((S47.blk 2 rfl).cell _).trans (by rfl))) rfl ?_
                  refine DL_gyes rfl rfl rfl (y_add rfl rfl (i64e (k := i + nn) (by omega))) rfl ?_
                  refine DL_gyes rfl rfl rfl (y_idx Try.underlying22 sz3 rfl rfl (S47.rdN hA) (Nt.mk rfl : Nt _ (i + nn)) (by omega)) rfl ?_
                  refine DL_gyes rfl rfl rfl (y_ldr Try.underlying3 rfl rfl (S47.rdN hA) (iL_get _ _ _ hx2)) rfl ?_
                  refine DL_gyes rfl rfl rfl (y_move rfl) rfl ?_
                  refine DL_gyes rfl rfl rfl (y_move rfl) rfl ?_
                  refine DL_gyes rfl rfl rfl (y_fieldA 2 Try.underlying43 rfl sz3 rfl rfl rfl) rfl ?_
                  refine DL_gyes rfl rfl rfl (y_ldc Try.underlying3 rfl rfl (((S47.blk 2 rfl).cell _).trans (by rfl))) rfl ?_
                  refine DL_gyes rfl rfl rfl (y_add rfl rfl (i64e (k := k + nn) (by omega))) rfl ?_
                  refine DL_gyes rfl rfl rfl (y_idx Try.underlying22 sz3 rfl rfl (S47.rdN hB) (Nt.mk rfl : Nt _ (k + nn)) (by omega)) rfl ?_
                  refine DL_gyes rfl rfl rfl (y_ldr Try.underlying3 rfl rfl (S47.rdN hB) (iL_get _ _ _ hy2)) rfl ?_
                  refine DL_gyes rfl rfl rfl (y_eql rfl rfl) rfl ?_
                  refine DL_y rfl ((by first | exact y_pickT rfl rfl | exact y_pickF rfl rfl)) rfl ?_
                  refine DL_nil ?_
                  refine hK29 _ _ ?_
                  refine T_cond rfl (fun h88 => ?_) (fun h88 => ?_)
                  ·
                    refine T_skip ?_
                    refine hK28 _ _ ?_
                    refine T_block ?_
                    refine T_seq fun K30 hK30 => ?_
                    obtain ⟨AJ, cJ, hgj, _⟩ := plR_at (S47.get 0 rfl) hoka x2
                    refine T_tail 14 hmix (by kernel_rfl) fun w48 l48 K31 hK31 => ?_
                    have S48 := S47.like l48
                    refine HL_y (y_fieldA 3 Try.underlying43 rfl sz3 rfl rfl rfl) rfl ?_
                    refine HL_y (y_ldc Try.underlying3 rfl rfl (((S48.blk 2 rfl).cell _).trans (by rfl))) rfl ?_
                    refine HL_y (y_move rfl) rfl ?_
                    refine HL_y (y_move rfl) rfl ?_
                    refine HL_y (y_move rfl) rfl ?_
                    refine HL_y (y_fieldA 2 Try.underlying43 rfl sz3 rfl rfl rfl) rfl ?_
                    refine HL_y (y_ldc Try.underlying3 rfl rfl (((S48.blk 2 rfl).cell _).trans (by rfl))) rfl ?_
                    refine HL_y (y_add rfl rfl (i64e (k := i + nn) (by omega))) rfl ?_
                    refine HL_y (y_idx Try.underlying22 sz3 rfl rfl (S48.rdN hA) (Nt.mk rfl : Nt _ (i + nn)) (by omega)) rfl ?_
                    refine HL_y (y_ldr Try.underlying3 rfl rfl (S48.rdN hA) (iL_get _ _ _ hx2)) rfl ?_
                    refine HL_y (y_lookJv (plR_map (S48.get 0 rfl)) Try.underlying86 Try.underlying3 zz22 rfl rfl hgj) rfl ?_
                    refine HL_y (y_len Try.underlying22 rfl) rfl ?_
                    refine HL_y (y_min rfl rfl) rfl ?_
                    refine HL_y (y_fieldA 3 Try.underlying43 rfl sz3 rfl rfl rfl) rfl ?_
                    refine HL_nil ?_
                    refine hK31 _ ?_
                    refine L_o (o_st1 S48 2 rfl rfl rfl rfl sz3 (by simp; done) fun w49 S49 => ?_)
                    refine L_nil ?_
                    refine hK30 _ _ ?_
                    refine T_region ?_
                    refine L_y (y_fieldA 2 Try.underlying43 rfl sz3 rfl rfl rfl) rfl ?_
                    refine L_y (y_ldc Try.underlying3 rfl rfl (((S49.blk 2 rfl).cell _).trans (by rfl))) rfl ?_
                    refine L_y (y_add rfl rfl (i64e (k := nn + 1) (by omega))) rfl ?_
                    refine L_y (y_fieldA 2 Try.underlying43 rfl sz3 rfl rfl rfl) rfl ?_
                    refine L_o (o_st1 S49 2 rfl rfl rfl rfl sz3 (by simp; done) fun w50 S50 => ?_)
                    refine L_nil ?_
                    have S51 := S50.blkc 2 rfl (cs' := #[.int .i64 (i : Int), .int .i64 (k : Int), .int .i64 ((nn + 1 : Nat) : Int), .int .i64 (wr la i (nn + 1) : Int)]) (by rw [wr, cnt_at hx2, ← plc_len, ← minc]; rfl)
                    refine ⟨nn + 1, by omega, ⟨⟨⟨by omega, by omega⟩, fun q hq => by rcases Nat.lt_or_ge q nn with h9 | h9; exact hnn q h9; (obtain rfl : q = nn := by omega); rw [hx2, hy2, h88]⟩, S51⟩, ?_⟩
                    exact (Sub.cons rfl rfl (Sub.cons rfl rfl (Sub.cons rfl rfl (Sub.cons rfl rfl (Sub.cons rfl rfl (Sub.cons rfl rfl (Sub.cons rfl rfl (Sub.cons rfl rfl (Sub.cons rfl rfl (Sub.cons rfl rfl (Sub.cons rfl rfl (Sub.cons rfl rfl (Sub.cons rfl rfl (Sub.cons rfl rfl (Sub.nil _)))))))))))))))
                  ·
                    refine T_exit ?_
                    refine hK27 _ _ ?_
                    have hln : ln la lb i k = nn := ln_of hnn (by omega) (by omega) (.inr (.inr (fun h => by rw [hx2, hy2] at h; exact h88 (Option.some.inj h))))
                    have hpt : pt la lb i k = ⟨i, k, nn, wr la i nn⟩ := by unfold pt; rw [hln]
                    have S52 : St w0 _ [_, _, _, _, _] w47 := S47.sel [0, 1, 2, 3, 4] (by decide)
                    refine T_region ?_
                    refine L_y (y_move rfl) rfl ?_
                    refine L_y (y_ldW Try.underlying43 rfl sz43 rfl (S52.blk 2 rfl) (show _ = ptf ⟨i, k, nn, wr la i nn⟩ ∧ _ from ⟨rfl, rfl⟩)) rfl ?_
                    refine L_o (o_callv rfl Try.func40 rfl rfl (tellP g A1 c1 (parts la lb i ++ rowP la lb i ((plc lb x).take (j))) ⟨i, k, nn, wr la i nn⟩ w47 (St.getL (ps := [_, _, _]) (rs := [_, _]) S52) (by rw [List.length_append]; omega)) rfl rfl (fun d' hd => by cases hd <;> rfl) ?_)
                    rintro e53 w53 ⟨v53, rfl, A53, c53, rfl, T53⟩
                    refine ⟨_, rfl, ?_⟩
                    have S53 := St.turnL (ps := [_, _, _]) (rs := [_, _]) (rs' := [_, _]) S52 T53
                    rw [← hpt] at S53
                    have S54 : St w0 _ [_, _, _, _] w53 := S53.sel [0, 1, 3, 4] (by decide)
                    refine L_nil ?_
                    refine hK10 _ _ ?_
                    refine T_region ?_
                    refine L_y (y_add rfl rfl (i64w (by omega))) rfl ?_
                    refine L_y (y_move rfl) rfl ?_
                    refine L_nil ?_
                    have hrs := rowP_snoc (a := la) (b := lb) (i := i) hk
                    rw [List.append_assoc, ← hat, ← hrs] at S54
                    refine ⟨j + 1, _, _, by omega, ⟨by omega, S54⟩, ?_⟩
                    exact (Sub.cons rfl (by first | rfl | exact congrArg (Value.int _) (by omega)) (Sub.cons rfl rfl (Sub.cons rfl rfl (Sub.cons rfl rfl (Sub.cons rfl rfl (Sub.cons rfl rfl (Sub.cons rfl rfl (Sub.cons rfl rfl (Sub.cons rfl rfl (Sub.cons rfl rfl (Sub.cons rfl rfl (Sub.cons rfl rfl (Sub.nil _)))))))))))))
                ·
                  refine DL_gno rfl rfl rfl rfl ?_
                  refine DL_gno rfl rfl rfl rfl ?_
                  refine DL_gno rfl rfl rfl rfl ?_
                  refine DL_gno rfl rfl rfl rfl ?_
                  refine DL_gno rfl rfl rfl rfl ?_
                  refine DL_gno rfl rfl rfl rfl ?_
                  refine DL_gno rfl rfl rfl rfl ?_
                  refine DL_gno rfl rfl rfl rfl ?_
                  refine DL_gno rfl rfl rfl rfl ?_
                  refine DL_gno rfl rfl rfl rfl ?_
                  refine DL_gno rfl rfl rfl rfl ?_
                  refine DL_gno rfl rfl rfl rfl ?_
                  refine DL_gno rfl rfl rfl rfl ?_
                  refine DL_gno rfl rfl rfl rfl ?_
                  refine DL_gno rfl rfl rfl rfl ?_
                  refine DL_y rfl ((by first | exact y_pickT rfl rfl | exact y_pickF rfl rfl)) rfl ?_
                  refine DL_nil ?_
                  refine hK29 _ _ ?_
                  refine T_false rfl ?_
                  refine T_exit ?_
                  refine hK27 _ _ ?_
                  have hln : ln la lb i k = nn := ln_of hnn (by omega) (by omega) (.inr (.inl (by omega)))
                  have hpt : pt la lb i k = ⟨i, k, nn, wr la i nn⟩ := by unfold pt; rw [hln]
                  have S55 : St w0 _ [_, _, _, _, _] w47 := S47.sel [0, 1, 2, 3, 4] (by decide)
                  refine T_region ?_
                  refine L_y (y_move rfl) rfl ?_
                  refine L_y (y_ldW Try.underlying43 rfl sz43 rfl (S55.blk 2 rfl) (show _ = ptf ⟨i, k, nn, wr la i nn⟩ ∧ _ from ⟨rfl, rfl⟩)) rfl ?_
                  refine L_o (o_callv rfl Try.func40 rfl rfl (tellP g A1 c1 (parts la lb i ++ rowP la lb i ((plc lb x).take (j))) ⟨i, k, nn, wr la i nn⟩ w47 (St.getL (ps := [_, _, _]) (rs := [_, _]) S55) (by rw [List.length_append]; omega)) rfl rfl (fun d' hd => by cases hd <;> rfl) ?_)
                  rintro e56 w56 ⟨v56, rfl, A56, c56, rfl, T56⟩
                  refine ⟨_, rfl, ?_⟩
                  have S56 := St.turnL (ps := [_, _, _]) (rs := [_, _]) (rs' := [_, _]) S55 T56
                  rw [← hpt] at S56
                  have S57 : St w0 _ [_, _, _, _] w56 := S56.sel [0, 1, 3, 4] (by decide)
                  refine L_nil ?_
                  refine hK10 _ _ ?_
                  refine T_region ?_
                  refine L_y (y_add rfl rfl (i64w (by omega))) rfl ?_
                  refine L_y (y_move rfl) rfl ?_
                  refine L_nil ?_
                  have hrs := rowP_snoc (a := la) (b := lb) (i := i) hk
                  rw [List.append_assoc, ← hat, ← hrs] at S57
                  refine ⟨j + 1, _, _, by omega, ⟨by omega, S57⟩, ?_⟩
                  exact (Sub.cons rfl (by first | rfl | exact congrArg (Value.int _) (by omega)) (Sub.cons rfl rfl (Sub.cons rfl rfl (Sub.cons rfl rfl (Sub.cons rfl rfl (Sub.cons rfl rfl (Sub.cons rfl rfl (Sub.cons rfl rfl (Sub.cons rfl rfl (Sub.cons rfl rfl (Sub.cons rfl rfl (Sub.cons rfl rfl (Sub.nil _)))))))))))))
              ·
                refine DL_gno rfl rfl rfl rfl ?_
                refine DL_gno rfl rfl rfl rfl ?_
                refine DL_gno rfl rfl rfl rfl ?_
                refine DL_gno rfl rfl rfl rfl ?_
                refine DL_gno rfl rfl rfl rfl ?_
                refine DL_gno rfl rfl rfl rfl ?_
                refine DL_gno rfl rfl rfl rfl ?_
                refine DL_y rfl ((by first | exact y_pickT rfl rfl | exact y_pickF rfl rfl)) rfl ?_
                refine DL_y rfl (y_move rfl) rfl ?_
                refine DL_gno rfl rfl rfl rfl ?_
                refine DL_gno rfl rfl rfl rfl ?_
                refine DL_gno rfl rfl rfl rfl ?_
                refine DL_gno rfl rfl rfl rfl ?_
                refine DL_gno rfl rfl rfl rfl ?_
                refine DL_gno rfl rfl rfl rfl ?_
                refine DL_gno rfl rfl rfl rfl ?_
                refine DL_gno rfl rfl rfl rfl ?_
                refine DL_gno rfl rfl rfl rfl ?_
                refine DL_gno rfl rfl rfl rfl ?_
                refine DL_gno rfl rfl rfl rfl ?_
                refine DL_gno rfl rfl rfl rfl ?_
                refine DL_gno rfl rfl rfl rfl ?_
                refine DL_gno rfl rfl rfl rfl ?_
                refine DL_gno rfl rfl rfl rfl ?_
                refine DL_y rfl ((by first | exact y_pickT rfl rfl | exact y_pickF rfl rfl)) rfl ?_
                refine DL_nil ?_
                refine hK29 _ _ ?_
                refine T_false rfl ?_
                refine T_exit ?_
                refine hK27 _ _ ?_
                have hln : ln la lb i k = nn := ln_of hnn (by omega) (by omega) (.inl (by omega))
                have hpt : pt la lb i k = ⟨i, k, nn, wr la i nn⟩ := by unfold pt; rw [hln]
                have S58 : St w0 _ [_, _, _, _, _] w47 := S47.sel [0, 1, 2, 3, 4] (by decide)
                refine T_region ?_
                refine L_y (y_move rfl) rfl ?_
                refine L_y (y_ldW Try.underlying43 rfl sz43 rfl (S58.blk 2 rfl) (show _ = ptf ⟨i, k, nn, wr la i nn⟩ ∧ _ from ⟨rfl, rfl⟩)) rfl ?_
                refine L_o (o_callv rfl Try.func40 rfl rfl (tellP g A1 c1 (parts la lb i ++ rowP la lb i ((plc lb x).take (j))) ⟨i, k, nn, wr la i nn⟩ w47 (St.getL (ps := [_, _, _]) (rs := [_, _]) S58) (by rw [List.length_append]; omega)) rfl rfl (fun d' hd => by cases hd <;> rfl) ?_)
                rintro e59 w59 ⟨v59, rfl, A59, c59, rfl, T59⟩
                refine ⟨_, rfl, ?_⟩
                have S59 := St.turnL (ps := [_, _, _]) (rs := [_, _]) (rs' := [_, _]) S58 T59
                rw [← hpt] at S59
                have S60 : St w0 _ [_, _, _, _] w59 := S59.sel [0, 1, 3, 4] (by decide)
                refine L_nil ?_
                refine hK10 _ _ ?_
                refine T_region ?_
                refine L_y (y_add rfl rfl (i64w (by omega))) rfl ?_
                refine L_y (y_move rfl) rfl ?_
                refine L_nil ?_
                have hrs := rowP_snoc (a := la) (b := lb) (i := i) hk
                rw [List.append_assoc, ← hat, ← hrs] at S60
                refine ⟨j + 1, _, _, by omega, ⟨by omega, S60⟩, ?_⟩
                exact (Sub.cons rfl (by first | rfl | exact congrArg (Value.int _) (by omega)) (Sub.cons rfl rfl (Sub.cons rfl rfl (Sub.cons rfl rfl (Sub.cons rfl rfl (Sub.cons rfl rfl (Sub.cons rfl rfl (Sub.cons rfl rfl (Sub.cons rfl rfl (Sub.cons rfl rfl (Sub.cons rfl rfl (Sub.cons rfl rfl (Sub.nil _)))))))))))))
        ·
          refine T_exit ?_
          refine hK5 _ _ ?_
          refine T_region ?_
          refine L_y (y_add rfl rfl (i64w (by omega))) rfl ?_
          refine L_y (y_move rfl) rfl ?_
          refine L_nil ?_
          have hpe := parts_step (b := lb) hx
          have hte : (parts la lb i ++ rowP la lb i ((plc lb x).take ((plc lb x).length))) = parts la lb (i + 1) := by rw [List.take_length, hpe]
          have hje : j = (plc lb x).length := by omega
          subst hje
          rw [hte] at S5
          refine ⟨i + 1, _, _, by omega, ⟨by omega, S5⟩, ?_⟩
          exact (Sub.cons rfl (by first | rfl | exact congrArg (Value.int _) (by omega)) (Sub.cons rfl rfl (Sub.cons rfl rfl (Sub.cons rfl rfl (Sub.cons rfl rfl (Sub.cons rfl rfl (Sub.cons rfl rfl (Sub.cons rfl rfl (Sub.nil _)))))))))
    ·
      refine T_exit ?_
      first | refine end0 (fn := Try.f39) rfl ?_ | (simp only [thenQ, inB, if_true]; refine end0 (fn := Try.f39) rfl ?_)
      have S61 : St w0 _ [_, _] w4 := S4.sel [2, 3] (by decide)
      have hin : i = n := by omega
      subst hin
      exact ⟨_, rfl, _, _, rfl, by rw [hla]; exact St.turnedL S61⟩


set_option maxRecDepth 100000 in
set_option maxHeartbeats 2000000 in
theorem heachB (g : Nat) (A : Option Addr) (n ca : Nat) (B : Option Addr) (m cb : Nat) (la lb : List Int) (w0 : World) (hw : (sepL [Zx.blk g 43 (ptf (top [])).toArray]).holds w0) (hA : RsM w0 (sepL [Zx.blk g 43 (ptf (top [])).toArray]).dom A n ca la) (hB : RsM w0 (sepL [Zx.blk g 43 (ptf (top [])).toArray]).dom B m cb lb) (hn9 : n ≤ 800) (hm9 : m ≤ 800) :
    Calls Try.prog 39 #[.slice A n ca, .slice B m cb, .func (.func 59) #[] #[.pointer (some ⟨g, 0, none⟩)]] w0 fun e w' => ∃ u, e = .returned u ∧ u = .tuple #[] ∧ Turned w0 w' (sepL [Zx.blk g 43 (ptf (top [])).toArray]) (sepL [Zx.blk g 43 (ptf (bst la lb)).toArray]) := by
  refine enter1 (env := [(0, .slice A n ca), (1, .slice B m cb), (2, .func (.func 59) #[] #[.pointer (some ⟨g, 0, none⟩)])]) [.slice A n ca, .slice B m cb, .func (.func 59) #[] #[.pointer (some ⟨g, 0, none⟩)]] Try.func39 rfl Try.ntmps39 rfl rfl ?_
  have hla := lenI hA.1; have hlb := lenI hB.1; have hcap := hA.1.cap; have hcap2 := hB.1.cap; have hmax := hA.1.max; have hmax2 := hB.1.max; have S0 := St.borrowL hw
  refine T_seq fun K1 hK1 => ?_
  refine T_region ?_
  refine L_y (y_move rfl) rfl ?_
  refine L_o (o_call Try.func58 rfl rfl (hplaces A n ca la w0 (S0.rdN hA) (by omega)) rfl rfl ?_)
  rintro e1 w1 ⟨v1, rfl, l1, b1, p1, rfl, hoka, hh1, hd1⟩
  refine ⟨_, rfl, ?_⟩
  have S1 := S0.new l1 _ hh1 hd1
  refine L_y (y_move rfl) rfl ?_
  refine L_o (o_call Try.func58 rfl rfl (hplaces B m cb lb w1 (S1.rdN hB) (by omega)) rfl rfl ?_)
  rintro e2 w2 ⟨v2, rfl, l2, b2, p2, rfl, hokb, hh2, hd2⟩
  refine ⟨_, rfl, ?_⟩
  have S2 := S1.new l2 _ hh2 hd2
  refine L_y (y_assign rfl) rfl ?_
  refine L_y (y_assign rfl) rfl ?_
  refine L_nil ?_
  refine hK1 _ _ ?_
  refine T_seq fun K2 hK2 => ?_
  have S3 : St w0 _ [_, _, _] w2 := S2.sel [1, 2, 0] (by decide)
  refine T_region ?_
  refine L_y (y_move rfl) rfl ?_
  refine L_y (y_len Try.underlying22 rfl) rfl ?_
  refine L_y (y_move rfl) rfl ?_
  refine L_nil ?_
  refine hK2 _ _ ?_
  refine T_block ?_
  refine T_loop1 [(0, _), (1, _), (2, _), (6, _), (7, _), (17, _), (18, _)] (fun (i : Nat) => [(19, .int .i64 (i : Int))]) (fun (i : Nat) => n - i) (fun (i : Nat) (w : World) => i ≤ n ∧ St w0 (sepL [Zx.blk g 43 (ptf (top [])).toArray]).dom [plR b1 p1, plR b2 p2, blk g 43 (ptf (top (parts la lb i))).toArray] w) 0  (Sub.cons rfl (by first | rfl | exact congrArg (Value.int _) (by omega)) (Sub.nil _)) (Sub.cons rfl rfl (Sub.cons rfl rfl (Sub.cons rfl rfl (Sub.cons rfl rfl (Sub.cons rfl rfl (Sub.cons rfl rfl (Sub.cons rfl rfl (Sub.nil _)))))))) ?_ ?_
  ·
    exact ⟨Nat.zero_le _, S3⟩
  ·
    intro i w4 hrel
    obtain ⟨hi, S4⟩ := hrel
    refine T_seq fun K3 hK3 => ?_
    refine T_region ?_
    refine L_y (y_lss rfl rfl) rfl ?_
    refine L_nil ?_
    refine hK3 _ _ ?_
    refine T_seq fun K4 hK4 => ?_
    refine T_cond rfl (fun h20 => ?_) (fun h20 => ?_)
    ·
      obtain ⟨x, hx⟩ : ∃ x, la[i]? = some x := ⟨_, List.getElem?_eq_getElem (by omega)⟩
      refine T_skip ?_
      refine hK4 _ _ ?_
      refine T_seq fun K5 hK5 => ?_
      refine T_block ?_
      refine T_seq fun K6 hK6 => ?_
      refine T_region ?_
      refine L_y (y_move rfl) rfl ?_
      refine L_y (y_idx Try.underlying22 sz3 rfl rfl (S4.rdN hA) (Nt.mk rfl : Nt _ (i)) (by omega)) rfl ?_
      refine L_y (y_ldr Try.underlying3 rfl rfl (S4.rdN hA) (iL_get _ _ _ hx)) rfl ?_
      refine L_y (y_assign rfl) rfl ?_
      refine L_y (y_assign rfl) rfl ?_
      refine L_nil ?_
      refine hK6 _ _ ?_
      refine T_seq fun K7 hK7 => ?_
      obtain ⟨AK, cK, hgk, _⟩ := plR_at (S4.get 1 rfl) hokb x
      have hkl := plc_le lb x
      refine T_region ?_
      refine L_y (y_move rfl) rfl ?_
      refine L_y (y_move rfl) rfl ?_
      refine L_y (y_lookJv (plR_map (S4.get 1 rfl)) Try.underlying86 Try.underlying3 zz22 rfl rfl hgk) rfl ?_
      refine L_y (y_len Try.underlying22 rfl) rfl ?_
      refine L_y (y_move rfl) rfl ?_
      refine L_nil ?_
      refine hK7 _ _ ?_
      refine T_block ?_
      refine T_loop1 [(0, _), (1, _), (2, _), (6, _), (7, _), (8, _), (17, _), (18, _), (19, _), (26, _), (27, _)] (fun (j : Nat) => [(28, .int .i64 (j : Int))]) (fun (j : Nat) => (plc lb x).length - j) (fun (j : Nat) (w : World) => j ≤ (plc lb x).length ∧ St w0 (sepL [Zx.blk g 43 (ptf (top [])).toArray]).dom [plR b1 p1, plR b2 p2, blk g 43 (ptf (top (parts la lb i ++ rowP la lb i ((plc lb x).take (j))))).toArray] w) 0 (Sub.cons rfl (by first | rfl | exact congrArg (Value.int _) (by omega)) (Sub.nil _)) (Sub.cons rfl rfl (Sub.cons rfl rfl (Sub.cons rfl rfl (Sub.cons rfl rfl (Sub.cons rfl rfl (Sub.cons rfl rfl (Sub.cons rfl rfl (Sub.cons rfl rfl (Sub.cons rfl rfl (Sub.cons rfl rfl (Sub.cons rfl rfl (Sub.nil _)))))))))))) ?_ ?_
      ·
        exact ⟨Nat.zero_le _, by rw [show rowP la lb i ((plc lb x).take 0) = [] from rfl, List.append_nil]; exact S4⟩
      ·
        intro j w5 hrel
        obtain ⟨hj, S5⟩ := hrel
        have hpl := parts_len2 (a := la) (b := lb) (i := i) (by omega) (by omega)
        have hrl := rowP_len la lb i ((plc lb x).take j)
        rw [List.length_take] at hrl
        refine T_seq fun K8 hK8 => ?_
        refine T_region ?_
        refine L_y (y_lss rfl rfl) rfl ?_
        refine L_nil ?_
        refine hK8 _ _ ?_
        refine T_seq fun K9 hK9 => ?_
        refine T_cond rfl (fun h29 => ?_) (fun h29 => ?_)
        ·
          obtain ⟨k, hk⟩ : ∃ k, (plc lb x)[j]? = some k := ⟨_, List.getElem?_eq_getElem (by omega)⟩
          have hyk : lb[k]? = some x := plc_mem.1 (List.mem_of_getElem? hk)
          have hkm := (List.getElem?_eq_some_iff.1 hyk).1
          refine T_skip ?_
          refine hK9 _ _ ?_
          refine T_seq fun K10 hK10 => ?_
          refine T_block ?_
          refine T_seq fun K11 hK11 => ?_
          refine T_region ?_
          refine L_y (y_idx Try.underlying22 sz3 rfl rfl (plR_rs (S5.get 1 rfl) hokb hgk) (Nt.mk rfl : Nt _ (j)) (by omega)) rfl ?_
          refine L_y (y_ldr Try.underlying3 rfl rfl (plR_rs (S5.get 1 rfl) hokb hgk) (nIget hk)) rfl ?_
          refine L_y (y_assign rfl) rfl ?_
          refine L_nil ?_
          refine hK11 _ _ ?_
          refine T_seq fun K12 hK12 => ?_
          refine T_seq fun K13 hK13 => ?_
          refine T_drawnL [(0, true), (1, true), (2, true), (3, true), (4, true), (5, true), (6, true), (7, true), (8, true), (9, true), (10, true), (11, true), (12, true), (13, true), (14, true), (15, true), (16, true), (17, true), (18, true)] hmix (by kernel_rfl) fun w6 l6 => ?_
          have S6 := S5.like l6
          refine DL_y rfl (y_move rfl) rfl ?_
          refine DL_y rfl (y_gtr rfl rfl) rfl ?_
          refine DL_y rfl (y_move rfl) rfl ?_
          refine DL_split 34 rfl (fun h34 => ?_) (fun h34 => ?_)
          ·
            refine DL_gyes rfl rfl rfl (y_move rfl) rfl ?_
            refine DL_gyes rfl rfl rfl (y_gtr rfl rfl) rfl ?_
            refine DL_y rfl ((by first | exact y_pickT rfl rfl | exact y_pickF rfl rfl)) rfl ?_
            refine DL_y rfl (y_move rfl) rfl ?_
            refine DL_split 38 rfl (fun h38 => ?_) (fun h38 => ?_)
            ·
              obtain ⟨x1, hx1⟩ : ∃ x1, la[i - 1]? = some x1 := ⟨_, List.getElem?_eq_getElem (by omega)⟩
              obtain ⟨y1, hy1⟩ : ∃ y1, lb[k - 1]? = some y1 := ⟨_, List.getElem?_eq_getElem (by omega)⟩
              refine DL_gyes rfl rfl rfl (y_move rfl) rfl ?_
              refine DL_gyes rfl rfl rfl (y_move rfl) rfl ?_
              refine DL_gyes rfl rfl rfl (y_sub rfl rfl (i64e (k := i - 1) (by omega))) rfl ?_
              refine DL_gyes rfl rfl rfl (y_idx Try.underlying22 sz3 rfl rfl (S6.rdN hA) (Nt.mk rfl : Nt _ (i - 1)) (by omega)) rfl ?_
              refine DL_gyes rfl rfl rfl (y_ldr Try.underlying3 rfl rfl (S6.rdN hA) (iL_get _ _ _ hx1)) rfl ?_
              refine DL_gyes rfl rfl rfl (y_move rfl) rfl ?_
              refine DL_gyes rfl rfl rfl (y_move rfl) rfl ?_
              refine DL_gyes rfl rfl rfl (y_sub rfl rfl (i64e (k := k - 1) (by omega))) rfl ?_
              refine DL_gyes rfl rfl rfl (y_idx Try.underlying22 sz3 rfl rfl (S6.rdN hB) (Nt.mk rfl : Nt _ (k - 1)) (by omega)) rfl ?_
              refine DL_gyes rfl rfl rfl (y_ldr Try.underlying3 rfl rfl (S6.rdN hB) (iL_get _ _ _ hy1)) rfl ?_
              refine DL_gyes rfl rfl rfl (y_eql rfl rfl) rfl ?_
              refine DL_y rfl ((by first | exact y_pickT rfl rfl | exact y_pickF rfl rfl)) rfl ?_
              refine DL_nil ?_
              refine hK13 _ _ ?_
              refine T_cond rfl (fun h50 => ?_) (fun h50 => ?_)
              ·
                refine T_exit ?_
                refine hK10 _ _ ?_
                refine T_region ?_
                refine L_y (y_add rfl rfl (i64w (by omega))) rfl ?_
                refine L_y (y_move rfl) rfl ?_
                refine L_nil ?_
                have hrs := rowP_snoc (a := la) (b := lb) (i := i) hk
                have hat : atP la lb i k = [] := by unfold atP; rw [if_pos ⟨by omega, by omega, by rw [hx1, hy1, h50]⟩]
                have hle : (parts la lb i ++ rowP la lb i ((plc lb x).take (j + 1))) = (parts la lb i ++ rowP la lb i ((plc lb x).take (j))) := by rw [hrs, hat, List.append_nil]
                rw [← hle] at S6
                refine ⟨j + 1, by omega, ⟨by omega, S6⟩, ?_⟩
                exact (Sub.cons rfl (by first | rfl | exact congrArg (Value.int _) (by omega)) (Sub.cons rfl rfl (Sub.cons rfl rfl (Sub.cons rfl rfl (Sub.cons rfl rfl (Sub.cons rfl rfl (Sub.cons rfl rfl (Sub.cons rfl rfl (Sub.cons rfl rfl (Sub.cons rfl rfl (Sub.cons rfl rfl (Sub.cons rfl rfl (Sub.nil _)))))))))))))
              ·
                refine T_skip ?_
                refine hK12 _ _ ?_
                refine T_seq fun K14 hK14 => ?_
                have hat : atP la lb i k = [pt la lb i k] := by unfold atP; rw [if_neg (fun h => by have h9 := h.2.2; rw [hx1, hy1] at h9; exact h50 (Option.some.inj h9))]
                refine T_region ?_
                refine L_y (y_move rfl) rfl ?_
                refine L_y (y_move rfl) rfl ?_
                refine L_y (y_move rfl) rfl ?_
                refine L_y (y_len Try.underlying22 rfl) rfl ?_
                refine L_y (y_build rfl (show _ = some #[Value.int .i64 (i : Int), Value.int .i64 (k : Int), Value.int .i64 0, Value.int .i64 (n : Int)] by kernel_rfl)) rfl ?_
                refine L_o (o_alloc zz43 S6 rfl fun b7 w7 hb7 S7 => ?_)
                refine L_o (o_stW S7 3 rfl rfl rfl sz43 (by rfl) (by intro u hu; simp at hu; rcases hu with rfl | rfl | rfl | rfl <;> rfl) fun w8 S8 => ?_)
                refine L_nil ?_
                refine hK14 _ _ ?_
                refine T_seq fun K15 hK15 => ?_
                refine T_block ?_
                refine T_loop1 [(0, _), (1, _), (2, _), (6, _), (7, _), (8, _), (11, _), (12, _), (17, _), (18, _), (19, _), (26, _), (27, _), (28, _)] (fun (nn : Nat) => []) (fun (nn : Nat) => n - nn) (fun (nn : Nat) (w : World) => ((i + nn ≤ n ∧ k + nn ≤ m) ∧ ∀ q, q < nn → la[i + q]? = lb[k + q]?) ∧ St w0 (sepL [Zx.blk g 43 (ptf (top [])).toArray]).dom [plR b1 p1, plR b2 p2, blk b7 43 #[.int .i64 (i : Int), .int .i64 (k : Int), .int .i64 (nn : Int), .int .i64 (wr la i nn : Int)], blk g 43 (ptf (top (parts la lb i ++ rowP la lb i ((plc lb x).take (j))))).toArray] w) 0 (Sub.nil _) (Sub.cons rfl rfl (Sub.cons rfl rfl (Sub.cons rfl rfl (Sub.cons rfl rfl (Sub.cons rfl rfl (Sub.cons rfl rfl (Sub.cons rfl rfl (Sub.cons rfl rfl (Sub.cons rfl rfl (Sub.cons rfl rfl (Sub.cons rfl rfl (Sub.cons rfl rfl (Sub.cons rfl rfl (Sub.cons rfl rfl (Sub.nil _))))))))))))))) ?_ ?_
                ·
                  have S9 : St w0 _ [_, _, _, _] w8 := S8.sel [0, 1, 3, 2] (by decide)
                  exact ⟨⟨⟨by omega, by omega⟩, fun q hq => absurd hq (Nat.not_lt_zero _)⟩, by rw [show wr la i 0 = n from hla]; exact S9⟩
                ·
                  intro nn w10 hrel
                  obtain ⟨⟨⟨hn1, hn2⟩, hnn⟩, S10⟩ := hrel
                  refine T_seq fun K16 hK16 => ?_
                  refine T_seq fun K17 hK17 => ?_
                  refine T_drawnL [(0, true), (1, true), (2, true), (3, true), (4, true), (5, true), (6, true), (7, true), (8, true), (9, true), (10, true), (11, true), (12, true), (13, true), (14, true), (15, true), (16, true), (17, true), (18, true), (19, true), (20, true), (21, true), (22, true), (23, true), (24, true), (25, true), (26, true), (27, true), (28, true), (29, true), (30, true), (31, true), (32, true)] hmix (by kernel_rfl) fun w11 l11 => ?_
                  have S11 := S10.like l11
                  refine DL_y rfl (y_move rfl) rfl ?_
                  refine DL_y rfl (y_fieldA 2 Try.underlying43 rfl sz3 rfl rfl rfl) rfl ?_
                  refine DL_y rfl (y_ldc Try.underlying3 rfl rfl (((S11.blk 2 rfl).cell _).trans (by rfl))) rfl ?_
                  refine DL_y rfl (y_add rfl rfl (i64e (k := i + nn) (by omega))) rfl ?_
                  refine DL_y rfl (y_move rfl) rfl ?_
                  refine DL_y rfl (y_len Try.underlying22 rfl) rfl ?_
                  refine DL_y rfl (y_lss rfl rfl) rfl ?_
                  refine DL_y rfl (y_move rfl) rfl ?_
                  refine DL_split 63 rfl (fun h63 => ?_) (fun h63 => ?_)
                  ·
                    refine DL_gyes rfl rfl rfl (y_move rfl) rfl ?_
                    refine DL_gyes rfl rfl rfl (y_fieldA 2 Try.underlying43 rfl sz3 rfl rfl rfl) rfl ?_
                    refine DL_gyes rfl rfl rfl (y_ldc Try.underlying3 rfl rfl (((S11.blk 2 rfl).cell _).trans (by rfl))) rfl ?_
                    refine DL_gyes rfl rfl rfl (y_add rfl rfl (i64e (k := k + nn) (by omega))) rfl ?_
                    refine DL_gyes rfl rfl rfl (y_move rfl) rfl ?_
                    refine DL_gyes rfl rfl rfl (y_len Try.underlying22 rfl) rfl ?_
                    refine DL_gyes rfl rfl rfl (y_lss rfl rfl) rfl ?_
                    refine DL_y rfl ((by first | exact y_pickT rfl rfl | exact y_pickF rfl rfl)) rfl ?_
                    refine DL_y rfl (y_move rfl) rfl ?_
                    refine DL_split 72 rfl (fun h72 => ?_) (fun h72 => ?_)
                    ·
                      obtain ⟨x2, hx2⟩ : ∃ x2, la[i + nn]? = some x2 := ⟨_, List.getElem?_eq_getElem (by omega)⟩
                      obtain ⟨y2, hy2⟩ : ∃ y2, lb[k + nn]? = some y2 := ⟨_, List.getElem?_eq_getElem (by omega)⟩
                      refine DL_gyes rfl rfl rfl (y_move rfl) rfl ?_
                      refine DL_gyes rfl rfl rfl (y_move rfl) rfl ?_
                      refine DL_gyes rfl rfl rfl (y_fieldA 2 Try.underlying43 rfl sz3 rfl rfl rfl) rfl ?_
                      refine DL_gyes rfl rfl rfl (y_ldc Try.underlying3 rfl rfl (((S11.blk 2 rfl).cell _).trans (by rfl))) rfl ?_
                      refine DL_gyes rfl rfl rfl (y_add rfl rfl (i64e (k := i + nn) (by omega))) rfl ?_
                      refine DL_gyes rfl rfl rfl (y_idx Try.underlying22 sz3 rfl rfl (S11.rdN hA) (Nt.mk rfl : Nt _ (i + nn)) (by omega)) rfl ?_
                      refine DL_gyes rfl rfl rfl (y_ldr Try.underlying3 rfl rfl (S11.rdN hA) (iL_get _ _ _ hx2)) rfl ?_
                      refine DL_gyes rfl rfl rfl (y_move rfl) rfl ?_
                      refine DL_gyes rfl rfl rfl (y_move rfl) rfl ?_
                      refine DL_gyes rfl rfl rfl (y_fieldA 2 Try.underlying43 rfl sz3 rfl rfl rfl) rfl ?_
                      refine DL_gyes rfl rfl rfl (y_ldc Try.underlying3 rfl rfl (((S11.blk 2 rfl).cell _).trans (by rfl))) rfl ?_
                      refine DL_gyes rfl rfl rfl (y_add rfl rfl (i64e (k := k + nn) (by omega))) rfl ?_
                      refine DL_gyes rfl rfl rfl (y_idx Try.underlying22 sz3 rfl rfl (S11.rdN hB) (Nt.mk rfl : Nt _ (k + nn)) (by omega)) rfl ?_
                      refine DL_gyes rfl rfl rfl (y_ldr Try.underlying3 rfl rfl (S11.rdN hB) (iL_get _ _ _ hy2)) rfl ?_
                      refine DL_gyes rfl rfl rfl (y_eql rfl rfl) rfl ?_
                      refine DL_y rfl ((by first | exact y_pickT rfl rfl | exact y_pickF rfl rfl)) rfl ?_
                      refine DL_nil ?_
                      refine hK17 _ _ ?_
                      refine T_cond rfl (fun h88 => ?_) (fun h88 => ?_)
                      ·
                        refine T_skip ?_
                        refine hK16 _ _ ?_
                        refine T_block ?_
                        refine T_seq fun K18 hK18 => ?_
                        obtain ⟨AJ, cJ, hgj, _⟩ := plR_at (S11.get 0 rfl) hoka x2
                        refine T_tail 14 hmix (by kernel_rfl) fun w12 l12 K19 hK19 => ?_
                        have S12 := S11.like l12
                        refine HL_y (y_fieldA 3 Try.underlying43 rfl sz3 rfl rfl rfl) rfl ?_
                        refine HL_y (y_ldc Try.underlying3 rfl rfl (((S12.blk 2 rfl).cell _).trans (by rfl))) rfl ?_
                        refine HL_y (y_move rfl) rfl ?_
                        refine HL_y (y_move rfl) rfl ?_
                        refine HL_y (y_move rfl) rfl ?_
                        refine HL_y (y_fieldA 2 Try.underlying43 rfl sz3 rfl rfl rfl) rfl ?_
                        refine HL_y (y_ldc Try.underlying3 rfl rfl (((S12.blk 2 rfl).cell _).trans (by rfl))) rfl ?_
                        refine HL_y (y_add rfl rfl (i64e (k := i + nn) (by omega))) rfl ?_
                        refine HL_y (y_idx Try.underlying22 sz3 rfl rfl (S12.rdN hA) (Nt.mk rfl : Nt _ (i + nn)) (by omega)) rfl ?_
                        refine HL_y (y_ldr Try.underlying3 rfl rfl (S12.rdN hA) (iL_get _ _ _ hx2)) rfl ?_
                        refine HL_y (y_lookJv (plR_map (S12.get 0 rfl)) Try.underlying86 Try.underlying3 zz22 rfl rfl hgj) rfl ?_
                        refine HL_y (y_len Try.underlying22 rfl) rfl ?_
                        refine HL_y (y_min rfl rfl) rfl ?_
                        refine HL_y (y_fieldA 3 Try.underlying43 rfl sz3 rfl rfl rfl) rfl ?_
                        refine HL_nil ?_
                        refine hK19 _ ?_
                        refine L_o (o_st1 S12 2 rfl rfl rfl rfl sz3 (by simp; done) fun w13 S13 => ?_)
                        refine L_nil ?_
                        refine hK18 _ _ ?_
                        refine T_region ?_
                        refine L_y (y_fieldA 2 Try.underlying43 rfl sz3 rfl rfl rfl) rfl ?_
                        refine L_y (y_ldc Try.underlying3 rfl rfl (((S13.blk 2 rfl).cell _).trans (by rfl))) rfl ?_
                        refine L_y (y_add rfl rfl (i64e (k := nn + 1) (by omega))) rfl ?_
                        refine L_y (y_fieldA 2 Try.underlying43 rfl sz3 rfl rfl rfl) rfl ?_
                        refine L_o (o_st1 S13 2 rfl rfl rfl rfl sz3 (by simp; done) fun w14 S14 => ?_)
                        refine L_nil ?_
                        have S15 := S14.blkc 2 rfl (cs' := #[.int .i64 (i : Int), .int .i64 (k : Int), .int .i64 ((nn + 1 : Nat) : Int), .int .i64 (wr la i (nn + 1) : Int)]) (by rw [wr, cnt_at hx2, ← plc_len, ← minc]; rfl)
                        refine ⟨nn + 1, by omega, ⟨⟨⟨by omega, by omega⟩, fun q hq => by rcases Nat.lt_or_ge q nn with h9 | h9; exact hnn q h9; (obtain rfl : q = nn := by omega); rw [hx2, hy2, h88]⟩, S15⟩, ?_⟩
                        exact (Sub.cons rfl rfl (Sub.cons rfl rfl (Sub.cons rfl rfl (Sub.cons rfl rfl (Sub.cons rfl rfl (Sub.cons rfl rfl (Sub.cons rfl rfl (Sub.cons rfl rfl (Sub.cons rfl rfl (Sub.cons rfl rfl (Sub.cons rfl rfl (Sub.cons rfl rfl (Sub.cons rfl rfl (Sub.cons rfl rfl (Sub.nil _)))))))))))))))
                      ·
                        refine T_exit ?_
                        refine hK15 _ _ ?_
                        have hln : ln la lb i k = nn := ln_of hnn (by omega) (by omega) (.inr (.inr (fun h => by rw [hx2, hy2] at h; exact h88 (Option.some.inj h))))
                        have hpt : pt la lb i k = ⟨i, k, nn, wr la i nn⟩ := by unfold pt; rw [hln]
                        have S16 : St w0 _ [_, _, _, _] w11 := S11.sel [0, 1, 2, 3] (by decide)
                        refine T_region ?_
                        refine L_y (y_move rfl) rfl ?_
                        refine L_y (y_ldW Try.underlying43 rfl sz43 rfl (S16.blk 2 rfl) (show _ = ptf ⟨i, k, nn, wr la i nn⟩ ∧ _ from ⟨rfl, rfl⟩)) rfl ?_
                        refine L_o (o_callv rfl Try.func59 rfl rfl (tellB g ⟨i, k, nn, wr la i nn⟩ (top (parts la lb i ++ rowP la lb i ((plc lb x).take (j)))) w11 (St.getL (ps := [_, _, _]) (rs := [_]) S16) (top_lex (plc_asc lb x) hk)) rfl rfl (fun d' hd => by cases hd <;> rfl) ?_)
                        rintro e17 w17 ⟨v17, rfl, rfl, T17⟩
                        refine ⟨_, rfl, ?_⟩
                        have S17 := St.turnL (ps := [_, _, _]) (rs := [_]) (rs' := [_]) S16 T17
                        rw [← hpt] at S17
                        have S18 : St w0 _ [_, _, _] w17 := S17.sel [0, 1, 3] (by decide)
                        refine L_nil ?_
                        refine hK10 _ _ ?_
                        refine T_region ?_
                        refine L_y (y_add rfl rfl (i64w (by omega))) rfl ?_
                        refine L_y (y_move rfl) rfl ?_
                        refine L_nil ?_
                        have hrs := rowP_snoc (a := la) (b := lb) (i := i) hk
                        rw [← top_snoc, List.append_assoc, ← hat, ← hrs] at S18
                        refine ⟨j + 1, by omega, ⟨by omega, S18⟩, ?_⟩
                        exact (Sub.cons rfl (by first | rfl | exact congrArg (Value.int _) (by omega)) (Sub.cons rfl rfl (Sub.cons rfl rfl (Sub.cons rfl rfl (Sub.cons rfl rfl (Sub.cons rfl rfl (Sub.cons rfl rfl (Sub.cons rfl rfl (Sub.cons rfl rfl (Sub.cons rfl rfl (Sub.cons rfl rfl (Sub.cons rfl rfl (Sub.nil _)))))))))))))
                    ·
                      refine DL_gno rfl rfl rfl rfl ?_
                      refine DL_gno rfl rfl rfl rfl ?_
                      refine DL_gno rfl rfl rfl rfl ?_
                      refine DL_gno rfl rfl rfl rfl ?_
                      refine DL_gno rfl rfl rfl rfl ?_
                      refine DL_gno rfl rfl rfl rfl ?_
                      refine DL_gno rfl rfl rfl rfl ?_
                      refine DL_gno rfl rfl rfl rfl ?_
                      refine DL_gno rfl rfl rfl rfl ?_
                      refine DL_gno rfl rfl rfl rfl ?_
                      refine DL_gno rfl rfl rfl rfl ?_
                      refine DL_gno rfl rfl rfl rfl ?_
                      refine DL_gno rfl rfl rfl rfl ?_
                      refine DL_gno rfl rfl rfl rfl ?_
                      refine DL_gno rfl rfl rfl rfl ?_
                      refine DL_y rfl ((by first | exact y_pickT rfl rfl | exact y_pickF rfl rfl)) rfl ?_
                      refine DL_nil ?_
                      refine hK17 _ _ ?_
                      refine T_false rfl ?_
                      refine T_exit ?_
                      refine hK15 _ _ ?_
                      have hln : ln la lb i k = nn := ln_of hnn (by omega) (by omega) (.inr (.inl (by omega)))
                      have hpt : pt la lb i k = ⟨i, k, nn, wr la i nn⟩ := by unfold pt; rw [hln]
                      have S19 : St w0 _ [_, _, _, _] w11 := S11.sel [0, 1, 2, 3] (by decide)
                      refine T_region ?_
                      refine L_y (y_move rfl) rfl ?_
                      refine L_y (y_ldW Try.underlying43 rfl sz43 rfl (S19.blk 2 rfl) (show _ = ptf ⟨i, k, nn, wr la i nn⟩ ∧ _ from ⟨rfl, rfl⟩)) rfl ?_
                      refine L_o (o_callv rfl Try.func59 rfl rfl (tellB g ⟨i, k, nn, wr la i nn⟩ (top (parts la lb i ++ rowP la lb i ((plc lb x).take (j)))) w11 (St.getL (ps := [_, _, _]) (rs := [_]) S19) (top_lex (plc_asc lb x) hk)) rfl rfl (fun d' hd => by cases hd <;> rfl) ?_)
                      rintro e20 w20 ⟨v20, rfl, rfl, T20⟩
                      refine ⟨_, rfl, ?_⟩
                      have S20 := St.turnL (ps := [_, _, _]) (rs := [_]) (rs' := [_]) S19 T20
                      rw [← hpt] at S20
                      have S21 : St w0 _ [_, _, _] w20 := S20.sel [0, 1, 3] (by decide)
                      refine L_nil ?_
                      refine hK10 _ _ ?_
                      refine T_region ?_
                      refine L_y (y_add rfl rfl (i64w (by omega))) rfl ?_
                      refine L_y (y_move rfl) rfl ?_
                      refine L_nil ?_
                      have hrs := rowP_snoc (a := la) (b := lb) (i := i) hk
                      rw [← top_snoc, List.append_assoc, ← hat, ← hrs] at S21
                      refine ⟨j + 1, by omega, ⟨by omega, S21⟩, ?_⟩
                      exact (Sub.cons rfl (by first | rfl | exact congrArg (Value.int _) (by omega)) (Sub.cons rfl rfl (Sub.cons rfl rfl (Sub.cons rfl rfl (Sub.cons rfl rfl (Sub.cons rfl rfl (Sub.cons rfl rfl (Sub.cons rfl rfl (Sub.cons rfl rfl (Sub.cons rfl rfl (Sub.cons rfl rfl (Sub.cons rfl rfl (Sub.nil _)))))))))))))
                  ·
                    refine DL_gno rfl rfl rfl rfl ?_
                    refine DL_gno rfl rfl rfl rfl ?_
                    refine DL_gno rfl rfl rfl rfl ?_
                    refine DL_gno rfl rfl rfl rfl ?_
                    refine DL_gno rfl rfl rfl rfl ?_
                    refine DL_gno rfl rfl rfl rfl ?_
                    refine DL_gno rfl rfl rfl rfl ?_
                    refine DL_y rfl ((by first | exact y_pickT rfl rfl | exact y_pickF rfl rfl)) rfl ?_
                    refine DL_y rfl (y_move rfl) rfl ?_
                    refine DL_gno rfl rfl rfl rfl ?_
                    refine DL_gno rfl rfl rfl rfl ?_
                    refine DL_gno rfl rfl rfl rfl ?_
                    refine DL_gno rfl rfl rfl rfl ?_
                    refine DL_gno rfl rfl rfl rfl ?_
                    refine DL_gno rfl rfl rfl rfl ?_
                    refine DL_gno rfl rfl rfl rfl ?_
                    refine DL_gno rfl rfl rfl rfl ?_
                    refine DL_gno rfl rfl rfl rfl ?_
                    refine DL_gno rfl rfl rfl rfl ?_
                    refine DL_gno rfl rfl rfl rfl ?_
                    refine DL_gno rfl rfl rfl rfl ?_
                    refine DL_gno rfl rfl rfl rfl ?_
                    refine DL_gno rfl rfl rfl rfl ?_
                    refine DL_gno rfl rfl rfl rfl ?_
                    refine DL_y rfl ((by first | exact y_pickT rfl rfl | exact y_pickF rfl rfl)) rfl ?_
                    refine DL_nil ?_
                    refine hK17 _ _ ?_
                    refine T_false rfl ?_
                    refine T_exit ?_
                    refine hK15 _ _ ?_
                    have hln : ln la lb i k = nn := ln_of hnn (by omega) (by omega) (.inl (by omega))
                    have hpt : pt la lb i k = ⟨i, k, nn, wr la i nn⟩ := by unfold pt; rw [hln]
                    have S22 : St w0 _ [_, _, _, _] w11 := S11.sel [0, 1, 2, 3] (by decide)
                    refine T_region ?_
                    refine L_y (y_move rfl) rfl ?_
                    refine L_y (y_ldW Try.underlying43 rfl sz43 rfl (S22.blk 2 rfl) (show _ = ptf ⟨i, k, nn, wr la i nn⟩ ∧ _ from ⟨rfl, rfl⟩)) rfl ?_
                    refine L_o (o_callv rfl Try.func59 rfl rfl (tellB g ⟨i, k, nn, wr la i nn⟩ (top (parts la lb i ++ rowP la lb i ((plc lb x).take (j)))) w11 (St.getL (ps := [_, _, _]) (rs := [_]) S22) (top_lex (plc_asc lb x) hk)) rfl rfl (fun d' hd => by cases hd <;> rfl) ?_)
                    rintro e23 w23 ⟨v23, rfl, rfl, T23⟩
                    refine ⟨_, rfl, ?_⟩
                    have S23 := St.turnL (ps := [_, _, _]) (rs := [_]) (rs' := [_]) S22 T23
                    rw [← hpt] at S23
                    have S24 : St w0 _ [_, _, _] w23 := S23.sel [0, 1, 3] (by decide)
                    refine L_nil ?_
                    refine hK10 _ _ ?_
                    refine T_region ?_
                    refine L_y (y_add rfl rfl (i64w (by omega))) rfl ?_
                    refine L_y (y_move rfl) rfl ?_
                    refine L_nil ?_
                    have hrs := rowP_snoc (a := la) (b := lb) (i := i) hk
                    rw [← top_snoc, List.append_assoc, ← hat, ← hrs] at S24
                    refine ⟨j + 1, by omega, ⟨by omega, S24⟩, ?_⟩
                    exact (Sub.cons rfl (by first | rfl | exact congrArg (Value.int _) (by omega)) (Sub.cons rfl rfl (Sub.cons rfl rfl (Sub.cons rfl rfl (Sub.cons rfl rfl (Sub.cons rfl rfl (Sub.cons rfl rfl (Sub.cons rfl rfl (Sub.cons rfl rfl (Sub.cons rfl rfl (Sub.cons rfl rfl (Sub.cons rfl rfl (Sub.nil _)))))))))))))
            ·
              refine DL_gno rfl rfl rfl rfl ?_
              refine DL_gno rfl rfl rfl rfl ?_
              refine DL_gno rfl rfl rfl rfl ?_
              refine DL_gno rfl rfl rfl rfl ?_
              refine DL_gno rfl rfl rfl rfl ?_
              refine DL_gno rfl rfl rfl rfl ?_
              refine DL_gno rfl rfl rfl rfl ?_
              refine DL_gno rfl rfl rfl rfl ?_
              refine DL_gno rfl rfl rfl rfl ?_
              refine DL_gno rfl rfl rfl rfl ?_
              refine DL_gno rfl rfl rfl rfl ?_
              refine DL_y rfl ((by first | exact y_pickT rfl rfl | exact y_pickF rfl rfl)) rfl ?_
              refine DL_nil ?_
              refine hK13 _ _ ?_
              refine T_false rfl ?_
              refine T_skip ?_
              refine hK12 _ _ ?_
              refine T_seq fun K20 hK20 => ?_
              have hat : atP la lb i k = [pt la lb i k] := by unfold atP; rw [if_neg (fun h => by omega)]
              refine T_region ?_
              refine L_y (y_move rfl) rfl ?_
              refine L_y (y_move rfl) rfl ?_
              refine L_y (y_move rfl) rfl ?_
              refine L_y (y_len Try.underlying22 rfl) rfl ?_
              refine L_y (y_build rfl (show _ = some #[Value.int .i64 (i : Int), Value.int .i64 (k : Int), Value.int .i64 0, Value.int .i64 (n : Int)] by kernel_rfl)) rfl ?_
              refine L_o (o_alloc zz43 S6 rfl fun b25 w25 hb25 S25 => ?_)
              refine L_o (o_stW S25 3 rfl rfl rfl sz43 (by rfl) (by intro u hu; simp at hu; rcases hu with rfl | rfl | rfl | rfl <;> rfl) fun w26 S26 => ?_)
              refine L_nil ?_
              refine hK20 _ _ ?_
              refine T_seq fun K21 hK21 => ?_
              refine T_block ?_
              refine T_loop1 [(0, _), (1, _), (2, _), (6, _), (7, _), (8, _), (11, _), (12, _), (17, _), (18, _), (19, _), (26, _), (27, _), (28, _)] (fun (nn : Nat) => []) (fun (nn : Nat) => n - nn) (fun (nn : Nat) (w : World) => ((i + nn ≤ n ∧ k + nn ≤ m) ∧ ∀ q, q < nn → la[i + q]? = lb[k + q]?) ∧ St w0 (sepL [Zx.blk g 43 (ptf (top [])).toArray]).dom [plR b1 p1, plR b2 p2, blk b25 43 #[.int .i64 (i : Int), .int .i64 (k : Int), .int .i64 (nn : Int), .int .i64 (wr la i nn : Int)], blk g 43 (ptf (top (parts la lb i ++ rowP la lb i ((plc lb x).take (j))))).toArray] w) 0 (Sub.nil _) (Sub.cons rfl rfl (Sub.cons rfl rfl (Sub.cons rfl rfl (Sub.cons rfl rfl (Sub.cons rfl rfl (Sub.cons rfl rfl (Sub.cons rfl rfl (Sub.cons rfl rfl (Sub.cons rfl rfl (Sub.cons rfl rfl (Sub.cons rfl rfl (Sub.cons rfl rfl (Sub.cons rfl rfl (Sub.cons rfl rfl (Sub.nil _))))))))))))))) ?_ ?_
              ·
                have S27 : St w0 _ [_, _, _, _] w26 := S26.sel [0, 1, 3, 2] (by decide)
                exact ⟨⟨⟨by omega, by omega⟩, fun q hq => absurd hq (Nat.not_lt_zero _)⟩, by rw [show wr la i 0 = n from hla]; exact S27⟩
              ·
                intro nn w28 hrel
                obtain ⟨⟨⟨hn1, hn2⟩, hnn⟩, S28⟩ := hrel
                refine T_seq fun K22 hK22 => ?_
                refine T_seq fun K23 hK23 => ?_
                refine T_drawnL [(0, true), (1, true), (2, true), (3, true), (4, true), (5, true), (6, true), (7, true), (8, true), (9, true), (10, true), (11, true), (12, true), (13, true), (14, true), (15, true), (16, true), (17, true), (18, true), (19, true), (20, true), (21, true), (22, true), (23, true), (24, true), (25, true), (26, true), (27, true), (28, true), (29, true), (30, true), (31, true), (32, true)] hmix (by kernel_rfl) fun w29 l29 => ?_
                have S29 := S28.like l29
                refine DL_y rfl (y_move rfl) rfl ?_
                refine DL_y rfl (y_fieldA 2 Try.underlying43 rfl sz3 rfl rfl rfl) rfl ?_
                refine DL_y rfl (y_ldc Try.underlying3 rfl rfl (((S29.blk 2 rfl).cell _).trans (by rfl))) rfl ?_
                refine DL_y rfl (y_add rfl rfl (i64e (k := i + nn) (by omega))) rfl ?_
                refine DL_y rfl (y_move rfl) rfl ?_
                refine DL_y rfl (y_len Try.underlying22 rfl) rfl ?_
                refine DL_y rfl (y_lss rfl rfl) rfl ?_
                refine DL_y rfl (y_move rfl) rfl ?_
                refine DL_split 63 rfl (fun h63 => ?_) (fun h63 => ?_)
                ·
                  refine DL_gyes rfl rfl rfl (y_move rfl) rfl ?_
                  refine DL_gyes rfl rfl rfl (y_fieldA 2 Try.underlying43 rfl sz3 rfl rfl rfl) rfl ?_
                  refine DL_gyes rfl rfl rfl (y_ldc Try.underlying3 rfl rfl (((S29.blk 2 rfl).cell _).trans (by rfl))) rfl ?_
                  refine DL_gyes rfl rfl rfl (y_add rfl rfl (i64e (k := k + nn) (by omega))) rfl ?_
                  refine DL_gyes rfl rfl rfl (y_move rfl) rfl ?_
                  refine DL_gyes rfl rfl rfl (y_len Try.underlying22 rfl) rfl ?_
                  refine DL_gyes rfl rfl rfl (y_lss rfl rfl) rfl ?_
                  refine DL_y rfl ((by first | exact y_pickT rfl rfl | exact y_pickF rfl rfl)) rfl ?_
                  refine DL_y rfl (y_move rfl) rfl ?_
                  refine DL_split 72 rfl (fun h72 => ?_) (fun h72 => ?_)
                  ·
                    obtain ⟨x2, hx2⟩ : ∃ x2, la[i + nn]? = some x2 := ⟨_, List.getElem?_eq_getElem (by omega)⟩
                    obtain ⟨y2, hy2⟩ : ∃ y2, lb[k + nn]? = some y2 := ⟨_, List.getElem?_eq_getElem (by omega)⟩
                    refine DL_gyes rfl rfl rfl (y_move rfl) rfl ?_
                    refine DL_gyes rfl rfl rfl (y_move rfl) rfl ?_
                    refine DL_gyes rfl rfl rfl (y_fieldA 2 Try.underlying43 rfl sz3 rfl rfl rfl) rfl ?_
                    refine DL_gyes rfl rfl rfl (y_ldc Try.underlying3 rfl rfl (((S29.blk 2 rfl).cell _).trans (by rfl))) rfl ?_
                    refine DL_gyes rfl rfl rfl (y_add rfl rfl (i64e (k := i + nn) (by omega))) rfl ?_
                    refine DL_gyes rfl rfl rfl (y_idx Try.underlying22 sz3 rfl rfl (S29.rdN hA) (Nt.mk rfl : Nt _ (i + nn)) (by omega)) rfl ?_
                    refine DL_gyes rfl rfl rfl (y_ldr Try.underlying3 rfl rfl (S29.rdN hA) (iL_get _ _ _ hx2)) rfl ?_
                    refine DL_gyes rfl rfl rfl (y_move rfl) rfl ?_
                    refine DL_gyes rfl rfl rfl (y_move rfl) rfl ?_
                    refine DL_gyes rfl rfl rfl (y_fieldA 2 Try.underlying43 rfl sz3 rfl rfl rfl) rfl ?_
                    refine DL_gyes rfl rfl rfl (y_ldc Try.underlying3 rfl rfl (((S29.blk 2 rfl).cell _).trans (by rfl))) rfl ?_
                    refine DL_gyes rfl rfl rfl (y_add rfl rfl (i64e (k := k + nn) (by omega))) rfl ?_
                    refine DL_gyes rfl rfl rfl (y_idx Try.underlying22 sz3 rfl rfl (S29.rdN hB) (Nt.mk rfl : Nt _ (k + nn)) (by omega)) rfl ?_
                    refine DL_gyes rfl rfl rfl (y_ldr Try.underlying3 rfl rfl (S29.rdN hB) (iL_get _ _ _ hy2)) rfl ?_
                    refine DL_gyes rfl rfl rfl (y_eql rfl rfl) rfl ?_
                    refine DL_y rfl ((by first | exact y_pickT rfl rfl | exact y_pickF rfl rfl)) rfl ?_
                    refine DL_nil ?_
                    refine hK23 _ _ ?_
                    refine T_cond rfl (fun h88 => ?_) (fun h88 => ?_)
                    ·
                      refine T_skip ?_
                      refine hK22 _ _ ?_
                      refine T_block ?_
                      refine T_seq fun K24 hK24 => ?_
                      obtain ⟨AJ, cJ, hgj, _⟩ := plR_at (S29.get 0 rfl) hoka x2
                      refine T_tail 14 hmix (by kernel_rfl) fun w30 l30 K25 hK25 => ?_
                      have S30 := S29.like l30
                      refine HL_y (y_fieldA 3 Try.underlying43 rfl sz3 rfl rfl rfl) rfl ?_
                      refine HL_y (y_ldc Try.underlying3 rfl rfl (((S30.blk 2 rfl).cell _).trans (by rfl))) rfl ?_
                      refine HL_y (y_move rfl) rfl ?_
                      refine HL_y (y_move rfl) rfl ?_
                      refine HL_y (y_move rfl) rfl ?_
                      refine HL_y (y_fieldA 2 Try.underlying43 rfl sz3 rfl rfl rfl) rfl ?_
                      refine HL_y (y_ldc Try.underlying3 rfl rfl (((S30.blk 2 rfl).cell _).trans (by rfl))) rfl ?_
                      refine HL_y (y_add rfl rfl (i64e (k := i + nn) (by omega))) rfl ?_
                      refine HL_y (y_idx Try.underlying22 sz3 rfl rfl (S30.rdN hA) (Nt.mk rfl : Nt _ (i + nn)) (by omega)) rfl ?_
                      refine HL_y (y_ldr Try.underlying3 rfl rfl (S30.rdN hA) (iL_get _ _ _ hx2)) rfl ?_
                      refine HL_y (y_lookJv (plR_map (S30.get 0 rfl)) Try.underlying86 Try.underlying3 zz22 rfl rfl hgj) rfl ?_
                      refine HL_y (y_len Try.underlying22 rfl) rfl ?_
                      refine HL_y (y_min rfl rfl) rfl ?_
                      refine HL_y (y_fieldA 3 Try.underlying43 rfl sz3 rfl rfl rfl) rfl ?_
                      refine HL_nil ?_
                      refine hK25 _ ?_
                      refine L_o (o_st1 S30 2 rfl rfl rfl rfl sz3 (by simp; done) fun w31 S31 => ?_)
                      refine L_nil ?_
                      refine hK24 _ _ ?_
                      refine T_region ?_
                      refine L_y (y_fieldA 2 Try.underlying43 rfl sz3 rfl rfl rfl) rfl ?_
                      refine L_y (y_ldc Try.underlying3 rfl rfl (((S31.blk 2 rfl).cell _).trans (by rfl))) rfl ?_
                      refine L_y (y_add rfl rfl (i64e (k := nn + 1) (by omega))) rfl ?_
                      refine L_y (y_fieldA 2 Try.underlying43 rfl sz3 rfl rfl rfl) rfl ?_
                      refine L_o (o_st1 S31 2 rfl rfl rfl rfl sz3 (by simp; done) fun w32 S32 => ?_)
                      refine L_nil ?_
                      have S33 := S32.blkc 2 rfl (cs' := #[.int .i64 (i : Int), .int .i64 (k : Int), .int .i64 ((nn + 1 : Nat) : Int), .int .i64 (wr la i (nn + 1) : Int)]) (by rw [wr, cnt_at hx2, ← plc_len, ← minc]; rfl)
                      refine ⟨nn + 1, by omega, ⟨⟨⟨by omega, by omega⟩, fun q hq => by rcases Nat.lt_or_ge q nn with h9 | h9; exact hnn q h9; (obtain rfl : q = nn := by omega); rw [hx2, hy2, h88]⟩, S33⟩, ?_⟩
                      exact (Sub.cons rfl rfl (Sub.cons rfl rfl (Sub.cons rfl rfl (Sub.cons rfl rfl (Sub.cons rfl rfl (Sub.cons rfl rfl (Sub.cons rfl rfl (Sub.cons rfl rfl (Sub.cons rfl rfl (Sub.cons rfl rfl (Sub.cons rfl rfl (Sub.cons rfl rfl (Sub.cons rfl rfl (Sub.cons rfl rfl (Sub.nil _)))))))))))))))
                    ·
                      refine T_exit ?_
                      refine hK21 _ _ ?_
                      have hln : ln la lb i k = nn := ln_of hnn (by omega) (by omega) (.inr (.inr (fun h => by rw [hx2, hy2] at h; exact h88 (Option.some.inj h))))
                      have hpt : pt la lb i k = ⟨i, k, nn, wr la i nn⟩ := by unfold pt; rw [hln]
                      have S34 : St w0 _ [_, _, _, _] w29 := S29.sel [0, 1, 2, 3] (by decide)
                      refine T_region ?_
                      refine L_y (y_move rfl) rfl ?_
                      refine L_y (y_ldW Try.underlying43 rfl sz43 rfl (S34.blk 2 rfl) (show _ = ptf ⟨i, k, nn, wr la i nn⟩ ∧ _ from ⟨rfl, rfl⟩)) rfl ?_
                      refine L_o (o_callv rfl Try.func59 rfl rfl (tellB g ⟨i, k, nn, wr la i nn⟩ (top (parts la lb i ++ rowP la lb i ((plc lb x).take (j)))) w29 (St.getL (ps := [_, _, _]) (rs := [_]) S34) (top_lex (plc_asc lb x) hk)) rfl rfl (fun d' hd => by cases hd <;> rfl) ?_)
                      rintro e35 w35 ⟨v35, rfl, rfl, T35⟩
                      refine ⟨_, rfl, ?_⟩
                      have S35 := St.turnL (ps := [_, _, _]) (rs := [_]) (rs' := [_]) S34 T35
                      rw [← hpt] at S35
                      have S36 : St w0 _ [_, _, _] w35 := S35.sel [0, 1, 3] (by decide)
                      refine L_nil ?_
                      refine hK10 _ _ ?_
                      refine T_region ?_
                      refine L_y (y_add rfl rfl (i64w (by omega))) rfl ?_
                      refine L_y (y_move rfl) rfl ?_
                      refine L_nil ?_
                      have hrs := rowP_snoc (a := la) (b := lb) (i := i) hk
                      rw [← top_snoc, List.append_assoc, ← hat, ← hrs] at S36
                      refine ⟨j + 1, by omega, ⟨by omega, S36⟩, ?_⟩
                      exact (Sub.cons rfl (by first | rfl | exact congrArg (Value.int _) (by omega)) (Sub.cons rfl rfl (Sub.cons rfl rfl (Sub.cons rfl rfl (Sub.cons rfl rfl (Sub.cons rfl rfl (Sub.cons rfl rfl (Sub.cons rfl rfl (Sub.cons rfl rfl (Sub.cons rfl rfl (Sub.cons rfl rfl (Sub.cons rfl rfl (Sub.nil _)))))))))))))
                  ·
                    refine DL_gno rfl rfl rfl rfl ?_
                    refine DL_gno rfl rfl rfl rfl ?_
                    refine DL_gno rfl rfl rfl rfl ?_
                    refine DL_gno rfl rfl rfl rfl ?_
                    refine DL_gno rfl rfl rfl rfl ?_
                    refine DL_gno rfl rfl rfl rfl ?_
                    refine DL_gno rfl rfl rfl rfl ?_
                    refine DL_gno rfl rfl rfl rfl ?_
                    refine DL_gno rfl rfl rfl rfl ?_
                    refine DL_gno rfl rfl rfl rfl ?_
                    refine DL_gno rfl rfl rfl rfl ?_
                    refine DL_gno rfl rfl rfl rfl ?_
                    refine DL_gno rfl rfl rfl rfl ?_
                    refine DL_gno rfl rfl rfl rfl ?_
                    refine DL_gno rfl rfl rfl rfl ?_
                    refine DL_y rfl ((by first | exact y_pickT rfl rfl | exact y_pickF rfl rfl)) rfl ?_
                    refine DL_nil ?_
                    refine hK23 _ _ ?_
                    refine T_false rfl ?_
                    refine T_exit ?_
                    refine hK21 _ _ ?_
                    have hln : ln la lb i k = nn := ln_of hnn (by omega) (by omega) (.inr (.inl (by omega)))
                    have hpt : pt la lb i k = ⟨i, k, nn, wr la i nn⟩ := by unfold pt; rw [hln]
                    have S37 : St w0 _ [_, _, _, _] w29 := S29.sel [0, 1, 2, 3] (by decide)
                    refine T_region ?_
                    refine L_y (y_move rfl) rfl ?_
                    refine L_y (y_ldW Try.underlying43 rfl sz43 rfl (S37.blk 2 rfl) (show _ = ptf ⟨i, k, nn, wr la i nn⟩ ∧ _ from ⟨rfl, rfl⟩)) rfl ?_
                    refine L_o (o_callv rfl Try.func59 rfl rfl (tellB g ⟨i, k, nn, wr la i nn⟩ (top (parts la lb i ++ rowP la lb i ((plc lb x).take (j)))) w29 (St.getL (ps := [_, _, _]) (rs := [_]) S37) (top_lex (plc_asc lb x) hk)) rfl rfl (fun d' hd => by cases hd <;> rfl) ?_)
                    rintro e38 w38 ⟨v38, rfl, rfl, T38⟩
                    refine ⟨_, rfl, ?_⟩
                    have S38 := St.turnL (ps := [_, _, _]) (rs := [_]) (rs' := [_]) S37 T38
                    rw [← hpt] at S38
                    have S39 : St w0 _ [_, _, _] w38 := S38.sel [0, 1, 3] (by decide)
                    refine L_nil ?_
                    refine hK10 _ _ ?_
                    refine T_region ?_
                    refine L_y (y_add rfl rfl (i64w (by omega))) rfl ?_
                    refine L_y (y_move rfl) rfl ?_
                    refine L_nil ?_
                    have hrs := rowP_snoc (a := la) (b := lb) (i := i) hk
                    rw [← top_snoc, List.append_assoc, ← hat, ← hrs] at S39
                    refine ⟨j + 1, by omega, ⟨by omega, S39⟩, ?_⟩
                    exact (Sub.cons rfl (by first | rfl | exact congrArg (Value.int _) (by omega)) (Sub.cons rfl rfl (Sub.cons rfl rfl (Sub.cons rfl rfl (Sub.cons rfl rfl (Sub.cons rfl rfl (Sub.cons rfl rfl (Sub.cons rfl rfl (Sub.cons rfl rfl (Sub.cons rfl rfl (Sub.cons rfl rfl (Sub.cons rfl rfl (Sub.nil _)))))))))))))
                ·
                  refine DL_gno rfl rfl rfl rfl ?_
                  refine DL_gno rfl rfl rfl rfl ?_
                  refine DL_gno rfl rfl rfl rfl ?_
                  refine DL_gno rfl rfl rfl rfl ?_
                  refine DL_gno rfl rfl rfl rfl ?_
                  refine DL_gno rfl rfl rfl rfl ?_
                  refine DL_gno rfl rfl rfl rfl ?_
                  refine DL_y rfl ((by first | exact y_pickT rfl rfl | exact y_pickF rfl rfl)) rfl ?_
                  refine DL_y rfl (y_move rfl) rfl ?_
                  refine DL_gno rfl rfl rfl rfl ?_
                  refine DL_gno rfl rfl rfl rfl ?_
                  refine DL_gno rfl rfl rfl rfl ?_
                  refine DL_gno rfl rfl rfl rfl ?_
                  refine DL_gno rfl rfl rfl rfl ?_
                  refine DL_gno rfl rfl rfl rfl ?_
                  refine DL_gno rfl rfl rfl rfl ?_
                  refine DL_gno rfl rfl rfl rfl ?_
                  refine DL_gno rfl rfl rfl rfl ?_
                  refine DL_gno rfl rfl rfl rfl ?_
                  refine DL_gno rfl rfl rfl rfl ?_
                  refine DL_gno rfl rfl rfl rfl ?_
                  refine DL_gno rfl rfl rfl rfl ?_
                  refine DL_gno rfl rfl rfl rfl ?_
                  refine DL_gno rfl rfl rfl rfl ?_
                  refine DL_y rfl ((by first | exact y_pickT rfl rfl | exact y_pickF rfl rfl)) rfl ?_
                  refine DL_nil ?_
                  refine hK23 _ _ ?_
                  refine T_false rfl ?_
                  refine T_exit ?_
                  refine hK21 _ _ ?_
                  have hln : ln la lb i k = nn := ln_of hnn (by omega) (by omega) (.inl (by omega))
                  have hpt : pt la lb i k = ⟨i, k, nn, wr la i nn⟩ := by unfold pt; rw [hln]
                  have S40 : St w0 _ [_, _, _, _] w29 := S29.sel [0, 1, 2, 3] (by decide)
                  refine T_region ?_
                  refine L_y (y_move rfl) rfl ?_
                  refine L_y (y_ldW Try.underlying43 rfl sz43 rfl (S40.blk 2 rfl) (show _ = ptf ⟨i, k, nn, wr la i nn⟩ ∧ _ from ⟨rfl, rfl⟩)) rfl ?_
                  refine L_o (o_callv rfl Try.func59 rfl rfl (tellB g ⟨i, k, nn, wr la i nn⟩ (top (parts la lb i ++ rowP la lb i ((plc lb x).take (j)))) w29 (St.getL (ps := [_, _, _]) (rs := [_]) S40) (top_lex (plc_asc lb x) hk)) rfl rfl (fun d' hd => by cases hd <;> rfl) ?_)
                  rintro e41 w41 ⟨v41, rfl, rfl, T41⟩
                  refine ⟨_, rfl, ?_⟩
                  have S41 := St.turnL (ps := [_, _, _]) (rs := [_]) (rs' := [_]) S40 T41
                  rw [← hpt] at S41
                  have S42 : St w0 _ [_, _, _] w41 := S41.sel [0, 1, 3] (by decide)
                  refine L_nil ?_
                  refine hK10 _ _ ?_
                  refine T_region ?_
                  refine L_y (y_add rfl rfl (i64w (by omega))) rfl ?_
                  refine L_y (y_move rfl) rfl ?_
                  refine L_nil ?_
                  have hrs := rowP_snoc (a := la) (b := lb) (i := i) hk
                  rw [← top_snoc, List.append_assoc, ← hat, ← hrs] at S42
                  refine ⟨j + 1, by omega, ⟨by omega, S42⟩, ?_⟩
                  exact (Sub.cons rfl (by first | rfl | exact congrArg (Value.int _) (by omega)) (Sub.cons rfl rfl (Sub.cons rfl rfl (Sub.cons rfl rfl (Sub.cons rfl rfl (Sub.cons rfl rfl (Sub.cons rfl rfl (Sub.cons rfl rfl (Sub.cons rfl rfl (Sub.cons rfl rfl (Sub.cons rfl rfl (Sub.cons rfl rfl (Sub.nil _)))))))))))))
          ·
            refine DL_gno rfl rfl rfl rfl ?_
            refine DL_gno rfl rfl rfl rfl ?_
            refine DL_y rfl ((by first | exact y_pickT rfl rfl | exact y_pickF rfl rfl)) rfl ?_
            refine DL_y rfl (y_move rfl) rfl ?_
            refine DL_gno rfl rfl rfl rfl ?_
            refine DL_gno rfl rfl rfl rfl ?_
            refine DL_gno rfl rfl rfl rfl ?_
            refine DL_gno rfl rfl rfl rfl ?_
            refine DL_gno rfl rfl rfl rfl ?_
            refine DL_gno rfl rfl rfl rfl ?_
            refine DL_gno rfl rfl rfl rfl ?_
            refine DL_gno rfl rfl rfl rfl ?_
            refine DL_gno rfl rfl rfl rfl ?_
            refine DL_gno rfl rfl rfl rfl ?_
            refine DL_gno rfl rfl rfl rfl ?_
            refine DL_y rfl ((by first | exact y_pickT rfl rfl | exact y_pickF rfl rfl)) rfl ?_
            refine DL_nil ?_
            refine hK13 _ _ ?_
            refine T_false rfl ?_
            refine T_skip ?_
            refine hK12 _ _ ?_
            refine T_seq fun K26 hK26 => ?_
            have hat : atP la lb i k = [pt la lb i k] := by unfold atP; rw [if_neg (fun h => by omega)]
            refine T_region ?_
            refine L_y (y_move rfl) rfl ?_
            refine L_y (y_move rfl) rfl ?_
            refine L_y (y_move rfl) rfl ?_
            refine L_y (y_len Try.underlying22 rfl) rfl ?_
            refine L_y (y_build rfl (show _ = some #[Value.int .i64 (i : Int), Value.int .i64 (k : Int), Value.int .i64 0, Value.int .i64 (n : Int)] by kernel_rfl)) rfl ?_
            refine L_o (o_alloc zz43 S6 rfl fun b43 w43 hb43 S43 => ?_)
            refine L_o (o_stW S43 3 rfl rfl rfl sz43 (by rfl) (by intro u hu; simp at hu; rcases hu with rfl | rfl | rfl | rfl <;> rfl) fun w44 S44 => ?_)
            refine L_nil ?_
            refine hK26 _ _ ?_
            refine T_seq fun K27 hK27 => ?_
            refine T_block ?_
            refine T_loop1 [(0, _), (1, _), (2, _), (6, _), (7, _), (8, _), (11, _), (12, _), (17, _), (18, _), (19, _), (26, _), (27, _), (28, _)] (fun (nn : Nat) => []) (fun (nn : Nat) => n - nn) (fun (nn : Nat) (w : World) => ((i + nn ≤ n ∧ k + nn ≤ m) ∧ ∀ q, q < nn → la[i + q]? = lb[k + q]?) ∧ St w0 (sepL [Zx.blk g 43 (ptf (top [])).toArray]).dom [plR b1 p1, plR b2 p2, blk b43 43 #[.int .i64 (i : Int), .int .i64 (k : Int), .int .i64 (nn : Int), .int .i64 (wr la i nn : Int)], blk g 43 (ptf (top (parts la lb i ++ rowP la lb i ((plc lb x).take (j))))).toArray] w) 0 (Sub.nil _) (Sub.cons rfl rfl (Sub.cons rfl rfl (Sub.cons rfl rfl (Sub.cons rfl rfl (Sub.cons rfl rfl (Sub.cons rfl rfl (Sub.cons rfl rfl (Sub.cons rfl rfl (Sub.cons rfl rfl (Sub.cons rfl rfl (Sub.cons rfl rfl (Sub.cons rfl rfl (Sub.cons rfl rfl (Sub.cons rfl rfl (Sub.nil _))))))))))))))) ?_ ?_
            ·
              have S45 : St w0 _ [_, _, _, _] w44 := S44.sel [0, 1, 3, 2] (by decide)
              exact ⟨⟨⟨by omega, by omega⟩, fun q hq => absurd hq (Nat.not_lt_zero _)⟩, by rw [show wr la i 0 = n from hla]; exact S45⟩
            ·
              intro nn w46 hrel
              obtain ⟨⟨⟨hn1, hn2⟩, hnn⟩, S46⟩ := hrel
              refine T_seq fun K28 hK28 => ?_
              refine T_seq fun K29 hK29 => ?_
              refine T_drawnL [(0, true), (1, true), (2, true), (3, true), (4, true), (5, true), (6, true), (7, true), (8, true), (9, true), (10, true), (11, true), (12, true), (13, true), (14, true), (15, true), (16, true), (17, true), (18, true), (19, true), (20, true), (21, true), (22, true), (23, true), (24, true), (25, true), (26, true), (27, true), (28, true), (29, true), (30, true), (31, true), (32, true)] hmix (by kernel_rfl) fun w47 l47 => ?_
              have S47 := S46.like l47
              refine DL_y rfl (y_move rfl) rfl ?_
              refine DL_y rfl (y_fieldA 2 Try.underlying43 rfl sz3 rfl rfl rfl) rfl ?_
              refine DL_y rfl (y_ldc Try.underlying3 rfl rfl (((S47.blk 2 rfl).cell _).trans (by rfl))) rfl ?_
              refine DL_y rfl (y_add rfl rfl (i64e (k := i + nn) (by omega))) rfl ?_
              refine DL_y rfl (y_move rfl) rfl ?_
              refine DL_y rfl (y_len Try.underlying22 rfl) rfl ?_
              refine DL_y rfl (y_lss rfl rfl) rfl ?_
              refine DL_y rfl (y_move rfl) rfl ?_
              refine DL_split 63 rfl (fun h63 => ?_) (fun h63 => ?_)
              ·
                refine DL_gyes rfl rfl rfl (y_move rfl) rfl ?_
                refine DL_gyes rfl rfl rfl (y_fieldA 2 Try.underlying43 rfl sz3 rfl rfl rfl) rfl ?_
                refine DL_gyes rfl rfl rfl (y_ldc Try.underlying3 rfl rfl (((S47.blk 2 rfl).cell _).trans (by rfl))) rfl ?_
                refine DL_gyes rfl rfl rfl (y_add rfl rfl (i64e (k := k + nn) (by omega))) rfl ?_
                refine DL_gyes rfl rfl rfl (y_move rfl) rfl ?_
                refine DL_gyes rfl rfl rfl (y_len Try.underlying22 rfl) rfl ?_
                refine DL_gyes rfl rfl rfl (y_lss rfl rfl) rfl ?_
                refine DL_y rfl ((by first | exact y_pickT rfl rfl | exact y_pickF rfl rfl)) rfl ?_
                refine DL_y rfl (y_move rfl) rfl ?_
                refine DL_split 72 rfl (fun h72 => ?_) (fun h72 => ?_)
                ·
                  obtain ⟨x2, hx2⟩ : ∃ x2, la[i + nn]? = some x2 := ⟨_, List.getElem?_eq_getElem (by omega)⟩
                  obtain ⟨y2, hy2⟩ : ∃ y2, lb[k + nn]? = some y2 := ⟨_, List.getElem?_eq_getElem (by omega)⟩
                  refine DL_gyes rfl rfl rfl (y_move rfl) rfl ?_
                  refine DL_gyes rfl rfl rfl (y_move rfl) rfl ?_
                  refine DL_gyes rfl rfl rfl (y_fieldA 2 Try.underlying43 rfl sz3 rfl rfl rfl) rfl ?_
                  refine DL_gyes rfl rfl rfl (y_ldc Try.underlying3 rfl rfl (((S47.blk 2 rfl).cell _).trans (by rfl))) rfl ?_
                  refine DL_gyes rfl rfl rfl (y_add rfl rfl (i64e (k := i + nn) (by omega))) rfl ?_
                  refine DL_gyes rfl rfl rfl (y_idx Try.underlying22 sz3 rfl rfl (S47.rdN hA) (Nt.mk rfl : Nt _ (i + nn)) (by omega)) rfl ?_
                  refine DL_gyes rfl rfl rfl (y_ldr Try.underlying3 rfl rfl (S47.rdN hA) (iL_get _ _ _ hx2)) rfl ?_
                  refine DL_gyes rfl rfl rfl (y_move rfl) rfl ?_
                  refine DL_gyes rfl rfl rfl (y_move rfl) rfl ?_
                  refine DL_gyes rfl rfl rfl (y_fieldA 2 Try.underlying43 rfl sz3 rfl rfl rfl) rfl ?_
                  refine DL_gyes rfl rfl rfl (y_ldc Try.underlying3 rfl rfl (((S47.blk 2 rfl).cell _).trans (by rfl))) rfl ?_
                  refine DL_gyes rfl rfl rfl (y_add rfl rfl (i64e (k := k + nn) (by omega))) rfl ?_
                  refine DL_gyes rfl rfl rfl (y_idx Try.underlying22 sz3 rfl rfl (S47.rdN hB) (Nt.mk rfl : Nt _ (k + nn)) (by omega)) rfl ?_
                  refine DL_gyes rfl rfl rfl (y_ldr Try.underlying3 rfl rfl (S47.rdN hB) (iL_get _ _ _ hy2)) rfl ?_
                  refine DL_gyes rfl rfl rfl (y_eql rfl rfl) rfl ?_
                  refine DL_y rfl ((by first | exact y_pickT rfl rfl | exact y_pickF rfl rfl)) rfl ?_
                  refine DL_nil ?_
                  refine hK29 _ _ ?_
                  refine T_cond rfl (fun h88 => ?_) (fun h88 => ?_)
                  ·
                    refine T_skip ?_
                    refine hK28 _ _ ?_
                    refine T_block ?_
                    refine T_seq fun K30 hK30 => ?_
                    obtain ⟨AJ, cJ, hgj, _⟩ := plR_at (S47.get 0 rfl) hoka x2
                    refine T_tail 14 hmix (by kernel_rfl) fun w48 l48 K31 hK31 => ?_
                    have S48 := S47.like l48
                    refine HL_y (y_fieldA 3 Try.underlying43 rfl sz3 rfl rfl rfl) rfl ?_
                    refine HL_y (y_ldc Try.underlying3 rfl rfl (((S48.blk 2 rfl).cell _).trans (by rfl))) rfl ?_
                    refine HL_y (y_move rfl) rfl ?_
                    refine HL_y (y_move rfl) rfl ?_
                    refine HL_y (y_move rfl) rfl ?_
                    refine HL_y (y_fieldA 2 Try.underlying43 rfl sz3 rfl rfl rfl) rfl ?_
                    refine HL_y (y_ldc Try.underlying3 rfl rfl (((S48.blk 2 rfl).cell _).trans (by rfl))) rfl ?_
                    refine HL_y (y_add rfl rfl (i64e (k := i + nn) (by omega))) rfl ?_
                    refine HL_y (y_idx Try.underlying22 sz3 rfl rfl (S48.rdN hA) (Nt.mk rfl : Nt _ (i + nn)) (by omega)) rfl ?_
                    refine HL_y (y_ldr Try.underlying3 rfl rfl (S48.rdN hA) (iL_get _ _ _ hx2)) rfl ?_
                    refine HL_y (y_lookJv (plR_map (S48.get 0 rfl)) Try.underlying86 Try.underlying3 zz22 rfl rfl hgj) rfl ?_
                    refine HL_y (y_len Try.underlying22 rfl) rfl ?_
                    refine HL_y (y_min rfl rfl) rfl ?_
                    refine HL_y (y_fieldA 3 Try.underlying43 rfl sz3 rfl rfl rfl) rfl ?_
                    refine HL_nil ?_
                    refine hK31 _ ?_
                    refine L_o (o_st1 S48 2 rfl rfl rfl rfl sz3 (by simp; done) fun w49 S49 => ?_)
                    refine L_nil ?_
                    refine hK30 _ _ ?_
                    refine T_region ?_
                    refine L_y (y_fieldA 2 Try.underlying43 rfl sz3 rfl rfl rfl) rfl ?_
                    refine L_y (y_ldc Try.underlying3 rfl rfl (((S49.blk 2 rfl).cell _).trans (by rfl))) rfl ?_
                    refine L_y (y_add rfl rfl (i64e (k := nn + 1) (by omega))) rfl ?_
                    refine L_y (y_fieldA 2 Try.underlying43 rfl sz3 rfl rfl rfl) rfl ?_
                    refine L_o (o_st1 S49 2 rfl rfl rfl rfl sz3 (by simp; done) fun w50 S50 => ?_)
                    refine L_nil ?_
                    have S51 := S50.blkc 2 rfl (cs' := #[.int .i64 (i : Int), .int .i64 (k : Int), .int .i64 ((nn + 1 : Nat) : Int), .int .i64 (wr la i (nn + 1) : Int)]) (by rw [wr, cnt_at hx2, ← plc_len, ← minc]; rfl)
                    refine ⟨nn + 1, by omega, ⟨⟨⟨by omega, by omega⟩, fun q hq => by rcases Nat.lt_or_ge q nn with h9 | h9; exact hnn q h9; (obtain rfl : q = nn := by omega); rw [hx2, hy2, h88]⟩, S51⟩, ?_⟩
                    exact (Sub.cons rfl rfl (Sub.cons rfl rfl (Sub.cons rfl rfl (Sub.cons rfl rfl (Sub.cons rfl rfl (Sub.cons rfl rfl (Sub.cons rfl rfl (Sub.cons rfl rfl (Sub.cons rfl rfl (Sub.cons rfl rfl (Sub.cons rfl rfl (Sub.cons rfl rfl (Sub.cons rfl rfl (Sub.cons rfl rfl (Sub.nil _)))))))))))))))
                  ·
                    refine T_exit ?_
                    refine hK27 _ _ ?_
                    have hln : ln la lb i k = nn := ln_of hnn (by omega) (by omega) (.inr (.inr (fun h => by rw [hx2, hy2] at h; exact h88 (Option.some.inj h))))
                    have hpt : pt la lb i k = ⟨i, k, nn, wr la i nn⟩ := by unfold pt; rw [hln]
                    have S52 : St w0 _ [_, _, _, _] w47 := S47.sel [0, 1, 2, 3] (by decide)
                    refine T_region ?_
                    refine L_y (y_move rfl) rfl ?_
                    refine L_y (y_ldW Try.underlying43 rfl sz43 rfl (S52.blk 2 rfl) (show _ = ptf ⟨i, k, nn, wr la i nn⟩ ∧ _ from ⟨rfl, rfl⟩)) rfl ?_
                    refine L_o (o_callv rfl Try.func59 rfl rfl (tellB g ⟨i, k, nn, wr la i nn⟩ (top (parts la lb i ++ rowP la lb i ((plc lb x).take (j)))) w47 (St.getL (ps := [_, _, _]) (rs := [_]) S52) (top_lex (plc_asc lb x) hk)) rfl rfl (fun d' hd => by cases hd <;> rfl) ?_)
                    rintro e53 w53 ⟨v53, rfl, rfl, T53⟩
                    refine ⟨_, rfl, ?_⟩
                    have S53 := St.turnL (ps := [_, _, _]) (rs := [_]) (rs' := [_]) S52 T53
                    rw [← hpt] at S53
                    have S54 : St w0 _ [_, _, _] w53 := S53.sel [0, 1, 3] (by decide)
                    refine L_nil ?_
                    refine hK10 _ _ ?_
                    refine T_region ?_
                    refine L_y (y_add rfl rfl (i64w (by omega))) rfl ?_
                    refine L_y (y_move rfl) rfl ?_
                    refine L_nil ?_
                    have hrs := rowP_snoc (a := la) (b := lb) (i := i) hk
                    rw [← top_snoc, List.append_assoc, ← hat, ← hrs] at S54
                    refine ⟨j + 1, by omega, ⟨by omega, S54⟩, ?_⟩
                    exact (Sub.cons rfl (by first | rfl | exact congrArg (Value.int _) (by omega)) (Sub.cons rfl rfl (Sub.cons rfl rfl (Sub.cons rfl rfl (Sub.cons rfl rfl (Sub.cons rfl rfl (Sub.cons rfl rfl (Sub.cons rfl rfl (Sub.cons rfl rfl (Sub.cons rfl rfl (Sub.cons rfl rfl (Sub.cons rfl rfl (Sub.nil _)))))))))))))
                ·
                  refine DL_gno rfl rfl rfl rfl ?_
                  refine DL_gno rfl rfl rfl rfl ?_
                  refine DL_gno rfl rfl rfl rfl ?_
                  refine DL_gno rfl rfl rfl rfl ?_
                  refine DL_gno rfl rfl rfl rfl ?_
                  refine DL_gno rfl rfl rfl rfl ?_
                  refine DL_gno rfl rfl rfl rfl ?_
                  refine DL_gno rfl rfl rfl rfl ?_
                  refine DL_gno rfl rfl rfl rfl ?_
                  refine DL_gno rfl rfl rfl rfl ?_
                  refine DL_gno rfl rfl rfl rfl ?_
                  refine DL_gno rfl rfl rfl rfl ?_
                  refine DL_gno rfl rfl rfl rfl ?_
                  refine DL_gno rfl rfl rfl rfl ?_
                  refine DL_gno rfl rfl rfl rfl ?_
                  refine DL_y rfl ((by first | exact y_pickT rfl rfl | exact y_pickF rfl rfl)) rfl ?_
                  refine DL_nil ?_
                  refine hK29 _ _ ?_
                  refine T_false rfl ?_
                  refine T_exit ?_
                  refine hK27 _ _ ?_
                  have hln : ln la lb i k = nn := ln_of hnn (by omega) (by omega) (.inr (.inl (by omega)))
                  have hpt : pt la lb i k = ⟨i, k, nn, wr la i nn⟩ := by unfold pt; rw [hln]
                  have S55 : St w0 _ [_, _, _, _] w47 := S47.sel [0, 1, 2, 3] (by decide)
                  refine T_region ?_
                  refine L_y (y_move rfl) rfl ?_
                  refine L_y (y_ldW Try.underlying43 rfl sz43 rfl (S55.blk 2 rfl) (show _ = ptf ⟨i, k, nn, wr la i nn⟩ ∧ _ from ⟨rfl, rfl⟩)) rfl ?_
                  refine L_o (o_callv rfl Try.func59 rfl rfl (tellB g ⟨i, k, nn, wr la i nn⟩ (top (parts la lb i ++ rowP la lb i ((plc lb x).take (j)))) w47 (St.getL (ps := [_, _, _]) (rs := [_]) S55) (top_lex (plc_asc lb x) hk)) rfl rfl (fun d' hd => by cases hd <;> rfl) ?_)
                  rintro e56 w56 ⟨v56, rfl, rfl, T56⟩
                  refine ⟨_, rfl, ?_⟩
                  have S56 := St.turnL (ps := [_, _, _]) (rs := [_]) (rs' := [_]) S55 T56
                  rw [← hpt] at S56
                  have S57 : St w0 _ [_, _, _] w56 := S56.sel [0, 1, 3] (by decide)
                  refine L_nil ?_
                  refine hK10 _ _ ?_
                  refine T_region ?_
                  refine L_y (y_add rfl rfl (i64w (by omega))) rfl ?_
                  refine L_y (y_move rfl) rfl ?_
                  refine L_nil ?_
                  have hrs := rowP_snoc (a := la) (b := lb) (i := i) hk
                  rw [← top_snoc, List.append_assoc, ← hat, ← hrs] at S57
                  refine ⟨j + 1, by omega, ⟨by omega, S57⟩, ?_⟩
                  exact (Sub.cons rfl (by first | rfl | exact congrArg (Value.int _) (by omega)) (Sub.cons rfl rfl (Sub.cons rfl rfl (Sub.cons rfl rfl (Sub.cons rfl rfl (Sub.cons rfl rfl (Sub.cons rfl rfl (Sub.cons rfl rfl (Sub.cons rfl rfl (Sub.cons rfl rfl (Sub.cons rfl rfl (Sub.cons rfl rfl (Sub.nil _)))))))))))))
              ·
                refine DL_gno rfl rfl rfl rfl ?_
                refine DL_gno rfl rfl rfl rfl ?_
                refine DL_gno rfl rfl rfl rfl ?_
                refine DL_gno rfl rfl rfl rfl ?_
                refine DL_gno rfl rfl rfl rfl ?_
                refine DL_gno rfl rfl rfl rfl ?_
                refine DL_gno rfl rfl rfl rfl ?_
                refine DL_y rfl ((by first | exact y_pickT rfl rfl | exact y_pickF rfl rfl)) rfl ?_
                refine DL_y rfl (y_move rfl) rfl ?_
                refine DL_gno rfl rfl rfl rfl ?_
                refine DL_gno rfl rfl rfl rfl ?_
                refine DL_gno rfl rfl rfl rfl ?_
                refine DL_gno rfl rfl rfl rfl ?_
                refine DL_gno rfl rfl rfl rfl ?_
                refine DL_gno rfl rfl rfl rfl ?_
                refine DL_gno rfl rfl rfl rfl ?_
                refine DL_gno rfl rfl rfl rfl ?_
                refine DL_gno rfl rfl rfl rfl ?_
                refine DL_gno rfl rfl rfl rfl ?_
                refine DL_gno rfl rfl rfl rfl ?_
                refine DL_gno rfl rfl rfl rfl ?_
                refine DL_gno rfl rfl rfl rfl ?_
                refine DL_gno rfl rfl rfl rfl ?_
                refine DL_gno rfl rfl rfl rfl ?_
                refine DL_y rfl ((by first | exact y_pickT rfl rfl | exact y_pickF rfl rfl)) rfl ?_
                refine DL_nil ?_
                refine hK29 _ _ ?_
                refine T_false rfl ?_
                refine T_exit ?_
                refine hK27 _ _ ?_
                have hln : ln la lb i k = nn := ln_of hnn (by omega) (by omega) (.inl (by omega))
                have hpt : pt la lb i k = ⟨i, k, nn, wr la i nn⟩ := by unfold pt; rw [hln]
                have S58 : St w0 _ [_, _, _, _] w47 := S47.sel [0, 1, 2, 3] (by decide)
                refine T_region ?_
                refine L_y (y_move rfl) rfl ?_
                refine L_y (y_ldW Try.underlying43 rfl sz43 rfl (S58.blk 2 rfl) (show _ = ptf ⟨i, k, nn, wr la i nn⟩ ∧ _ from ⟨rfl, rfl⟩)) rfl ?_
                refine L_o (o_callv rfl Try.func59 rfl rfl (tellB g ⟨i, k, nn, wr la i nn⟩ (top (parts la lb i ++ rowP la lb i ((plc lb x).take (j)))) w47 (St.getL (ps := [_, _, _]) (rs := [_]) S58) (top_lex (plc_asc lb x) hk)) rfl rfl (fun d' hd => by cases hd <;> rfl) ?_)
                rintro e59 w59 ⟨v59, rfl, rfl, T59⟩
                refine ⟨_, rfl, ?_⟩
                have S59 := St.turnL (ps := [_, _, _]) (rs := [_]) (rs' := [_]) S58 T59
                rw [← hpt] at S59
                have S60 : St w0 _ [_, _, _] w59 := S59.sel [0, 1, 3] (by decide)
                refine L_nil ?_
                refine hK10 _ _ ?_
                refine T_region ?_
                refine L_y (y_add rfl rfl (i64w (by omega))) rfl ?_
                refine L_y (y_move rfl) rfl ?_
                refine L_nil ?_
                have hrs := rowP_snoc (a := la) (b := lb) (i := i) hk
                rw [← top_snoc, List.append_assoc, ← hat, ← hrs] at S60
                refine ⟨j + 1, by omega, ⟨by omega, S60⟩, ?_⟩
                exact (Sub.cons rfl (by first | rfl | exact congrArg (Value.int _) (by omega)) (Sub.cons rfl rfl (Sub.cons rfl rfl (Sub.cons rfl rfl (Sub.cons rfl rfl (Sub.cons rfl rfl (Sub.cons rfl rfl (Sub.cons rfl rfl (Sub.cons rfl rfl (Sub.cons rfl rfl (Sub.cons rfl rfl (Sub.cons rfl rfl (Sub.nil _)))))))))))))
        ·
          refine T_exit ?_
          refine hK5 _ _ ?_
          refine T_region ?_
          refine L_y (y_add rfl rfl (i64w (by omega))) rfl ?_
          refine L_y (y_move rfl) rfl ?_
          refine L_nil ?_
          have hpe := parts_step (b := lb) hx
          have hte : (parts la lb i ++ rowP la lb i ((plc lb x).take ((plc lb x).length))) = parts la lb (i + 1) := by rw [List.take_length, hpe]
          have hje : j = (plc lb x).length := by omega
          subst hje
          rw [hte] at S5
          refine ⟨i + 1, by omega, ⟨by omega, S5⟩, ?_⟩
          exact (Sub.cons rfl (by first | rfl | exact congrArg (Value.int _) (by omega)) (Sub.cons rfl rfl (Sub.cons rfl rfl (Sub.cons rfl rfl (Sub.cons rfl rfl (Sub.cons rfl rfl (Sub.cons rfl rfl (Sub.cons rfl rfl (Sub.nil _)))))))))
    ·
      refine T_exit ?_
      first | refine end0 (fn := Try.f39) rfl ?_ | (simp only [thenQ, inB, if_true]; refine end0 (fn := Try.f39) rfl ?_)
      have S61 : St w0 _ [_] w4 := S4.sel [2] (by decide)
      have hin : i = n := by omega
      subst hin
      exact ⟨_, rfl, rfl, by unfold bst; rw [hla]; exact St.turnedL S61⟩
end Go.Proofs.Ytbbmkgpgiacdeaa


/-
  The patience way: Diff.
-/
namespace Go.Proofs.Ytbbmkgpgiacdeaa
open Go.RowKit Zk Zx
set_option linter.unusedVariables false
set_option linter.unusedSimpArgs false

theorem KM_ok : OkF KM := fun x y => keep_ok x y _ 0 0 rfl
theorem rsM_of {w0 w : World} {ps rs : List Res} {A : Option Addr} {n c : Nat} {l : List Int} (S : Zx.St w0 noM (ps ++ rs) w) (h : Rs w0 1 A n c (iL l)) : RsM w (sepL rs).dom A n c l :=
  ⟨S.rd h, fun ad hn e ⟨r, hr, hd⟩ => by
    have h1 := ((S.res r (List.mem_append_right _ hr)).2 _ hd).2
    obtain ⟨ad', e', hb, _⟩ := h.rd.2 hn
    have e2 := e.symm.trans e'
    cases e2
    rcases h1 with h1 | h1
    · omega
    · exact h1⟩
theorem bf_take (qs : List BK) (x : BK) : ((qs ++ [x]).flatMap bf).take (qs.length * 4) = qs.flatMap bf := by
  rw [flat_take bf bf_len, List.take_left]
theorem add_zero' (a : Addr) : a.add 0 = a := by
  cases a
  unfold Addr.add
  first | rfl | (split <;> rfl) | simp
theorem cutA_zero (A : Option Addr) (c k : Nat) : cutA A c 0 k = A := by
  unfold cutA
  split
  · rfl
  · rw [Nat.zero_mul]
    cases A with
    | none => rfl
    | some a => exact congrArg some (add_zero' a)
theorem perm_pop {α : Type} {ks ks' P D Q T : List α} (h1 : (ks' ++ P).Perm (ks ++ (D ++ Q))) (h2 : (ks ++ (Q ++ D)).Perm T) : (ks' ++ P).Perm T :=
  h1.trans ((List.Perm.append_left ks List.perm_append_comm).trans h2)
theorem bf_one2 (x : BK) : ∀ u ∈ (bf x).toArray.toList, u.oneCell' = true := fun u hu => by
  simp only [bf, List.mem_cons, List.not_mem_nil, or_false, List.toList_toArray] at hu
  rcases hu with rfl | rfl | rfl | rfl <;> rfl


end Go.Proofs.Ytbbmkgpgiacdeaa
