/-
  The field's rows in memory.
-/
import Derived.Test.YtgapdndbelnknaaK
namespace Go.Proofs.Ytgapdndbelnknaa
open Go.RowKit Zk Zx
set_option linter.unusedVariables false
/-- The rows lie in the blocks ss, below the room that is left. -/
def RowsOk (ss : Nat → Option (Array Value)) (SA : Option Addr) (ns : Nat) (D : List (List Int)) (vs : List Value) : Prop :=
  ∀ d x, D[d]? = some x → ∃ s o cur, vs[d]? = some (.slice (some ⟨s, o, none⟩) x.length x.length) ∧ x.length = 2 * d + 1 ∧ ss s = some cur ∧ (∀ j y, x[j]? = some y → cur[o + j]? = some (Value.int .i64 y)) ∧ (SA = some ⟨s, 0, none⟩ → o + x.length ≤ ns)
theorem RowsOk.upd {ss : Nat → Option (Array Value)} {SA : Option Addr} {ns : Nat} {D : List (List Int)} {vs : List Value} (h : RowsOk ss SA ns D vs) {st : Nat} {cur' : Array Value}
    (hc : ∀ cur, ss st = some cur → SA = some ⟨st, 0, none⟩ ∧ ∀ i, i < ns → cur'[i]? = cur[i]?) : RowsOk (Zx.upd ss st cur') SA ns D vs := fun d x hx => by
  obtain ⟨s, o, cur, h1, h2, h3, h4, h5⟩ := h d x hx
  by_cases e : s = st
  · subst e
    obtain ⟨h6, h7⟩ := hc cur h3
    refine ⟨s, o, cur', h1, h2, upd_same _ _ _, fun j y hy => ?_, h5⟩
    have hj := (List.getElem?_eq_some_iff.1 hy).1
    rw [h7 _ (by have := h5 h6; omega)]
    exact h4 j y hy
  · exact ⟨s, o, cur, h1, h2, by rw [upd_ne e]; exact h3, h4, h5⟩
/-- One row more. -/
theorem RowsOk.add {ss : Nat → Option (Array Value)} {SA : Option Addr} {ns : Nat} {D : List (List Int)} {vs : List Value} {st fr : Nat} {cur cur0 : Array Value} {x : List Int} (h : RowsOk ss SA ns D vs) (hl : vs.length = D.length) (hx : x.length = 2 * D.length + 1)
    (hcase : (SA = some ⟨st, 0, none⟩ ∧ fr = ns ∧ ss st = some cur0) ∨ (fr = 0 ∧ ss st = none)) (hpre : ∀ i, i < fr → cur[i]? = cur0[i]?) (hcell : ∀ j y, x[j]? = some y → cur[fr + j]? = some (Value.int .i64 y)) {k : Nat} (hk : k = x.length) :
    RowsOk (Zx.upd ss st cur) (some ⟨st, 0, none⟩) (fr + k) (D ++ [x]) (vs ++ [.slice (some ⟨st, fr, none⟩) k k]) := by
  subst hk
  have h2 : RowsOk (Zx.upd ss st cur) SA ns D vs := h.upd fun c hc => by
    rcases hcase with ⟨h1, h3, h4⟩ | ⟨_, h4⟩
    · rw [h4] at hc
      cases hc
      exact ⟨h1, fun i hi => hpre i (by omega)⟩
    · rw [h4] at hc; cases hc
  intro d y hy
  rcases Nat.lt_or_ge d D.length with hd | hd
  · rw [List.getElem?_append_left hd] at hy
    obtain ⟨s, o, c, a1, a2, a3, a4, a5⟩ := h2 d y hy
    obtain ⟨s', o', c', b1, b2, b3, b4, b5⟩ := h d y hy
    refine ⟨s, o, c, by rw [List.getElem?_append_left (by omega)]; exact a1, a2, a3, a4, fun e => ?_⟩
    have e2 : s = st := by injection e with e; injection e with e; exact e.symm
    subst e2
    rw [b1] at a1
    simp only [Option.some.injEq, Value.slice.injEq, Addr.mk.injEq, and_true] at a1
    obtain ⟨rfl, rfl⟩ := a1
    rcases hcase with ⟨h1, h3, h4⟩ | ⟨_, h4⟩
    · have := b5 h1
      omega
    · rw [h4] at b3; cases b3
  · rw [List.getElem?_append_right hd] at hy
    have hd2 : d - D.length = 0 := by have := (List.getElem?_eq_some_iff.1 hy).1; simp at this; omega
    rw [hd2] at hy
    obtain rfl : x = y := by simpa using hy
    have hde : d = D.length := by omega
    subst hde
    exact ⟨st, fr, cur, by rw [List.getElem?_append_right (by omega), hl, Nat.sub_self]; rfl, hx, upd_same _ _ _, hcell, fun _ => Nat.le_refl _⟩
theorem FR.of {w0 w : World} {M : Nat → Prop} {R : Option Addr} {nr cr g n ca m cb ns : Nat} {vs : List Value} {A B : Option Addr} {SS : Value} {ss : Nat → Option (Array Value)} {la lb : List Int} {D : List (List Int)} {SA : Option Addr}
    (S : St w0 M [row 22 1 R nr cr vs, blk g 54 #[.slice A n ca, .slice B m cb, .slice R nr cr, SS], heapR 3 ss] w) (ha : Rs w 1 A n ca (iL la)) (hb : Rs w 1 B m cb (iL lb)) (hnr : nr = D.length) (ho : RowsOk ss SA ns D vs) (hD : D.length ≤ 1048576) : FR w g A n ca B m cb la lb D :=
  ⟨R, nr, cr, SS, vs, S.blk 1 rfl, ha, hb, S.row 0 rfl, hnr, fun d x hx => by
    obtain ⟨s, o, cur, h1, h2, h3, h4, _⟩ := ho d x hx
    have hd := (List.getElem?_eq_some_iff.1 hx).1
    exact ⟨_, h1, heapR_rs (S.get 2 rfl) h3 (by simp) (fun j u hu => by
      unfold iL at hu
      rw [List.getElem?_map] at hu
      cases hj : x[j]? with
      | none => rw [hj] at hu; cases hu
      | some y =>
        rw [hj] at hu
        simp only [Option.map_some, Option.some.injEq] at hu
        subst hu
        exact h4 j y hj) (Nat.le_refl _) (by omega), h2⟩⟩
theorem tab_nil (la lb : List Int) : Tab la lb [] := fun d off hd => by
  have e : atV [] d off = farN := by
    rw [atV, if_pos (.inl (by simpa using hd))]
  rw [e]
  exact good_out (.inl (by simpa using hd))
theorem atV_old (D : List (List Int)) (x : List Int) (d off : Int) (hd : d < D.length) : atV (D ++ [x]) d off = atV D d off := by
  unfold atV
  by_cases h : d < 0 ∨ off < -d ∨ off > d
  · rw [if_pos h, if_pos h]
  · rw [if_neg h, if_neg h]
    have e : (D ++ [x]).getD d.toNat [] = D.getD d.toNat [] := by rw [List.getD_eq_getElem?_getD, List.getD_eq_getElem?_getD, List.getElem?_append_left (by omega)]
    rw [e]
theorem tab_add {la lb : List Int} {D : List (List Int)} {x : List Int} (h : Tab la lb D) (hx : x.length = 2 * D.length + 1) (hg : ∀ (t : Nat) y, x[t]? = some y → Good la lb D.length ((t : Int) - D.length) y) : Tab la lb (D ++ [x]) := fun d off hd => by
  rw [List.length_append] at hd
  rcases Int.lt_or_le d D.length with h1 | h1
  · rw [atV_old D x d off h1]
    exact h d off h1
  · have hde : d = (D.length : Int) := by simp at hd; omega
    subst hde
    unfold atV
    by_cases h2 : (D.length : Int) < 0 ∨ off < -(D.length : Int) ∨ off > (D.length : Int)
    · rw [if_pos h2]
      exact good_out h2
    · rw [if_neg h2, Int.toNat_natCast, List.getD_eq_getElem?_getD (l := D ++ [x]), List.getElem?_append_right (Nat.le_refl _), Nat.sub_self]
      obtain ⟨t, ht⟩ : ∃ t : Nat, (D.length : Int) + off = t := ⟨((D.length : Int) + off).toNat, by omega⟩
      obtain ⟨y, hy⟩ : ∃ y, x[t]? = some y := ⟨_, List.getElem?_eq_getElem (by omega)⟩
      have := hg t y hy
      rw [ht, Int.toNat_natCast, List.getD_eq_getElem?_getD]
      show Good la lb D.length off (x[t]?.getD 0)
      rw [hy, show off = (t : Int) - D.length by omega]
      exact this
theorem heapc {w0 w : World} {M : Nat → Prop} {rs : List Res} {t : Nat} {ss ss' : Nat → Option (Array Value)} (S : St w0 M rs w) (k : Nat) (hk : rs[k]? = some (heapR t ss)) (h : ss = ss') : St w0 M (rs.set k (heapR t ss')) w := by
  subst h
  obtain ⟨h1, h2⟩ := List.getElem?_eq_some_iff.1 hk
  rw [← h2, List.set_getElem_self]
  exact S
end Go.Proofs.Ytgapdndbelnknaa
