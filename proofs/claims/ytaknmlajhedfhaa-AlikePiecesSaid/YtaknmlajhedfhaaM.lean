/-
  The pieces of a text, as they are met and as they are sorted: plain laws.
-/
import Derived.Test.YtaknmlajhedfhaaL
import Derived.Lib.Bytealg
namespace Go.Proofs.Ytaknmlajhedfhaa
open Go.RowKit Zk Zx Go.Maps Go.WideShapes
set_option linter.unusedVariables false
/-- What was met: each piece that is no longer left, once. -/
def VIS (L : List (List UInt8)) (left : Lit → Bool) (ys : List PC) : Prop := (ys.map PC.t).Nodup ∧ (∀ x ∈ ys, x.t ∈ L ∧ x.n = L.count x.t) ∧ ∀ t ∈ L, (t ∈ ys.map PC.t ↔ left (.string t) = false)
theorem CM.has_of {D : DU} {L : List (List UInt8)} (h : CM D L) {t : List UInt8} (ht : t ∈ L) : Maps.has D (.string t) = true := by
  obtain ⟨es, rfl, hn, h1, h2⟩ := h
  obtain ⟨p, hp, hk⟩ := h2 t ht
  rw [Maps.has_eq]
  exact List.any_eq_true.2 ⟨p, hp, by rw [hk]; exact WideAt.sameKey_self trivial⟩
theorem CM.mem_of {D : DU} {L : List (List UInt8)} (h : CM D L) {t : List UInt8} (ht : Maps.has D (.string t) = true) : t ∈ L := by
  obtain ⟨es, rfl, hn, h1, h2⟩ := h
  rw [Maps.has_eq] at ht
  obtain ⟨p, hp, hk⟩ := List.any_eq_true.1 ht
  obtain ⟨t', h3, h4, _⟩ := h1 p hp
  have := WideAt.sameKey_eq hk
  rw [h3] at this
  simp only [Lit.string.injEq] at this
  rw [← this]
  exact h4
theorem VIS.start {D : DU} {L : List (List UInt8)} (h : CM D L) : VIS L (Maps.has D) [] :=
  ⟨List.nodup_nil, (fun x hx => by cases hx), fun t ht => ⟨(fun h2 => by cases h2), fun h2 => by rw [h.has_of ht] at h2; cases h2⟩⟩
theorem same_str (a b : List UInt8) : (Lit.string a).sameKey (.string b) = decide (a = b) := by
  by_cases h : a = b
  · subst h
    rw [decide_eq_true rfl]
    exact WideAt.sameKey_self trivial
  · rw [decide_eq_false h]
    cases hs : (Lit.string a).sameKey (.string b)
    · rfl
    · have := WideAt.sameKey_eq hs
      simp only [Lit.string.injEq] at this
      exact (h this).elim
theorem VIS.step {L : List (List UInt8)} {left : Lit → Bool} {ys : List PC} (h : VIS L left ys) {t : List UInt8} {n : Nat} (hl : left (.string t) = true) (ht : t ∈ L) (hn : n = L.count t) :
    VIS L (fun z => left z && !z.sameKey (.string t)) (ys ++ [⟨t, n⟩]) := by
  have hno : t ∉ ys.map PC.t := fun hm => by
    have := (h.2.2 t ht).1 hm
    rw [hl] at this
    cases this
  refine ⟨?_, fun x hx => ?_, fun s hs => ?_⟩
  · rw [List.map_append, List.nodup_append]
    refine ⟨h.1, by simp, fun a ha b hb e => ?_⟩
    simp at hb
    rw [e, hb] at ha
    exact hno ha
  · rcases List.mem_append.1 hx with hx | hx
    · exact h.2.1 x hx
    · obtain rfl := List.mem_singleton.1 hx
      exact ⟨ht, hn⟩
  · rw [List.map_append, List.mem_append, h.2.2 s hs]
    show _ ∨ _ ↔ (left (.string s) && !(Lit.string s).sameKey (.string t)) = false
    rw [same_str]
    simp only [List.map_cons, List.map_nil, List.mem_singleton]
    by_cases e : s = t
    · simp [e]
    · simp [e]
theorem bl_ntrans (x y z : List UInt8) (h1 : bl x y = false) (h2 : bl y z = false) : bl x z = false := by
  cases h3 : bl x z
  · rfl
  · exfalso
    by_cases e1 : x = y
    · subst e1; rw [h3] at h2; cases h2
    · have h4 := bl_total x y h1 e1
      have h5 := bl_trans _ _ _ h4 h3
      rw [h5] at h2
      cases h2
theorem cmp_bl : ∀ a b : List UInt8, decide (Lib.compareBytes a b < 0) = bl a b
  | [], [] => rfl
  | [], _ :: _ => rfl
  | _ :: _, [] => rfl
  | x :: a, y :: b => by
    rw [bl_cons, Lib.compareBytes]
    by_cases h1 : x < y
    · simp [h1]
    · by_cases h2 : y < x
      · have h3 : x ≠ y := fun e => by subst e; exact h1 h2
        simp [h1, h2, h3]
      · have h3 : x = y := by
          rcases Classical.em (x = y) with h | h
          · exact h
          · rcases UInt8.lt_or_lt_of_ne h with h4 | h4
            · exact (h1 h4).elim
            · exact (h2 h4).elim
        subst h3
        have ih := cmp_bl a b
        rw [if_neg h1, if_neg h1, ih]
        simp [h1]
theorem sorted_eq : ∀ a b : List (List UInt8), a.Pairwise (fun x y => bl x y = true) → b.Pairwise (fun x y => bl x y = true) → (∀ t, t ∈ a ↔ t ∈ b) → a = b
  | [], [], _, _, _ => rfl
  | [], y :: b, _, _, h => absurd ((h y).2 List.mem_cons_self) (by simp)
  | x :: a, [], _, _, h => absurd ((h x).1 List.mem_cons_self) (by simp)
  | x :: a, y :: b, ha, hb, h => by
    rw [List.pairwise_cons] at ha hb
    have e : x = y := by
      apply Classical.byContradiction
      intro hne
      have h1 : x ∈ b := by rcases List.mem_cons.1 ((h x).1 List.mem_cons_self) with h2 | h2; exact (hne h2).elim; exact h2
      have h2 : y ∈ a := by rcases List.mem_cons.1 ((h y).2 List.mem_cons_self) with h2 | h2; exact (hne h2.symm).elim; exact h2
      have h3 := bl_trans _ _ _ (ha.1 y h2) (hb.1 x h1)
      rw [bl_irr] at h3
      cases h3
    subst e
    rw [sorted_eq a b ha.2 hb.2 fun t => ⟨fun ht => ?_, fun ht => ?_⟩]
    · rcases List.mem_cons.1 ((h t).1 (List.mem_cons_of_mem _ ht)) with h2 | h2
      · subst h2
        have := ha.1 t ht
        rw [bl_irr] at this
        cases this
      · exact h2
    · rcases List.mem_cons.1 ((h t).2 (List.mem_cons_of_mem _ ht)) with h2 | h2
      · subst h2
        have := hb.1 t ht
        rw [bl_irr] at this
        cases this
      · exact h2
theorem PS.eq {xs zs : List PC} {L : List (List UInt8)} (h1 : PS xs L) (h2 : PS zs L) : xs = zs := by
  have e := sorted_eq _ _ h1.1 h2.1 fun t => (h1.mem t).trans (h2.mem t).symm
  have key : ∀ ws : List PC, PS ws L → ws = (ws.map PC.t).map fun t => ⟨t, L.count t⟩ := fun ws h => by
    rw [List.map_map]
    have : ∀ x ∈ ws, ((fun t => (⟨t, L.count t⟩ : PC)) ∘ PC.t) x = id x := fun x hx => by
      show (⟨x.t, L.count x.t⟩ : PC) = x
      rw [← (h.2.1 x hx).2]
    rw [List.map_congr_left this, List.map_id]
  rw [key xs h1, key zs h2, e]
/-- Sorted, what was met is the list in order. -/
theorem VIS.sorted {L : List (List UInt8)} {left : Lit → Bool} {ys zs : List PC} (h : VIS L left ys) (hl : ∀ kl, left kl = false) (hp : zs.Perm ys) (hs : ∀ i j (hi : i < zs.length) (hj : j < zs.length), i < j → bl zs[j].t zs[i].t = false) : PS zs L := by
  have hnd : (zs.map PC.t).Nodup := ((hp.map PC.t).nodup_iff).2 h.1
  refine ⟨?_, fun x hx => h.2.1 x (hp.mem_iff.1 hx), fun t ht => ?_⟩
  · rw [List.pairwise_map, List.pairwise_iff_getElem]
    intro i j hi hj hij
    refine bl_total _ _ (hs i j hi hj hij) fun e => ?_
    have := List.pairwise_iff_getElem.1 hnd i j (by simpa using hi) (by simpa using hj) hij
    rw [List.getElem_map, List.getElem_map] at this
    exact this e.symm
  · have := (h.2.2 t ht).2 (hl _)
    exact (hp.map PC.t).mem_iff.2 this
end Go.Proofs.Ytaknmlajhedfhaa
