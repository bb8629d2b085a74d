/-
  The table of furthest places: plain laws.
-/
import Derived.Test.YtgapdndbelnknaaA
namespace Go.Proofs.Ytgapdndbelnknaa
open Go.RowKit Zk Zx
set_option linter.unusedVariables false
def farN : Int := 1073741824
/-- A place on a diagonal, at most d from the end. -/
def InS (la lb : List Int) (d diag : Int) (i : Nat) : Prop := ∃ k : Nat, (i : Int) - k = diag ∧ i ≤ la.length ∧ k ≤ lb.length ∧ (rR la lb i k : Int) ≤ d
/-- The neighbour's diagonal reaches its border before. -/
def Bl (la lb : List Int) (d diag : Int) : Prop := (∃ x : Nat, (x : Int) = diag - 1 ∧ InS la lb (d - 1) (diag - 1) x) ∨ (diag ≤ -1 ∧ InS la lb (d - 1) (diag + 1) 0)
structure Good (la lb : List Int) (d off v : Int) : Prop where
  sound : v = farN ∨ ∃ i : Nat, v = i ∧ InS la lb d ((la.length : Int) - lb.length + off) i
  full : ¬ Bl la lb d ((la.length : Int) - lb.length + off) → (d + off) % 2 = 0 → ∀ i, InS la lb d ((la.length : Int) - lb.length + off) i → v ≤ i
section
variable {la lb : List Int}
theorem InS.mono {d d' diag : Int} {i : Nat} (h : InS la lb d diag i) (hd : d ≤ d') : InS la lb d' diag i := by
  obtain ⟨k, h1, h2, h3, h4⟩ := h
  exact ⟨k, h1, h2, h3, by omega⟩
theorem InS.off {d diag : Int} {i : Nat} (h : InS la lb d diag i) : -d ≤ diag - ((la.length : Int) - lb.length) ∧ diag - ((la.length : Int) - lb.length) ≤ d := by
  obtain ⟨k, h1, h2, h3, h4⟩ := h
  have := rR_facts la lb i k
  omega
theorem InS.up {d diag : Int} {i : Nat} (h : InS la lb d diag i) (h1 : i < la.length) (h2 : (i : Int) - diag < lb.length) : InS la lb d diag (i + 1) := by
  obtain ⟨k, h3, h4, h5, h6⟩ := h
  have hk : k < lb.length := by omega
  have := rR_diag (la := la) (lb := lb) h1 hk
  exact ⟨k + 1, by omega, by omega, by omega, by omega⟩
theorem InS.upn {d diag : Int} {i : Nat} (h : InS la lb d diag i) : ∀ t : Nat, i + t ≤ la.length → (i : Int) + t - diag ≤ lb.length → InS la lb d diag (i + t)
  | 0, _, _ => h
  | t + 1, h1, h2 => (h.upn t (by omega) (by omega)).up (by omega) (by omega)
/-- Out of the table. -/
theorem good_out {d off : Int} (h : d < 0 ∨ off < -d ∨ off > d) : Good la lb d off farN := ⟨.inl rfl, fun _ _ i hi => by
  have := hi.off
  omega⟩
def candN (la lb : List Int) (d diag x2 xa xb : Int) : Int :=
  let i0 : Int := if d = 0 then (la.length : Int) else farN
  let i1 := if x2 < i0 then x2 else i0
  let i2 := if xa < farN ∧ 0 ≤ xa - 1 ∧ xa - 1 < i1 ∧ xa - 1 - diag ≤ lb.length then xa - 1 else i1
  if xb < farN ∧ 0 ≤ xb - diag ∧ xb < i2 then xb else i2
theorem cand_cases (d diag x2 xa xb : Int) (hn : (la.length : Int) < farN) (c : Int) (hc : candN la lb d diag x2 xa xb = c) : c = farN ∨ (c < farN ∧ ((d = 0 ∧ c = la.length) ∨ c = x2 ∨ (c = xa - 1 ∧ xa < farN ∧ 0 ≤ xa - 1 ∧ xa - 1 - diag ≤ lb.length) ∨ (c = xb ∧ xb < farN ∧ 0 ≤ xb - diag))) := by
  unfold candN at hc
  simp only at hc
  generalize hi0 : (if d = 0 then (la.length : Int) else farN) = i0 at hc
  have e0 : i0 = farN ∨ (d = 0 ∧ i0 = la.length) := by
    by_cases h : d = 0
    · rw [if_pos h] at hi0; exact .inr ⟨h, hi0.symm⟩
    · rw [if_neg h] at hi0; exact .inl hi0.symm
  generalize hi1 : (if x2 < i0 then x2 else i0) = i1 at hc
  have e1 : (i1 = x2 ∧ x2 < i0) ∨ i1 = i0 := by
    by_cases h : x2 < i0
    · rw [if_pos h] at hi1; exact .inl ⟨hi1.symm, h⟩
    · rw [if_neg h] at hi1; exact .inr hi1.symm
  generalize hi2 : (if xa < farN ∧ 0 ≤ xa - 1 ∧ xa - 1 < i1 ∧ xa - 1 - diag ≤ (lb.length : Int) then xa - 1 else i1) = i2 at hc
  have e2 : (i2 = xa - 1 ∧ xa < farN ∧ 0 ≤ xa - 1 ∧ xa - 1 < i1 ∧ xa - 1 - diag ≤ (lb.length : Int)) ∨ i2 = i1 := by
    by_cases h : xa < farN ∧ 0 ≤ xa - 1 ∧ xa - 1 < i1 ∧ xa - 1 - diag ≤ (lb.length : Int)
    · rw [if_pos h] at hi2; exact .inl ⟨hi2.symm, h⟩
    · rw [if_neg h] at hi2; exact .inr hi2.symm
  have e3 : (c = xb ∧ xb < farN ∧ 0 ≤ xb - diag ∧ xb < i2) ∨ c = i2 := by
    by_cases h : xb < farN ∧ 0 ≤ xb - diag ∧ xb < i2
    · rw [if_pos h] at hc; exact .inl ⟨hc.symm, h⟩
    · rw [if_neg h] at hc; exact .inr hc.symm
  clear hi0 hi1 hi2 hc
  rcases e3 with h | h
  · obtain ⟨a1, a2, a3, a4⟩ := h
    clear e0 e1 e2
    exact .inr ⟨by omega, .inr (.inr (.inr ⟨a1, a2, a3⟩))⟩
  rcases e2 with h2 | h2
  · obtain ⟨a1, a2, a3, a4, a5⟩ := h2
    clear e0 e1
    exact .inr ⟨by omega, .inr (.inr (.inl ⟨by omega, a2, a3, a5⟩))⟩
  rcases e0 with h4 | h4
  · rcases e1 with h3 | h3
    · exact .inr ⟨by omega, .inr (.inl (by omega))⟩
    · exact .inl (by omega)
  · rcases e1 with h3 | h3
    · exact .inr ⟨by omega, .inr (.inl (by omega))⟩
    · exact .inr ⟨by omega, .inl ⟨h4.1, by omega⟩⟩
theorem cand_le (d diag x2 xa xb : Int) : (d = 0 → candN la lb d diag x2 xa xb ≤ la.length) ∧ candN la lb d diag x2 xa xb ≤ x2 ∧ (xa < farN → 0 ≤ xa - 1 → xa - 1 - diag ≤ lb.length → candN la lb d diag x2 xa xb ≤ xa - 1) ∧ (xb < farN → 0 ≤ xb - diag → candN la lb d diag x2 xa xb ≤ xb) := by
  unfold candN
  simp only
  generalize hi0 : (if d = 0 then (la.length : Int) else farN) = i0
  have e0 : d = 0 → i0 = la.length := fun h => by rw [← hi0, if_pos h]
  generalize hi1 : (if x2 < i0 then x2 else i0) = i1
  have e1 : i1 ≤ x2 ∧ i1 ≤ i0 := by rw [← hi1]; split <;> omega
  generalize hi2 : (if xa < farN ∧ 0 ≤ xa - 1 ∧ xa - 1 < i1 ∧ xa - 1 - diag ≤ (lb.length : Int) then xa - 1 else i1) = i2
  have e2 : i2 ≤ i1 ∧ (xa < farN → 0 ≤ xa - 1 → xa - 1 - diag ≤ lb.length → i2 ≤ xa - 1) := by rw [← hi2]; split <;> omega
  have e3 : (if xb < farN ∧ 0 ≤ xb - diag ∧ xb < i2 then xb else i2) ≤ i2 ∧ (xb < farN → 0 ≤ xb - diag → (if xb < farN ∧ 0 ≤ xb - diag ∧ xb < i2 then xb else i2) ≤ xb) := by split <;> omega
  refine ⟨fun h => ?_, ?_, fun h1 h2 h3 => ?_, e3.2⟩
  · have := e0 h; omega
  · omega
  · have := e2.2 h1 h2 h3; omega
/-- Back over things that are alike. -/
structure Slid (la lb : List Int) (diag : Int) (i j : Nat) : Prop where
  le : j ≤ i
  dg : diag ≤ j
  alike : ∀ t k : Nat, j ≤ t → t < i → (t : Int) - k = diag → ∃ x, la[t]? = some x ∧ lb[k]? = some x
  stop : ∀ t k : Nat, t + 1 = j → (t : Int) - k = diag → ∀ x, la[t]? = some x → lb[k]? = some x → False
theorem Slid.inS {d diag : Int} {i j : Nat} (h : Slid la lb diag i j) (hi : InS la lb d diag i) : InS la lb d diag j := by
  obtain ⟨k, h1, h2, h3, h4⟩ := hi
  have key : ∀ t : Nat, t ≤ i - j → ∃ k' : Nat, ((i - t : Nat) : Int) - k' = diag ∧ k' ≤ lb.length ∧ rR la lb (i - t) k' = rR la lb i k := by
    intro t
    induction t with
    | zero => intro _; exact ⟨k, by omega, h3, rfl⟩
    | succ t ih =>
      intro ht
      obtain ⟨k', e1, e2, e3⟩ := ih (by omega)
      have hj := h.dg
      have hle := h.le
      obtain ⟨x, a1, a2⟩ := h.alike (i - (t + 1)) (k' - 1) (by omega) (by omega) (by omega)
      refine ⟨k' - 1, by omega, by omega, ?_⟩
      rw [rR_match a1 a2, ← e3]
      congr 1 <;> omega
  obtain ⟨k', e1, e2, e3⟩ := key (i - j) (Nat.le_refl _)
  have hle := h.le
  rw [show i - (i - j) = j by omega] at e1 e3
  exact ⟨k', e1, by omega, e2, by omega⟩
/-- It goes as far as things are alike. -/
theorem Slid.far {diag : Int} {i0 i j : Nat} (h : Slid la lb diag i0 j) (hdiag : diag ≤ i) (hal : ∀ t k : Nat, i ≤ t → t < i0 → (t : Int) - k = diag → ∃ x, la[t]? = some x ∧ lb[k]? = some x) (hi : i ≤ i0) : j ≤ i := by
  rcases Nat.lt_or_ge i j with hlt | hge
  · exfalso
    have hj := h.le
    obtain ⟨k, hk⟩ : ∃ k : Nat, ((j - 1 : Nat) : Int) - k = diag := ⟨(((j - 1 : Nat) : Int) - diag).toNat, by omega⟩
    obtain ⟨x, a1, a2⟩ := hal (j - 1) k (by omega) (by omega) hk
    exact h.stop (j - 1) k (by omega) hk x a1 a2
  · exact hge
/-- Forward over things that are alike. -/
theorem run_to (i k : Nat) (hi : i ≤ la.length) (hk : k ≤ lb.length) : ∃ t : Nat, i + t ≤ la.length ∧ k + t ≤ lb.length ∧ rR la lb (i + t) (k + t) = rR la lb i k ∧ (∀ s, s < t → ∃ x, la[i + s]? = some x ∧ lb[k + s]? = some x) ∧
    ∀ x, la[i + t]? = some x → lb[k + t]? = some x → False := by
  generalize hn : la.length - i = n
  induction n generalizing i k with
  | zero => exact ⟨0, by omega, by omega, rfl, fun s hs => by omega, fun x hx => by have := (List.getElem?_eq_some_iff.1 hx).1; omega⟩
  | succ n ih =>
    by_cases h : ∃ x, la[i]? = some x ∧ lb[k]? = some x
    · obtain ⟨x, h1, h2⟩ := h
      have h3 := (List.getElem?_eq_some_iff.1 h1).1
      have h4 := (List.getElem?_eq_some_iff.1 h2).1
      obtain ⟨t, e1, e2, e3, e4, e5⟩ := ih (i + 1) (k + 1) (by omega) (by omega) (by omega)
      refine ⟨t + 1, by omega, by omega, ?_, fun s hs => ?_, fun x hx => ?_⟩
      · rw [rR_match h1 h2, ← e3]
        congr 1 <;> omega
      · rcases Nat.eq_zero_or_pos s with h0 | h0
        · subst h0; exact ⟨x, h1, h2⟩
        · have := e4 (s - 1) (by omega)
          rw [show i + 1 + (s - 1) = i + s by omega, show k + 1 + (s - 1) = k + s by omega] at this
          exact this
      · rw [show i + (t + 1) = i + 1 + t by omega] at hx
        rw [show k + (t + 1) = k + 1 + t by omega]
        exact e5 x hx
    · exact ⟨0, by omega, by omega, rfl, fun s hs => by omega, fun x hx hy => h ⟨x, hx, hy⟩⟩
end
end Go.Proofs.Ytgapdndbelnknaa
