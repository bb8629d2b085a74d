/-
  The table of furthest places is right: plain laws.
-/
import Derived.Test.YtgapdndbelnknaaB
namespace Go.Proofs.Ytgapdndbelnknaa
open Go.RowKit Zk Zx
set_option linter.unusedVariables false
section
variable {la lb : List Int}
theorem Bl.mono {d d' diag : Int} (h : Bl la lb d diag) (hd : d ≤ d') : Bl la lb d' diag := by
  rcases h with ⟨x, h1, h2⟩ | ⟨h1, h2⟩
  · exact .inl ⟨x, h1, h2.mono (by omega)⟩
  · exact .inr ⟨h1, h2.mono (by omega)⟩
theorem cand_sound (hn : (la.length : Int) < farN) {d off x2 xa xb : Int} (ho : -d ≤ off ∧ off ≤ d) (h2 : Good la lb (d - 2) off x2) (ha : Good la lb (d - 1) (off + 1) xa) (hb : Good la lb (d - 1) (off - 1) xb) {diag : Int}
    (hdiag : diag = (la.length : Int) - lb.length + off) : candN la lb d diag x2 xa xb = farN ∨ ∃ i : Nat, candN la lb d diag x2 xa xb = i ∧ InS la lb d diag i := by
  subst hdiag
  generalize hc : candN la lb d ((la.length : Int) - lb.length + off) x2 xa xb = c
  rcases cand_cases d _ x2 xa xb hn c hc with h | ⟨hf, h | h | h | h⟩
  · exact .inl h
  · obtain ⟨rfl, h⟩ := h
    refine .inr ⟨la.length, h, lb.length, by omega, by omega, by omega, ?_⟩
    rw [rR_endA (Nat.le_refl _)]
    omega
  · rcases h2.sound with h3 | ⟨i, h3, h4⟩
    · omega
    · exact .inr ⟨i, by omega, h4.mono (by omega)⟩
  · obtain ⟨h1, h5, h6, h7⟩ := h
    rcases ha.sound with h3 | ⟨i, h3, k, h4, h8, h9, h10⟩
    · omega
    · refine .inr ⟨i - 1, by omega, k, by omega, by omega, h9, ?_⟩
      have := (rR_stepA (la := la) (lb := lb) (i := i - 1) (k := k) (by omega)).1
      rw [show i - 1 + 1 = i by omega] at this
      omega
  · obtain ⟨h1, h5, h6⟩ := h
    rcases hb.sound with h3 | ⟨i, h3, k, h4, h8, h9, h10⟩
    · omega
    · refine .inr ⟨i, by omega, k - 1, by omega, by omega, by omega, ?_⟩
      have := (rR_stepB (la := la) (lb := lb) (i := i) (k := k - 1) (by omega)).1
      rw [show k - 1 + 1 = k by omega] at this
      omega
theorem cand_full (hn : (la.length : Int) < farN) {d off x2 xa xb : Int} (hd : 0 ≤ d) (h2 : Good la lb (d - 2) off x2) (ha : Good la lb (d - 1) (off + 1) xa) (hb : Good la lb (d - 1) (off - 1) xb) {diag : Int}
    (hdiag : diag = (la.length : Int) - lb.length + off) (hbl : ¬ Bl la lb d diag) (hpar : (d + off) % 2 = 0) {i : Nat} (hi : InS la lb d diag i) :
    ∃ t : Nat, candN la lb d diag x2 xa xb ≤ i + t ∧ i + t ≤ la.length ∧ ∀ s k : Nat, i ≤ s → s < i + t → (s : Int) - k = diag → ∃ x, la[s]? = some x ∧ lb[k]? = some x := by
  obtain ⟨k, hik, hin, hkm, hR⟩ := hi
  obtain ⟨t, e1, e2, e3, e4, e5⟩ := run_to (la := la) (lb := lb) i k hin hkm
  have hle := cand_le (la := la) (lb := lb) d diag x2 xa xb
  refine ⟨t, ?_, e1, fun s k' h3 h4 h5 => ?_⟩
  · have use2 : ∀ x : Nat, InS la lb (d - 2) diag x → x ≤ i + t → candN la lb d diag x2 xa xb ≤ i + t := fun x hx hxt => by
      have h3 := h2.full (by rw [← hdiag]; exact fun h => hbl (h.mono (by omega))) (by omega) x (by rw [← hdiag]; exact hx)
      have := hle.2.1
      omega
    have caseB : k + t < lb.length → (rR la lb (i + t) (k + t + 1) : Int) ≤ d - 1 → candN la lb d diag x2 xa xb ≤ i + t := fun hk' hR' => by
      have hin1 : InS la lb (d - 1) (diag - 1) (i + t) := ⟨k + t + 1, by omega, e1, by omega, hR'⟩
      by_cases hB : Bl la lb (d - 1) (diag - 1)
      · rcases hB with ⟨x, h1, kx, h3, h4, h5, h6⟩ | ⟨h1, h3⟩
        · exfalso
          refine hbl (.inl ⟨x + 1, by omega, 0, by omega, by omega, by omega, ?_⟩)
          have := (rR_stepA (la := la) (lb := lb) (i := x) (k := 0) (by omega)).2
          have hk0 : kx = 0 := by omega
          subst hk0
          omega
        · exact use2 0 (by rw [show diag - 1 + 1 = diag by omega, show d - 1 - 1 = d - 2 by omega] at h3; exact h3) (by omega)
      · have h3 := hb.full (by rw [show (la.length : Int) - lb.length + (off - 1) = diag - 1 by omega]; exact hB) (by omega) (i + t) (by rw [show (la.length : Int) - lb.length + (off - 1) = diag - 1 by omega]; exact hin1)
        rcases hb.sound with h4 | ⟨ib, h4, h5⟩
        · omega
        · rw [show (la.length : Int) - lb.length + (off - 1) = diag - 1 by omega] at h5
          have h5' := h5
          obtain ⟨kb, h6, h7, h8, h9⟩ := h5
          rcases Int.lt_or_le (xb - diag) 0 with h10 | h10
          · exact (hbl (.inl ⟨ib, by omega, h5'⟩)).elim
          · have := hle.2.2.2 (by omega) h10
            omega
    have caseA : i + t < la.length → (rR la lb (i + t + 1) (k + t) : Int) ≤ d - 1 → candN la lb d diag x2 xa xb ≤ i + t := fun hi' hR' => by
      have hin1 : InS la lb (d - 1) (diag + 1) (i + t + 1) := ⟨k + t, by omega, by omega, e2, hR'⟩
      by_cases hB : Bl la lb (d - 1) (diag + 1)
      · rcases hB with ⟨x, h1, h3⟩ | ⟨h1, kx, h3, h4, h5, h6⟩
        · rw [show diag + 1 - 1 = diag by omega, show d - 1 - 1 = d - 2 by omega] at h3
          exact use2 x h3 (by omega)
        · exfalso
          refine hbl (.inr ⟨by omega, kx + 1, by omega, by omega, by omega, ?_⟩)
          have := (rR_stepB (la := la) (lb := lb) (i := 0) (k := kx) (by omega)).2
          omega
      · have h3 := ha.full (by rw [show (la.length : Int) - lb.length + (off + 1) = diag + 1 by omega]; exact hB) (by omega) (i + t + 1) (by rw [show (la.length : Int) - lb.length + (off + 1) = diag + 1 by omega]; exact hin1)
        rcases ha.sound with h4 | ⟨ia, h4, h5⟩
        · omega
        · rw [show (la.length : Int) - lb.length + (off + 1) = diag + 1 by omega] at h5
          have h5' := h5
          obtain ⟨ka, h6, h7, h8, h9⟩ := h5
          rcases Int.lt_or_le (xa - 1) 0 with h10 | h10
          · have h0 : ia = 0 := by omega
            subst h0
            exact (hbl (.inr ⟨by omega, h5'⟩)).elim
          · have := hle.2.2.1 (by omega) h10 (by omega)
            omega
    have hR2 : (rR la lb (i + t) (k + t) : Int) ≤ d := by rw [e3]; exact hR
    rcases Nat.lt_or_ge (i + t) la.length with hi' | hi'
    · rcases Nat.lt_or_ge (k + t) lb.length with hk' | hk'
      · have hm := rR_mis (List.getElem?_eq_getElem hi') (List.getElem?_eq_getElem hk') (fun e => e5 _ (List.getElem?_eq_getElem hi') (by rw [e]; exact List.getElem?_eq_getElem hk'))
        rcases Nat.le_total (rR la lb (i + t + 1) (k + t)) (rR la lb (i + t) (k + t + 1)) with h3 | h3
        · rw [Nat.min_eq_left h3] at hm
          exact caseA hi' (by omega)
        · rw [Nat.min_eq_right h3] at hm
          exact caseB hk' (by omega)
      · refine caseA hi' ?_
        rw [rR_endB hk'] at hR2 ⊢
        omega
    · rcases Nat.lt_or_ge (k + t) lb.length with hk' | hk'
      · refine caseB hk' ?_
        rw [rR_endA hi'] at hR2 ⊢
        omega
      · rcases Int.lt_or_le 0 d with h0 | h0
        · refine use2 (i + t) ⟨k + t, by omega, e1, e2, ?_⟩ (Nat.le_refl _)
          rw [rR_endA hi']
          omega
        · have := hle.1 (by omega)
          omega
  · obtain ⟨x, h6, h7⟩ := e4 (s - i) (by omega)
    rw [show i + (s - i) = s by omega] at h6
    rw [show k + (s - i) = k' by omega] at h7
    exact ⟨x, h6, h7⟩
theorem good_far (hn : (la.length : Int) < farN) {d off x2 xa xb : Int} (hd : 0 ≤ d) (h2 : Good la lb (d - 2) off x2) (ha : Good la lb (d - 1) (off + 1) xa) (hb : Good la lb (d - 1) (off - 1) xb) {diag : Int}
    (hdiag : diag = (la.length : Int) - lb.length + off) (hc : candN la lb d diag x2 xa xb = farN) : Good la lb d off farN :=
  ⟨.inl rfl, fun hbl hpar i hi => by
    rw [← hdiag] at hbl hi
    obtain ⟨t, h1, h3, _⟩ := cand_full hn hd h2 ha hb hdiag hbl hpar hi
    omega⟩
theorem good_slid (hn : (la.length : Int) < farN) {d off x2 xa xb : Int} (hd : 0 ≤ d) (ho : -d ≤ off ∧ off ≤ d) (h2 : Good la lb (d - 2) off x2) (ha : Good la lb (d - 1) (off + 1) xa) (hb : Good la lb (d - 1) (off - 1) xb) {diag : Int}
    (hdiag : diag = (la.length : Int) - lb.length + off) {i0 j : Nat} (hc : candN la lb d diag x2 xa xb = i0) (hi0 : (i0 : Int) ≠ farN) (hs : Slid la lb diag i0 j) : Good la lb d off j := by
  have hin : InS la lb d diag i0 := by
    rcases cand_sound hn ho h2 ha hb hdiag with h | ⟨i, h, h3⟩
    · omega
    · rw [hc] at h
      rw [show i0 = i by omega]
      exact h3
  refine ⟨.inr ⟨j, rfl, by rw [← hdiag]; exact hs.inS hin⟩, fun hbl hpar i hi => ?_⟩
  rw [← hdiag] at hbl hi
  obtain ⟨t, h1, h3, h4⟩ := cand_full hn hd h2 ha hb hdiag hbl hpar hi
  rw [hc] at h1
  rcases Nat.le_total i0 i with h5 | h5
  · have := hs.le
    omega
  · have := hs.far (i := i) (by obtain ⟨k, h6, _⟩ := hi; omega) (fun s k h6 h7 h8 => h4 s k h6 (by omega) h8) h5
    omega
/-- The begin is reached. -/
theorem good_zero {d : Int} {v : Int} (h : Good la lb d (-((la.length : Int) - lb.length)) v) : (v = 0 → (rR la lb 0 0 : Int) ≤ d) ∧ (d = rR la lb 0 0 → v = 0) := by
  have e : (la.length : Int) - lb.length + -((la.length : Int) - lb.length) = 0 := by omega
  have hs := h.sound
  have hf := h.full
  rw [e] at hs hf
  constructor
  · intro hv
    rcases hs with h1 | ⟨i, h1, k, h2, h3, h4, h5⟩
    · rw [hv] at h1; cases h1
    · have h6 : i = 0 := by omega
      have h7 : k = 0 := by omega
      subst h6; subst h7
      exact h5
  · intro hd
    have hp := (rR_facts la lb 0 0).1
    have h1 := hf (fun hB => by
      rcases hB with ⟨x, h1, _⟩ | ⟨h1, _⟩ <;> omega) (by omega) 0 ⟨0, by omega, by omega, by omega, by omega⟩
    rcases hs with h2 | ⟨i, h2, _⟩
    · rw [h2] at h1; exact absurd h1 (by decide)
    · omega
theorem rR_begin (k : Nat) : k ≤ lb.length → rR la lb 0 0 ≤ k + rR la lb 0 k := by
  induction k with
  | zero => intro _; omega
  | succ k ih =>
    intro h
    have h1 := ih (by omega)
    have h2 := (rR_stepB (la := la) (lb := lb) (i := 0) (k := k) (by omega)).1
    omega
/-- What 'near' is asked on the way. -/
theorem near_iff {i k : Nat} (hi : i < la.length) (hk : k ≤ lb.length) (hway : (k : Int) - i ≤ (rR la lb 0 0 : Int) - rR la lb i k) {r d off v : Int} (hr : r + 1 = rR la lb i k) (hoff : off = (i : Int) + 1 - k - ((la.length : Int) - lb.length))
    (hd : (d = r ∧ (r + off) % 2 = 0) ∨ (d = r - 1 ∧ (r + off) % 2 ≠ 0)) (hv : Good la lb d off v) (hn : (la.length : Int) < farN) : v ≤ (i : Int) + 1 ↔ rR la lb (i + 1) k < rR la lb i k := by
  have e : (la.length : Int) - lb.length + off = (i : Int) + 1 - k := by omega
  have hs := hv.sound
  have hf := hv.full
  rw [e] at hs hf
  constructor
  · intro h
    rcases hs with h1 | ⟨iv, h1, h2⟩
    · unfold farN at *; omega
    · have h3 := h2.upn (i + 1 - iv) (by omega) (by omega)
      rw [show iv + (i + 1 - iv) = i + 1 by omega] at h3
      obtain ⟨k', h4, h5, h6, h7⟩ := h3
      have h8 : k' = k := by omega
      subst h8
      omega
  · intro h
    have hp := (rR_facts la lb (i + 1) k).1
    have h9 : (rR la lb (i + 1) k : Int) ≤ d := by omega
    have := hf (fun hB => ?_) (by omega) (i + 1) ⟨k, by omega, by omega, hk, h9⟩
    · omega
    · rcases hB with ⟨x, h1, h2⟩ | ⟨h1, k', h2, h3, h4, h5⟩
      · rw [show (i : Int) + 1 - k - 1 = (i : Int) - k by omega] at h1 h2
        have h3 := h2.upn (i - x) (by omega) (by omega)
        rw [show x + (i - x) = i by omega] at h3
        obtain ⟨k', h4, h5, h6, h7⟩ := h3
        have h8 : k' = k := by omega
        subst h8
        omega
      · have h6 := rR_begin (la := la) (lb := lb) k' h4
        omega
end
end Go.Proofs.Ytgapdndbelnknaa
