/-
  Ids in order: plain laws.
-/
import Derived.Test.YtblbcmkhgjlpcaaM
namespace Go.Proofs.Ytblbcmkhgjlpcaa
open Go.RowKit Zk
set_option linter.unusedVariables false
structure Id where
  l : List UInt8
  h : l.length = 32
theorem Id.ext {a b : Id} (h : a.l = b.l) : a = b := by cases a; cases b; simp_all
def nib (a : Id) (k : Nat) : Nat := nibN a.l k
theorem nib_c0 (c : UInt8) (x : List UInt8) : nibN (c :: x) 0 = c.toNat / 16 := by simp [nibN]
theorem nib_c1 (c : UInt8) (x : List UInt8) : nibN (c :: x) 1 = c.toNat % 16 := by simp [nibN]
theorem nib_c2 (c : UInt8) (x : List UInt8) (k : Nat) : nibN (c :: x) (k + 2) = nibN x k := by
  have e : (k + 2) / 2 = k / 2 + 1 := by omega
  have e2 : (k + 2) % 2 = k % 2 := by omega
  simp only [nibN, e, e2, List.getD_cons_succ]
theorem below_nib : ∀ (x y : List UInt8), x.length = y.length → (belowL x y = true ↔ ∃ i, i < 2 * x.length ∧ (∀ j, j < i → nibN x j = nibN y j) ∧ nibN x i < nibN y i)
  | [], [], _ => ⟨(fun h => by cases h), fun ⟨i, h, _⟩ => by simp at h⟩
  | [], _ :: _, h => by cases h
  | _ :: _, [], h => by cases h
  | c :: x, d :: y, h => by
    have ih := below_nib x y (by simpa using h)
    have hc := c.toNat_lt
    have hd := d.toNat_lt
    simp only [belowL, List.length_cons]
    by_cases e : c = d
    · subst e
      rw [if_pos rfl, ih]
      constructor
      · rintro ⟨i, h1, h2, h3⟩
        refine ⟨i + 2, by omega, fun j hj => ?_, by rw [nib_c2, nib_c2]; exact h3⟩
        match j with
        | 0 => rw [nib_c0, nib_c0]
        | 1 => rw [nib_c1, nib_c1]
        | j + 2 => rw [nib_c2, nib_c2]; exact h2 j (by omega)
      · rintro ⟨i, h1, h2, h3⟩
        match i with
        | 0 => rw [nib_c0, nib_c0] at h3; omega
        | 1 => rw [nib_c1, nib_c1] at h3; omega
        | i + 2 =>
          rw [nib_c2, nib_c2] at h3
          exact ⟨i, by omega, fun j hj => by have := h2 (j + 2) (by omega); rwa [nib_c2, nib_c2] at this, h3⟩
    · rw [if_neg e, decide_eq_true_iff]
      have hne : c.toNat ≠ d.toNat := fun q => e (UInt8.toNat_inj.1 q)
      constructor
      · intro hlt
        by_cases h1 : c.toNat / 16 < d.toNat / 16
        · exact ⟨0, by omega, fun j hj => by omega, by rw [nib_c0, nib_c0]; exact h1⟩
        · refine ⟨1, by omega, fun j hj => ?_, by rw [nib_c1, nib_c1]; omega⟩
          have : j = 0 := by omega
          subst this
          rw [nib_c0, nib_c0]; omega
      · rintro ⟨i, h1, h2, h3⟩
        match i with
        | 0 => rw [nib_c0, nib_c0] at h3; omega
        | 1 =>
          have := h2 0 (by omega)
          rw [nib_c0, nib_c0] at this
          rw [nib_c1, nib_c1] at h3
          omega
        | i + 2 =>
          have g0 := h2 0 (by omega)
          have g1 := h2 1 (by omega)
          rw [nib_c0, nib_c0] at g0
          rw [nib_c1, nib_c1] at g1
          omega
def lt (a b : Id) : Bool := belowL a.l b.l
theorem lt_iff (a b : Id) : lt a b = true ↔ ∃ i, i < 64 ∧ (∀ j, j < i → nib a j = nib b j) ∧ nib a i < nib b i := by
  have := below_nib a.l b.l (by rw [a.h, b.h])
  rw [a.h] at this
  exact this
theorem lt_irr (a : Id) : lt a a = false := belowL_irrefl _
theorem lt_trans (a b c : Id) (h1 : lt a b = true) (h2 : lt b c = true) : lt a c = true := by
  obtain ⟨i, a1, a2, a3⟩ := (lt_iff a b).1 h1
  obtain ⟨j, b1, b2, b3⟩ := (lt_iff b c).1 h2
  refine (lt_iff a c).2 ?_
  rcases Nat.lt_trichotomy i j with h | h | h
  · exact ⟨i, a1, fun k hk => (a2 k hk).trans (b2 k (by omega)), by rw [← b2 i h]; exact a3⟩
  · subst h; exact ⟨i, a1, fun k hk => (a2 k hk).trans (b2 k hk), by omega⟩
  · exact ⟨j, b1, fun k hk => (a2 k (by omega)).trans (b2 k hk), by rw [a2 j h]; exact b3⟩
/-- The first digit that is not the same. -/
theorem first_diff (a b : Id) (n : Nat) : (∀ j, j < n → nib a j = nib b j) ∨ ∃ i, i < n ∧ (∀ j, j < i → nib a j = nib b j) ∧ nib a i ≠ nib b i := by
  induction n with
  | zero => exact .inl fun j hj => by omega
  | succ n ih =>
    rcases ih with h | ⟨i, h1, h2, h3⟩
    · by_cases e : nib a n = nib b n
      · exact .inl fun j hj => by
          rcases Nat.lt_or_ge j n with h4 | h4
          · exact h j h4
          · rw [show j = n by omega]; exact e
      · exact .inr ⟨n, by omega, h, e⟩
    · exact .inr ⟨i, by omega, h2, h3⟩
theorem lt_total (a b : Id) (h : lt a b = false) (hne : a ≠ b) : lt b a = true := by
  rcases first_diff a b 64 with h1 | ⟨i, h1, h2, h3⟩
  · exact (hne (Id.ext (nib_ext _ _ a.h b.h h1))).elim
  · rcases Nat.lt_or_gt_of_ne h3 with h4 | h4
    · rw [(lt_iff a b).2 ⟨i, h1, h2, h4⟩] at h; cases h
    · exact (lt_iff b a).2 ⟨i, h1, fun j hj => (h2 j hj).symm, h4⟩
/-- What stands between two that begin alike begins so. -/
theorem between (x y z : Id) (n : Nat) (hn : n ≤ 64) (h1 : lt y x = false) (h2 : lt z y = false) (h : ∀ j, j < n → nib x j = nib z j) : ∀ j, j < n → nib x j = nib y j := by
  rcases first_diff x y n with h3 | ⟨i, h3, h4, h5⟩
  · exact h3
  · exfalso
    rcases Nat.lt_or_gt_of_ne h5 with h6 | h6
    · have : lt z y = true := (lt_iff z y).2 ⟨i, by omega, fun j hj => by rw [← h j (by omega)]; exact h4 j hj, by rw [← h i h3]; exact h6⟩
      rw [h2] at this; cases this
    · have : lt y x = true := (lt_iff y x).2 ⟨i, by omega, fun j hj => (h4 j hj).symm, h6⟩
      rw [h1] at this; cases this
def ris : List Id → Bool
  | a :: b :: r => lt a b && ris (b :: r)
  | _ => true
theorem ris_pair : ∀ l : List Id, ris l = true → l.Pairwise fun a b => lt a b = true
  | [], _ => List.Pairwise.nil
  | [a], _ => List.pairwise_singleton _ _
  | a :: b :: r, h => by
    simp only [ris, Bool.and_eq_true] at h
    have ih := ris_pair (b :: r) h.2
    rw [List.pairwise_cons]
    refine ⟨fun c hc => ?_, ih⟩
    rcases List.mem_cons.1 hc with rfl | hc
    · exact h.1
    · rw [List.pairwise_cons] at ih
      exact lt_trans _ _ _ h.1 (ih.1 c hc)
theorem pair_ris : ∀ l : List Id, (l.Pairwise fun a b => lt a b = true) → ris l = true
  | [], _ => rfl
  | [a], _ => rfl
  | a :: b :: r, h => by
    rw [List.pairwise_cons] at h
    simp only [ris, Bool.and_eq_true]
    exact ⟨h.1 b List.mem_cons_self, pair_ris (b :: r) h.2⟩
theorem ris_at {l : List Id} (h : ris l = true) {i j : Nat} {x y : Id} (hi : l[i]? = some x) (hj : l[j]? = some y) (hij : i < j) : lt x y = true := by
  obtain ⟨i1, i2⟩ := List.getElem?_eq_some_iff.1 hi
  obtain ⟨j1, j2⟩ := List.getElem?_eq_some_iff.1 hj
  subst i2; subst j2
  exact List.pairwise_iff_getElem.1 (ris_pair l h) i j i1 j1 hij
theorem ris_drop {l : List Id} {k : Nat} {a b : Id} (ha : l[k]? = some a) (hb : l[k + 1]? = some b) : ris (l.drop k) = (lt a b && ris (l.drop (k + 1))) := by
  obtain ⟨i1, i2⟩ := List.getElem?_eq_some_iff.1 ha
  obtain ⟨j1, j2⟩ := List.getElem?_eq_some_iff.1 hb
  rw [List.drop_eq_getElem_cons i1, List.drop_eq_getElem_cons j1, i2, j2]
  rfl
theorem ris_short {l : List Id} {k : Nat} (h : l.length ≤ k + 1) : ris (l.drop k) = true := by
  have hl : (l.drop k).length ≤ 1 := by rw [List.length_drop]; omega
  match l.drop k, hl with
  | [], _ => rfl
  | [a], _ => rfl
/-- How many are below. -/
def posOk (l : List Id) (x : Id) (n : Nat) : Prop := n ≤ l.length ∧ ∀ i y, l[i]? = some y → lt y x = decide (i < n)
theorem posOk.uniq {l : List Id} {x : Id} {n m : Nat} (h1 : posOk l x n) (h2 : posOk l x m) : n = m := by
  rcases Nat.lt_trichotomy n m with h | h | h
  · exfalso
    have hl : n < l.length := by have := h2.1; omega
    have a := h1.2 n _ (List.getElem?_eq_getElem hl)
    have b := h2.2 n _ (List.getElem?_eq_getElem hl)
    rw [a, decide_eq_false (by omega), decide_eq_true h] at b
    cases b
  · exact h
  · exfalso
    have hl : m < l.length := by have := h1.1; omega
    have a := h1.2 m _ (List.getElem?_eq_getElem hl)
    have b := h2.2 m _ (List.getElem?_eq_getElem hl)
    rw [a, decide_eq_true h, decide_eq_false (by omega)] at b
    cases b
theorem posOk.of {l : List Id} (hr : ris l = true) {x : Id} {n : Nat} (h1 : n ≤ l.length) (h2 : ∀ i y, i < n → l[i]? = some y → lt y x = true) (h3 : ∀ y, l[n]? = some y → lt y x = false) : posOk l x n :=
  ⟨h1, fun i y hy => by
    rcases Nat.lt_or_ge i n with h | h
    · rw [decide_eq_true h]; exact h2 i y h hy
    · rw [decide_eq_false (by omega)]
      have hl : n < l.length := by have := (List.getElem?_eq_some_iff.1 hy).1; omega
      have hn := h3 _ (List.getElem?_eq_getElem hl)
      rcases Nat.lt_or_ge n i with h4 | h4
      · have h5 := ris_at hr (List.getElem?_eq_getElem hl) hy h4
        cases h6 : lt y x
        · rfl
        · rw [lt_trans _ _ _ h5 h6] at hn; cases hn
      · have e : i = n := by omega
        subst e
        rw [List.getElem?_eq_getElem hl] at hy
        cases hy
        exact hn⟩
/-- Does an id begin so? -/
def fit (z : Id) (n : Int) (x : Id) : Bool := fitsB z.l n x.l
theorem fit_iff {z : Id} {n : Int} (hr : rightB z.l n = true) (x : Id) : 0 ≤ n ∧ n ≤ 64 ∧ (fit z n x = true ↔ ∀ k : Nat, (k : Int) < n → nib z k = nib x k) := by
  have hr' := hr
  simp only [rightB, Bool.and_eq_true, decide_eq_true_eq, beq_iff_eq] at hr'
  obtain ⟨h1, h2, h3⟩ := hr'
  obtain ⟨m, rfl⟩ := Int.eq_ofNat_of_zero_le h1
  rw [Int.toNat_natCast] at h3
  refine ⟨h1, h2, ?_⟩
  unfold fit fitsB
  rw [hr, Bool.true_and, beq_iff_eq, Int.toNat_natCast, cut_fits z.l x.l m z.h h3]
  exact ⟨fun g k hk => g k (by omega) (by omega), fun g k hk h64 => g k (by omega)⟩
/-- Those that begin so stand side by side. -/
theorem run_ok {l : List Id} (hr : ris l = true) {z : Id} {n : Int} (hz : rightB z.l n = true) {f t : Nat} (hf : posOk l z f) (hft : f ≤ t) (htl : t ≤ l.length) (hin : ∀ i y, f ≤ i → i < t → l[i]? = some y → fit z n y = true)
    (hout : ∀ y, l[t]? = some y → fit z n y = false) {i : Nat} {y : Id} (hy : l[i]? = some y) : fit z n y = decide (f ≤ i ∧ i < t) := by
  have hzl := (cut_self z.l n.toNat z.h).1 (by
    simp only [rightB, Bool.and_eq_true, decide_eq_true_eq, beq_iff_eq] at hz
    exact hz.2.2)
  obtain ⟨h0, h64, hy2⟩ := fit_iff hz y
  rcases Nat.lt_or_ge i f with h1 | h1
  · rw [decide_eq_false (by omega)]
    have hb := hf.2 i y hy
    rw [decide_eq_true h1] at hb
    obtain ⟨k, k1, k2, k3⟩ := (lt_iff y z).1 hb
    cases h4 : fit z n y
    · rfl
    · exfalso
      have h5 := hy2.1 h4
      rcases Int.lt_or_le (k : Int) n with h6 | h6
      · have := h5 k h6; omega
      · have : nib z k = 0 := hzl k (by omega) k1
        omega
  · rcases Nat.lt_or_ge i t with h2 | h2
    · rw [decide_eq_true ⟨h1, h2⟩]; exact hin i y h1 h2 hy
    · rw [decide_eq_false (by omega)]
      have htl2 : t < l.length := by have := (List.getElem?_eq_some_iff.1 hy).1; omega
      have ht := List.getElem?_eq_getElem htl2
      have ho := hout _ ht
      rcases Nat.lt_or_ge t i with h3 | h3
      · cases h4 : fit z n y
        · rfl
        · exfalso
          have h5 := hy2.1 h4
          have h6 := ris_at hr ht hy h3
          have h7 := hf.2 t _ ht
          rw [decide_eq_false (by omega)] at h7
          have h8 : lt y l[t] = false := by
            cases h9 : lt y l[t]
            · rfl
            · have := lt_trans _ _ _ h6 h9; rw [lt_irr] at this; cases this
          have h9 := between z l[t] y n.toNat (by omega) h7 h8 (fun j hj => h5 j (by omega))
          have := ((fit_iff hz l[t]).2.2).2 fun k hk => h9 k (by omega)
          rw [ho] at this
          cases this
      · have e : i = t := by omega
        subst e
        rw [ht] at hy
        cases hy
        exact ho
theorem count_run : ∀ (l : List Id) (p : Id → Bool) (f t : Nat), f ≤ t → t ≤ l.length → (∀ i y, l[i]? = some y → p y = decide (f ≤ i ∧ i < t)) → l.countP p = t - f
  | [], p, f, t, h1, h2, _ => by simp at h2; subst h2; simp
  | x :: l, p, f, t, h1, h2, h => by
    have hx := h 0 x rfl
    simp only [List.length_cons] at h2
    rw [List.countP_cons]
    rcases Nat.eq_zero_or_pos t with h0 | h0
    · subst h0
      have hf : f = 0 := by omega
      subst hf
      have ih := count_run l p 0 0 (by omega) (by omega) fun i y hy => by
        have := h (i + 1) y (by simpa using hy)
        rw [this]
        exact decide_eq_decide.2 (by omega)
      rw [ih, hx]
      simp
    · have ih := count_run l p (f - 1) (t - 1) (by omega) (by omega) fun i y hy => by
        have := h (i + 1) y (by simpa using hy)
        rw [this]
        exact decide_eq_decide.2 (by omega)
      rw [ih, hx]
      by_cases hf : f = 0
      · subst hf
        rw [decide_eq_true ⟨by omega, h0⟩, if_pos rfl]; omega
      · rw [decide_eq_false (by omega), if_neg (by simp)]; omega
end Go.Proofs.Ytblbcmkhgjlpcaa
