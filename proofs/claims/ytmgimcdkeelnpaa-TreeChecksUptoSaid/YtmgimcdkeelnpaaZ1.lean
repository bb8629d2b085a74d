/-
  Stable sorting of lists, in plain Lean: insertion, merging, how a merge is split. General; nothing here names a program.
-/
import Derived.Test.YtmgimcdkeelnpaaZk
namespace Go.Proofs.Ytmgimcdkeelnpaa.Zx
set_option linter.unusedVariables false
set_option linter.unusedSimpArgs false
section
variable {α : Type}
/-- What a comparison must be. -/
structure Ord3 (lt : α → α → Bool) : Prop where
  asym : ∀ x y, lt x y = true → lt y x = false
  nt : ∀ x y z, lt x y = false → lt y z = false → lt x z = false
theorem Ord3.tr {lt : α → α → Bool} (O : Ord3 lt) {x y z : α} (h1 : lt x y = true) (h2 : lt z y = false) : lt x z = true := by
  cases h : lt x z with
  | true => rfl
  | false => rw [O.nt x z y h h2] at h1; exact h1
theorem Ord3.tr2 {lt : α → α → Bool} (O : Ord3 lt) {x y z : α} (h1 : lt y x = false) (h2 : lt y z = true) : lt x z = true := by
  cases h : lt x z with
  | true => rfl
  | false => rw [O.nt y x z h1 h] at h2; exact h2
theorem Ord3.irr {lt : α → α → Bool} (O : Ord3 lt) (x : α) : lt x x = false := by
  cases h : lt x x with
  | false => rfl
  | true => rw [O.asym x x h] at h; exact h.symm
variable (lt : α → α → Bool)
def mrg : List α → List α → List α
  | [], m => m
  | x :: l, [] => x :: l
  | x :: l, y :: m => if lt y x then y :: mrg (x :: l) m else x :: mrg l (y :: m)
termination_by l m => l.length + m.length
def insS : List α → α → List α
  | [], x => [x]
  | y :: l, x => if lt x y then x :: y :: l else y :: insS l x
def srt (l : List α) : List α := l.foldl (insS lt) []
def Srt (l : List α) : Prop := l.Pairwise fun x y => lt y x = false
variable {lt}
theorem mrg_nil (m : List α) : mrg lt [] m = m := by rw [mrg]
theorem mrg_nilr (l : List α) : mrg lt l [] = l := by cases l <;> rw [mrg]
theorem mrg_l {x y : α} {l m : List α} (h : lt y x = false) : mrg lt (x :: l) (y :: m) = x :: mrg lt l (y :: m) := by rw [mrg, if_neg (by rw [h]; exact Bool.false_ne_true)]
theorem mrg_r {x y : α} {l m : List α} (h : lt y x = true) : mrg lt (x :: l) (y :: m) = y :: mrg lt (x :: l) m := by rw [mrg, if_pos h]
theorem ins_lt {x y : α} {l : List α} (h : lt x y = true) : insS lt (y :: l) x = x :: y :: l := by unfold insS; rw [if_pos h]
theorem ins_ge {x y : α} {l : List α} (h : lt x y = false) : insS lt (y :: l) x = y :: insS lt l x := by
  conv => lhs; unfold insS
  rw [if_neg (by rw [h]; exact Bool.false_ne_true)]
theorem mrg_ins (O : Ord3 lt) (x : α) : ∀ (l m : List α), insS lt (mrg lt l m) x = mrg lt l (insS lt m x)
  | [], m => by rw [mrg_nil, mrg_nil]
  | y :: l, [] => by
    rw [mrg_nilr]
    show insS lt (y :: l) x = mrg lt (y :: l) [x]
    cases h : lt x y with
    | true => rw [ins_lt h, mrg_r h, mrg_nilr]
    | false =>
      rw [ins_ge h, mrg_l h]
      have := mrg_ins O x l []
      rw [mrg_nilr] at this
      rw [this]
      rfl
  | y :: l, z :: m => by
    cases h1 : lt z y with
    | false =>
      rw [mrg_l h1]
      cases h2 : lt x z with
      | true =>
        rw [ins_lt h2]
        cases h3 : lt x y with
        | true => rw [ins_lt h3, mrg_r h3, mrg_l h1]
        | false =>
          rw [ins_ge h3, mrg_l h3, mrg_ins O x l (z :: m), ins_lt h2]
      | false =>
        rw [ins_ge h2]
        have h3 : lt x y = false := O.nt _ _ _ h2 h1
        rw [ins_ge h3, mrg_l h1, mrg_ins O x l (z :: m), ins_ge h2]
    | true =>
      rw [mrg_r h1]
      cases h2 : lt x z with
      | true =>
        rw [ins_lt h2, ins_lt h2]
        have h3 : lt x y = true := O.tr2 (O.asym _ _ h2) h1
        rw [mrg_r h3, mrg_r h1]
      | false => rw [ins_ge h2, ins_ge h2, mrg_r h1, mrg_ins O x (y :: l) m]
termination_by l m => l.length + m.length
theorem mrg_fold (O : Ord3 lt) (s : List α) : ∀ (m t : List α), m.foldl (insS lt) (mrg lt s t) = mrg lt s (m.foldl (insS lt) t)
  | [], t => rfl
  | x :: m, t => by
    rw [List.foldl_cons, List.foldl_cons, mrg_ins O, mrg_fold O s m]
theorem mrg_srt (O : Ord3 lt) (l m : List α) : mrg lt (srt lt l) (srt lt m) = srt lt (l ++ m) := by
  unfold srt
  rw [List.foldl_append, ← mrg_fold O, mrg_nilr]
theorem ins_len (x : α) : ∀ l : List α, (insS lt l x).length = l.length + 1
  | [] => rfl
  | y :: l => by
    cases h : lt x y with
    | true => rw [ins_lt h]; rfl
    | false => rw [ins_ge h, List.length_cons, ins_len x l, List.length_cons]
theorem ins_mem {x z : α} : ∀ {l : List α}, z ∈ insS lt l x ↔ z = x ∨ z ∈ l
  | [] => by unfold insS; simp
  | y :: l => by
    cases h : lt x y with
    | true => rw [ins_lt h]; simp
    | false =>
      rw [ins_ge h, List.mem_cons, ins_mem, List.mem_cons]
      constructor
      · rintro (h | h | h)
        · exact .inr (.inl h)
        · exact .inl h
        · exact .inr (.inr h)
      · rintro (h | h | h)
        · exact .inr (.inl h)
        · exact .inl h
        · exact .inr (.inr h)
theorem ins_sorted (O : Ord3 lt) (x : α) : ∀ l : List α, Srt lt l → Srt lt (insS lt l x)
  | [], _ => by unfold insS Srt; simp
  | y :: l, h => by
    have h2 := List.pairwise_cons.1 h
    cases hx : lt x y with
    | true =>
      rw [ins_lt hx]
      refine List.pairwise_cons.2 ⟨fun z hz => ?_, h⟩
      rcases List.mem_cons.1 hz with rfl | hz
      · exact O.asym _ _ hx
      · exact O.nt _ _ _ (h2.1 z hz) (O.asym _ _ hx)
    | false =>
      rw [ins_ge hx]
      refine List.pairwise_cons.2 ⟨fun z hz => ?_, ins_sorted O x l h2.2⟩
      rcases ins_mem.1 hz with rfl | hz
      · exact hx
      · exact h2.1 z hz
theorem srt_sorted (O : Ord3 lt) (l : List α) : Srt lt (srt lt l) := by
  have : ∀ (l s : List α), Srt lt s → Srt lt (l.foldl (insS lt) s) := by
    intro l
    induction l with
    | nil => exact fun s h => h
    | cons x l ih => exact fun s h => ih _ (ins_sorted O x s h)
  exact this l [] List.Pairwise.nil
theorem srt_len (l : List α) : (srt lt l).length = l.length := by
  have : ∀ (l s : List α), (l.foldl (insS lt) s).length = s.length + l.length := by
    intro l
    induction l with
    | nil => exact fun s => rfl
    | cons x l ih => exact fun s => by rw [List.foldl_cons, ih, ins_len, List.length_cons]; omega
  rw [srt, this]
  simp
theorem srt_mem {l : List α} {z : α} : z ∈ srt lt l ↔ z ∈ l := by
  have : ∀ (l s : List α), z ∈ l.foldl (insS lt) s ↔ z ∈ s ∨ z ∈ l := by
    intro l
    induction l with
    | nil => exact fun s => by simp
    | cons x l ih =>
      intro s
      rw [List.foldl_cons, ih, ins_mem, List.mem_cons]
      constructor
      · rintro ((h | h) | h)
        · exact .inr (.inl h)
        · exact .inl h
        · exact .inr (.inr h)
      · rintro (h | h | h)
        · exact .inl (.inr h)
        · exact .inl (.inl h)
        · exact .inr h
  rw [srt, this]
  simp
theorem srt_snoc (l : List α) (x : α) : srt lt (l ++ [x]) = insS lt (srt lt l) x := by unfold srt; rw [List.foldl_append]; rfl
/-- Where an element goes. -/
theorem ins_at {x : α} : ∀ (p q : List α), (∀ y ∈ p, lt x y = false) → (∀ y, q[0]? = some y → lt x y = true) → insS lt (p ++ q) x = p ++ x :: q
  | [], [], _, _ => rfl
  | [], y :: q, _, h => ins_lt (h y rfl)
  | y :: p, q, h, h2 => by
    rw [List.cons_append, ins_ge (h y (List.mem_cons_self ..)), ins_at p q (fun z hz => h z (List.mem_cons_of_mem _ hz)) h2]
    rfl
theorem srt_last (O : Ord3 lt) {p : List α} {x y : α} (h : Srt lt (p ++ [y])) (hx : lt x y = false) : ∀ z ∈ p ++ [y], lt x z = false := fun z hz => by
  rcases List.mem_append.1 hz with hz | hz
  · exact O.nt _ _ _ hx ((List.pairwise_append.1 h).2.2 z hz y (by simp))
  · rw [List.mem_singleton.1 hz]; exact hx
theorem srt_last2 (O : Ord3 lt) {p : List α} {x y : α} (h : Srt lt (p ++ [y])) (hx : lt y x = true) : ∀ z ∈ p ++ [y], lt z x = true := fun z hz => by
  rcases List.mem_append.1 hz with hz | hz
  · exact O.tr2 ((List.pairwise_append.1 h).2.2 z hz y (by simp)) hx
  · rw [List.mem_singleton.1 hz]; exact hx
theorem srt_head (O : Ord3 lt) {q : List α} {x y : α} (h : Srt lt (y :: q)) (hx : lt y x = false) : ∀ z ∈ y :: q, lt z x = false := fun z hz => by
  rcases List.mem_cons.1 hz with rfl | hz
  · exact hx
  · exact O.nt _ _ _ ((List.pairwise_cons.1 h).1 z hz) hx
theorem srt_head2 (O : Ord3 lt) {q : List α} {x y : α} (h : Srt lt (y :: q)) (hx : lt x y = true) : ∀ z ∈ y :: q, lt x z = true := fun z hz => by
  rcases List.mem_cons.1 hz with rfl | hz
  · exact hx
  · exact O.tr hx ((List.pairwise_cons.1 h).1 z hz)
/-- A merge is split where all in front go ahead of all behind. -/
theorem mrg_split : ∀ (a1 a2 b1 b2 : List α), (∀ x ∈ a1, ∀ y ∈ b2, lt y x = false) → (∀ x ∈ a2, ∀ y ∈ b1, lt x y = true) → mrg lt (a1 ++ b1) (a2 ++ b2) = mrg lt a1 a2 ++ mrg lt b1 b2
  | [], [], b1, b2, _, _ => by rw [mrg_nil]; rfl
  | x :: a1, [], b1, [], _, _ => by rw [List.append_nil, mrg_nilr, mrg_nilr, mrg_nilr]
  | x :: a1, [], b1, y :: b2, h1, h2 => by
    have := mrg_split a1 [] b1 (y :: b2) (fun z hz => h1 z (List.mem_cons_of_mem _ hz)) h2
    rw [List.nil_append, mrg_nilr] at this ⊢
    rw [List.cons_append, mrg_l (h1 x (List.mem_cons_self ..) y (List.mem_cons_self ..)), this]
    rfl
  | [], y :: a2, [], b2, _, _ => by rw [List.append_nil, mrg_nil, mrg_nil, mrg_nil]
  | [], y :: a2, x :: b1, b2, h1, h2 => by
    have := mrg_split [] a2 (x :: b1) b2 h1 (fun z hz => h2 z (List.mem_cons_of_mem _ hz))
    rw [List.nil_append, mrg_nil] at this ⊢
    rw [List.cons_append, mrg_r (h2 y (List.mem_cons_self ..) x (List.mem_cons_self ..)), this]
    rfl
  | x :: a1, y :: a2, b1, b2, h1, h2 => by
    cases h : lt y x with
    | true =>
      have := mrg_split (x :: a1) a2 b1 b2 h1 (fun z hz => h2 z (List.mem_cons_of_mem _ hz))
      rw [List.cons_append] at this
      rw [List.cons_append, List.cons_append, mrg_r h, mrg_r h, this]
      rfl
    | false =>
      have := mrg_split a1 (y :: a2) b1 b2 (fun z hz => h1 z (List.mem_cons_of_mem _ hz)) h2
      rw [List.cons_append] at this
      rw [List.cons_append, List.cons_append, mrg_l h, mrg_l h, this]
      rfl
termination_by a1 a2 => a1.length + a2.length
theorem mrg_len : ∀ (l m : List α), (mrg lt l m).length = l.length + m.length
  | [], m => by rw [mrg_nil]; simp
  | x :: l, [] => by rw [mrg_nilr]; simp
  | x :: l, y :: m => by
    cases h : lt y x with
    | true => rw [mrg_r h, List.length_cons, mrg_len (x :: l) m]; simp; omega
    | false => rw [mrg_l h, List.length_cons, mrg_len l (y :: m)]; simp; omega
termination_by l m => l.length + m.length
/-- One ahead of many, many ahead of one. -/
theorem mrg_one (O : Ord3 lt) {x : α} {u v : List α} (hs : Srt lt (u ++ v)) (hu : ∀ y, (u ++ v)[u.length - 1]? = some y → 0 < u.length → lt y x = true) (hv : ∀ y, v[0]? = some y → lt y x = false) : mrg lt [x] (u ++ v) = u ++ x :: v := by
  have h1 := List.pairwise_append.1 hs
  have hall : ∀ y ∈ u, lt y x = true := by
    rcases List.eq_nil_or_concat u with rfl | ⟨p, y, rfl⟩
    · intro y hy; cases hy
    · intro z hz
      exact srt_last2 O (p := p) (y := y) (by unfold Srt; simpa using h1.1) (hu y (by simp) (by simp)) z (by simpa using hz)
  have := mrg_split (lt := lt) [] u [x] v (fun z hz => by cases hz) (fun z hz y hy => by rw [List.mem_singleton.1 hy]; exact hall z hz)
  rw [List.nil_append, mrg_nil] at this
  rw [this]
  congr 1
  cases v with
  | nil => rw [mrg_nilr]
  | cons y v => rw [mrg_l (hv y rfl), mrg_nil]
theorem mrg_lst (O : Ord3 lt) {y : α} {u v : List α} (hs : Srt lt (u ++ v)) (hu : ∀ x, (u ++ v)[u.length - 1]? = some x → 0 < u.length → lt y x = false) (hv : ∀ x, v[0]? = some x → lt y x = true) : mrg lt (u ++ v) [y] = u ++ y :: v := by
  have h1 := List.pairwise_append.1 hs
  have hall : ∀ x ∈ u, lt y x = false := by
    rcases List.eq_nil_or_concat u with rfl | ⟨p, z, rfl⟩
    · intro x hx; cases hx
    · intro x hx
      exact srt_last O (p := p) (y := z) (by unfold Srt; simpa using h1.1) (hu z (by simp) (by simp)) x (by simpa using hx)
  have := mrg_split (lt := lt) u [] v [y] (fun z hz x hx => by rw [List.mem_singleton.1 hx]; exact hall z hz) (fun z hz => by cases hz)
  rw [List.nil_append, mrg_nilr] at this
  rw [this]
  congr 1
  cases v with
  | nil => rw [mrg_nil]
  | cons x v => rw [mrg_r (hv x rfl), mrg_nilr]
/-- Two exchanged. -/
theorem swp_mid {p q r : List α} {x y : α} {i j : Nat} (hi : i = p.length) (hj : j = p.length + 1 + q.length) : ((p ++ x :: (q ++ y :: r)).set i y).set j x = p ++ y :: (q ++ x :: r) := by
  subst hi hj
  have e1 : (p ++ x :: (q ++ y :: r)).set p.length y = p ++ y :: (q ++ y :: r) := by simp [List.set_append_right]
  rw [e1]
  have e2 : p ++ y :: (q ++ y :: r) = (p ++ y :: q) ++ y :: r := by simp
  have e3 : p.length + 1 + q.length = (p ++ y :: q).length := by simp; omega
  rw [e2, e3]
  simp [List.set_append_right]
theorem get_mid {p q r : List α} {x y : α} : (p ++ x :: (q ++ y :: r))[p.length]? = some x ∧ (p ++ x :: (q ++ y :: r))[p.length + 1 + q.length]? = some y := by
  refine ⟨by simp, ?_⟩
  have e2 : p ++ x :: (q ++ y :: r) = (p ++ x :: q) ++ y :: r := by simp
  have e3 : p.length + 1 + q.length = (p ++ x :: q).length := by simp; omega
  rw [e2, e3]
  simp
end
end Go.Proofs.Ytmgimcdkeelnpaa.Zx
