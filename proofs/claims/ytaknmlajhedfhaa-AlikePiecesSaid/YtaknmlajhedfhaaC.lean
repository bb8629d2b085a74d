/-
  What two lists of pieces have in common: bounds, and one sum for all orders.
-/
import Derived.Test.YtaknmlajhedfhaaA
namespace Go.Proofs.Ytaknmlajhedfhaa
open Go.RowKit Zk Zx Go.Maps Go.WideShapes
set_option linter.unusedVariables false
def keyL : Lit → List UInt8
  | .string t => t
  | _ => []
theorem sum_le {α : Type} (f g : α → Nat) : ∀ l : List α, (∀ x ∈ l, f x ≤ g x) → (l.map f).sum ≤ (l.map g).sum
  | [], _ => Nat.le_refl _
  | x :: l, h => by
    rw [List.map_cons, List.map_cons, List.sum_cons, List.sum_cons]
    have h1 := h x List.mem_cons_self
    have h2 := sum_le f g l (fun y hy => h y (List.mem_cons_of_mem _ hy))
    omega
theorem sum_hit (x : List UInt8) : ∀ ks : List (List UInt8), ks.Nodup → (ks.map fun t => (if x = t then 1 else 0) * t.length).sum ≤ x.length ∧ (x ∈ ks → (ks.map fun t => (if x = t then 1 else 0) * t.length).sum = x.length)
  | [], _ => ⟨by simp, fun h => by cases h⟩
  | t :: ks, hn => by
    rw [List.nodup_cons] at hn
    obtain ⟨h1, h2⟩ := sum_hit x ks hn.2
    rw [List.map_cons, List.sum_cons]
    by_cases h : x = t
    · subst h
      have h0 : (ks.map fun t => (if x = t then 1 else 0) * t.length).sum = 0 := by
        have : ∀ y ∈ ks, (if x = y then 1 else 0) * y.length ≤ (fun _ : List UInt8 => 0) y := fun y hy => by
          rw [if_neg (fun e => hn.1 (by rw [e]; exact hy))]
          simp
        have h3 := sum_le (fun t : List UInt8 => (if x = t then 1 else 0) * t.length) (fun _ => 0) ks this
        have h4 : (ks.map fun _ => 0).sum = 0 := by clear this h3 h1 h2 hn; induction ks with | nil => rfl | cons a l ih => simpa using ih
        omega
      rw [h0, if_pos rfl]
      exact ⟨by omega, fun _ => by omega⟩
    · rw [if_neg h]
      refine ⟨by omega, fun hm => ?_⟩
      rcases List.mem_cons.1 hm with e | hm
      · exact absurd e h
      · rw [h2 hm]; omega
theorem sum_add {α : Type} (f g : α → Nat) : ∀ l : List α, (l.map fun x => f x + g x).sum = (l.map f).sum + (l.map g).sum
  | [] => rfl
  | x :: l => by
    rw [List.map_cons, List.map_cons, List.map_cons, List.sum_cons, List.sum_cons, List.sum_cons, sum_add f g l]
    omega
theorem count_step (x t : List UInt8) (A : List (List UInt8)) : (x :: A).count t * t.length = A.count t * t.length + (if x = t then 1 else 0) * t.length := by
  rw [List.count_cons, Nat.add_mul]
  congr 2
  by_cases h : x = t
  · simp [h]
  · simp [h]
theorem all_le : ∀ (A ks : List (List UInt8)), ks.Nodup → (ks.map fun t => A.count t * t.length).sum ≤ (A.map List.length).sum
  | [], ks, hn => by
    have : (ks.map fun t => ([] : List (List UInt8)).count t * t.length).sum ≤ (ks.map fun _ => 0).sum := sum_le _ _ ks (fun x _ => by simp)
    have h4 : (ks.map fun _ => 0).sum = 0 := by clear this hn; induction ks with | nil => rfl | cons a l ih => simpa using ih
    simp only [List.map_nil, List.sum_nil]
    omega
  | x :: A, ks, hn => by
    have h1 := all_le A ks hn
    have h2 := (sum_hit x ks hn).1
    have h3 : (ks.map fun t => (x :: A).count t * t.length) = ks.map fun t => A.count t * t.length + (if x = t then 1 else 0) * t.length := List.map_congr_left fun t _ => count_step x t A
    rw [h3, sum_add, List.map_cons, List.sum_cons]
    omega
theorem all_eq : ∀ (A ks : List (List UInt8)), ks.Nodup → (∀ t ∈ A, t ∈ ks) → (ks.map fun t => A.count t * t.length).sum = (A.map List.length).sum
  | [], ks, hn, _ => by
    have := all_le [] ks hn
    simpa using this
  | x :: A, ks, hn, hm => by
    have h1 := all_eq A ks hn (fun t ht => hm t (List.mem_cons_of_mem _ ht))
    have h2 := (sum_hit x ks hn).2 (hm x List.mem_cons_self)
    have h3 : (ks.map fun t => (x :: A).count t * t.length) = ks.map fun t => A.count t * t.length + (if x = t then 1 else 0) * t.length := List.map_congr_left fun t _ => count_step x t A
    rw [h3, sum_add, List.map_cons, List.sum_cons, h1, h2]
    omega
theorem com_le (A B ks : List (List UInt8)) (hn : ks.Nodup) : com A B ks ≤ (A.map List.length).sum ∧ com A B ks ≤ (B.map List.length).sum := by
  unfold com
  refine ⟨Nat.le_trans (sum_le _ _ ks fun t _ => ?_) (all_le A ks hn), Nat.le_trans (sum_le _ _ ks fun t _ => ?_) (all_le B ks hn)⟩
  · exact Nat.mul_le_mul_right _ (Nat.min_le_left _ _)
  · exact Nat.mul_le_mul_right _ (Nat.min_le_right _ _)
/-- The keys of a map of counts. -/
theorem CM.keys {D : DU} {L : List (List UInt8)} (h : CM D L) : ∃ es : List (Lit × DU), D = .map es ∧ (es.map (·.1)).Nodup ∧ (∀ p ∈ es, p.1 = Lit.string (keyL p.1)) ∧ (es.map fun p => keyL p.1).Nodup ∧ ∀ t, t ∈ (es.map fun p => keyL p.1) ↔ t ∈ L := by
  obtain ⟨es, hD, hn, h1, h2⟩ := h
  have hs : ∀ p ∈ es, p.1 = Lit.string (keyL p.1) := fun p hp => by
    obtain ⟨t, h3, _⟩ := h1 p hp
    rw [h3]
    rfl
  refine ⟨es, hD, hn, hs, ?_, fun t => ⟨fun ht => ?_, fun ht => ?_⟩⟩
  · have e : (es.map (·.1)) = (es.map fun p => keyL p.1).map Lit.string := by
      rw [List.map_map]
      exact List.map_congr_left fun p hp => hs p hp
    rw [e] at hn
    rw [List.Nodup, List.pairwise_map] at hn
    exact hn.imp (fun h e => h (by rw [e]))
  · obtain ⟨p, hp, rfl⟩ := List.mem_map.1 ht
    obtain ⟨t, h3, h4, _⟩ := h1 p hp
    rw [h3]
    exact h4
  · obtain ⟨p, hp, h3⟩ := h2 t ht
    exact List.mem_map.2 ⟨p, hp, by rw [h3]; rfl⟩
theorem comL_com (A B : List (List UInt8)) : ∀ (es : List (Lit × DU)) (left : Lit → Bool), (∀ p ∈ es, p.1 = Lit.string (keyL p.1)) → comL A B es left = com A B ((es.filter fun p => !left p.1).map fun p => keyL p.1) := fun es left hs => by
  unfold comL com
  rw [List.map_map]
  congr 1
  refine List.map_congr_left fun p hp => ?_
  have := hs p (List.mem_filter.1 hp).1
  show comG A B p.1 = _
  rw [this]
  rfl
theorem comL_le (A B : List (List UInt8)) (es : List (Lit × DU)) (left : Lit → Bool) (hs : ∀ p ∈ es, p.1 = Lit.string (keyL p.1)) (hn : (es.map fun p => keyL p.1).Nodup) : comL A B es left ≤ (A.map List.length).sum := by
  rw [comL_com A B es left hs]
  exact (com_le A B _ ((List.filter_sublist.map _).nodup hn)).1
theorem comL_start (A B : List (List UInt8)) (es : List (Lit × DU)) (hs : ∀ p ∈ es, p.1 = Lit.string (keyL p.1)) : comL A B es (Maps.has (.map es)) = 0 := by
  unfold comL
  have : es.filter (fun p => !Maps.has (DataW.map es) p.1) = [] := by
    rw [List.filter_eq_nil_iff]
    intro p hp
    have : Maps.has (DataW.map es) p.1 = true := by
      rw [Maps.has_eq]
      exact List.any_eq_true.2 ⟨p, hp, WideAt.sameKey_self (by rw [hs p hp]; trivial)⟩
    simp [this]
  rw [this]
  rfl
theorem comL_end (A B : List (List UInt8)) (es : List (Lit × DU)) (left : Lit → Bool) (hs : ∀ p ∈ es, p.1 = Lit.string (keyL p.1)) (hl : ∀ kl, left kl = false) : comL A B es left = com A B (es.map fun p => keyL p.1) := by
  rw [comL_com A B es left hs]
  congr 2
  exact List.filter_eq_self.2 fun p hp => by simp [hl]
/-- The distinct ones of a list. -/
def dd : List (List UInt8) → List (List UInt8)
  | [] => []
  | x :: r => if x ∈ r then dd r else x :: dd r
theorem dd_mem (t : List UInt8) : ∀ l, t ∈ dd l ↔ t ∈ l
  | [] => Iff.rfl
  | x :: r => by
    unfold dd
    split
    · rename_i h
      rw [dd_mem t r, List.mem_cons]
      exact ⟨.inr, fun h2 => h2.elim (fun e => by rw [e]; exact h) id⟩
    · rw [List.mem_cons, List.mem_cons, dd_mem t r]
theorem dd_nodup : ∀ l, (dd l).Nodup
  | [] => List.nodup_nil
  | x :: r => by
    unfold dd
    split
    · exact dd_nodup r
    · rename_i h
      rw [List.nodup_cons]
      exact ⟨fun hm => h ((dd_mem x r).1 hm), dd_nodup r⟩
/-- How many bytes two lists of pieces have in common. -/
def comT (A B : List (List UInt8)) : Nat := com A B (dd A)
theorem comT_of {A B ks : List (List UInt8)} (hn : ks.Nodup) (h : ∀ t, t ∈ ks ↔ t ∈ A) : com A B ks = comT A B :=
  com_perm hn (dd_nodup A) (fun t => (h t).trans (dd_mem t A).symm)
theorem comT_le (A B : List (List UInt8)) : comT A B ≤ (A.map List.length).sum ∧ comT A B ≤ (B.map List.length).sum := com_le A B _ (dd_nodup A)
theorem cutF_sum : ∀ (l now : List UInt8), ((cutF now l).map List.length).sum = now.length + l.length
  | [], now => by
    unfold cutF
    split
    · rename_i h; simp [h]
    · simp
  | c :: r, now => by
    unfold cutF
    split
    · rw [List.map_cons, List.sum_cons, cutF_sum r []]
      simp
      omega
    · rw [cutF_sum r]
      simp
      omega
theorem cuts_sum (l : List UInt8) : ((cuts l).map List.length).sum = l.length := by
  have := cutF_sum l []
  simpa [cuts] using this
end Go.Proofs.Ytaknmlajhedfhaa
