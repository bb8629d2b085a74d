/-
  Pieces and how often each stands: plain laws.
-/
import Derived.Test.YtaknmlajhedfhaaZp
namespace Go.Proofs.Ytaknmlajhedfhaa
open Go.RowKit Zk Zx Go.Maps Go.WideShapes
set_option linter.unusedVariables false
/-- A text's pieces, with a piece begun. -/
def cutF : List UInt8 → List UInt8 → List (List UInt8)
  | now, [] => if now = [] then [] else [now]
  | now, c :: r => if c = 10 ∨ now.length + 1 = 64 then (now ++ [c]) :: cutF [] r else cutF (now ++ [c]) r
def cuts (l : List UInt8) : List (List UInt8) := cutF [] l
/-- The map D counts the pieces L. -/
def CM (D : DU) (L : List (List UInt8)) : Prop :=
  ∃ es, D = .map es ∧ (es.map (·.1)).Nodup ∧ (∀ p ∈ es, ∃ t, p.1 = Lit.string t ∧ t ∈ L ∧ p.2 = .lit (.int .i64 (L.count t : Int))) ∧ ∀ t ∈ L, ∃ p ∈ es, p.1 = Lit.string t
theorem CM.nil : CM (.map []) [] := ⟨[], rfl, List.nodup_nil, fun p hp => (by cases hp), fun t ht => (by cases ht)⟩
theorem CM.at_ {D : DU} {L : List (List UInt8)} (h : CM D L) (t : List UInt8) : D.atKey (.string t) (.lit (.int .i64 0)) = .lit (.int .i64 (L.count t : Int)) := by
  obtain ⟨es, rfl, hn, h1, h2⟩ := h
  unfold DataW.atKey
  simp only
  cases hf : es.find? (fun p => p.1.sameKey (.string t)) with
  | none =>
    have : t ∉ L := fun ht => by
      obtain ⟨p, hp, hk⟩ := h2 t ht
      have := List.find?_eq_none.1 hf p hp
      rw [hk] at this
      simp [Lit.sameKey] at this
    rw [List.count_eq_zero_of_not_mem this]
    rfl
  | some p =>
    have hk : p.1 = .string t := WideAt.sameKey_eq (by have := List.find?_some hf; exact this)
    obtain ⟨t', h3, _, h4⟩ := h1 p (List.mem_of_find?_eq_some hf)
    rw [hk] at h3
    simp only [Lit.string.injEq] at h3
    subst h3
    exact h4
theorem CM.put {D : DU} {L : List (List UInt8)} (h : CM D L) (t : List UInt8) (c : Int) (hc : c = (L.count t : Int) + 1) : CM (D.put (.string t) (.lit (.int .i64 c))) (L ++ [t]) := by
  subst hc
  obtain ⟨es, rfl, hn, h1, h2⟩ := h
  have hmem : ∀ p, p ∈ DataW.insert (Lit.string t, (.lit (.int .i64 ((L.count t : Int) + 1)) : DU)) (es.filter fun p => !p.1.sameKey (.string t)) ↔ p = (Lit.string t, .lit (.int .i64 ((L.count t : Int) + 1))) ∨ (p ∈ es ∧ p.1 ≠ .string t) := fun p => by
    rw [(insert_perm _ _).mem_iff, List.mem_cons, List.mem_filter]
    have : (!p.1.sameKey (.string t)) = true ↔ p.1 ≠ .string t := by
      constructor
      · intro h e
        rw [e] at h
        simp [Lit.sameKey] at h
      · intro h
        cases hs : p.1.sameKey (.string t)
        · rfl
        · exact absurd (WideAt.sameKey_eq hs) h
    rw [this]
  refine ⟨_, rfl, ?_, fun p hp => ?_, fun s hs => ?_⟩
  · have hp := (insert_perm (Lit.string t, (.lit (.int .i64 ((L.count t : Int) + 1)) : DU)) (es.filter fun p => !p.1.sameKey (.string t))).map (·.1)
    rw [hp.nodup_iff, List.map_cons, List.nodup_cons]
    refine ⟨fun hm => ?_, (List.filter_sublist.map _).nodup hn⟩
    obtain ⟨p, hp, hk⟩ := List.mem_map.1 hm
    have := (List.mem_filter.1 hp).2
    rw [hk] at this
    simp [Lit.sameKey] at this
  · rcases (hmem p).1 hp with rfl | ⟨hp, hk⟩
    · exact ⟨t, rfl, by simp, by simp [List.count_append]⟩
    · obtain ⟨s, h3, h4, h5⟩ := h1 p hp
      refine ⟨s, h3, List.mem_append_left _ h4, ?_⟩
      have hne : t ≠ s := fun e => by subst e; exact hk h3
      rw [h5, List.count_append, List.count_cons_of_ne hne, List.count_nil]
      rfl
  · rcases List.mem_append.1 hs with hs | hs
    · by_cases he : s = t
      · subst he
        exact ⟨_, (hmem _).2 (.inl rfl), rfl⟩
      · obtain ⟨p, hp, hk⟩ := h2 s hs
        exact ⟨p, (hmem _).2 (.inr ⟨hp, by rw [hk]; simpa using he⟩), hk⟩
    · obtain rfl := List.mem_singleton.1 hs
      exact ⟨_, (hmem _).2 (.inl rfl), rfl⟩
/-- What two lists of pieces have in common at a piece. -/
def comG (A B : List (List UInt8)) : Lit → Nat
  | .string t => min (A.count t) (B.count t) * t.length
  | _ => 0
/-- .. at the pieces that have come. -/
def comL (A B : List (List UInt8)) (es : List (Lit × DU)) (left : Lit → Bool) : Nat := ((es.filter fun p => !left p.1).map fun p => comG A B p.1).sum
theorem com_step (A B : List (List UInt8)) (kl : Lit) (left : Lit → Bool) (hl : left kl = true) (hs : WideAt.IsKeyLit kl) : ∀ es : List (Lit × DU), (es.map (·.1)).Nodup → (∃ p ∈ es, p.1 = kl) →
    comL A B es (fun z => left z && !z.sameKey kl) = comL A B es left + comG A B kl
  | [], _, h => by obtain ⟨p, hp, _⟩ := h; cases hp
  | q :: es, hn, h => by
    rw [List.map_cons, List.nodup_cons] at hn
    by_cases hq : q.1 = kl
    · have hrest : comL A B es (fun z => left z && !z.sameKey kl) = comL A B es left := by
        unfold comL
        congr 2
        refine List.filter_congr fun p hp => ?_
        have : p.1.sameKey kl = false := by
          cases hc : p.1.sameKey kl
          · rfl
          · exact absurd (List.mem_map.2 ⟨p, hp, (WideAt.sameKey_eq hc).trans hq.symm⟩) hn.1
        simp [this]
      have e1 : comL A B (q :: es) (fun z => left z && !z.sameKey kl) = comG A B kl + comL A B es (fun z => left z && !z.sameKey kl) := by
        unfold comL
        rw [List.filter_cons_of_pos (by simp [hq, WideAt.sameKey_self hs]), List.map_cons, List.sum_cons, hq]
      have e2 : comL A B (q :: es) left = comL A B es left := by
        unfold comL
        rw [List.filter_cons_of_neg (by rw [hq, hl]; simp)]
      rw [e1, e2, hrest, Nat.add_comm]
    · obtain ⟨p, hp, hk⟩ := h
      have hp' : p ∈ es := by
        rcases List.mem_cons.1 hp with rfl | hp
        · exact absurd hk hq
        · exact hp
      have ih := com_step A B kl left hl hs es hn.2 ⟨p, hp', hk⟩
      have hqs : q.1.sameKey kl = false := by
        cases hc : q.1.sameKey kl
        · rfl
        · exact absurd (WideAt.sameKey_eq hc) hq
      unfold comL at ih ⊢
      cases hlq : left q.1 with
      | true => rw [List.filter_cons_of_neg (by simp [hlq, hqs]), List.filter_cons_of_neg (by simp [hlq])]; exact ih
      | false =>
        rw [List.filter_cons_of_pos (by simp [hlq]), List.filter_cons_of_pos (by simp [hlq]), List.map_cons, List.map_cons, List.sum_cons, List.sum_cons, ih]
        omega
/-- What two lists of pieces have in common. -/
def com (A B : List (List UInt8)) (ks : List (List UInt8)) : Nat := (ks.map fun t => min (A.count t) (B.count t) * t.length).sum
theorem com_perm {A B ks ks' : List (List UInt8)} (h1 : ks.Nodup) (h2 : ks'.Nodup) (h : ∀ t, t ∈ ks ↔ t ∈ ks') : com A B ks = com A B ks' := by
  have hp : ks.Perm ks' := (List.perm_ext_iff_of_nodup h1 h2).2 h
  exact (hp.map _).sum_nat
end Go.Proofs.Ytaknmlajhedfhaa
