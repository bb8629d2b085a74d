/-
  Where each part of a base stands.
-/
import Derived.Test.YtpcgldkllnkaeaaE
import Derived.Test.YtpcgldkllnkaeaaZn
namespace Go.Proofs.Ytpcgldkllnkaeaa
open Go.RowKit Zk Zx
set_option linter.unusedVariables false
set_option linter.unusedSimpArgs false
def nL (l : List Nat) : List Value := l.map fun (i : Nat) => Value.int .i64 (i : Int)
theorem nL_app (l m : List Nat) : nL (l ++ m) = nL l ++ nL m := by simp [nL]
theorem nL_one (l : List Nat) : ∀ u ∈ nL l, u.oneCell' = true := fun u hu => by
  obtain ⟨i, _, rfl⟩ := List.mem_map.1 hu
  rfl
theorem nL_len (l : List Nat) : (nL l).length = l.length := by simp [nL]
theorem nL_get {l : List Nat} {k v : Nat} (h : l[k]? = some v) : (nL l)[k]? = some (.int .i64 (v : Int)) := by simp [nL, h]
/-- The first six bytes from a place on. -/
def six (a : List UInt8) (i : Nat) : List UInt8 := (a.drop i).take 6
def posF (a : List UInt8) (k : Nat) (key : List UInt8) : List Nat := (List.range k).filter fun i => six a i == key
theorem posF_succ (a : List UInt8) (k : Nat) (key : List UInt8) : posF a (k + 1) key = posF a k key ++ (if six a k = key then [k] else []) := by
  unfold posF
  rw [List.range_succ, List.filter_append]
  congr 1
  by_cases h : six a k = key <;> simp [h]
theorem posF_lt {a : List UInt8} {k i : Nat} {key : List UInt8} (h : i ∈ posF a k key) : i < k := by
  have := (List.mem_filter.1 h).1
  simpa using this
theorem posF_len (a : List UInt8) (k : Nat) (key : List UInt8) : (posF a k key).length ≤ k := by
  unfold posF
  have := List.length_filter_le (fun i => six a i == key) (List.range k)
  simpa using this
/-- A key, and the slice of the places where it stands. -/
structure PE where
  k : List UInt8
  A : Option Addr
  n : Nat
  c : Nat
  xs : List Nat
def PE.ent (p : PE) : List UInt8 × Value := (p.k, .slice p.A p.n p.c)
def PE.row (p : PE) : Res := Zx.row 3 1 p.A p.n p.c (nL p.xs)
structure PI (a : List UInt8) (k : Nat) (pes : List PE) : Prop where
  each : ∀ p ∈ pes, p.xs = posF a k p.k
  nodup : (pes.map PE.k).Nodup
  all : ∀ i, i < k → six a i ∈ pes.map PE.k
theorem PI.start (a : List UInt8) : PI a 0 [] := ⟨fun p hp => (List.not_mem_nil hp).elim, List.Pairwise.nil, fun i h => by omega⟩
theorem ent_found {pes : List PE} {key : List UInt8} {i : Nat} {v : Value} (h : posB key (pes.map PE.ent) 0 = some (i, v)) : ∃ p, pes[i]? = some p ∧ p.k = key ∧ v = .slice p.A p.n p.c := by
  obtain ⟨_, h2⟩ := posB_some h
  rw [Nat.sub_zero, List.getElem?_map] at h2
  cases hp : pes[i]? with
  | none => rw [hp] at h2; cases h2
  | some p =>
    rw [hp] at h2
    have h3 := Option.some.inj h2
    exact ⟨p, rfl, congrArg Prod.fst h3, (congrArg Prod.snd h3).symm⟩
theorem ent_none {pes : List PE} {key : List UInt8} (h : posB key (pes.map PE.ent) 0 = none) : key ∉ pes.map PE.k := fun hm => by
  obtain ⟨p, hp, e⟩ := List.mem_map.1 hm
  exact posB_none h (PE.ent p) (List.mem_map.2 ⟨p, hp, rfl⟩) e
theorem PI.found {a : List UInt8} {k i : Nat} {pes : List PE} (h : PI a k pes) {p : PE} (hp : pes[i]? = some p) (hk : p.k = six a k) {q : PE} (hq : q.k = p.k) (hx : q.xs = p.xs ++ [k]) : PI a (k + 1) (pes.set i q) := by
  have hmap : (pes.set i q).map PE.k = pes.map PE.k := by
    rw [List.map_set, hq]
    have : (pes.map PE.k)[i]? = some p.k := by rw [List.getElem?_map, hp]; rfl
    obtain ⟨h1, h2⟩ := List.getElem?_eq_some_iff.1 this
    rw [← h2, List.set_getElem_self]
  have hil := (List.getElem?_eq_some_iff.1 hp).1
  refine ⟨fun r hr => ?_, by rw [hmap]; exact h.nodup, fun j hj => ?_⟩
  · obtain ⟨j, hj, rfl⟩ := List.getElem_of_mem hr
    rw [posF_succ]
    by_cases e : i = j
    · subst e
      rw [List.getElem_set_self, hx, if_pos (by rw [hq, hk]), hq, h.each p (List.mem_of_getElem? hp)]
    · rw [List.getElem_set_ne e]
      have hjl : j < pes.length := by rw [List.length_set] at hj; exact hj
      have hne : six a k ≠ (pes[j]'hjl).k := fun e2 => by
        have hnd := List.pairwise_iff_getElem.1 h.nodup
        have e3 : p.k = pes[j].k := hk.trans e2
        have hpi : pes[i] = p := by
          have := List.getElem?_eq_getElem hil
          rw [this] at hp
          exact Option.some.inj hp
        rcases Nat.lt_or_gt_of_ne e with q1 | q1
        · exact hnd i j (by rw [List.length_map]; exact hil) (by rw [List.length_map]; exact hjl) q1 (by rw [List.getElem_map, List.getElem_map, hpi]; exact e3)
        · exact hnd j i (by rw [List.length_map]; exact hjl) (by rw [List.length_map]; exact hil) q1 (by rw [List.getElem_map, List.getElem_map, hpi]; exact e3.symm)
      rw [if_neg hne, List.append_nil]
      exact h.each _ (List.getElem_mem hjl)
  · rw [hmap]
    rcases Nat.lt_or_ge j k with q1 | q1
    · exact h.all j q1
    · have e : j = k := by omega
      subst e
      rw [← hk]
      exact List.mem_map.2 ⟨p, List.mem_of_getElem? hp, rfl⟩
theorem PI.new {a : List UInt8} {k : Nat} {pes : List PE} (h : PI a k pes) (hk : six a k ∉ pes.map PE.k) {q : PE} (hq : q.k = six a k) (hx : q.xs = [k]) : PI a (k + 1) (pes ++ [q]) := by
  refine ⟨fun r hr => ?_, ?_, fun j hj => ?_⟩
  · rw [posF_succ]
    rcases List.mem_append.1 hr with hr | hr
    · have hne : six a k ≠ r.k := fun e => hk (by rw [e]; exact List.mem_map.2 ⟨r, hr, rfl⟩)
      rw [if_neg hne, List.append_nil]
      exact h.each r hr
    · obtain rfl := List.mem_singleton.1 hr
      rw [if_pos hq.symm, hx]
      have : posF a k r.k = [] := by
        rw [List.eq_nil_iff_forall_not_mem]
        intro i hi
        have h1 := posF_lt hi
        have h2 : six a i = r.k := by simpa using (List.mem_filter.1 hi).2
        exact hk (by rw [← hq, ← h2]; exact h.all i h1)
      rw [this]
      rfl
  · rw [List.map_append, List.map_cons, List.map_nil, List.nodup_append]
    refine ⟨h.nodup, by simp, fun x hx y hy => ?_⟩
    rw [List.mem_singleton.1 hy, hq]
    intro e
    exact hk (by rw [← e]; exact hx)
  · rw [List.map_append, List.mem_append]
    rcases Nat.lt_or_ge j k with q1 | q1
    · exact .inl (h.all j q1)
    · have e : j = k := by omega
      subst e
      exact .inr (by simp [hq])
theorem rows_at {pes : List PE} {i : Nat} {p : PE} (h : pes[i]? = some p) : pes.map PE.row = (pes.take i).map PE.row ++ p.row :: (pes.drop (i + 1)).map PE.row := by
  obtain ⟨h1, h2⟩ := List.getElem?_eq_some_iff.1 h
  rw [← h2, ← List.map_cons (f := PE.row), List.getElem_cons_drop, ← List.map_append, List.take_append_drop]
theorem rows_set {pes : List PE} {i : Nat} {q : PE} (h : i < pes.length) : (pes.take i).map PE.row ++ q.row :: (pes.drop (i + 1)).map PE.row = (pes.set i q).map PE.row := by
  rw [List.set_eq_take_append_cons_drop, if_pos h, List.map_append, List.map_cons]
theorem ents_set {pes : List PE} {i : Nat} {q : PE} : (pes.map PE.ent).set i (PE.ent q) = (pes.set i q).map PE.ent := by rw [List.map_set]
/-- What stands at a key. -/
theorem look_pes {a : List UInt8} {k : Nat} {pes : List PE} (h : PI a k pes) (key : List UInt8) {w : World} (hf : (fam (pes.map PE.row)).holds w) : ∃ A n c, getB key (pes.map PE.ent) (.slice none 0 0) = .slice A n c ∧ Rs w 1 A n c (nL (posF a k key)) := by
  unfold getB
  cases hp : posB key (pes.map PE.ent) 0 with
  | some x =>
    obtain ⟨i, v⟩ := x
    obtain ⟨p, h1, h2, h3⟩ := ent_found hp
    have hm := List.mem_of_getElem? h1
    refine ⟨p.A, p.n, p.c, h3, ?_⟩
    have h4 : p.row.holds w := hf.1 _ (List.mem_map.2 ⟨p, hm, rfl⟩)
    rw [← h2, ← h.each p hm]
    exact rs_of_row h4
  | none =>
    refine ⟨none, 0, 0, rfl, ?_⟩
    have : posF a k key = [] := by
      rw [List.eq_nil_iff_forall_not_mem]
      intro i hi
      have h1 := posF_lt hi
      have h2 : six a i = key := by simpa using (List.mem_filter.1 hi).2
      exact ent_none hp (by rw [← h2]; exact h.all i h1)
    rw [this]
    exact Rs.nil w 1
/-- One more place is looked at. -/
def stepB (a t : List UInt8) (s : Nat × Nat) (k : Nat) : Nat × Nat := if s.2 < comP (a.drop k) t then (k, comP (a.drop k) t) else s
/-- The longest part of a with which t begins, if it is of six bytes at least. -/
def bst (a t : List UInt8) : Nat × Nat := if t.length < 6 then (0, 0) else (posF a (a.length - 5) (t.take 6)).foldl (stepB a t) (0, 0)
/-- The same, over all places. -/
def bstA (a t : List UInt8) (k : Nat) : Nat × Nat := (List.range k).foldl (stepB a t) (0, 0)
theorem bstA_succ (a t : List UInt8) (k : Nat) : bstA a t (k + 1) = stepB a t (bstA a t k) k := by
  unfold bstA
  rw [List.range_succ, List.foldl_append]
  rfl
theorem six_iff {a t : List UInt8} {k : Nat} (ht : 6 ≤ t.length) : 6 ≤ comP (a.drop k) t ↔ k < a.length - 5 ∧ six a k = t.take 6 := by
  rw [comP_take, List.length_drop]
  unfold six
  constructor
  · rintro ⟨h1, h2, h3⟩; exact ⟨by omega, h3⟩
  · rintro ⟨h1, h2⟩; exact ⟨by omega, ht, h2⟩
def RelB (s s' : Nat × Nat) : Prop := (s.2 < 6 ∧ s' = (0, 0)) ∨ (6 ≤ s.2 ∧ s' = s)
theorem relB_fold (a t : List UInt8) (p : Nat → Bool) (hp : ∀ k, p k = true ↔ 6 ≤ comP (a.drop k) t) : ∀ (xs : List Nat) (s s' : Nat × Nat), RelB s s' → RelB (xs.foldl (stepB a t) s) ((xs.filter p).foldl (stepB a t) s')
  | [], s, s', h => h
  | k :: xs, s, s', h => by
    cases hk : p k with
    | true =>
      rw [List.filter_cons, if_pos hk]
      refine relB_fold a t p hp xs _ _ ?_
      have h6 := (hp k).1 hk
      unfold stepB
      rcases h with ⟨h1, rfl⟩ | ⟨h1, rfl⟩
      · rw [if_pos (by omega), if_pos (by show 0 < _; omega)]
        exact .inr ⟨h6, rfl⟩
      · split
        · exact .inr ⟨h6, rfl⟩
        · exact .inr ⟨h1, rfl⟩
    | false =>
      rw [List.filter_cons, if_neg (by rw [hk]; exact Bool.false_ne_true)]
      refine relB_fold a t p hp xs _ _ ?_
      have h6 : comP (a.drop k) t < 6 := by
        apply Nat.lt_of_not_le
        intro h2
        rw [(hp k).2 h2] at hk
        cases hk
      unfold stepB
      rcases h with ⟨h1, rfl⟩ | ⟨h1, rfl⟩
      · split
        · exact .inl ⟨h6, rfl⟩
        · exact .inl ⟨h1, rfl⟩
      · rw [if_neg (by omega)]
        exact .inr ⟨h1, rfl⟩
theorem bst_all (a t : List UInt8) : RelB (bstA a t a.length) (bst a t) := by
  unfold bst
  by_cases ht : t.length < 6
  · rw [if_pos ht]
    refine .inl ⟨?_, rfl⟩
    have : ∀ (xs : List Nat) (s : Nat × Nat), s.2 < 6 → (xs.foldl (stepB a t) s).2 < 6 := by
      intro xs
      induction xs with
      | nil => exact fun s h => h
      | cons k xs ih =>
        intro s h
        refine ih _ ?_
        unfold stepB
        split
        · show comP _ t < 6
          have := (comP_le (a.drop k) t).2
          omega
        · exact h
    exact this _ _ (by decide)
  · rw [if_neg ht]
    have h := relB_fold a t (fun k => decide (k < a.length - 5) && (six a k == t.take 6)) (fun k => by
      rw [six_iff (by omega)]
      simp) (List.range a.length) (0, 0) (0, 0) (.inl ⟨by decide, rfl⟩)
    have e : (List.range a.length).filter (fun k => decide (k < a.length - 5) && (six a k == t.take 6)) = posF a (a.length - 5) (t.take 6) := by
      unfold posF
      have e3 : (fun k => decide (k < a.length - 5) && (six a k == t.take 6)) = (fun k => (six a k == t.take 6) && decide (k < a.length - 5)) := by funext k; rw [Bool.and_comm]
      rw [e3, ← List.filter_filter]
      congr 1
      have e2 : List.range a.length = List.range (a.length - 5) ++ (List.range (a.length - (a.length - 5))).map (a.length - 5 + ·) := by
        rw [← List.range_add]
        congr 1
        omega
      rw [e2, List.filter_append]
      have h1 : (List.range (a.length - 5)).filter (fun k => decide (k < a.length - 5)) = List.range (a.length - 5) := by
        rw [List.filter_eq_self]
        intro x hx
        simpa using hx
      have h2 : ((List.range (a.length - (a.length - 5))).map (a.length - 5 + ·)).filter (fun k => decide (k < a.length - 5)) = [] := by
        rw [List.filter_eq_nil_iff]
        intro x hx
        obtain ⟨y, _, rfl⟩ := List.mem_map.1 hx
        simp
      rw [h1, h2, List.append_nil]
    rw [e] at h
    exact h
theorem fold_bd {a t : List UInt8} : ∀ (xs : List Nat) (s : Nat × Nat), s.2 ≤ t.length ∧ s.1 + s.2 ≤ a.length → (xs.foldl (stepB a t) s).2 ≤ t.length ∧ (xs.foldl (stepB a t) s).1 + (xs.foldl (stepB a t) s).2 ≤ a.length
  | [], s, h => h
  | k :: xs, s, h => by
    refine fold_bd xs _ ?_
    unfold stepB
    split
    · rename_i hk
      have h1 := comP_le (a.drop k) t
      rw [List.length_drop] at h1
      refine ⟨h1.2, ?_⟩
      show k + comP (a.drop k) t ≤ a.length
      omega
    · exact h
theorem bst_bd (a t : List UInt8) : (bst a t).2 ≤ t.length ∧ (bst a t).1 + (bst a t).2 ≤ a.length := by
  unfold bst
  split
  · simp
  · exact fold_bd _ _ (by simp)
end Go.Proofs.Ytpcgldkllnkaeaa
