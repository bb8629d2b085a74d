/-
  The document's list of pieces, in order: plain laws.
-/
import Derived.Test.YtaknmlajhedfhaaF
namespace Go.Proofs.Ytaknmlajhedfhaa
open Go.RowKit Zk Zx
set_option linter.unusedVariables false
/-- a before b. -/
def bl (a b : List UInt8) : Bool := Op.bytesLess a b
theorem sLt_eq (a b : List UInt8) : sLt ⟨a.toArray⟩ ⟨b.toArray⟩ = bl a b := by
  unfold sLt
  rw [toList_eq, toList_eq]
  rfl
theorem bl_nil (a : List UInt8) : bl a [] = false := by cases a <;> rfl
theorem bl_cons (x y : UInt8) (a b : List UInt8) : bl (x :: a) (y :: b) = (decide (x < y) || (x == y && bl a b)) := rfl
theorem bl_irr : ∀ a, bl a a = false
  | [] => rfl
  | x :: a => by rw [bl_cons, bl_irr a]; simp
theorem bl_trans : ∀ a b c, bl a b = true → bl b c = true → bl a c = true
  | _, [], _, h, _ => by rw [bl_nil] at h; cases h
  | _, _ :: _, [], _, h => by rw [bl_nil] at h; cases h
  | [], _ :: _, _ :: _, _, _ => rfl
  | x :: a, y :: b, z :: c, h1, h2 => by
    rw [bl_cons] at h1 h2 ⊢
    simp only [Bool.or_eq_true, decide_eq_true_eq, Bool.and_eq_true, beq_iff_eq] at h1 h2 ⊢
    rcases h1 with h1 | ⟨h1, h3⟩
    · rcases h2 with h2 | ⟨h2, h4⟩
      · exact .inl (UInt8.lt_trans h1 h2)
      · subst h2; exact .inl h1
    · subst h1
      rcases h2 with h2 | ⟨h2, h4⟩
      · exact .inl h2
      · exact .inr ⟨h2, bl_trans a b c h3 h4⟩
theorem bl_total : ∀ a b, bl a b = false → a ≠ b → bl b a = true
  | [], [], _, h => absurd rfl h
  | [], _ :: _, h, _ => by cases h
  | _ :: _, [], _, _ => rfl
  | x :: a, y :: b, h, hn => by
    rw [bl_cons] at h ⊢
    simp only [Bool.or_eq_false_iff, decide_eq_false_iff_not, Bool.and_eq_false_iff, beq_eq_false_iff_ne] at h
    simp only [Bool.or_eq_true, decide_eq_true_eq, Bool.and_eq_true, beq_iff_eq]
    by_cases hxy : x = y
    · subst hxy
      rcases h.2 with h2 | h2
      · exact absurd rfl h2
      · exact .inr ⟨rfl, bl_total a b h2 (fun e => hn (by rw [e]))⟩
    · left
      rcases UInt8.lt_or_lt_of_ne hxy with h3 | h3
      · exact absurd h3 h.1
      · exact h3
structure PC where
  t : List UInt8
  n : Nat
def pcf (p : PC) : List Value := [sV p.t, .int .i64 (p.n : Int)]
theorem pcf_len (p : PC) : (pcf p).length = 2 := rfl
theorem pc_one (xs : List PC) : ∀ u ∈ xs.flatMap pcf, u.oneCell' = true := fun u hu => by
  obtain ⟨p, _, hp⟩ := List.mem_flatMap.1 hu
  simp only [pcf, List.mem_cons, List.not_mem_nil, or_false] at hp
  rcases hp with rfl | rfl <;> rfl
theorem pc_get : ∀ (xs : List PC) (i : Nat) (x : PC), xs[i]? = some x → (xs.flatMap pcf)[i * 2]? = some (sV x.t) ∧ (xs.flatMap pcf)[i * 2 + 1]? = some (Value.int .i64 (x.n : Int))
  | [], i, x, h => by cases h
  | y :: xs, 0, x, h => by
    obtain rfl : y = x := by simpa using h
    exact ⟨rfl, rfl⟩
  | y :: xs, i + 1, x, h => by
    have := pc_get xs i x (by simpa using h)
    rw [List.flatMap_cons, show (i + 1) * 2 = i * 2 + 1 + 1 by omega]
    exact this
theorem pc_set : ∀ (xs : List PC) (i : Nat) (x : PC) (m : Nat), xs[i]? = some x → (xs.flatMap pcf).set (i * 2 + 1) (Value.int .i64 (m : Int)) = (xs.set i ⟨x.t, m⟩).flatMap pcf
  | [], i, x, m, h => by cases h
  | y :: xs, 0, x, m, h => by
    obtain rfl : y = x := by simpa using h
    rfl
  | y :: xs, i + 1, x, m, h => by
    have := pc_set xs i x m (by simpa using h)
    rw [List.set_cons_succ, List.flatMap_cons, List.flatMap_cons, ← this, show (i + 1) * 2 + 1 = i * 2 + 1 + 1 + 1 by omega]
    rfl
theorem pc_take : ∀ (xs : List PC) (i : Nat), (xs.flatMap pcf).take (i * 2) = (xs.take i).flatMap pcf
  | _, 0 => by simp
  | [], i + 1 => by simp
  | y :: xs, i + 1 => by
    rw [List.flatMap_cons, List.take_succ_cons, List.flatMap_cons, ← pc_take xs i, show (i + 1) * 2 = i * 2 + 1 + 1 by omega]
    rfl
theorem pc_drop : ∀ (xs : List PC) (i : Nat), (xs.flatMap pcf).drop (i * 2) = (xs.drop i).flatMap pcf
  | _, 0 => by simp
  | [], i + 1 => by simp
  | y :: xs, i + 1 => by
    rw [List.flatMap_cons, List.drop_succ_cons, ← pc_drop xs i, show (i + 1) * 2 = i * 2 + 1 + 1 by omega]
    rfl
/-- xs: the pieces L in order, each once, and how often it stands there. -/
def PS (xs : List PC) (L : List (List UInt8)) : Prop := (xs.map PC.t).Pairwise (fun a b => bl a b = true) ∧ (∀ x ∈ xs, x.t ∈ L ∧ x.n = L.count x.t) ∧ ∀ t ∈ L, t ∈ xs.map PC.t
theorem PS.nil : PS [] [] := ⟨List.Pairwise.nil, (fun x hx => by cases hx), (fun t ht => by cases ht)⟩
theorem PS.nodup {xs : List PC} {L : List (List UInt8)} (h : PS xs L) : (xs.map PC.t).Nodup := h.1.imp fun {a b} hab e => by rw [e, bl_irr] at hab; cases hab
theorem PS.mem {xs : List PC} {L : List (List UInt8)} (h : PS xs L) (t : List UInt8) : t ∈ xs.map PC.t ↔ t ∈ L :=
  ⟨fun ht => by obtain ⟨x, hx, rfl⟩ := List.mem_map.1 ht; exact (h.2.1 x hx).1, h.2.2 t⟩
theorem PS.inc {xs : List PC} {L : List (List UInt8)} (h : PS xs L) {i : Nat} {x : PC} (hx : xs[i]? = some x) : PS (xs.set i ⟨x.t, x.n + 1⟩) (L ++ [x.t]) := by
  have hmap : (xs.set i ⟨x.t, x.n + 1⟩).map PC.t = xs.map PC.t := by
    rw [List.map_set]
    apply List.ext_getElem?
    intro j
    rw [List.getElem?_set]
    split
    · rename_i hij
      subst hij
      rw [List.getElem?_map, hx]
      have hl : i < (xs.map PC.t).length := by rw [List.length_map]; exact (List.getElem?_eq_some_iff.1 hx).1
      simp [List.length_map] at hl
      simp [hl]
    · rfl
  have hxm : x ∈ xs := List.mem_of_getElem? hx
  refine ⟨by rw [hmap]; exact h.1, fun y hy => ?_, fun t ht => ?_⟩
  · obtain ⟨j, hj, rfl⟩ := List.getElem_of_mem hy
    rw [List.getElem_set]
    split
    · exact ⟨by simp, by rw [List.count_append, ← (h.2.1 x hxm).2]; simp⟩
    · rename_i hij
      have hj' : j < xs.length := by simpa using hj
      have hym : xs[j] ∈ xs := List.getElem_mem hj'
      obtain ⟨h1, h2⟩ := h.2.1 _ hym
      refine ⟨List.mem_append_left _ h1, ?_⟩
      have hne : x.t ≠ xs[j].t := fun e => by
        have hn := h.nodup
        have hil := (List.getElem?_eq_some_iff.1 hx).1
        have e1 : (xs.map PC.t)[i]'(by simpa using hil) = (xs.map PC.t)[j]'(by simpa using hj') := by
          rw [List.getElem_map, List.getElem_map, (List.getElem?_eq_some_iff.1 hx).2]
          exact e
        have hp := List.pairwise_iff_getElem.1 hn
        rcases Nat.lt_or_gt_of_ne hij with h3 | h3
        · exact hp i j _ _ h3 e1
        · exact hp j i _ _ h3 e1.symm
      rw [h2, List.count_append, List.count_cons_of_ne hne, List.count_nil]
      rfl
  · rw [hmap]
    rcases List.mem_append.1 ht with ht | ht
    · exact h.2.2 t ht
    · obtain rfl := List.mem_singleton.1 ht
      exact List.mem_map.2 ⟨x, hxm, rfl⟩
theorem PS.ins {xs : List PC} {L : List (List UInt8)} (h : PS xs L) {i : Nat} {p : List UInt8} (hlow : ∀ j y, j < i → xs[j]? = some y → bl y.t p = true) (hat : ∀ y, xs[i]? = some y → bl y.t p = false ∧ y.t ≠ p) :
    PS (xs.take i ++ [⟨p, 1⟩] ++ xs.drop i) (L ++ [p]) := by
  have hsp : xs.take i ++ xs.drop i = xs := List.take_append_drop i xs
  have hS := h.1
  rw [← hsp, List.map_append, List.pairwise_append] at hS
  obtain ⟨s1, s2, s3⟩ := hS
  have hA : ∀ a ∈ (xs.take i).map PC.t, bl a p = true := fun a ha => by
    obtain ⟨y, hy, rfl⟩ := List.mem_map.1 ha
    obtain ⟨j, hj, rfl⟩ := List.getElem_of_mem hy
    have hj2 : j < i := by rw [List.length_take] at hj; omega
    have hj3 : j < xs.length := by rw [List.length_take] at hj; omega
    rw [List.getElem_take]
    exact hlow j _ hj2 (List.getElem?_eq_getElem hj3)
  have hB : ∀ b ∈ (xs.drop i).map PC.t, bl p b = true := by
    cases hd : xs.drop i with
    | nil => intro b hb; cases hb
    | cons y ys =>
      have hy : xs[i]? = some y := by
        have := List.getElem?_drop (xs := xs) (i := i) (j := 0)
        rw [hd] at this
        simpa using this.symm
      obtain ⟨h1, h2⟩ := hat y hy
      have hpy := bl_total _ _ h1 h2
      intro b hb
      rw [List.map_cons] at hb
      rcases List.mem_cons.1 hb with rfl | hb
      · exact hpy
      · rw [hd, List.map_cons, List.pairwise_cons] at s2
        exact bl_trans _ _ _ hpy (s2.1 b hb)
  have hno : p ∉ xs.map PC.t := fun hm => by
    rw [← hsp, List.map_append] at hm
    rcases List.mem_append.1 hm with hm | hm
    · have := hA p hm; rw [bl_irr] at this; cases this
    · have := hB p hm; rw [bl_irr] at this; cases this
  have hnL : p ∉ L := fun hm => hno ((h.mem p).2 hm)
  refine ⟨?_, fun x hx => ?_, fun t ht => ?_⟩
  · rw [List.map_append, List.map_append, List.append_assoc, List.pairwise_append]
    refine ⟨s1, ?_, fun a ha b hb => ?_⟩
    · rw [List.map_cons, List.map_nil, List.singleton_append, List.pairwise_cons]
      exact ⟨hB, s2⟩
    · rw [List.map_cons, List.map_nil, List.singleton_append] at hb
      rcases List.mem_cons.1 hb with rfl | hb
      · exact hA a ha
      · exact s3 a ha b hb
  · have hx2 : x = ⟨p, 1⟩ ∨ x ∈ xs := by
      rw [List.append_assoc] at hx
      rcases List.mem_append.1 hx with hx | hx
      · exact .inr (List.mem_of_mem_take hx)
      · rcases List.mem_append.1 hx with hx | hx
        · exact .inl (List.mem_singleton.1 hx)
        · exact .inr (List.mem_of_mem_drop hx)
    rcases hx2 with rfl | hx2
    · exact ⟨by simp, by rw [List.count_append, List.count_eq_zero_of_not_mem hnL]; simp⟩
    · obtain ⟨h1, h2⟩ := h.2.1 x hx2
      have hne : p ≠ x.t := fun e => hno (List.mem_map.2 ⟨x, hx2, e.symm⟩)
      refine ⟨List.mem_append_left _ h1, ?_⟩
      rw [h2, List.count_append, List.count_cons_of_ne hne, List.count_nil]
      rfl
  · rw [List.map_append, List.map_append, List.mem_append, List.mem_append]
    rcases List.mem_append.1 ht with ht | ht
    · have := h.2.2 t ht
      rw [← hsp, List.map_append] at this
      rcases List.mem_append.1 this with h1 | h1
      · exact .inl (.inl h1)
      · exact .inr h1
    · obtain rfl := List.mem_singleton.1 ht
      exact .inl (.inr (by simp))
/-- What a piece has in common with a list. -/
def rowS (x : PC) (ys : List PC) : Nat := (ys.map fun y => if y.t = x.t then min x.n y.n * x.t.length else 0).sum
theorem rowS_of {ys : List PC} {B : List (List UInt8)} (h : PS ys B) (x : PC) : rowS x ys = min x.n (B.count x.t) * x.t.length := by
  have key : ∀ zs : List PC, (zs.map PC.t).Nodup → (∀ z ∈ zs, z.n = B.count z.t) → rowS x zs = if x.t ∈ zs.map PC.t then min x.n (B.count x.t) * x.t.length else 0 := by
    intro zs
    induction zs with
    | nil => intro _ _; rfl
    | cons z zs ih =>
      intro hn hc
      rw [List.map_cons, List.nodup_cons] at hn
      have ih' := ih hn.2 (fun y hy => hc y (List.mem_cons_of_mem _ hy))
      have e : rowS x (z :: zs) = (if z.t = x.t then min x.n z.n * x.t.length else 0) + rowS x zs := by
        unfold rowS
        rw [List.map_cons, List.sum_cons]
      rw [e, ih']
      by_cases hz : z.t = x.t
      · rw [if_pos hz, if_neg (by rw [← hz]; exact hn.1), if_pos (by rw [← hz]; exact List.mem_cons_self), hc z List.mem_cons_self, hz]
        rfl
      · rw [if_neg hz]
        by_cases hm : x.t ∈ zs.map PC.t
        · rw [if_pos hm, if_pos (by rw [List.map_cons]; exact List.mem_cons_of_mem _ hm)]; omega
        · rw [if_neg hm, if_neg (by rw [List.map_cons]; intro h5; rcases List.mem_cons.1 h5 with h5 | h5; exact hz h5.symm; exact hm h5)]
  rw [key ys h.nodup (fun z hz => (h.2.1 z hz).2)]
  by_cases hm : x.t ∈ ys.map PC.t
  · rw [if_pos hm]
  · rw [if_neg hm, List.count_eq_zero_of_not_mem (fun h2 => hm ((h.mem _).2 h2))]
    simp
theorem all_com {xs ys : List PC} {A B : List (List UInt8)} (hx : PS xs A) (hy : PS ys B) : (xs.map fun x => rowS x ys).sum = comT A B := by
  rw [← comT_of hx.nodup (fun t => hx.mem t), com, List.map_map]
  congr 1
  refine List.map_congr_left fun x hxm => ?_
  rw [rowS_of hy x, (hx.2.1 x hxm).2]
  rfl
end Go.Proofs.Ytaknmlajhedfhaa
