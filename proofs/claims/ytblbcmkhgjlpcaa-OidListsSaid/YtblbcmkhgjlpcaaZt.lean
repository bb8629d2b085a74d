/-
  What the library's sort leaves behind, as a row of the call's own. General; nothing here names a program.
-/
import Derived.Test.YtblbcmkhgjlpcaaZr
import Derived.Shelf.SlSortCmp.InsertionK
namespace Go.Proofs.Ytblbcmkhgjlpcaa.Zx
open Go.RowKit Zk Go.Sort
set_option linter.unusedVariables false
set_option linter.unusedSimpArgs false
set_option linter.unusedSectionVars false
section
variable {α : Type} [Inhabited α]
theorem fm_get {f : α → List Value} {k : Nat} (hk : ∀ x, (f x).length = k) (k0 : 0 < k) : ∀ (l : List α) (t : Nat), (l.flatMap f)[t]? = (l[t / k]?).bind fun x => (f x)[t % k]?
  | [], t => by simp
  | x :: l, t => by
    rw [List.flatMap_cons]
    rcases Nat.lt_or_ge t k with h | h
    · rw [List.getElem?_append_left (by rw [hk]; exact h), Nat.div_eq_of_lt h, Nat.mod_eq_of_lt h]
      rfl
    · obtain ⟨s, rfl⟩ : ∃ s, t = k + s := ⟨t - k, by omega⟩
      rw [List.getElem?_append_right (by rw [hk]; omega), hk, Nat.add_sub_cancel_left, fm_get hk k0 l s, Nat.add_div_left _ k0, Nat.add_mod_left]
      rfl
theorem flat_flatMap {enc : α → List Value} {k : Nat} (hk : ∀ x, (enc x).length = k) (k0 : 0 < k) (d : Array α) : (flatK enc k d).toList = d.toList.flatMap enc := by
  apply List.ext_getElem?
  intro t
  rw [fm_get hk k0, Array.getElem?_toList, Array.getElem?_toList]
  unfold flatK
  rw [Array.getElem?_map]
  rcases Nat.lt_or_ge t (d.size * k) with h | h
  · have hd : t / k < d.size := (Nat.div_lt_iff_lt_mul k0).2 h
    have hm : t % k < (enc d[t / k]).length := by rw [hk]; exact Nat.mod_lt _ k0
    have e1 : (Array.range (d.size * k))[t]? = some t := by rw [Array.getElem?_eq_getElem (by simpa using h)]; simp
    rw [e1, Option.map_some, Array.getElem?_eq_getElem hd, Option.bind_some, getElem!_pos d (t / k) hd, getElem!_pos (enc d[t / k]) (t % k) hm, List.getElem?_eq_getElem hm]
  · have hd : d.size ≤ t / k := (Nat.le_div_iff_mul_le k0).2 h
    rw [Array.getElem?_eq_none (by simpa using h), Array.getElem?_eq_none hd]
    rfl
theorem own_cells {w : World} {e k b n c : Nat} {xs : List Value} (h : w.ownsRow 0 e k (.slice (some ⟨b, 0, none⟩) n c) n xs) : ∃ cur, Blk w b e cur ∧ n ≤ c ∧ c ≤ maxLen ∧ cur.size = c * k ∧ cur.toList.take (n * k) = xs := by
  rcases h.2 with ⟨h1, _⟩ | ⟨g, cap, cur, h1, _, hg, hnc, hcm, hcs, hx⟩
  · cases h1
  · cases h1
    exact ⟨cur, hg, hnc, hcm, hcs, hx⟩
theorem own_holds {w : World} {e k b n c : Nat} {enc : α → List Value} (hk : ∀ x, (enc x).length = k) (k0 : 0 < k) {d : Array α} (hd : d.size = n) (h : w.ownsRow 0 e k (.slice (some ⟨b, 0, none⟩) n c) n (d.toList.flatMap enc)) :
    HoldsK enc k w b 0 d ∧ b < w.heap.size := by
  obtain ⟨cur, hB, hnc, hcm, hcs, hx⟩ := own_cells h
  refine ⟨fun j hj => ⟨?_, ?_⟩, hB.lt⟩
  · rw [size_flatK] at hj
    have hf := flat_flatMap hk k0 d
    rw [Nat.zero_add, hB.cell]
    have e1 : cur[j]? = (cur.toList.take (n * k))[j]? := by rw [List.getElem?_take, if_pos (by rw [← hd]; exact hj), Array.getElem?_toList]
    have hj2 : j < (flatK enc k d).size := by rw [size_flatK]; exact hj
    rw [e1, hx, ← hf, Array.getElem?_toList, Array.getElem?_eq_getElem hj2, getElem!_pos (flatK enc k d) j hj2]
    rfl
  · rw [Nat.zero_add]; exact hB.frozen j
theorem own_sorted {w : World} {e k b n c : Nat} {enc : α → List Value} (hk : ∀ x, (enc x).length = k) (k0 : 0 < k) {xs : List Value} (h : w.ownsRow 0 e k (.slice (some ⟨b, 0, none⟩) n c) n xs) {d' : Array α} (hd : d'.size = n) (m : Nat) (os : Array Obj) :
    w.grownBy (sortWorldK enc k w b 0 m d' os) (some b) ∧ (sortWorldK enc k w b 0 m d' os).ownsRow 0 e k (.slice (some ⟨b, 0, none⟩) n c) n (d'.toList.flatMap enc) := by
  obtain ⟨cur, hB, hnc, hcm, hcs, hx⟩ := own_cells h
  have hlt := hB.lt
  have hf := flat_flatMap hk k0 d'
  have hsz : (putRowK enc k (Sort.ahead w m) b 0 d').heap.size = w.heap.size := by simp [putRowK]
  have hheap : ∀ i, i < w.heap.size → (sortWorldK enc k w b 0 m d' os).heap[i]? = (w.heap.modify b (onCells (putCells id 0 (flatK enc k d'))))[i]? := fun i hi => by
    unfold sortWorldK
    rw [heap_grow_old _ _ (by rw [hsz]; exact hi)]
    rfl
  have hblk : (sortWorldK enc k w b 0 m d' os).heap[b]? = some (.cells (putCells id 0 (flatK enc k d') cur) e (0, 0)) := by
    rw [hheap b hlt, Array.getElem?_modify, if_pos rfl]
    have hB' : w.heap[b]? = some (.cells cur e (0, 0)) := hB
    rw [hB']
    rfl
  refine ⟨⟨rfl, rfl, rfl, ?_, fun i hi hne => ?_⟩, ?_, .inr ⟨b, c, _, rfl, Nat.zero_le _, hblk, hnc, hcm, ?_, ?_⟩⟩
  · unfold sortWorldK
    rw [size_grow, hsz]
    omega
  · rw [hheap i hi, Array.getElem?_modify, if_neg (fun e => hne (by rw [e]))]
  · rw [← hf, Array.length_toList, size_flatK, hd]
  · unfold putCells
    rw [Array.size_mapIdx, hcs]
  · apply List.ext_getElem?
    intro t
    rw [← hf, List.getElem?_take, Array.getElem?_toList (xs := flatK enc k d')]
    rcases Nat.lt_or_ge t (n * k) with ht | ht
    · have hc : n * k ≤ c * k := Nat.mul_le_mul_right _ hnc
      have h1 : t < cur.size := by omega
      have h2 : t < (flatK enc k d').size := by rw [size_flatK, hd]; exact ht
      rw [if_pos ht, Array.getElem?_toList]
      unfold putCells
      rw [Array.getElem?_mapIdx, Array.getElem?_eq_getElem h1, Option.map_some, if_pos ⟨Nat.zero_le _, by omega⟩, Nat.sub_zero, getElem!_pos (flatK enc k d') t h2, Array.getElem?_eq_getElem h2]
      rfl
    · rw [if_neg (by omega), Array.getElem?_eq_none (by rw [size_flatK, hd]; exact ht)]
end
end Go.Proofs.Ytblbcmkhgjlpcaa.Zx
