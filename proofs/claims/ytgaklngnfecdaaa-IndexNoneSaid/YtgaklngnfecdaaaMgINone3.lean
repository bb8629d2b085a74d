import Derived.Test.YtgaklngnfecdaaaMgINone2
import Derived.Shelf.SlSortCmp.InsertionK
import Derived.Shelf.SlSortCmp.NoneTotal
import Derived.Lib.Builder
import Derived.Laws.Externs
import Derived.Test.YtgaklngnfecdaaaMgINone1
import Derived.Lib.AppendStr
import Derived.Shelf.Strings.Builder1
import Derived.Shelf.Strings.Search1
import Derived.Recover

/-
  What the library's sort leaves behind, as a row of the call's own. General; nothing here names a program.
-/
namespace Go.Proofs.Ytgaklngnfecdaaa.Zx
open Go.RowKit Zk Go.Sort
set_option linter.unusedVariables false
set_option linter.unusedSimpArgs false
set_option linter.unusedSectionVars false
section
variable {α : Type} [Inhabited α]
theorem fm_get {f : α → List Value} {k : Nat} (hk : ∀ x, (f x).length = k) (k0 : 0 < k) : ∀ (l : List α) (t : Nat), (l.flatMap f)[t]? = (l[t / k]?).bind fun x => (f x)[t % k]?
  | [], t => by simp
  | x :: l, t => by
    rw [List.flatMap_cons]
    rcases Nat.lt_or_ge t k with h | h
    · rw [List.getElem?_append_left (by rw [hk]; exact h), Nat.div_eq_of_lt h, Nat.mod_eq_of_lt h]
      rfl
    · obtain ⟨s, rfl⟩ : ∃ s, t = k + s := ⟨t - k, by omega⟩
      rw [List.getElem?_append_right (by rw [hk]; omega), hk, Nat.add_sub_cancel_left, fm_get hk k0 l s, Nat.add_div_left _ k0, Nat.add_mod_left]
      rfl
theorem flat_flatMap {enc : α → List Value} {k : Nat} (hk : ∀ x, (enc x).length = k) (k0 : 0 < k) (d : Array α) : (flatK enc k d).toList = d.toList.flatMap enc := by
  apply List.ext_getElem?
  intro t
  rw [fm_get hk k0, Array.getElem?_toList, Array.getElem?_toList]
  unfold flatK
  rw [Array.getElem?_map]
  rcases Nat.lt_or_ge t (d.size * k) with h | h
  · have hd : t / k < d.size := (Nat.div_lt_iff_lt_mul k0).2 h
    have hm : t % k < (enc d[t / k]).length := by rw [hk]; exact Nat.mod_lt _ k0
    have e1 : (Array.range (d.size * k))[t]? = some t := by rw [Array.getElem?_eq_getElem (by simpa using h)]; simp
    rw [e1, Option.map_some, Array.getElem?_eq_getElem hd, Option.bind_some, getElem!_pos d (t / k) hd, getElem!_pos (enc d[t / k]) (t % k) hm, List.getElem?_eq_getElem hm]
  · have hd : d.size ≤ t / k := (Nat.le_div_iff_mul_le k0).2 h
    rw [Array.getElem?_eq_none (by simpa using h), Array.getElem?_eq_none hd]
    rfl
theorem own_cells {w : World} {e k b n c : Nat} {xs : List Value} (h : w.ownsRow 0 e k (.slice (some ⟨b, 0, none⟩) n c) n xs) : ∃ cur, Blk w b e cur ∧ n ≤ c ∧ c ≤ maxLen ∧ cur.size = c * k ∧ cur.toList.take (n * k) = xs := by
  rcases h.2 with ⟨h1, _⟩ | ⟨g, cap, cur, h1, _, hg, hnc, hcm, hcs, hx⟩
  · cases h1
  · cases h1
    exact ⟨cur, hg, hnc, hcm, hcs, hx⟩
theorem own_holds {w : World} {e k b n c : Nat} {enc : α → List Value} (hk : ∀ x, (enc x).length = k) (k0 : 0 < k) {d : Array α} (hd : d.size = n) (h : w.ownsRow 0 e k (.slice (some ⟨b, 0, none⟩) n c) n (d.toList.flatMap enc)) :
    HoldsK enc k w b 0 d ∧ b < w.heap.size := by
  obtain ⟨cur, hB, hnc, hcm, hcs, hx⟩ := own_cells h
  refine ⟨fun j hj => ⟨?_, ?_⟩, hB.lt⟩
  · rw [size_flatK] at hj
    have hf := flat_flatMap hk k0 d
    rw [Nat.zero_add, hB.cell]
    have e1 : cur[j]? = (cur.toList.take (n * k))[j]? := by rw [List.getElem?_take, if_pos (by rw [← hd]; exact hj), Array.getElem?_toList]
    have hj2 : j < (flatK enc k d).size := by rw [size_flatK]; exact hj
    rw [e1, hx, ← hf, Array.getElem?_toList, Array.getElem?_eq_getElem hj2, getElem!_pos (flatK enc k d) j hj2]
    rfl
  · rw [Nat.zero_add]; exact hB.frozen j
theorem own_sorted {w : World} {e k b n c : Nat} {enc : α → List Value} (hk : ∀ x, (enc x).length = k) (k0 : 0 < k) {xs : List Value} (h : w.ownsRow 0 e k (.slice (some ⟨b, 0, none⟩) n c) n xs) {d' : Array α} (hd : d'.size = n) (m : Nat) (os : Array Obj) :
    w.grownBy (sortWorldK enc k w b 0 m d' os) (some b) ∧ (sortWorldK enc k w b 0 m d' os).ownsRow 0 e k (.slice (some ⟨b, 0, none⟩) n c) n (d'.toList.flatMap enc) := by
  obtain ⟨cur, hB, hnc, hcm, hcs, hx⟩ := own_cells h
  have hlt := hB.lt
  have hf := flat_flatMap hk k0 d'
  have hsz : (putRowK enc k (Sort.ahead w m) b 0 d').heap.size = w.heap.size := by simp [putRowK]
  have hheap : ∀ i, i < w.heap.size → (sortWorldK enc k w b 0 m d' os).heap[i]? = (w.heap.modify b (onCells (putCells id 0 (flatK enc k d'))))[i]? := fun i hi => by
    unfold sortWorldK
    rw [heap_grow_old _ _ (by rw [hsz]; exact hi)]
    rfl
  have hblk : (sortWorldK enc k w b 0 m d' os).heap[b]? = some (.cells (putCells id 0 (flatK enc k d') cur) e (0, 0)) := by
    rw [hheap b hlt, Array.getElem?_modify, if_pos rfl]
    have hB' : w.heap[b]? = some (.cells cur e (0, 0)) := hB
    rw [hB']
    rfl
  refine ⟨⟨rfl, rfl, rfl, ?_, fun i hi hne => ?_⟩, ?_, .inr ⟨b, c, _, rfl, Nat.zero_le _, hblk, hnc, hcm, ?_, ?_⟩⟩
  · unfold sortWorldK
    rw [size_grow, hsz]
    omega
  · rw [hheap i hi, Array.getElem?_modify, if_neg (fun e => hne (by rw [e]))]
  · rw [← hf, Array.length_toList, size_flatK, hd]
  · unfold putCells
    rw [Array.size_mapIdx, hcs]
  · apply List.ext_getElem?
    intro t
    rw [← hf, List.getElem?_take, Array.getElem?_toList (xs := flatK enc k d')]
    rcases Nat.lt_or_ge t (n * k) with ht | ht
    · have hc : n * k ≤ c * k := Nat.mul_le_mul_right _ hnc
      have h1 : t < cur.size := by omega
      have h2 : t < (flatK enc k d').size := by rw [size_flatK, hd]; exact ht
      rw [if_pos ht, Array.getElem?_toList]
      unfold putCells
      rw [Array.getElem?_mapIdx, Array.getElem?_eq_getElem h1, Option.map_some, if_pos ⟨Nat.zero_le _, by omega⟩, Nat.sub_zero, getElem!_pos (flatK enc k d') t h2, Array.getElem?_eq_getElem h2]
      rfl
    · rw [if_neg (by omega), Array.getElem?_eq_none (by rw [size_flatK, hd]; exact ht)]
end
end Go.Proofs.Ytgaklngnfecdaaa.Zx


/-
  Compare, to the letter: what the sort asks for.
-/
namespace Go.Proofs.Ytgaklngnfecdaaa.Oid
open Go.RowKit Zk Zx Go.Sort Go.Deep
set_option linter.unusedVariables false
set_option linter.unusedSimpArgs false
theorem blk_of_alloc (w : World) (t : TypeId) (cs : Array Value) : Blk (w.alloc (.cells cs t)) w.heap.size t cs := by
  unfold Blk World.alloc
  rw [Array.getElem?_push]
  simp
theorem blk_alloc {w : World} {g t : Nat} {cs : Array Value} (h : Blk w g t cs) (o : Obj) : Blk (w.alloc o) g t cs := by
  unfold Blk at *
  have hl : g < w.heap.size := by
    rcases Nat.lt_or_ge g w.heap.size with q | q
    · exact q
    · rw [Array.getElem?_eq_none q] at h; cases h
  simp only [World.alloc, Array.getElem?_push]
  rw [if_neg (by omega)]
  exact h
theorem blk_drewN {w : World} {g t : Nat} {cs : Array Value} (h : Blk w g t cs) (q : Nat) : Blk (w.drewN q) g t cs := h
set_option maxHeartbeats 400000 in
theorem compare_exact (a b : List UInt8) (w : World) (ha : a.length = 32) (hb : b.length = 32) :
    Calls Try.prog 101 #[.agg (bA a), .agg (bA b)] w fun e w' => e = .returned (.int .i64 (cmpL a b)) ∧ ∃ q os', w' = grow (w.drewN q) os' := by
  have HA := Lib.hid ha
  have HB := Lib.hid hb
  clear ha hb
  have hsl := slice23all
  go_enter Try.func101, Try.ntmps101
  have h1 : ∀ q, Blk (((w.alloc (.cells (bA a) 23)).alloc (.cells (bA b) 23)).drewN q) w.heap.size 23 (bA a) := fun q => blk_drewN (blk_alloc (blk_of_alloc w 23 (bA a)) _) q
  have h2 : ∀ q, Blk (((w.alloc (.cells (bA a) 23)).alloc (.cells (bA b) 23)).drewN q) (w.heap.size + 1) 23 (bA b) := fun q => by
    have := blk_drewN (blk_of_alloc (w.alloc (.cells (bA a) 23)) 23 (bA b)) q
    rwa [World.size_alloc] at this
  have hc := fun q => scompare_any a b _ _ _ HA.out HB.out (h1 q) (h2 q)
  go_wp2
  refine wp_region_quiet_lit (by kernel_rfl) (by kernel_rfl) ?_
  repeat (go_big_quiet_step ((go_at_call 142; exact (hc _).mono (fun e w' ⟨h1, h2⟩ => ⟨h1, _, h2.symm⟩))))
  refine wpQuiet_nil ?_
  rintro _ ⟨q, rfl⟩
  go_wp2
  go_ret
  refine ⟨rfl, q, #[.cells (bA a) 23, .cells (bA b) 23], ?_⟩
  rw [alloc_eq_grow, alloc_eq_grow, grow_grow]
  rfl
end Go.Proofs.Ytgaklngnfecdaaa.Oid


/-
  Sorted: the library's parts.
-/
namespace Go.Proofs
open Go.Shelf Go.RowKit Go.Lib Go.Sort
def Ytgaklngnfecdaaa.sortL_ren : Go.Shelf.Ren := ⟨fun | 6 => 100 | 15 => 108 | 14 => 141 | 28 => 152 | 29 => 153 | 20 => 167 | 21 => 168 | 22 => 169 | 23 => 170 | 24 => 171 | 25 => 172 | 26 => 173 | 27 => 174 | 46 => 193 | 47 => 177 | 48 => 178 | 49 => 194 | 50 => 195 | 57 => 204 | n => n, fun | 22 => 24 | 24 => 23 | 25 => 167 | 3 => 3 | 39 => 162 | 0 => 0 | 53 => 60 | 55 => 127 | 4 => 4 | 46 => 208 | 45 => 207 | 50 => 145 | 5 => 5 | 9 => 9 | 66 => 239 | 70 => 243 | 76 => 261 | 77 => 35 | n => n, fun | n => n⟩
theorem Ytgaklngnfecdaaa.sortL : Go.Proofs.SlLaysF0.n6 Try.prog Ytgaklngnfecdaaa.sortL_ren := {
  mixed := by kernel_rfl,
  f6 := ⟨Try.f100.name, by decide, Try.func100.trans (congrArg some (by kernel_rfl))⟩,
  f14 := ⟨Try.f141.name, by decide, Try.func141.trans (congrArg some (by kernel_rfl))⟩,
  f15 := Try.func108.trans (congrArg some (by kernel_rfl)),
  f20 := ⟨Try.f167.name, by decide, Try.func167.trans (congrArg some (by kernel_rfl))⟩,
  f21 := ⟨Try.f168.name, by decide, Try.func168.trans (congrArg some (by kernel_rfl))⟩,
  f22 := ⟨Try.f169.name, by decide, Try.func169.trans (congrArg some (by kernel_rfl))⟩,
  f23 := ⟨Try.f170.name, by decide, Try.func170.trans (congrArg some (by kernel_rfl))⟩,
  f24 := ⟨Try.f171.name, by decide, Try.func171.trans (congrArg some (by kernel_rfl))⟩,
  f25 := ⟨Try.f172.name, by decide, Try.func172.trans (congrArg some (by kernel_rfl))⟩,
  f26 := ⟨Try.f173.name, by decide, Try.func173.trans (congrArg some (by kernel_rfl))⟩,
  f27 := ⟨Try.f174.name, by decide, Try.func174.trans (congrArg some (by kernel_rfl))⟩,
  f28 := Try.func152.trans (congrArg some (by kernel_rfl)),
  f29 := Try.func153.trans (congrArg some (by kernel_rfl)),
  f46 := ⟨Try.f193.name, by decide, Try.func193.trans (congrArg some (by kernel_rfl))⟩,
  f47 := Try.func177.trans (congrArg some (by kernel_rfl)),
  f48 := Try.func178.trans (congrArg some (by kernel_rfl)),
  f49 := ⟨Try.f194.name, by decide, Try.func194.trans (congrArg some (by kernel_rfl))⟩,
  f50 := ⟨Try.f195.name, by decide, Try.func195.trans (congrArg some (by kernel_rfl))⟩,
  f57 := ⟨Try.f204.name, by decide, Try.func204.trans (congrArg some (by kernel_rfl))⟩,
  t0 := Try.underlying0,
  a0 := Try.isAgg0,
  z0 := Try.sizeOf0,
  v0 := Try.zeroValue0,
  t3 := Try.underlying3,
  a3 := Try.isAgg3,
  z3 := Try.sizeOf3,
  v3 := Try.zeroValue3,
  t4 := Try.underlying4,
  a4 := Try.isAgg4,
  z4 := Try.sizeOf4,
  v4 := Try.zeroValue4,
  t5 := Try.underlying5,
  a5 := Try.isAgg5,
  z5 := Try.sizeOf5,
  v5 := Try.zeroValue5,
  t9 := Try.underlying9,
  a9 := Try.isAgg9,
  z9 := Try.sizeOf9,
  v9 := Try.zeroValue9,
  t22 := Try.underlying24,
  a22 := Try.isAgg24,
  z22 := Try.sizeOf24,
  v22 := Try.zeroValue24,
  t25 := Try.underlying167,
  a25 := Try.isAgg167,
  z25 := Try.sizeOf167,
  v25 := Try.zeroValue167,
  t39 := Try.underlying162,
  a39 := Try.isAgg162,
  z39 := Try.sizeOf162,
  v39 := Try.zeroValue162,
  t45 := Try.underlying207,
  a45 := Try.isAgg207,
  z45 := Try.sizeOf207,
  v45 := Try.zeroValue207,
  t46 := Try.underlying208,
  a46 := Try.isAgg208,
  z46 := Try.sizeOf208,
  v46 := Try.zeroValue208,
  t50 := Try.underlying145,
  a50 := Try.isAgg145,
  z50 := Try.sizeOf145,
  v50 := Try.zeroValue145,
  t53 := Try.underlying60,
  a53 := Try.isAgg60,
  z53 := Try.sizeOf60,
  v53 := Try.zeroValue60,
  t55 := Try.underlying127,
  a55 := Try.isAgg127,
  z55 := Try.sizeOf127,
  v55 := Try.zeroValue127,
  t66 := Try.underlying239,
  a66 := Try.isAgg239,
  z66 := Try.sizeOf239,
  v66 := Try.zeroValue239,
  t70 := Try.underlying243,
  a70 := Try.isAgg243,
  z70 := Try.sizeOf243,
  v70 := Try.zeroValue243,
  t76 := Try.underlying261,
  a76 := Try.isAgg261,
  z76 := Try.sizeOf261,
  v76 := Try.zeroValue261,
  t77 := Try.underlying35,
  a77 := Try.isAgg35,
  z77 := Try.sizeOf35,
  v77 := Try.zeroValue35 }
end Go.Proofs
namespace Go.Proofs.Ytgaklngnfecdaaa.Oid
open Go.Sort
open Go.RowKit Zk Zx
set_option linter.unusedVariables false
set_option maxRecDepth 100000
set_option linter.unusedSimpArgs false

instance : Inhabited Id := ⟨⟨List.replicate 32 0, rfl⟩⟩
theorem cmpLaysI (blk off size : Nat) (w : World) : CmpLays Try.prog 101 #[] idf 32 (fun x y => cmpL x.l y.l) blk off size w :=
  fun _ _ _ _ x y => compare_exact x.l y.l _ x.h y.h
theorem ltOf_lt (x y : Id) : ltOf (fun x y : Id => cmpL x.l y.l) x y = lt x y := by
  unfold ltOf
  cases h : lt x y with
  | true => exact decide_eq_true ((cmp_lt x y).2 h)
  | false => exact decide_eq_false (Int.not_lt.2 ((cmp_ge x y).2 h))
theorem lt_ntrans (x y z : Id) (h1 : lt x y = false) (h2 : lt y z = false) : lt x z = false := by
  cases h : lt x z with
  | false => rfl
  | true =>
    exfalso
    by_cases e : x = y
    · subst e; rw [h] at h2; cases h2
    · have h3 := lt_trans _ _ _ (lt_total x y h1 e) h
      rw [h3] at h2; cases h2
theorem swoI : SWO (ltOf fun x y : Id => cmpL x.l y.l) where
  irrefl x := by rw [ltOf_lt, lt_irr]
  trans x y z h1 h2 := by rw [ltOf_lt] at *; exact lt_trans _ _ _ h1 h2
  ntrans x y z h1 h2 := by rw [ltOf_lt] at *; exact lt_ntrans _ _ _ h1 h2
theorem sortI0 (b n c : Nat) (ys : List Id) (w0 : World) (hn : ys.length = n) (h : w0.ownsRow 0 23 32 (.slice (some ⟨b, 0, none⟩) n c) n (ys.flatMap idf)) (hsz : n < 4611686018427387904) :
    Calls Try.prog 100 #[.slice (some ⟨b, 0, none⟩) n c, .func (.func 101) #[] #[]] w0 fun e w' => ∃ u, e = .returned u ∧ ∃ zs : List Id, zs.Perm ys ∧ (∀ i j (hi : i < zs.length) (hj : j < zs.length), i < j → lt zs[j] zs[i] = false) ∧
      Turned w0 w' (row 23 32 (some ⟨b, 0, none⟩) n c (ys.flatMap idf)) (row 23 32 (some ⟨b, 0, none⟩) n c (zs.flatMap idf)) := by
  have eg : ∀ args w, (callFunc 101 args).run Try.prog w = .ok (.enter 101 args) w := enters_of Try.func101 (by kernel_rfl) rfl
  obtain ⟨hH, hb⟩ := own_holds (enc := idf) (k := 32) (d := ys.toArray) idf_len (by decide) (by simpa using hn) h
  have hcon := AnyQ.slices_SortFunc Ytgaklngnfecdaaa.sortL 32 Try.isAgg23 Try.sizeOf23 idf idf_len (fun x => bL_one x.l) (fun x y => cmpL x.l y.l) swoI 101 #[] b 0 c ys.toArray w0 eg (cmpLaysI b 0 _ w0) hH hb (by simpa using (by omega : ys.length < 4611686018427387904))
  have e1 : ys.toArray.size = n := by simpa using hn
  rw [e1] at hcon
  refine hcon.mono fun e w' ⟨he, d', m, os, hp, hs, hw⟩ => ⟨_, he, d'.toList, ?_, fun i j hi hj hij => ?_, ?_⟩
  · have h3 := hp.2.2
    have h4 : d'.size = n := by rw [hp.1]; exact e1
    rw [show (d'.extract 0 n) = d' by rw [← h4]; simp, show ys.toArray.extract 0 n = ys.toArray by rw [← e1]; simp] at h3
    exact h3
  · have h4 : d'.size = n := by rw [hp.1]; exact e1
    have h5 := hs i j (Nat.zero_le _) hij (by simpa [h4] using hj)
    rw [ltOf_lt] at h5
    rw [getElem!_pos d' i (by simpa using hi), getElem!_pos d' j (by simpa using hj)] at h5
    exact h5
  · subst hw
    obtain ⟨hg, ho⟩ := own_sorted (enc := idf) (k := 32) idf_len (by decide) h (d' := d') (by rw [hp.1]; exact e1) m os
    exact ⟨hg.os, hg.tape, hg.output, hg.size, fun i hi hne => hg.block i hi (fun e => hne (by injection e with e; rw [e]; rfl)), ho, fun i hi => .inl hi⟩
theorem sortIA (A : Option Addr) (n c : Nat) (ys : List Id) (w0 : World) (hn : ys.length = n) (h : w0.ownsRow 0 23 32 (.slice A n c) n (ys.flatMap idf)) (hsz : n < 4611686018427387904) :
    Calls Try.prog 100 #[.slice A n c, .func (.func 101) #[] #[]] w0 fun e w' => ∃ u, e = .returned u ∧ ∃ zs : List Id, zs.Perm ys ∧ (∀ i j (hi : i < zs.length) (hj : j < zs.length), i < j → lt zs[j] zs[i] = false) ∧
      Turned w0 w' (row 23 32 A n c (ys.flatMap idf)) (row 23 32 A n c (zs.flatMap idf)) := by
  rcases h.2 with ⟨h1, h2⟩ | ⟨b, cap, cur, h1, _⟩
  · cases h1
    have e0 : ys = [] := List.eq_nil_of_length_eq_zero (by omega)
    subst e0
    exact (AnyF.slices_SortFunc_none Ytgaklngnfecdaaa.sortL none 0 (.func (.func 101) #[] #[]) w0).mono fun e w' ⟨he, hw⟩ => ⟨_, he, [], .refl _, (fun i j hi => by cases hi), by subst hw; exact Turned.refl h⟩
  · cases h1
    exact sortI0 b n c ys w0 hn h hsz


/-- Sorted, equal ones side by side. -/
def WS (xs : List Id) : Prop := ∀ (i j : Nat) (x y : Id), xs[i]? = some x → xs[j]? = some y → i < j → lt y x = false
theorem ris_of {xs : List Id} (h : ∀ (i j : Nat) (x y : Id), xs[i]? = some x → xs[j]? = some y → i < j → lt x y = true) : ris xs = true := by
  apply pair_ris
  rw [List.pairwise_iff_getElem]
  exact fun i j hi hj hij => h i j _ _ (List.getElem?_eq_getElem hi) (List.getElem?_eq_getElem hj) hij
theorem ris_snoc {xs : List Id} {a : Id} (h : ris xs = true) (h2 : ∀ z ∈ xs, lt z a = true) : ris (xs ++ [a]) = true := by
  apply pair_ris
  rw [List.pairwise_append]
  exact ⟨ris_pair _ h, List.pairwise_singleton _ _, fun z hz b hb => by rw [List.mem_singleton.1 hb]; exact h2 z hz⟩
theorem take1 {α : Type} {l : List α} {k : Nat} {x : α} (hx : l[k]? = some x) : l.take (k + 1) = l.take k ++ [x] := by rw [List.take_add_one, hx]; rfl
theorem mem_take1 {α : Type} {l : List α} {k : Nat} {x z : α} (hx : l[k]? = some x) : z ∈ l.take (k + 1) ↔ z ∈ l.take k ∨ z = x := by rw [take1 hx]; simp
theorem WS.step {xs : List Id} (h : WS xs) {k : Nat} {a b : Id} (ha : xs[k + 1]? = some a) (hb : xs[k]? = some b) (hne : a ≠ b) (z : Id) (hz : z ∈ xs.take (k + 1)) : lt z a = true := by
  obtain ⟨i, hi, rfl⟩ := List.getElem_of_mem hz
  have h1 : i < k + 1 ∧ i < xs.length := by rw [List.length_take] at hi; omega
  rw [List.getElem_take]
  have hz' : xs[i]? = some xs[i] := List.getElem?_eq_getElem h1.2
  have h2 := h i (k + 1) _ _ hz' ha h1.1
  by_cases e : a = xs[i]
  · exfalso
    rw [← e] at hz'
    rcases Nat.lt_or_ge i k with q | q
    · have h3 := h i k _ _ hz' hb q
      have h4 := h k (k + 1) _ _ hb ha (by omega)
      have := lt_total _ _ h4 hne
      rw [this] at h3; cases h3
    · have e2 : i = k := by omega
      subst e2
      rw [hb] at hz'
      exact hne (Option.some.inj hz').symm
  · exact lt_total _ _ h2 e
structure CI (xs ys : List Id) (k j q : Nat) : Prop where
  j1 : 1 ≤ j
  q1 : 1 ≤ q
  kq : k + q ≤ xs.length
  jq : j + 1 ≤ k + q
  len : ys.length = xs.length
  ri : ris (ys.take j) = true
  mem : ∀ z, z ∈ ys.take j ↔ z ∈ xs.take (k + q)
  tail : ∀ i, k + q ≤ i + 1 → ys[i]? = xs[i]?
theorem CI.start {xs : List Id} {k : Nat} {x p : Id} (h1 : 1 ≤ k) (hri : ris (xs.take k) = true) (hx : xs[k]? = some x) (hp : xs[k - 1]? = some p) (e : x.l = p.l) : CI xs xs k k 1 where
  j1 := h1
  q1 := Nat.le_refl _
  kq := by have := (List.getElem?_eq_some_iff.1 hx).1; omega
  jq := Nat.le_refl _
  len := rfl
  ri := hri
  mem z := by
    rw [mem_take1 hx]
    refine ⟨.inl, fun h => h.elim id fun h => ?_⟩
    subst h
    have e2 : z = p := Id.ext e
    subst e2
    exact List.mem_iff_getElem?.2 ⟨k - 1, by rw [List.getElem?_take, if_pos (by omega)]; exact hp⟩
  tail i _ := rfl
theorem CI.same {xs ys : List Id} {k j q : Nat} (C : CI xs ys k j q) {a b : Id} (ha : xs[k + q]? = some a) (hb : xs[k + (q - 1)]? = some b) (e : a.l = b.l) : CI xs ys k j (q + 1) where
  j1 := C.j1
  q1 := by omega
  kq := by have := (List.getElem?_eq_some_iff.1 ha).1; omega
  jq := by have := C.jq; omega
  len := C.len
  ri := C.ri
  mem z := by
    rw [C.mem z, show k + (q + 1) = k + q + 1 by omega, mem_take1 ha]
    refine ⟨.inl, fun h => h.elim id fun h => ?_⟩
    subst h
    have e2 : z = b := Id.ext e
    subst e2
    exact List.mem_iff_getElem?.2 ⟨k + (q - 1), by rw [List.getElem?_take, if_pos (by have := C.q1; omega)]; exact hb⟩
  tail i h := C.tail i (by omega)
theorem CI.next {xs ys : List Id} {k j q : Nat} (hs : WS xs) (C : CI xs ys k j q) {a b : Id} (ha : xs[k + q]? = some a) (hb : xs[k + (q - 1)]? = some b) (hne : a.l ≠ b.l) : CI xs (ys.set j a) k (j + 1) (q + 1) := by
  have hq := C.q1
  have hjq := C.jq
  have hkq := (List.getElem?_eq_some_iff.1 ha).1
  have hjl : j < ys.length := by rw [C.len]; omega
  have htk : (ys.set j a).take (j + 1) = ys.take j ++ [a] := by
    rw [take1 (x := a) (by rw [List.getElem?_set, if_pos rfl, if_pos hjl]), List.take_set_of_le (Nat.le_refl _)]
  have e1 : k + q = k + (q - 1) + 1 := by omega
  have hstep : ∀ z ∈ xs.take (k + q), lt z a = true := fun z hz => by
    rw [e1] at ha hz
    exact hs.step ha hb (fun e => hne (by rw [e])) z hz
  exact {
    j1 := by omega
    q1 := by omega
    kq := by omega
    jq := by omega
    len := by rw [List.length_set]; exact C.len
    ri := by rw [htk]; exact ris_snoc C.ri fun z hz => hstep z ((C.mem z).1 hz)
    mem := fun z => by
      rw [htk, show k + (q + 1) = k + q + 1 by omega, mem_take1 ha, List.mem_append, C.mem z, List.mem_singleton]
    tail := fun i hi => by
      rw [List.getElem?_set, if_neg (by omega)]
      exact C.tail i (by omega) }
theorem ris_take1 {xs : List Id} (hs : WS xs) {k : Nat} {x p : Id} (h1 : 1 ≤ k) (hri : ris (xs.take k) = true) (hx : xs[k]? = some x) (hp : xs[k - 1]? = some p) (hne : x.l ≠ p.l) : ris (xs.take (k + 1)) = true := by
  rw [take1 hx]
  refine ris_snoc hri fun z hz => ?_
  have e : k = k - 1 + 1 := by omega
  rw [e] at hx hz
  exact hs.step hx hp (fun e => hne (by rw [e])) z hz
theorem ids_tail {w : World} {A : Option Addr} {c k : Nat} {ys : List Id} {n : Nat} (h : Rs w 32 A n c (ys.flatMap idf)) (hk : k ≤ n) : Rs w 32 (cutA A c k 32) (n - k) (c - k) ((ys.drop k).flatMap idf) := by
  have hn := ids_n h
  have h2 := h.cut (l := k) (u := n) hk (Nat.le_refl _)
  rwa [idf_drop, idf_take, List.take_of_length_le (by rw [List.length_drop]; omega)] at h2
theorem cutA_z (A : Option Addr) (c size : Nat) : cutA A c 0 size = A := by
  unfold cutA
  split
  · rfl
  · cases A with
    | none => rfl
    | some a => simp [Addr.add]
theorem drop_at' {α : Type} {ys : List α} {k q : Nat} {a : α} (h : ys[k + q]? = some a) : (ys.drop k)[q]? = some a := by rw [List.getElem?_drop]; exact h


set_option maxRecDepth 100000 in
theorem pcompact (A : Option Addr) (c : Nat) (xs : List Id) (w0 : World) (hw : (row 23 32 A xs.length c (xs.flatMap idf)).holds w0) (hs : WS xs) :
    Calls Try.prog 102 #[.slice A xs.length c] w0 fun e w' => ∃ u, e = .returned u ∧ ∃ zs : List Id, u = .slice A zs.length c ∧ ris zs = true ∧ (∀ z, z ∈ zs ↔ z ∈ xs) ∧ Turned w0 w' (row 23 32 A xs.length c (xs.flatMap idf)) (row 23 32 A zs.length c (zs.flatMap idf)) := by
  refine enter1 (env := [(0, .slice A xs.length c)]) [.slice A xs.length c] Try.func102 rfl Try.ntmps102 rfl rfl ?_
  have S0 := St.borrow1 (row 23 32 A xs.length c (xs.flatMap idf)) hw (fun i hi => (World.ownsRow.lt hw i hi).2); have hcp := (S0.row 0 rfl).cap; have hmx := (S0.row 0 rfl).max
  refine T_seq fun K1 hK1 => ?_
  refine T_region ?_
  refine L_y (y_assign rfl) rfl ?_
  refine L_nil ?_
  refine hK1 _ _ ?_
  refine T_seq fun K2 hK2 => ?_
  refine T_seq fun K3 hK3 => ?_
  refine T_region ?_
  refine L_y (y_move rfl) rfl ?_
  refine L_y (y_len Try.underlying24 rfl) rfl ?_
  refine L_y (y_lss rfl rfl) rfl ?_
  refine L_nil ?_
  refine hK3 _ _ ?_
  refine T_cond rfl (fun h8 => ?_) (fun h8 => ?_)
  ·
    refine T_seq fun K4 hK4 => ?_
    refine T_region ?_
    refine L_y (y_move rfl) rfl ?_
    refine L_y (y_assign rfl) rfl ?_
    refine L_nil ?_
    refine hK4 _ _ ?_
    refine T_ret ?_
    repeat (first | with_reducible refine up_then ?_ | with_reducible refine up_in ?_)
    refine ret1 rfl rfl ?_
    first | exact ⟨_, rfl, xs, rfl, by have h9 := hri; rwa [List.take_of_length_le (by omega)] at h9, fun z => Iff.rfl, S0.turned1 0 rfl⟩ | exact ⟨_, rfl, xs, rfl, by have h9 := ris_short (l := xs) (k := 0) (by omega); rwa [List.drop_zero] at h9, fun z => Iff.rfl, S0.turned1 0 rfl⟩ | exact ⟨_, rfl, ys.take j, by rw [cutA_z, List.length_take, Nat.min_eq_left (by have := C.jq; have := C.kq; have := C.len; omega)]; rfl, C.ri, fun z => by rw [C.mem z, List.take_of_length_le (by have := C.kq; omega)], S93.turned1 0 rfl⟩
  ·
    refine T_skip ?_
    refine hK2 _ _ ?_
    refine T_seq fun K5 hK5 => ?_
    refine T_seq fun K6 hK6 => ?_
    refine T_region ?_
    refine L_y (y_assign rfl) rfl ?_
    refine L_nil ?_
    refine hK6 _ _ ?_
    refine T_block ?_
    refine T_loop1 [(0, _)] (fun (k : Nat) => [(3, .int .i64 (k : Int))]) (fun (k : Nat) => xs.length - k) (fun (k : Nat) (w : World) => (1 ≤ k ∧ k ≤ xs.length ∧ ris (xs.take k) = true) ∧ St w0 (row 23 32 A xs.length c (xs.flatMap idf)).dom [row 23 32 A xs.length c (xs.flatMap idf)] w) 1 (Sub.cons rfl (by first | rfl | exact congrArg (Value.int _) (by omega)) (Sub.nil _)) (Sub.cons rfl rfl (Sub.nil _)) ?_ ?_
    ·
      exact ⟨⟨Nat.le_refl _, by omega, by have h9 := ris_short (l := xs.take 1) (k := 0) (by rw [List.length_take]; omega); rwa [List.drop_zero] at h9⟩, S0⟩
    ·
      intro k w1 hrel
      obtain ⟨⟨hk1, hk, hri⟩, S1⟩ := hrel
      refine T_seq fun K7 hK7 => ?_
      refine T_seq fun K8 hK8 => ?_
      refine T_region ?_
      refine L_y (y_move rfl) rfl ?_
      refine L_y (y_move rfl) rfl ?_
      refine L_y (y_len Try.underlying24 rfl) rfl ?_
      refine L_y (y_lss rfl rfl) rfl ?_
      refine L_nil ?_
      refine hK8 _ _ ?_
      refine T_cond rfl (fun h13 => ?_) (fun h13 => ?_)
      ·
        obtain ⟨x, hx⟩ : ∃ x, xs[k]? = some x := ⟨_, List.getElem?_eq_getElem (by omega)⟩
        obtain ⟨p, hp⟩ : ∃ p, xs[k - 1]? = some p := ⟨_, List.getElem?_eq_getElem (by omega)⟩
        refine T_skip ?_
        refine hK7 _ _ ?_
        refine T_seq fun K9 hK9 => ?_
        refine T_block ?_
        refine T_seq fun K10 hK10 => ?_
        refine T_drawnL [(0, true), (1, true), (2, true), (3, true), (4, true), (5, true), (6, true), (7, true), (8, true), (9, true)] hmix (by kernel_rfl) fun w2 l2 => ?_
        have S2 := S1.like l2
        refine DL_y rfl (y_move rfl) rfl ?_
        refine DL_y rfl (y_move rfl) rfl ?_
        refine DL_y rfl (y_idx Try.underlying24 sz23 rfl rfl (S2.row 0 rfl) (Nt.mk (by omega) : Nt _ (k)) (by omega)) rfl ?_
        refine DL_y rfl (y_ldp (f := idf) idf_len Try.underlying23 rfl sz23 rfl (S2.row 0 rfl) (by omega) hx) rfl ?_
        refine DL_y rfl (y_move rfl) rfl ?_
        refine DL_y rfl (y_move rfl) rfl ?_
        refine DL_y rfl (y_sub rfl rfl (i64w (by omega))) rfl ?_
        refine DL_y rfl (y_idx Try.underlying24 sz23 rfl rfl (S2.row 0 rfl) (Nt.mk (by omega) : Nt _ (k - 1)) (by omega)) rfl ?_
        refine DL_y rfl (y_ldp (f := idf) idf_len Try.underlying23 rfl sz23 rfl (S2.row 0 rfl) (by omega) hp) rfl ?_
        refine DL_y rfl (y_eqB Try.underlying23 Try.underlying5 sz5 (by kernel_rfl) rfl rfl x.h p.h) rfl ?_
        refine DL_nil ?_
        refine hK10 _ _ ?_
        refine T_cond rfl (fun h25 => ?_) (fun h25 => ?_)
        ·
          refine T_seq fun K11 hK11 => ?_
          refine T_region ?_
          refine L_y (y_move rfl) rfl ?_
          refine L_y (y_move rfl) rfl ?_
          refine L_y (y_sliceL Try.underlying24 sz23 rfl rfl inferInstance (by omega)) rfl ?_
          refine L_y (y_assign rfl) rfl ?_
          refine L_nil ?_
          refine hK11 _ _ ?_
          refine T_seq fun K12 hK12 => ?_
          refine T_seq fun K13 hK13 => ?_
          refine T_region ?_
          refine L_y (y_assign rfl) rfl ?_
          refine L_nil ?_
          refine hK13 _ _ ?_
          refine T_block ?_
          refine T_loop3 [(0, _), (4, _)] (fun (ys : List Id) (j : Nat) (q : Nat) => [(3, .int .i64 (j : Int)), (5, .int .i64 (q : Int))]) (fun (ys : List Id) (j : Nat) (q : Nat) => xs.length - (k + q)) (fun (ys : List Id) (j : Nat) (q : Nat) (w : World) => CI xs ys k j q ∧ St w0 (row 23 32 A xs.length c (xs.flatMap idf)).dom [row 23 32 A xs.length c (ys.flatMap idf)] w) xs k 1 (Sub.cons rfl (by first | rfl | exact congrArg (Value.int _) (by omega)) (Sub.cons rfl (by first | rfl | exact congrArg (Value.int _) (by omega)) (Sub.nil _))) (Sub.cons rfl rfl (Sub.cons rfl rfl (Sub.nil _))) ?_ ?_
          ·
            exact ⟨CI.start hk1 hri hx hp h25, S2⟩
          ·
            intro ys j q w3 hrel
            obtain ⟨C, S3⟩ := hrel
            have hjq := C.jq
            have hkq := C.kq
            have hlen := C.len
            have hj1 := C.j1
            have hq1 := C.q1
            refine T_seq fun K14 hK14 => ?_
            refine T_seq fun K15 hK15 => ?_
            refine T_region ?_
            refine L_y (y_move rfl) rfl ?_
            refine L_y (y_move rfl) rfl ?_
            refine L_y (y_len Try.underlying24 rfl) rfl ?_
            refine L_y (y_lss rfl rfl) rfl ?_
            refine L_nil ?_
            refine hK15 _ _ ?_
            refine T_cond rfl (fun h32 => ?_) (fun h32 => ?_)
            ·
              obtain ⟨a, ha⟩ : ∃ a, xs[k + q]? = some a := ⟨_, List.getElem?_eq_getElem (by omega)⟩
              obtain ⟨b, hb⟩ : ∃ b, xs[k + (q - 1)]? = some b := ⟨_, List.getElem?_eq_getElem (by omega)⟩
              refine T_skip ?_
              refine hK14 _ _ ?_
              refine T_seq fun K16 hK16 => ?_
              refine T_block ?_
              refine T_seq fun K17 hK17 => ?_
              refine T_drawnL [(0, true), (1, true), (2, true), (3, true), (4, true), (5, true), (6, true), (7, true), (8, true), (9, true)] hmix (by kernel_rfl) fun w4 l4 => ?_
              have S4 := S3.like l4
              refine DL_y rfl (y_move rfl) rfl ?_
              refine DL_y rfl (y_move rfl) rfl ?_
              refine DL_y rfl (y_idx Try.underlying24 sz23 rfl rfl (ids_tail (S4.row 0 rfl) (k := k) (by omega)) (Nt.mk (by omega) : Nt _ (q)) (by omega)) rfl ?_
              refine DL_y rfl (y_ldp (f := idf) idf_len Try.underlying23 rfl sz23 rfl (ids_tail (S4.row 0 rfl) (k := k) (by omega)) (by omega) (drop_at' ((C.tail (k + q) (by omega)).trans ha))) rfl ?_
              refine DL_y rfl (y_move rfl) rfl ?_
              refine DL_y rfl (y_move rfl) rfl ?_
              refine DL_y rfl (y_sub rfl rfl (i64w (by omega))) rfl ?_
              refine DL_y rfl (y_idx Try.underlying24 sz23 rfl rfl (ids_tail (S4.row 0 rfl) (k := k) (by omega)) (Nt.mk (by omega) : Nt _ (q - 1)) (by omega)) rfl ?_
              refine DL_y rfl (y_ldp (f := idf) idf_len Try.underlying23 rfl sz23 rfl (ids_tail (S4.row 0 rfl) (k := k) (by omega)) (by omega) (drop_at' ((C.tail (k + (q - 1)) (by have := C.q1; omega)).trans hb))) rfl ?_
              refine DL_y rfl (y_neB Try.underlying23 Try.underlying5 sz5 (by kernel_rfl) rfl rfl a.h b.h) rfl ?_
              refine DL_nil ?_
              refine hK17 _ _ ?_
              refine T_cond rfl (fun h44 => ?_) (fun h44 => ?_)
              ·
                refine T_seq fun K18 hK18 => ?_
                refine T_region ?_
                refine L_y (y_move rfl) rfl ?_
                refine L_y (y_move rfl) rfl ?_
                refine L_y (y_move rfl) rfl ?_
                refine L_y (y_move rfl) rfl ?_
                refine L_y (y_idx Try.underlying24 sz23 rfl rfl (ids_tail (S4.row 0 rfl) (k := k) (by omega)) (Nt.mk (by omega) : Nt _ (q)) (by omega)) rfl ?_
                refine L_y (y_ldp (f := idf) idf_len Try.underlying23 rfl sz23 rfl (ids_tail (S4.row 0 rfl) (k := k) (by omega)) (by omega) (drop_at' ((C.tail (k + q) (by omega)).trans ha))) rfl ?_
                refine L_y (y_idx Try.underlying24 sz23 rfl rfl (S4.row 0 rfl) (Nt.mk (by omega) : Nt _ (j)) (by omega)) rfl ?_
                refine L_o (o_strowE S4 0 rfl rfl rfl (bL_one _) (by simp [idf, a.h]) sz23 (by omega) fun w5 S5 => ?_)
                have S91 := S5.rowc 0 rfl rfl (flat_set idf idf_len ys j a (by omega))
                refine L_nil ?_
                refine hK18 _ _ ?_
                refine T_region ?_
                refine L_y (y_move rfl) rfl ?_
                refine L_y (y_add rfl rfl (i64w (by omega))) rfl ?_
                refine L_y (y_assign rfl) rfl ?_
                refine L_nil ?_
                refine hK16 _ _ ?_
                refine T_region ?_
                refine L_y (y_move rfl) rfl ?_
                refine L_y (y_add rfl rfl (i64w (by omega))) rfl ?_
                refine L_y (y_assign rfl) rfl ?_
                refine L_nil ?_
                refine ⟨ys.set j a, j + 1, q + 1, by omega, ⟨C.next hs ha hb h44, S91⟩, ?_⟩
                exact (Sub.cons rfl (by first | rfl | exact congrArg (Value.int _) (by omega)) (Sub.cons rfl (by first | rfl | exact congrArg (Value.int _) (by omega)) (Sub.cons rfl rfl (Sub.cons rfl rfl (Sub.nil _)))))
              ·
                refine T_skip ?_
                refine hK16 _ _ ?_
                refine T_region ?_
                refine L_y (y_move rfl) rfl ?_
                refine L_y (y_add rfl rfl (i64w (by omega))) rfl ?_
                refine L_y (y_assign rfl) rfl ?_
                refine L_nil ?_
                refine ⟨ys, j, q + 1, by omega, ⟨C.same ha hb (Decidable.byContradiction h44), S4⟩, ?_⟩
                exact (Sub.cons rfl (by first | rfl | exact congrArg (Value.int _) (by omega)) (Sub.cons rfl (by first | rfl | exact congrArg (Value.int _) (by omega)) (Sub.cons rfl rfl (Sub.cons rfl rfl (Sub.nil _)))))
            ·
              refine T_exit ?_
              refine hK12 _ _ ?_
              refine T_seq fun K19 hK19 => ?_
              refine T_region ?_
              refine L_y (y_move rfl) rfl ?_
              refine L_y (y_move rfl) rfl ?_
              refine L_y (y_sliceL Try.underlying24 sz23 rfl rfl inferInstance (by omega)) rfl ?_
              refine L_o (o_clearR (z := .agg (Array.replicate 32 (.int .u8 0))) S3 0 rfl Try.underlying24 zz23 (by simp [Value.cells]) (fun u hu => by simp [Value.cells] at hu; subst hu; rfl) rfl (by omega) fun w6 ys2 hy1 hy2 S6 => ?_)
              refine L_nil ?_
              refine hK19 _ _ ?_
              refine T_seq fun K20 hK20 => ?_
              refine T_region ?_
              refine L_y (y_move rfl) rfl ?_
              refine L_y (y_move rfl) rfl ?_
              refine L_y (y_sliceH Try.underlying24 sz23 rfl rfl inferInstance (by omega)) rfl ?_
              have S92 := S6.rowcut 0 rfl (m := j) (by omega)
              have S93 := S92.rowc 0 rfl (n' := (ys.take j).length) (xs' := (ys.take j).flatMap idf) (by rw [List.length_take]; omega) (by rw [hy1, flat_take idf idf_len])
              refine L_y (y_assign rfl) rfl ?_
              refine L_nil ?_
              refine hK20 _ _ ?_
              refine T_ret ?_
              repeat (first | with_reducible refine up_then ?_ | with_reducible refine up_in ?_)
              refine ret1 rfl rfl ?_
              first | exact ⟨_, rfl, xs, rfl, by have h9 := hri; rwa [List.take_of_length_le (by omega)] at h9, fun z => Iff.rfl, S6.turned1 0 rfl⟩ | exact ⟨_, rfl, xs, rfl, by have h9 := ris_short (l := xs) (k := 0) (by omega); rwa [List.drop_zero] at h9, fun z => Iff.rfl, S6.turned1 0 rfl⟩ | exact ⟨_, rfl, ys.take j, by rw [cutA_z, List.length_take, Nat.min_eq_left (by have := C.jq; have := C.kq; have := C.len; omega)]; rfl, C.ri, fun z => by rw [C.mem z, List.take_of_length_le (by have := C.kq; omega)], S93.turned1 0 rfl⟩
        ·
          refine T_skip ?_
          refine hK9 _ _ ?_
          refine T_region ?_
          refine L_y (y_move rfl) rfl ?_
          refine L_y (y_add rfl rfl (i64w (by omega))) rfl ?_
          refine L_y (y_assign rfl) rfl ?_
          refine L_nil ?_
          refine ⟨k + 1, by omega, ⟨⟨by omega, by omega, ris_take1 hs hk1 hri hx hp h25⟩, S2⟩, ?_⟩
          exact (Sub.cons rfl (by first | rfl | exact congrArg (Value.int _) (by omega)) (Sub.cons rfl rfl (Sub.nil _)))
      ·
        refine T_exit ?_
        refine hK5 _ _ ?_
        refine T_seq fun K21 hK21 => ?_
        refine T_region ?_
        refine L_y (y_move rfl) rfl ?_
        refine L_y (y_assign rfl) rfl ?_
        refine L_nil ?_
        refine hK21 _ _ ?_
        refine T_ret ?_
        repeat (first | with_reducible refine up_then ?_ | with_reducible refine up_in ?_)
        refine ret1 rfl rfl ?_
        first | exact ⟨_, rfl, xs, rfl, by have h9 := hri; rwa [List.take_of_length_le (by omega)] at h9, fun z => Iff.rfl, S1.turned1 0 rfl⟩ | exact ⟨_, rfl, xs, rfl, by have h9 := ris_short (l := xs) (k := 0) (by omega); rwa [List.drop_zero] at h9, fun z => Iff.rfl, S1.turned1 0 rfl⟩ | exact ⟨_, rfl, ys.take j, by rw [cutA_z, List.length_take, Nat.min_eq_left (by have := C.jq; have := C.kq; have := C.len; omega)]; rfl, C.ri, fun z => by rw [C.mem z, List.take_of_length_le (by have := C.kq; omega)], S93.turned1 0 rfl⟩
end Go.Proofs.Ytgaklngnfecdaaa.Oid


/-
  Sorted.
-/
namespace Go.Proofs.Ytgaklngnfecdaaa.Oid
open Go.RowKit Zk Zx
set_option linter.unusedVariables false
set_option maxRecDepth 100000
set_option linter.unusedSimpArgs false

theorem y_sliceHM {P : Program} {S : World → Prop} {env : Env} {dst : Option Tmp} {ty : TypeId} {pos : String} {after : Array Edge} {g : Option (Nat × Bool)} {x : Operand} {t e : TypeId} {A : Option Addr} {n c u m size : Nat} {kh km : IntKind} {jh jm : Int} {j k : Operand} (ht : P.underlying t = some (.slice e)) (hsz : (P.info? e).map (·.size) = some size) (hx : ev env x = some (.slice A n c))
    (hj : ev env j = some (.int kh jh)) (hm : ev env k = some (.int km jm)) (eu : jh = (u : Int)) (em : jm = (m : Int)) (h2 : u ≤ m) (h3 : m ≤ c) :
    Y P S env ⟨dst, .slice t x none (some j) (some k), ty, pos, after, g⟩ (.slice (cutA A m 0 size) (u - 0) (m - 0)) := fun N a w' ha _ => by
  subst eu; subst em
  have he : P.elem t = e := by simp [Program.elem, ht]
  have h4 := run_slice_hm (P := P) (w := w') (t := t) (a := A) (len := n) (cap := c) (by rw [he]; exact ht) kh km (u : Int) (m : Int) (by omega) (by omega) (by omega)
  rw [he] at h4
  simp only [execOp, ha.eval hx, Option.map_some, Option.map_none, ha.eval hj, ha.eval hm, Instr.sliceAt, Sem.run_bind, run_underlying ht, Result.andThen_ok, h4, sizeOf_run hsz, Sem.run_pure, Int.toNat_natCast]
  rfl
theorem WS.of {zs : List Id} (h : ∀ i j (hi : i < zs.length) (hj : j < zs.length), i < j → lt zs[j] zs[i] = false) : WS zs := fun i j x y hx hy hij => by
  obtain ⟨hi, rfl⟩ := List.getElem?_eq_some_iff.1 hx
  obtain ⟨hj, rfl⟩ := List.getElem?_eq_some_iff.1 hy
  exact h i j hi hj hij
theorem rs_nil {w : World} {A : Option Addr} {n c : Nat} {l : List Id} (hl : Rs w 32 A n c (l.flatMap idf)) (h : A = none) : n = 0 := by
  subst h
  rcases Nat.eq_zero_or_pos n with q | q
  · exact q
  · obtain ⟨_, h2, _⟩ := hl.rd.2 q
    cases h2
theorem rs_nil2 {w : World} {A : Option Addr} {n c : Nat} {l : List Id} (hl : Rs w 32 A n c (l.flatMap idf)) (h : A = none) : l = [] := by
  have h1 := rs_nil hl h
  have h2 := ids_n hl
  exact List.eq_nil_of_length_eq_zero (by omega)
set_option maxRecDepth 100000 in
theorem pclone (A : Option Addr) (n c : Nat) (l : List Id) (w0 : World) (hl : Rs w0 32 A n c (l.flatMap idf)) (hmx : n ≤ 4096) :
    Calls Try.prog 99 #[.slice A n c] w0 fun e w' => ∃ u, e = .returned u ∧ Like w0 w' ∧ ∃ A' c', u = .slice A' n c' ∧ w'.ownsRow w0.heap.size 23 32 (.slice A' n c') n (l.flatMap idf) := by
  refine enter1 (env := [(0, .slice A n c)]) [.slice A n c] Try.func99 rfl Try.ntmps99 rfl rfl ?_
  have hzero := rs_nil hl; have hl0 := rs_nil2 hl; have hn := ids_n hl; have hcap := hl.cap; have hmax := hl.max; have S0 := St.start w0 noM
  refine T_seq fun K1 hK1 => ?_
  refine T_region ?_
  refine L_y (y_assign rfl) rfl ?_
  refine L_nil ?_
  refine hK1 _ _ ?_
  refine T_seq fun K2 hK2 => ?_
  refine T_seq fun K3 hK3 => ?_
  refine T_region ?_
  refine L_y (y_move rfl) rfl ?_
  refine L_y (y_seqn Try.underlying24 rfl) rfl ?_
  refine L_nil ?_
  refine hK3 _ _ ?_
  refine T_condB rfl (fun h4 => ?_) (fun h4 => ?_)
  ·
    refine T_seq fun K4 hK4 => ?_
    refine T_region ?_
    refine L_y (y_assign rfl) rfl ?_
    refine L_nil ?_
    refine hK4 _ _ ?_
    refine T_ret ?_
    repeat (first | with_reducible refine up_then ?_ | with_reducible refine up_in ?_)
    refine ret1 rfl rfl ?_
    first | exact ⟨_, rfl, S0.like0, _, _, by rw [Nat.zero_add], by have h9 := S0.own 0 rfl; rw [Nat.zero_add] at h9; exact h9⟩ | exact ⟨_, rfl, S0.like0, none, 0, by rw [hzero (by simpa using h4)], by rw [hzero (by simpa using h4), hl0 (by simpa using h4)]; exact World.ownsRow_nil _ _ _ _⟩
  ·
    refine T_skip ?_
    refine hK2 _ _ ?_
    refine T_seq fun K5 hK5 => ?_
    refine T_region ?_
    refine L_o (o_bsl0 te24 S0 rfl fun b1 w1 l1 S1 => ?_)
    refine L_y (y_move rfl) rfl ?_
    refine L_o (o_app te24 S1 0 rfl rfl rfl (S1.rd hl) (ids_one _) rfl (by omega) (by omega) fun A2 c2 w2 S2 => ?_)
    refine L_y (y_assign rfl) rfl ?_
    refine L_nil ?_
    refine hK5 _ _ ?_
    refine T_ret ?_
    repeat (first | with_reducible refine up_then ?_ | with_reducible refine up_in ?_)
    refine ret1 rfl rfl ?_
    first | exact ⟨_, rfl, S2.like0, _, _, by rw [Nat.zero_add], by have h9 := S2.own 0 rfl; rw [Nat.zero_add] at h9; exact h9⟩ | exact ⟨_, rfl, S2.like0, none, 0, by rw [hzero (by simpa using h4)], by rw [hzero (by simpa using h4), hl0 (by simpa using h4)]; exact World.ownsRow_nil _ _ _ _⟩


set_option maxRecDepth 100000 in
theorem pclip (A : Option Addr) (n c : Nat) (l : List Id) (w0 : World) (hl : Rs w0 32 A n c (l.flatMap idf)) :
    Calls Try.prog 89 #[.slice A n c] w0 fun e w' => ∃ u, e = .returned u ∧ Like w0 w' ∧ u = .slice A n n := by
  refine enter1 (env := [(0, .slice A n c)]) [.slice A n c] Try.func89 rfl Try.ntmps89 rfl rfl ?_
  have hn := ids_n hl; have hcap := hl.cap; have hmax := hl.max; have S0 := St.start w0 noM
  refine T_seq fun K1 hK1 => ?_
  refine T_region ?_
  refine L_y (y_assign rfl) rfl ?_
  refine L_nil ?_
  refine hK1 _ _ ?_
  refine T_seq fun K2 hK2 => ?_
  refine T_region ?_
  refine L_y (y_move rfl) rfl ?_
  refine L_y (y_move rfl) rfl ?_
  refine L_y (y_len Try.underlying24 rfl) rfl ?_
  refine L_y (y_move rfl) rfl ?_
  refine L_y (y_len Try.underlying24 rfl) rfl ?_
  refine L_y (y_sliceHM Try.underlying24 sz23 rfl rfl rfl rfl rfl (Nat.le_refl _) (by omega)) rfl ?_
  refine L_y (y_assign rfl) rfl ?_
  refine L_nil ?_
  refine hK2 _ _ ?_
  refine T_ret ?_
  repeat (first | with_reducible refine up_then ?_ | with_reducible refine up_in ?_)
  refine ret1 rfl rfl ?_
  exact ⟨_, rfl, S0.like0, by rw [cutA_z]; rfl⟩


set_option maxRecDepth 100000 in
theorem psorted (A : Option Addr) (n c : Nat) (l : List Id) (w0 : World) (hl : Rs w0 32 A n c (l.flatMap idf)) (h60 : n ≤ 4096) :
    Calls Try.prog 58 #[.slice A n c] w0 fun e w' => ∃ u, e = .returned u ∧ Like w0 w' ∧ ∃ A' m c' s, u = .slice A' m c' ∧ Rs w' 32 A' m c' (s.flatMap idf) ∧ ris s = true ∧ ∀ z, z ∈ s ↔ z ∈ l := by
  refine enter1 (env := [(0, .slice A n c)]) [.slice A n c] Try.func58 rfl Try.ntmps58 rfl rfl ?_
  have hn := ids_n hl; have hcap := hl.cap; have hmax := hl.max; have S0 := St.start w0 noM
  refine T_seq fun K1 hK1 => ?_
  refine T_region ?_
  refine L_y (y_assign rfl) rfl ?_
  refine L_nil ?_
  refine hK1 _ _ ?_
  refine T_seq fun K2 hK2 => ?_
  refine T_region ?_
  refine L_y (y_move rfl) rfl ?_
  refine L_o (o_call Try.func99 rfl rfl (pclone A n c l w0 (S0.rd hl) h60) rfl rfl ?_)
  rintro e1 w1 ⟨v1, rfl, l1, A5, c5, rfl, O1⟩
  refine ⟨_, rfl, ?_⟩
  have S1 := S0.adopt l1 O1
  refine L_y (y_assign rfl) rfl ?_
  refine L_nil ?_
  refine hK2 _ _ ?_
  refine T_seq fun K3 hK3 => ?_
  refine T_region ?_
  refine L_y (y_move rfl) rfl ?_
  refine L_o (o_call Try.func100 rfl rfl (sortIA A5 n c5 l w1 hn.symm (S1.get 0 rfl) (by omega)) rfl rfl ?_)
  rintro e2 w2 ⟨v2, rfl, zs, hp, hso, T2⟩
  refine ⟨_, rfl, ?_⟩
  have S2 := S1.turn 0 rfl T2
  have hzl : zs.length = n := hp.length_eq.trans hn.symm
  subst hzl
  refine L_nil ?_
  refine hK3 _ _ ?_
  refine T_seq fun K4 hK4 => ?_
  refine T_region ?_
  refine L_y (y_move rfl) rfl ?_
  refine L_o (o_call Try.func102 rfl rfl (pcompact A5 c5 zs w2 (S2.get 0 rfl) (WS.of hso)) rfl rfl ?_)
  rintro e3 w3 ⟨v3, rfl, ys, rfl, hys, hym, T3⟩
  refine ⟨_, rfl, ?_⟩
  have S3 := S2.turn 0 rfl T3
  refine L_o (o_call Try.func89 rfl rfl (pclip A5 ys.length c5 ys w3 (S3.row 0 rfl)) rfl rfl ?_)
  rintro e4 w4 ⟨v4, rfl, l4, rfl⟩
  refine ⟨_, rfl, ?_⟩
  have S4 := S3.like l4
  refine L_y (y_assign rfl) rfl ?_
  refine L_nil ?_
  refine hK4 _ _ ?_
  refine T_ret ?_
  repeat (first | with_reducible refine up_then ?_ | with_reducible refine up_in ?_)
  refine ret1 rfl rfl ?_
  have hr9 := S4.row 0 rfl
  exact ⟨_, rfl, S4.like0, _, _, _, ys, rfl, ⟨hr9.rd, Nat.le_refl _, Nat.le_trans hr9.cap hr9.max⟩, hys, fun z => by rw [hym z, hp.mem_iff]⟩
end Go.Proofs.Ytgaklngnfecdaaa.Oid


/-
  The law OidLists.
-/
namespace Go.Proofs.Ytgaklngnfecdaaa.Oid
open Go.RowKit Zk Zx
set_option linter.unusedVariables false
set_option maxRecDepth 100000
set_option linter.unusedSimpArgs false

abbrev FE (l : List Id) (x : Id) (a : Nat) (b : Bool) : Prop := ∀ u : Value, ((ris l = false ∧ u = .tuple #[.int .i64 0, .bool false]) ∨ (ris l = true ∧ ∃ k, posOk l x k ∧ u = .tuple #[.int .i64 (k : Int), .bool (decide (l[k]? = some x))])) → u = .tuple #[.int .i64 (a : Int), .bool b]
end Go.Proofs.Ytgaklngnfecdaaa.Oid


/-
  The Writer.
-/
namespace Go.Proofs.Ytgaklngnfecdaaa.Oct
open Go.RowKit Zk Zx
set_option linter.unusedVariables false
set_option linter.unusedSimpArgs false

/-- A Writer at block g that has laid l. -/
def wt (g : Nat) (A : Option Addr) (n c : Nat) (l : List UInt8) : Res := both (blk g 216 #[.slice A n c]) (row 5 1 A n c (bL l))
theorem wt_apart {w : World} {g n c : Nat} {A : Option Addr} {l : List UInt8} (h : (wt g A n c l).holds w) : ∀ i, (blk g 216 #[.slice A n c]).dom i → ¬ (row 5 1 A n c (bL l)).dom i := fun i hi hr => by
  have hi' : i = g := hi
  subst hi'
  exact own_blk_ne (e := 5) h.2 h.1 (by decide) hr
theorem wt_lt {w : World} {g n c : Nat} {A : Option Addr} {l : List UInt8} (h : (wt g A n c l).holds w) : ∀ i, (wt g A n c l).dom i → i < w.heap.size := fun i hi => by
  rcases hi with hi | hi
  · have hi' : i = g := hi
    subst hi'
    exact Blk.lt h.1
  · exact (World.ownsRow.lt h.2 i hi).2
theorem wt_len {w : World} {g n c : Nat} {A : Option Addr} {l : List UInt8} (h : (wt g A n c l).holds w) : l.length = n := by
  have := h.2.1
  simpa using this
/-- From w to w' the Writer at g, which had laid l, has laid m. -/
def Laid (w w' : World) (g : Nat) (A : Option Addr) (n c : Nat) (l m : List UInt8) : Prop := ∃ A' n' c', Turned w w' (wt g A n c l) (wt g A' n' c' m)
theorem Laid.of {w w' : World} {g n c n' c' : Nat} {A A' : Option Addr} {l m : List UInt8} {X : Array Value} {ys : List Value} (h : Turned w w' (wt g A n c l) (both (blk g 216 X) (row 5 1 A' n' c' ys))) (hX : X = #[.slice A' n' c']) (hy : ys = bL m) : Laid w w' g A n c l m := by
  subst hX
  subst hy
  exact ⟨A', n', c', h⟩
theorem Laid.refl {w : World} {g n c : Nat} {A : Option Addr} {l : List UInt8} (h : (wt g A n c l).holds w) : Laid w w g A n c l l := ⟨A, n, c, Turned.refl h⟩
/-- With the length. -/
theorem Laid.same {w w' : World} {g n c : Nat} {A : Option Addr} {l m : List UInt8} (h : Laid w w' g A n c l m) : ∃ A' c', Turned w w' (wt g A n c l) (wt g A' m.length c' m) := by
  obtain ⟨A', n', c', h⟩ := h
  have := wt_len h.holds
  subst this
  exact ⟨A', c', h⟩


set_option maxRecDepth 100000 in
theorem wbyte (g : Nat) (A : Option Addr) (n c : Nat) (l : List UInt8) (x : UInt8) (w0 : World) (hw : (wt g A n c l).holds w0) (hn : l.length ≤ 70368744177664) :
    Calls Try.prog 154 #[.pointer (some ⟨g, 0, none⟩), .int .u8 (x.toNat : Int)] w0 fun e w' => ∃ u, e = .returned u ∧ Laid w0 w' g A n c l (l ++ [x]) := by
  refine enter1 (env := [(0, .pointer (some ⟨g, 0, none⟩)), (1, .int .u8 (x.toNat : Int))]) [.pointer (some ⟨g, 0, none⟩), .int .u8 (x.toNat : Int)] Try.func154 rfl Try.ntmps154 rfl rfl ?_
  have hln := wt_len hw; have S0 := St.borrow2 (blk g 216 #[.slice A n c]) (row 5 1 A n c (bL l)) hw.1 hw.2 (wt_lt hw) (wt_apart hw)
  refine T_seq fun K1 hK1 => ?_
  refine T_region ?_
  refine L_y (y_move rfl) rfl ?_
  refine L_y (y_pneqn Try.underlying173 rfl) rfl ?_
  refine L_nil ?_
  refine hK1 _ _ ?_
  refine T_true rfl ?_
  refine T_region ?_
  refine L_y (y_move rfl) rfl ?_
  refine L_y (y_move rfl) rfl ?_
  refine L_y (y_nilp rfl) rfl ?_
  refine L_y (y_fieldA 0 Try.underlying216 rfl sz27 rfl rfl rfl) rfl ?_
  refine L_y (y_ldc Try.underlying27 rfl rfl (((S0.blk 0 rfl).cell _).trans (show (#[Value.slice A n c] : Array Value)[0]? = some (Value.slice A n c) from rfl))) rfl ?_
  refine L_y (y_move rfl) rfl ?_
  refine L_o (o_bsl [_] te27 zz5 S0 rfl rfl rfl rfl rfl rfl rfl rfl fun b1 w1 S1 => ?_)
  refine L_o (o_app te27 S1 1 rfl rfl rfl (by first | exact S1.row 1 rfl | exact S1.row 2 rfl) (by first | exact bL_one _ | exact iL_one _ | (intro u hu; simp at hu; subst hu; rfl) | (simp; done) | (simp [Value.oneCell']; done)) rfl (by omega) (by omega) fun A2 c2 w2 S2 => ?_)
  have S2d := S2.drop (rs' := [_, _]) (.cons_cons _ (.cons_cons _ (.cons _ (.refl _))))
  refine L_y (y_nilp rfl) rfl ?_
  refine L_y (y_fieldA 0 Try.underlying216 rfl sz27 rfl rfl rfl) rfl ?_
  refine L_o (o_st1 S2d 0 rfl rfl rfl rfl sz27 (by simp; done) fun w3 S3 => ?_)
  refine L_nil ?_
  first | refine end0 (fn := Try.f154) rfl ?_ | (simp only [thenQ, inB, if_true]; refine end0 (fn := Try.f154) rfl ?_)
  exact ⟨_, rfl, Laid.of (S3.turned2 0 1 rfl rfl) rfl (by simp [bL, bV])⟩


set_option maxRecDepth 100000 in
theorem wraw (g : Nat) (A : Option Addr) (n c : Nat) (l : List UInt8) (B : Option Addr) (m d : Nat) (q : List UInt8) (w0 : World) (hw : (wt g A n c l).holds w0) (hp : Rs w0 1 B m d (bL q)) (hn : l.length + m ≤ 70368744177664) :
    Calls Try.prog 110 #[.pointer (some ⟨g, 0, none⟩), .slice B m d] w0 fun e w' => ∃ u, e = .returned u ∧ Laid w0 w' g A n c l (l ++ q) := by
  refine enter1 (env := [(0, .pointer (some ⟨g, 0, none⟩)), (1, .slice B m d)]) [.pointer (some ⟨g, 0, none⟩), .slice B m d] Try.func110 rfl Try.ntmps110 rfl rfl ?_
  have hln := wt_len hw; have S0 := St.borrow2 (blk g 216 #[.slice A n c]) (row 5 1 A n c (bL l)) hw.1 hw.2 (wt_lt hw) (wt_apart hw)
  refine T_seq fun K1 hK1 => ?_
  refine T_region ?_
  refine L_y (y_move rfl) rfl ?_
  refine L_y (y_pneqn Try.underlying173 rfl) rfl ?_
  refine L_nil ?_
  refine hK1 _ _ ?_
  refine T_true rfl ?_
  refine T_region ?_
  refine L_y (y_move rfl) rfl ?_
  refine L_y (y_move rfl) rfl ?_
  refine L_y (y_nilp rfl) rfl ?_
  refine L_y (y_fieldA 0 Try.underlying216 rfl sz27 rfl rfl rfl) rfl ?_
  refine L_y (y_ldc Try.underlying27 rfl rfl (((S0.blk 0 rfl).cell _).trans (show (#[Value.slice A n c] : Array Value)[0]? = some (Value.slice A n c) from rfl))) rfl ?_
  refine L_y (y_move rfl) rfl ?_
  refine L_o (o_app te27 S0 1 rfl rfl rfl (hp) (bL_one _) rfl (by omega) (by omega) fun A1 c1 w1 S1 => ?_)
  refine L_y (y_nilp rfl) rfl ?_
  refine L_y (y_fieldA 0 Try.underlying216 rfl sz27 rfl rfl rfl) rfl ?_
  refine L_o (o_st1 S1 0 rfl rfl rfl rfl sz27 (by simp; done) fun w2 S2 => ?_)
  refine L_nil ?_
  first | refine end0 (fn := Try.f110) rfl ?_ | (simp only [thenQ, inB, if_true]; refine end0 (fn := Try.f110) rfl ?_)
  have hE := S2.turned2 0 1 rfl rfl
  exact ⟨_, rfl, Laid.of hE rfl (by simp [bL])⟩


set_option maxRecDepth 100000 in
theorem wnew  (w0 : World)  :
    Calls Try.prog 109 #[] w0 fun e w' => ∃ u, e = .returned u ∧ Like w0 w' ∧ ∃ b, u = .pointer (some ⟨b, 0, none⟩) ∧ w0.heap.size ≤ b ∧ (wt b none 0 0 []).holds w' := by
  refine enter1 (env := []) [] Try.func109 rfl Try.ntmps109 rfl rfl ?_
  have S0 := St.start w0 noM
  refine T_seq fun K1 hK1 => ?_
  refine T_region ?_
  refine L_y (y_assign rfl) rfl ?_
  refine L_nil ?_
  refine hK1 _ _ ?_
  refine T_seq fun K2 hK2 => ?_
  refine T_region ?_
  refine L_y (y_build rfl (show _ = some #[Value.slice none 0 0] by kernel_rfl)) rfl ?_
  refine L_o (o_box rfl S0 rfl fun b1 w1 hb1 S1 => ?_)
  refine L_y (y_assign rfl) rfl ?_
  refine L_nil ?_
  refine hK2 _ _ ?_
  refine T_ret ?_
  repeat (first | with_reducible refine up_then ?_ | with_reducible refine up_in ?_)
  refine ret1 rfl rfl ?_
  exact ⟨_, rfl, S1.like0, b1, rfl, hb1, (S1.get 0 rfl), ⟨by simp [bL], .inl ⟨rfl, rfl⟩⟩⟩
end Go.Proofs.Ytgaklngnfecdaaa.Oct


/-
  U32, U64, Var, Text, Bytes.
-/
namespace Go.Proofs.Ytgaklngnfecdaaa.Oct
open Go.RowKit Zk Zx
set_option linter.unusedVariables false
set_option linter.unusedSimpArgs false

/-- The last bytes of a number, the highest first. -/
def tl (v : Nat) : Nat → List UInt8
  | 0 => []
  | j + 1 => UInt8.ofNat (v / 256 ^ j % 256) :: tl v j
theorem length_tl (v : Nat) : ∀ j, (tl v j).length = j
  | 0 => rfl
  | j + 1 => by simp [tl, length_tl v j]
theorem tl_get (v : Nat) : ∀ (j i : Nat), i < j → (tl v j)[i]? = some (UInt8.ofNat (v / 256 ^ (j - 1 - i) % 256))
  | j + 1, 0, _ => by simp [tl]
  | j + 1, i + 1, h => by
    simp only [tl, List.getElem?_cons_succ]
    rw [tl_get v j i (by omega), show j + 1 - 1 - (i + 1) = j - 1 - i by omega]
theorem tl_take (v j i : Nat) (h : i < j) : (tl v j).take (i + 1) = (tl v j).take i ++ [UInt8.ofNat (v / 256 ^ (j - 1 - i) % 256)] := by
  rw [List.take_add_one, tl_get v j i h]
  rfl
theorem shr24 (x k : Nat) (h : k < 4) : Int.fdiv (x : Int) (2 ^ (min ((24 : Int) - 8 * (k : Int)).toNat IntKind.u32.bits)) = ((x / 256 ^ (4 - 1 - k) : Nat) : Int) := by
  have e1 : min ((24 : Int) - 8 * (k : Int)).toNat IntKind.u32.bits = 8 * (4 - 1 - k) := by simp only [IntKind.bits]; omega
  rw [e1, Int.fdiv_eq_ediv_of_nonneg _ (Int.pow_nonneg (by omega)), Int.natCast_ediv, Int.natCast_pow, Int.pow_mul]
  rfl
theorem byteOf (y : Nat) : IntKind.u8.wrap (y : Int) = ((UInt8.ofNat (y % 256)).toNat : Int) := by
  rw [IntKind.wrap_u8, UInt8.toNat_ofNat']
  omega


set_option maxRecDepth 100000 in
theorem wu32 (g : Nat) (A : Option Addr) (n c : Nat) (l : List UInt8) (x : Nat) (w0 : World) (hw : (wt g A n c l).holds w0) (hx : x ≤ 4294967295) (hn : l.length ≤ 70368744177000) :
    Calls Try.prog 111 #[.pointer (some ⟨g, 0, none⟩), .int .u32 (x : Int)] w0 fun e w' => ∃ u, e = .returned u ∧ Laid w0 w' g A n c l (l ++ tl x 4) := by
  refine enter1 (env := [(0, .pointer (some ⟨g, 0, none⟩)), (1, .int .u32 (x : Int))]) [.pointer (some ⟨g, 0, none⟩), .int .u32 (x : Int)] Try.func111 rfl Try.ntmps111 rfl rfl ?_
  have hln := wt_len hw; have S0 := St.borrow1 (wt g A n c l) hw (wt_lt hw)
  refine T_seq fun K1 hK1 => ?_
  refine T_region ?_
  refine L_y (y_move rfl) rfl ?_
  refine L_y (y_makeFunc rfl rfl) rfl ?_
  refine L_y (y_assign rfl) rfl ?_
  refine L_nil ?_
  refine hK1 _ _ ?_
  refine T_seq fun K2 hK2 => ?_
  refine T_region ?_
  refine L_y (y_assign rfl) rfl ?_
  refine L_nil ?_
  refine hK2 _ _ ?_
  refine T_block ?_
  refine T_loop1 [(1, _), (4, _)] (fun (k : Nat) => [(5, .int .i64 (24 - 8 * (k : Int)))]) (fun (k : Nat) => 4 - k) (fun (k : Nat) (w : World) => k ≤ 4 ∧ ∃ A1 n1 c1, St w0 (wt g A n c l).dom [wt g A1 n1 c1 (l ++ (tl x 4).take k)] w) 0 (Sub.cons rfl (by first | rfl | exact congrArg (Value.int _) (by omega)) (Sub.nil _)) (Sub.cons rfl rfl (Sub.cons rfl rfl (Sub.nil _))) ?_ ?_
  ·
    exact ⟨Nat.zero_le _, _, _, _, by simpa using S0⟩
  ·
    intro k w1 hrel
    obtain ⟨hk, A1, n1, c1, S1⟩ := hrel
    refine T_seq fun K3 hK3 => ?_
    refine T_seq fun K4 hK4 => ?_
    refine T_region ?_
    refine L_y (y_move rfl) rfl ?_
    refine L_y (y_geq rfl rfl) rfl ?_
    refine L_nil ?_
    refine hK4 _ _ ?_
    refine T_cond rfl (fun h9 => ?_) (fun h9 => ?_)
    ·
      refine T_skip ?_
      refine hK3 _ _ ?_
      refine T_seq fun K5 hK5 => ?_
      refine T_block ?_
      refine T_region ?_
      refine L_y (y_move rfl) rfl ?_
      refine L_y (y_move rfl) rfl ?_
      refine L_y (y_move rfl) rfl ?_
      refine L_y (y_conv is3 Try.underlying162 rfl (u64w (by omega))) rfl ?_
      refine L_y (y_shr rfl rfl (by omega) (shr24 x k (by omega))) rfl ?_
      refine L_y (y_conv is60 Try.underlying5 rfl (byteOf _)) rfl ?_
      refine L_o (o_callv rfl Try.func154 rfl rfl (wbyte g A1 n1 c1 (l ++ (tl x 4).take k) (UInt8.ofNat (x / 256 ^ (4 - 1 - k) % 256)) w1 (S1.get 0 rfl) (by simp [length_tl]; omega)) rfl rfl (fun d' hd => by cases hd <;> rfl) ?_)
      rintro e2 w2 ⟨v2, rfl, ⟨A2, n2, c2, T2⟩⟩
      refine ⟨_, rfl, ?_⟩
      have S2 := S1.turn 0 rfl T2
      refine L_nil ?_
      refine hK5 _ _ ?_
      refine T_region ?_
      refine L_y (y_move rfl) rfl ?_
      refine L_y (y_sub rfl rfl (i64w (by omega))) rfl ?_
      refine L_y (y_assign rfl) rfl ?_
      refine L_nil ?_
      refine ⟨k + 1, by omega, ⟨by omega, _, _, _, by rw [tl_take x 4 k (by omega), ← List.append_assoc]; exact S2⟩, ?_⟩
      exact (Sub.cons rfl (congrArg (Value.int _) (by omega)) (Sub.cons rfl rfl (Sub.cons rfl rfl (Sub.nil _))))
    ·
      have hk4 : k = 4 := by omega
      subst hk4
      refine T_exit ?_
      first | refine end0 (fn := Try.f111) rfl ?_ | (simp only [thenQ, inB, if_true]; refine end0 (fn := Try.f111) rfl ?_)
      exact ⟨_, rfl, A1, n1, c1, by simpa [List.take_of_length_le, length_tl] using S1.turned1 0 rfl⟩


theorem w8 (y : Nat) : IntKind.u8.wrap (y : Int) = ((y % 256 : Nat) : Int) := by
  rw [IntKind.wrap_u8]
  omega
set_option maxRecDepth 100000 in
theorem wbytes (g : Nat) (A : Option Addr) (n c : Nat) (l : List UInt8) (w0 : World) (hw : (wt g A n c l).holds w0) (hn : l.length ≤ 70368744177000) :
    Calls Try.prog 112 #[.pointer (some ⟨g, 0, none⟩)] w0 fun e w' => ∃ u, e = .returned u ∧ Like w0 w' ∧ ∃ A' m c', u = .slice A' m c' ∧ w'.ownsRow w0.heap.size 5 1 (.slice A' m c') m (bL l) := by
  refine enter1 (env := [(0, .pointer (some ⟨g, 0, none⟩))]) [.pointer (some ⟨g, 0, none⟩)] Try.func112 rfl Try.ntmps112 rfl rfl ?_
  have hln := wt_len hw; have S0 := St.start w0 noM
  refine T_seq fun K1 hK1 => ?_
  refine T_region ?_
  refine L_y (y_assign rfl) rfl ?_
  refine L_nil ?_
  refine hK1 _ _ ?_
  refine T_seq fun K2 hK2 => ?_
  refine T_seq fun K3 hK3 => ?_
  refine T_region ?_
  refine L_y (y_move rfl) rfl ?_
  refine L_y (y_peqn Try.underlying173 rfl) rfl ?_
  refine L_y (y_move rfl) rfl ?_
  refine L_gyes rfl rfl ?_
  refine L_y (y_move rfl) rfl ?_
  refine L_gyes rfl rfl ?_
  refine L_y (y_nilp rfl) rfl ?_
  refine L_gyes rfl rfl ?_
  refine L_y (y_fieldA 0 Try.underlying216 rfl sz27 rfl rfl rfl) rfl ?_
  refine L_gyes rfl rfl ?_
  refine L_y (y_ldc Try.underlying27 rfl rfl (((S0.rdB hw.1).cell _).trans (show (#[Value.slice A n c] : Array Value)[0]? = some (Value.slice A n c) from rfl))) rfl ?_
  refine L_gyes rfl rfl ?_
  refine L_y (y_len Try.underlying27 rfl) rfl ?_
  refine L_gyes rfl rfl ?_
  refine L_y (y_eql rfl rfl) rfl ?_
  refine L_y ((by first | exact y_pickT rfl rfl | exact y_pickF rfl rfl)) rfl ?_
  refine L_nil ?_
  refine hK3 _ _ ?_
  refine T_cond rfl (fun h12 => ?_) (fun h12 => ?_)
  ·
    refine T_seq fun K4 hK4 => ?_
    refine T_region ?_
    refine L_y (y_assign rfl) rfl ?_
    refine L_nil ?_
    refine hK4 _ _ ?_
    refine T_ret ?_
    repeat (first | with_reducible refine up_then ?_ | with_reducible refine up_in ?_)
    refine ret1 rfl rfl ?_
    first | exact ⟨_, rfl, S0.like0, none, 0, 0, rfl, by have hn0 : n = 0 := (by omega); subst hn0; have hl0 := List.length_eq_zero_iff.1 hln; subst hl0; exact ⟨by simp [bL], .inl ⟨rfl, rfl⟩⟩⟩ | exact ⟨_, rfl, S0.like0, _, _, _, rfl, by have := S0.own 0 rfl; simpa using this⟩
  ·
    refine T_skip ?_
    refine hK2 _ _ ?_
    refine T_seq fun K5 hK5 => ?_
    refine T_zed [0, 1, 2, 3, 4, 6, 7, 8, 9, 5] 10 [(0, 1), (1, 1), (2, 1), (3, 1), (4, 1), (6, 1), (7, 1), (8, 1), (9, 1), (5, 2), (10, 3), (11, 3)] hmix (by kernel_rfl) fun w1 l1 => ?_
    have S1 := S0.like l1
    refine ZA_B (Like w1) (Like.refl _) ?_
    refine ZB_y rfl (y_move rfl) rfl ?_
    refine ZB_y rfl (y_nilp rfl) rfl ?_
    refine ZB_y rfl (y_fieldA 0 Try.underlying216 rfl sz27 rfl rfl rfl) rfl ?_
    refine ZB_y rfl (y_ldc Try.underlying27 rfl rfl (((S1.rdB hw.1).cell _).trans (show (#[Value.slice A n c] : Array Value)[0]? = some (Value.slice A n c) from rfl))) rfl ?_
    refine ZB_y rfl (y_len Try.underlying27 rfl) rfl ?_
    refine ZB_y rfl (y_move rfl) rfl ?_
    refine ZB_y rfl (y_nilp rfl) rfl ?_
    refine ZB_y rfl (y_fieldA 0 Try.underlying216 rfl sz27 rfl rfl rfl) rfl ?_
    refine ZB_y rfl (y_ldc Try.underlying27 rfl rfl (((S1.rdB hw.1).cell _).trans (show (#[Value.slice A n c] : Array Value)[0]? = some (Value.slice A n c) from rfl))) rfl ?_
    refine ZB_o rfl (o_makeL te27 rfl S1 rfl rfl inferInstance inferInstance rfl (by omega) (by omega) (by omega) fun b2 w2 l2 S2 => ?_)
    have q2 := l2
    refine ⟨q2, ?_⟩
    refine ZB_c rfl (o_app te27 S2 0 rfl rfl rfl (S2.rd (rs_of_row hw.2)) (bL_one _) rfl (by omega) (by omega) fun A3 c3 w3 S3 => ?_)
    refine ZA_oy rfl (y_assign rfl) rfl ?_
    refine ZA_nil ?_
    refine hK5 _ _ ?_
    refine T_ret ?_
    repeat (first | with_reducible refine up_then ?_ | with_reducible refine up_in ?_)
    refine ret1 rfl rfl ?_
    first | exact ⟨_, rfl, S3.like0, none, 0, 0, rfl, by have hn0 : n = 0 := (by omega); subst hn0; have hl0 := List.length_eq_zero_iff.1 hln; subst hl0; exact ⟨by simp [bL], .inl ⟨rfl, rfl⟩⟩⟩ | exact ⟨_, rfl, S3.like0, _, _, _, rfl, by have := S3.own 0 rfl; simpa using this⟩
end Go.Proofs.Ytgaklngnfecdaaa.Oct


/-
  The document: Big, Var, Text, Same.
-/
namespace Go.Proofs.Ytgaklngnfecdaaa.Oct
open Go.RowKit Zk Zx
set_option linter.unusedVariables false
set_option linter.unusedSimpArgs false

theorem byt_inj (l k : List UInt8) : decide ((⟨l.toArray⟩ : ByteArray) = ⟨k.toArray⟩) = decide (l = k) := by
  by_cases h : l = k
  · subst h; simp
  · have : (⟨l.toArray⟩ : ByteArray) ≠ ⟨k.toArray⟩ := fun e => h (by simpa using e)
    simp [h]


set_option maxRecDepth 100000 in
theorem same (A B : Option Addr) (n c m d : Nat) (a b : List UInt8) (w0 : World) (ha : Rs w0 1 A n c (bL a)) (hb : Rs w0 1 B m d (bL b)) :
    Calls Try.prog 18 #[.slice A n c, .slice B m d] w0 fun e w' => ∃ u, e = .returned u ∧ Like w0 w' ∧ u = .bool (decide (a = b)) := by
  refine enter1 (env := [(0, .slice A n c), (1, .slice B m d)]) [.slice A n c, .slice B m d] Try.func18 rfl Try.ntmps18 rfl rfl ?_
  have S0 := St.start w0 noM
  refine T_seq fun K1 hK1 => ?_
  refine T_region ?_
  refine L_y (y_assign rfl) rfl ?_
  refine L_nil ?_
  refine hK1 _ _ ?_
  refine T_seq fun K2 hK2 => ?_
  refine T_region ?_
  refine L_y (y_move rfl) rfl ?_
  refine L_y (y_bstr Try.underlying27 Try.underlying5 Try.underlying9 rfl (S0.rd ha)) rfl ?_
  refine L_y (y_move rfl) rfl ?_
  refine L_y (y_bstr Try.underlying27 Try.underlying5 Try.underlying9 rfl (S0.rd hb)) rfl ?_
  refine L_y (y_seql rfl rfl) rfl ?_
  refine L_y (y_assign rfl) rfl ?_
  refine L_nil ?_
  refine hK2 _ _ ?_
  refine T_ret ?_
  repeat (first | with_reducible refine up_then ?_ | with_reducible refine up_in ?_)
  refine ret1 rfl rfl ?_
  exact ⟨_, rfl, S0.like0, by rw [byt_inj]⟩


end Go.Proofs.Ytgaklngnfecdaaa.Oct


/-
  Numbers and their digits; commits: plain laws.
-/
namespace Go.Proofs.Ytgaklngnfecdaaa.Rev
open Go.RowKit Zk Zx
open Oid (idf hexL)
open Tre (nmOk)
set_option linter.unusedVariables false
set_option linter.unusedSimpArgs false
/-! ### digits -/
def dig (n : Nat) : UInt8 := UInt8.ofNat (48 + n % 10)
theorem dig_nat (n : Nat) : (dig n).toNat = 48 + n % 10 := by
  unfold dig
  rw [UInt8.toNat_ofNat']
  omega
def dgt (n : Nat) : List UInt8 := if h : n < 10 then [dig n] else dgt (n / 10) ++ [dig n]
termination_by n
/-- Nothing for nought. -/
def dg0 (n : Nat) : List UInt8 := if n = 0 then [] else dgt n
theorem dgt_eq (n : Nat) : dgt n = dg0 (n / 10) ++ [dig n] := by
  rw [dgt]
  split
  · rename_i h
    have : n / 10 = 0 := by omega
    rw [dg0, if_pos this]
    rfl
  · rename_i h
    rw [dg0, if_neg (by omega)]
theorem dg0_step (n : Nat) (h : 0 < n) : dg0 n = dg0 (n / 10) ++ [dig n] := by
  rw [dg0, if_neg (by omega), dgt_eq]
theorem dg0_zero : dg0 0 = [] := by rw [dg0, if_pos rfl]
theorem dg0_len : ∀ (k n : Nat), n < 10 ^ k → (dg0 n).length ≤ k
  | 0, n, h => by
    have : n = 0 := by simpa using h
    rw [this, dg0_zero]
    exact Nat.le_refl 0
  | k + 1, n, h => by
    by_cases h0 : n = 0
    · rw [h0, dg0_zero]; exact Nat.zero_le _
    · rw [dg0_step n (by omega), List.length_append]
      have := dg0_len k (n / 10) (by rw [Nat.pow_succ] at h; omega)
      simp only [List.length_cons, List.length_nil]
      omega
theorem dgt_len (k n : Nat) (h : n < 10 ^ (k + 1)) : (dgt n).length ≤ k + 1 := by
  rw [dgt_eq, List.length_append]
  have := dg0_len k (n / 10) (by rw [Nat.pow_succ] at h; omega)
  simp only [List.length_cons, List.length_nil]
  omega
/-- A number's digits; none below nought. -/
def digS (n : Int) : List UInt8 := if n < 0 then [] else dgt n.toNat
theorem digS_nat (n : Nat) : digS (n : Int) = dgt n := by
  rw [digS, if_neg (by omega), Int.toNat_natCast]
theorem digS_len {n : Int} (h : n ≤ 9223372036854775807) : (digS n).length ≤ 19 := by
  unfold digS
  split
  · exact Nat.zero_le _
  · exact dgt_len 18 _ (by omega)
/-! ### a number of digits -/
def isD (c : UInt8) : Bool := decide (48 ≤ c.toNat) && decide (c.toNat ≤ 57)
def numV (l : List UInt8) : Nat := l.foldl (fun n c => n * 10 + (c.toNat - 48)) 0
theorem numV_snoc (l : List UInt8) (c : UInt8) : numV (l ++ [c]) = numV l * 10 + (c.toNat - 48) := by
  unfold numV
  rw [List.foldl_append]
  rfl
theorem isD_lo {c : UInt8} (h : isD c = true) : 48 ≤ c.toNat ∧ c.toNat ≤ 57 := by
  unfold isD at h
  rwa [Bool.and_eq_true, decide_eq_true_eq, decide_eq_true_eq] at h
theorem fold_lt : ∀ (l : List UInt8) (n : Nat), l.all isD = true → l.foldl (fun n c => n * 10 + (c.toNat - 48)) n < (n + 1) * 10 ^ l.length
  | [], n, _ => by simp
  | c :: l, n, h => by
    rw [List.all_cons, Bool.and_eq_true] at h
    have h1 := isD_lo h.1
    have h2 := fold_lt l (n * 10 + (c.toNat - 48)) h.2
    rw [List.foldl_cons, List.length_cons, Nat.pow_succ]
    have h3 : (n * 10 + (c.toNat - 48) + 1) * 10 ^ l.length ≤ (n + 1) * 10 * 10 ^ l.length := Nat.mul_le_mul_right _ (by omega)
    have h4 : (n + 1) * (10 ^ l.length * 10) = (n + 1) * 10 * 10 ^ l.length := by rw [Nat.mul_comm (10 ^ l.length) 10, Nat.mul_assoc]
    omega
theorem numV_lt (l : List UInt8) (h : l.all isD = true) : numV l < 10 ^ l.length := by
  have := fold_lt l 0 h
  unfold numV
  omega
/-- Is it one that Number takes? -/
def numOk (l : List UInt8) : Bool := decide (1 ≤ l.length ∧ l.length ≤ 15 ∧ ¬ (l.getD 0 0 = 48 ∧ 1 < l.length)) && l.all isD
end Go.Proofs.Ytgaklngnfecdaaa.Rev


/-
  Pointers and bare addresses; a pointer against itself. General; nothing here names a program.
-/
namespace Go.Proofs.Ytgaklngnfecdaaa.Zx
open Go.RowKit Zk
set_option linter.unusedVariables false
set_option linter.unusedSimpArgs false
section
variable {P : Program} {S : World → Prop} {env : Env} {w w0 : World} {dst : Option Tmp} {ty : TypeId} {pos : String} {after : Array Edge} {g : Option (Nat × Bool)}
theorem blk_shape {w' : World} {b t : Nat} {cs : Array Value} (h : Blk w b t cs) (hl : Like w w') : w'.shape? b = some (t, cs.size) := by
  have h1 : w'.heap[b]? = some (.cells cs t (0, 0)) := (hl.block b h.lt).trans h
  simp [World.shape?, h1]
theorem y_toU {x : Operand} {src dt T b t : Nat} {cs : Array Value} {j : TypeInfo} (hs : P.underlying src = some (.pointer T)) (hd : P.underlying dt = some .unsafePointer) (hj : P.info? T = some j) (hz : j.size ≠ 0)
    (hx : ev env x = some (.pointer (some ⟨b, 0, none⟩))) (hb : Blk w b t cs) (hc : 0 < cs.size) : Y P (Like w) env ⟨dst, .convert src dt x, ty, pos, after, g⟩ (.pointer (some ⟨b, 0, none⟩)) := fun N a w' ha hl => by
  have h1 := Go.Lib.run_to_unsafe (P := P) w' ⟨b, 0, none⟩ hs hd hj hz (blk_shape hb hl) hc
  simp only [execOp, ha.eval hx, Sem.run_bind, h1, Result.andThen_ok, Sem.run_pure]
theorem y_fromU {x : Operand} {src dt T b t : Nat} {cs : Array Value} {j : TypeInfo} (hs : P.underlying src = some .unsafePointer) (hd : P.underlying dt = some (.pointer T)) (hj : P.info? T = some j)
    (hx : ev env x = some (.pointer (some ⟨b, 0, none⟩))) (hb : Blk w b t cs) (hlies : liesAt P P.depth t (cs.size / P.cellsOf t) 0 T 1 = true) : Y P (Like w) env ⟨dst, .convert src dt x, ty, pos, after, g⟩ (.pointer (some ⟨b, 0, none⟩)) := fun N a w' ha hl => by
  have h1 := Go.Lib.run_from_unsafe (P := P) w' ⟨b, 0, none⟩ hs hd hj (blk_shape hb hl) hlies
  simp only [execOp, ha.eval hx, Sem.run_bind, h1, Result.andThen_ok, Sem.run_pure]
theorem y_noesc {f : FuncId} {fn : Func} {x : Operand} {ts : Array TypeId} {v : Value} (hf : P.funcs[f]? = some fn) (hn : (fn.name == "runtime.NumGoroutine") = false) (hb : fn.body.isNone = true) (hx0 : Extern.findNext fn = none) (he : Extern.find fn = some Extern.AbiNoEscape.same)
    (hx : ev env x = some v) : Y P S env ⟨dst, .call { callee := .value (.func f), args := #[x], argTypes := ts }, ty, pos, after, g⟩ v := fun N a w' ha _ => by
  have h1 : a.eval (.func f) = .func (.func f) #[] #[] := rfl
  have h2 := run_callFunc_extern (P := P) hf hn hb hx0 he #[v] w'
  rw [Go.Lib.run_noEscape, Result.andThen_ok] at h2
  simp only [execOp, resolve, List.map_toArray, List.map_cons, List.map_nil, ha.eval hx, h1, Deferred.ofValue, invoke, Sem.run_bind, Sem.run_pure, Result.andThen_ok, Array.append_empty, Array.empty_append, h2]
theorem y_pneS {x y : Operand} {t e u : TypeId} {j : TypeInfo} {p : Addr} (ht : P.underlying t = some (.pointer e)) (hj : P.info? e = some j) (hx : ev env x = some (.pointer (some p))) (hy : ev env y = some (.pointer (some p))) :
    Y P S env ⟨dst, .binOp .neq t x y u, ty, pos, after, g⟩ (.bool false) := fun N a w' ha _ => by
  simp only [execOp, ha.eval hx, ha.eval hy, eqGuard, Sem.run_bind, Sem.run_pure, Result.andThen_ok, ite_self, Go.Lib.run_neq_ptr_same w' p ht hj]
end
end Go.Proofs.Ytgaklngnfecdaaa.Zx


/-
  append(b, s...), s a string. General; nothing here names a program.
-/
namespace Go.Proofs.Ytgaklngnfecdaaa.Zx
open Go.RowKit Zk
set_option linter.unusedVariables false
set_option linter.unusedSimpArgs false
section
variable {P : Program} {N : Nat} {Q : Post} {env : Env} {w w0 : World} {M : Nat → Prop} {rs : List Res} {K : Env → World → Prop} {d : Tmp} {ty : TypeId} {pos : String} {after : Array Edge} {g : Option (Nat × Bool)}
theorem o_appS {s x : Operand} {t u e : TypeId} {str : ByteArray} (TE : Elem P t e (.int .u8 0) 1 1) (hu : P.underlying u = some .string) (S : St w0 M rs w) (k : Nat) {A : Option Addr} {n c : Nat} {xs : List Value} (hk : rs[k]? = some (row e 1 A n c xs))
    (hs : ev env s = some (.slice A n c)) (hx : ev env x = some (.string str)) (hd : Nat.blt d N = true) (hbytes : n + str.size ≤ 140737488355328)
    (h : ∀ A2 c2 w', St w0 M (rs.set k (row e 1 A2 (n + str.size) c2 (xs ++ bL str.data.toList))) w' → K ((d, .slice A2 (n + str.size) c2) :: env) w') :
    O P N Q ⟨some d, .call { callee := .builtin .append, args := #[s, x], argTypes := #[t, u] }, ty, pos, after, g⟩ env w K := fun a ha => by
  have hown : w.ownsRow 0 e 1 (.slice A n c) n xs := S.get k hk
  obtain ⟨i, hi, hz, hsize, hby⟩ := info_parts TE.hi
  obtain ⟨v', w', hrun, h2, h3, h4⟩ := Go.Lib.run_append_own_string (P := P) w 0 t u ty e i TE.ht hu hi hz hsize hby _ n xs hown str (by unfold maxLen; omega) hbytes (Nat.zero_le _)
  have hb : v'.ownBlock = (Value.slice A n c).ownBlock ∨ v'.ownBlock = some w.heap.size := by
    rcases hown.2 with ⟨h5, h6⟩ | ⟨b, cap, cur, h5, _, hg, hnc, hcm, hcs, hxs⟩
    · cases h5
      rcases Nat.eq_zero_or_pos str.size with q | q
      · left
        rw [h4.2 ⟨rfl, q⟩]
      · have hr := run_append_nil_string (P := P) w t u ty e i (.int .u8 0) TE.ht hu hi hz str q (by omega) (by rw [hby]; omega)
        rw [hrun] at hr
        right
        injection hr with hr1 hr2
        rw [hr1]
        rfl
    · cases h5
      by_cases hroom : n + str.size ≤ c
      · have hr := Go.Lib.run_append_room_string (P := P) w t u ty e i TE.ht hu hi hsize b n c cur hg str hroom (by omega)
        rw [hrun] at hr
        left
        injection hr with hr1 hr2
        rw [hr1]
        rfl
      · have holds : ∀ j u, xs[j]? = some u → w.cell? ((⟨b, 0, none⟩ : Addr).add j) = some u := hown.cells (g := b) rfl
        have hxl : xs.length = n * 1 := hown.1
        have hr := Go.Lib.run_append_grow_string (P := P) w t u ty e i (.int .u8 0) TE.ht hu hi hz ⟨b, 0, none⟩ n c xs (by rw [hsize]; exact hxl) holds str (by omega) (by omega) (by rw [hby]; exact growslice_fits (by omega) (by omega))
        rw [hrun] at hr
        right
        injection hr with hr1 hr2
        rw [hr1]
        rfl
  obtain ⟨A2, c2, rfl⟩ := own_form h2
  unfold Oper.wp execOp
  simp only [resolve, invoke, builtin, Sem.run_bind, Sem.run_pure, Result.andThen_ok, List.map_toArray, List.map_cons, List.map_nil, ha.eval hs, ha.eval hx, hrun]
  refine ⟨_, ha.put d _ hd, h A2 c2 w' ?_⟩
  refine S.upd k hk h3.os h3.tape h3.output h3.size (fun i hi hn => h3.block i hi (fun e => hn e.symm)) h2 fun i hi => ?_
  change (Value.slice A2 (n + str.size) c2).ownBlock = some i at hi
  rcases hb with hb | hb
  · left; rw [hb] at hi; exact hi
  · right
    rw [hb] at hi
    cases hi
    exact ⟨Nat.le_refl _, (h2.lt _ hb).2⟩
/-- A place in an array that lies in an element. -/
theorem y_idxAR {dst : Option Tmp} {Sp : World → Prop} {x i : Operand} {t e : TypeId} {A : Option Addr} {n c k0 k size len : Nat} {xs : List Value} {q : IntKind} {j : Int} (ht : P.underlying t = some (.array len e)) (hsz : (P.info? e).map (·.size) = some 1)
    (hx : ev env x = some (pRF A k0)) (hr : Rs w size A n c xs) (hn : 0 < n) (hi : ev env i = some (.int q j)) (hj : Nt j k) (hk : k < len) :
    Y P Sp env ⟨dst, .indexAddr t x i, ty, pos, after, g⟩ (pRF A (k0 + k)) := fun N a w' ha _ => by
  have hj' := hj.eq
  subst hj'
  obtain ⟨ad, rfl, hb, hcell⟩ := hr.rd.2 hn
  have h1 : (0 : Int) ≤ (k : Int) ∧ (k : Int) < (len : Int) := by omega
  simp only [execOp, ha.eval hx, ha.eval hi, pRF, Option.map_some, Instr.indexAt, Instr.sureAddr, asIntOf, Sem.run_bind, run_underlying ht, Sem.run_pure, Result.andThen_ok, h1, and_self, if_true, sizeOf_run hsz, Int.toNat_natCast, add_of_add, Nat.mul_one]
end
end Go.Proofs.Ytgaklngnfecdaaa.Zx


/-
  strings.Builder.
-/
namespace Go.Proofs.Ytgaklngnfecdaaa.Rev
open Go.RowKit Zk Zx
open Oid (idf hexL)
open Tre (nmOk)
set_option linter.unusedVariables false
set_option linter.unusedSimpArgs false

theorem hi106 : ∃ j, Try.prog.info? 106 = some j ∧ j.size = 2 := by
  have h := sz106
  obtain ⟨j, h1, h2⟩ := Option.map_eq_some_iff.1 h
  exact ⟨j, h1, h2⟩
theorem lies106 : liesAt Try.prog Try.prog.depth 106 ((#[Value.pointer none, Value.slice none 0 0] : Array Value).size / Try.prog.cellsOf 106) 0 106 1 = true := by kernel_rfl
/-- A Builder at block b that bears l. -/
def bld (b : Nat) (p : Option Addr) (A : Option Addr) (n c : Nat) (l : List UInt8) : Res := both (blk b 106 #[.pointer p, .slice A n c]) (row 5 1 A n c (bL l))
theorem bld_apart {w : World} {b n c : Nat} {p A : Option Addr} {l : List UInt8} (h : (bld b p A n c l).holds w) : ∀ i, (blk b 106 #[.pointer p, .slice A n c]).dom i → ¬ (row 5 1 A n c (bL l)).dom i := fun i hi hr => by
  have hi' : i = b := hi
  subst hi'
  exact own_blk_ne (e := 5) h.2 h.1 (by decide) hr
theorem bld_lt {w : World} {b n c : Nat} {p A : Option Addr} {l : List UInt8} (h : (bld b p A n c l).holds w) : ∀ i, (bld b p A n c l).dom i → i < w.heap.size := fun i hi => by
  rcases hi with hi | hi
  · have hi' : i = b := hi
    subst hi'
    exact Blk.lt h.1
  · exact (World.ownsRow.lt h.2 i hi).2
theorem bld_len {w : World} {b n c : Nat} {p A : Option Addr} {l : List UInt8} (h : (bld b p A n c l).holds w) : l.length = n := by
  have := h.2.1
  simpa using this


theorem bld_of {w w' : World} {r : Res} {b n c : Nat} {p A : Option Addr} {l : List UInt8} {X : Array Value} {ys : List Value} (h : Turned w w' r (both (blk b 106 X) (row 5 1 A n c ys))) (hX : X = #[.pointer p, .slice A n c]) (hy : ys = bL l) : Turned w w' r (bld b p A n c l) := by
  subst hX
  subst hy
  exact h


set_option maxRecDepth 100000 in
theorem ccheck (b : Nat) (p : Option Addr) (v : Value) (w0 : World) (hp : p = none ∨ p = some ⟨b, 0, none⟩) (hw : Blk w0 b 106 #[.pointer p, v]) :
    Calls Try.prog 97 #[.pointer (some ⟨b, 0, none⟩)] w0 fun e w' => ∃ u, e = .returned u ∧ Turned w0 w' (blk b 106 #[.pointer p, v]) (blk b 106 #[.pointer (some ⟨b, 0, none⟩), v]) := by
  refine enter1 (env := [(0, .pointer (some ⟨b, 0, none⟩))]) [.pointer (some ⟨b, 0, none⟩)] Try.func97 rfl Try.ntmps97 rfl rfl ?_
  obtain ⟨j, hj, hjs⟩ := hi106; have S0 := St.borrow1 (blk b 106 #[.pointer p, v]) hw (fun i hi => by have hi2 : i = b := hi; subst hi2; exact hw.lt)
  refine T_seq fun K1 hK1 => ?_
  refine T_region ?_
  refine L_y (y_move rfl) rfl ?_
  refine L_y (y_nilp rfl) rfl ?_
  refine L_y (y_fieldA 0 Try.underlying106 rfl sz104 rfl rfl rfl) rfl ?_
  refine L_y (y_ldc Try.underlying104 rfl rfl (((S0.blk 0 rfl).cell _).trans (by rfl))) rfl ?_
  refine L_y (y_peqn Try.underlying104 rfl) rfl ?_
  refine L_nil ?_
  refine hK1 _ _ ?_
  refine T_condB rfl (fun h6 => ?_) (fun h6 => ?_)
  ·
    obtain rfl : p = none := by cases p with | none => rfl | some a => cases h6
    refine T_region ?_
    refine L_y (y_move rfl) rfl ?_
    refine L_y (y_move rfl) rfl ?_
    refine L_y (y_toU Try.underlying104 Try.underlying201 hj (by rw [hjs]; decide) rfl (S0.blk 0 rfl) (Nat.zero_lt_succ 1)) rfl ?_
    refine L_y (y_noesc Try.func140 rfl rfl (by kernel_rfl) (by kernel_rfl) rfl) rfl ?_
    refine L_y (y_fromU Try.underlying201 Try.underlying104 hj rfl (S0.blk 0 rfl) (by exact lies106)) rfl ?_
    refine L_y (y_nilp rfl) rfl ?_
    refine L_y (y_fieldA 0 Try.underlying106 rfl sz104 rfl rfl rfl) rfl ?_
    refine L_o (o_st1 S0 0 rfl rfl rfl rfl sz104 (by simp; done) fun w1 S1 => ?_)
    refine L_nil ?_
    first | refine end0 (fn := Try.f97) rfl ?_ | (simp only [thenQ, inB, if_true]; refine end0 (fn := Try.f97) rfl ?_)
    exact ⟨_, rfl, S1.turned1 0 rfl⟩
  ·
    obtain rfl : p = some ⟨b, 0, none⟩ := hp.resolve_left (fun e => by subst e; cases h6)
    refine T_seq fun K2 hK2 => ?_
    refine T_region ?_
    refine L_y (y_move rfl) rfl ?_
    refine L_y (y_nilp rfl) rfl ?_
    refine L_y (y_fieldA 0 Try.underlying106 rfl sz104 rfl rfl rfl) rfl ?_
    refine L_y (y_ldc Try.underlying104 rfl rfl (((S0.blk 0 rfl).cell _).trans (by rfl))) rfl ?_
    refine L_y (y_move rfl) rfl ?_
    refine L_y (y_pneS Try.underlying104 hj rfl rfl) rfl ?_
    refine L_nil ?_
    refine hK2 _ _ ?_
    refine T_condB rfl (fun h19 => ?_) (fun h19 => ?_)
    ·
      cases h19
    ·
      refine T_skip ?_
      first | refine end0 (fn := Try.f97) rfl ?_ | (simp only [thenQ, inB, if_true]; refine end0 (fn := Try.f97) rfl ?_)
      exact ⟨_, rfl, S0.turned1 0 rfl⟩


set_option maxRecDepth 100000 in
theorem wstr0 (b : Nat) (p A : Option Addr) (n c : Nat) (l : List UInt8) (s : ByteArray) (w0 : World) (hp : p = none ∨ p = some ⟨b, 0, none⟩) (hw : (bld b p A n c l).holds w0) (hn : n + s.size ≤ 140737488355328) :
    Calls Try.prog 53 #[.pointer (some ⟨b, 0, none⟩), .string s] w0 fun e w' => ∃ u, e = .returned u ∧ ∃ A' c', Turned w0 w' (bld b p A n c l) (bld b (some ⟨b, 0, none⟩) A' (n + s.size) c' (l ++ s.data.toList)) ∧ u = .tuple #[.int .i64 (s.size : Int), .nilIface] := by
  refine enter1 (env := [(0, .pointer (some ⟨b, 0, none⟩)), (1, .string s)]) [.pointer (some ⟨b, 0, none⟩), .string s] Try.func53 rfl Try.ntmps53 rfl rfl ?_
  have S0 := St.borrow2 (blk b 106 #[.pointer p, .slice A n c]) (row 5 1 A n c (bL l)) hw.1 hw.2 (bld_lt hw) (bld_apart hw)
  refine T_seq fun K1 hK1 => ?_
  refine T_region ?_
  refine L_y (y_assign rfl) rfl ?_
  refine L_y (y_assign rfl) rfl ?_
  refine L_nil ?_
  refine hK1 _ _ ?_
  refine T_seq fun K2 hK2 => ?_
  refine T_region ?_
  refine L_y (y_move rfl) rfl ?_
  refine L_o (o_call Try.func97 rfl rfl (ccheck b p _ w0 hp (S0.get 0 rfl)) rfl rfl ?_)
  rintro e1 w1 ⟨v1, rfl, T1⟩
  refine ⟨_, rfl, ?_⟩
  have S1 := S0.turn 0 rfl T1
  refine L_nil ?_
  refine hK2 _ _ ?_
  refine T_seq fun K3 hK3 => ?_
  refine T_region ?_
  refine L_y (y_move rfl) rfl ?_
  refine L_y (y_move rfl) rfl ?_
  refine L_y (y_nilp rfl) rfl ?_
  refine L_y (y_fieldA 1 Try.underlying106 rfl sz27 rfl rfl rfl) rfl ?_
  refine L_y (y_ldc Try.underlying27 rfl rfl (((S1.blk 0 rfl).cell _).trans (by rfl))) rfl ?_
  refine L_y (y_move rfl) rfl ?_
  refine L_o (o_appS te27 Try.underlying9 S1 1 rfl rfl rfl rfl (by omega) fun A2 c2 w2 S2 => ?_)
  refine L_y (y_nilp rfl) rfl ?_
  refine L_y (y_fieldA 1 Try.underlying106 rfl sz27 rfl rfl rfl) rfl ?_
  refine L_o (o_st1 S2 0 rfl rfl rfl rfl sz27 (by simp; done) fun w3 S3 => ?_)
  refine L_nil ?_
  refine hK3 _ _ ?_
  refine T_seq fun K4 hK4 => ?_
  refine T_region ?_
  refine L_y (y_move rfl) rfl ?_
  refine L_y (y_lens Try.underlying9 rfl) rfl ?_
  refine L_y (y_assign rfl) rfl ?_
  refine L_y (y_assign rfl) rfl ?_
  refine L_nil ?_
  refine hK4 _ _ ?_
  refine T_ret ?_
  repeat (first | with_reducible refine up_then ?_ | with_reducible refine up_in ?_)
  refine ret2 rfl rfl rfl ?_
  exact ⟨_, rfl, _, _, bld_of (S3.turned2 0 1 rfl rfl) rfl (by rw [bL_app]), rfl⟩
end Go.Proofs.Ytgaklngnfecdaaa.Rev


/-
  strings.Builder.String; lines.
-/
namespace Go.Proofs
open Go.Shelf Go.RowKit
def Ytgaklngnfecdaaa.bstrL_ren : Go.Shelf.Ren := ⟨fun | 169 => 56 | n => n, fun | 70 => 104 | 9 => 9 | 0 => 0 | 72 => 106 | 37 => 27 | 127 => 163 | 3 => 3 | 5 => 5 | n => n, fun | n => n⟩
theorem Ytgaklngnfecdaaa.bstrL : Go.Proofs.Lays.n169 Try.prog Ytgaklngnfecdaaa.bstrL_ren := {
  mixed := by kernel_rfl,
  f169 := Try.func56.trans (congrArg some (by kernel_rfl)),
  t0 := Try.underlying0,
  a0 := Try.isAgg0,
  z0 := Try.sizeOf0,
  v0 := Try.zeroValue0,
  t3 := Try.underlying3,
  a3 := Try.isAgg3,
  z3 := Try.sizeOf3,
  v3 := Try.zeroValue3,
  t9 := Try.underlying9,
  a9 := Try.isAgg9,
  z9 := Try.sizeOf9,
  v9 := Try.zeroValue9,
  t37 := Try.underlying27,
  a37 := Try.isAgg27,
  z37 := Try.sizeOf27,
  v37 := Try.zeroValue27,
  t70 := Try.underlying104,
  a70 := Try.isAgg104,
  z70 := Try.sizeOf104,
  v70 := Try.zeroValue104,
  t72 := Try.underlying106,
  a72 := Try.isAgg106,
  z72 := Try.sizeOf106,
  v72 := Try.zeroValue106,
  t127 := Try.underlying163,
  a127 := Try.isAgg163,
  z127 := Try.sizeOf163,
  v127 := Try.zeroValue163 }
end Go.Proofs
namespace Go.Proofs.Ytgaklngnfecdaaa.Rev
open Go.Shelf Go.RowKit Zk Zx
open Oid (idf hexL)
open Tre (nmOk)
set_option linter.unusedVariables false
set_option linter.unusedSimpArgs false

theorem bstrX : Builder.Extra Try.prog Ytgaklngnfecdaaa.bstrL_ren := { sizeBuilder := by kernel_rfl, liesBuilder := by kernel_rfl, t5 := Try.underlying5, a5 := Try.isAgg5, z5 := Try.sizeOf5, v5 := Try.zeroValue5, infoByte := by kernel_rfl, cellsByte := by kernel_rfl, sizeByte := by kernel_rfl, neB5 := by decide }
theorem strB (b : Nat) (p A : Option Addr) (n c : Nat) (l : List UInt8) (w0 : World) (hp : p = none ∨ p = some ⟨b, 0, none⟩) (hw : (bld b p A n c l).holds w0) (hge : ∀ i, (bld b p A n c l).dom i → b ≤ i) :
    Calls Try.prog 56 #[.pointer (some ⟨b, 0, none⟩)] w0 fun e w' => ∃ u, e = .returned u ∧ Below b w0 w' ∧ u = .string ⟨l.toArray⟩ := by
  have hl := bld_len hw
  have hb : Lib.IsBuilder 106 5 b b (Lib.byteCells l) w0 := by
    have h1 : Lib.BuilderAt 106 5 b b (.pointer p) (Lib.byteCells l) w0 := by
      refine ⟨Nat.le_refl _, _, hw.1, ?_, fun h => bld_apart hw b rfl h⟩
      have h2 : w0.ownsRow 0 5 1 (.slice A n c) n (bL l) := hw.2
      rw [show (Lib.byteCells l).length = n by simp [Lib.byteCells, hl]]
      refine ⟨h2.1, h2.2.imp id fun ⟨g, cap, cur, h3, h4, h5⟩ => ⟨g, cap, cur, h3, hge g (.inr ?_), h5⟩⟩
      show (Value.slice A n c).ownBlock = some g
      rw [h3]
      rfl
    rcases hp with rfl | rfl
    · exact .inl h1
    · exact .inr h1
  exact (show Calls Try.prog 56 _ _ _ from Any.Builder_String_any Ytgaklngnfecdaaa.bstrL bstrX b b l w0 hb (Nat.le_of_lt (Blk.lt hw.1))).mono fun e w' ⟨h1, h2⟩ => ⟨_, h1, h2, rfl⟩
/-- Behind what may have turned all that is new from b on. -/
theorem past {w0 w w' : World} {rs : List Res} {b : Nat} (S : St w0 noM rs w) (h : Below b w w') (hb : w0.heap.size ≤ b) : St w0 noM [] w' :=
  (St.start w0 noM).like (Below.trans S.like0 (Below.mono h hb))
theorem strs_app (a b : List UInt8) : (⟨a.toArray⟩ : ByteArray) ++ ⟨b.toArray⟩ = ⟨(a ++ b).toArray⟩ := by
  symm
  apply ByteArray.ext
  simp
theorem bsz (l : List UInt8) : (⟨l.toArray⟩ : ByteArray).size = l.length := by simp [ByteArray.size]
theorem cat10 (l : List UInt8) : (⟨l.toArray⟩ : ByteArray) ++ ⟨#[10]⟩ = ⟨(l ++ [10]).toArray⟩ := strs_app l [10]
theorem cat32 (l : List UInt8) : (⟨l.toArray⟩ : ByteArray) ++ ⟨#[32]⟩ = ⟨(l ++ [32]).toArray⟩ := strs_app l [32]
theorem bsz32 : (⟨#[32]⟩ : ByteArray).size = 1 := rfl
theorem bsz10 : (⟨#[10]⟩ : ByteArray).size = 1 := rfl
/-- A line of a word. -/
def lineL (word s : List UInt8) : List UInt8 := word ++ [32] ++ s ++ [10]


set_option maxRecDepth 100000 in
theorem linec (a s : List UInt8) (w0 : World) (ha : a.length ≤ 10) (hs : s.length ≤ 1000) :
    Calls Try.prog 54 #[.string ⟨a.toArray⟩, .string ⟨s.toArray⟩] w0 fun e w' => ∃ u, e = .returned u ∧ Like w0 w' ∧ u = .string ⟨(lineL a s).toArray⟩ := by
  refine enter1 (env := [(0, .string ⟨a.toArray⟩), (1, .string ⟨s.toArray⟩)]) [.string ⟨a.toArray⟩, .string ⟨s.toArray⟩] Try.func54 rfl Try.ntmps54 rfl rfl ?_
  have S0 := St.start w0 noM
  refine T_seq fun K1 hK1 => ?_
  refine T_region ?_
  refine L_y (y_assign rfl) rfl ?_
  refine L_nil ?_
  refine hK1 _ _ ?_
  refine T_seq fun K2 hK2 => ?_
  refine T_region ?_
  refine L_y (y_move rfl) rfl ?_
  refine L_y (y_cat rfl rfl (by rw [bsz, bsz32]; omega)) rfl ?_
  rw [cat32]
  refine L_y (y_move rfl) rfl ?_
  refine L_y (y_cat rfl rfl (by simp only [bsz, List.length_append, List.length_cons, List.length_nil]; omega)) rfl ?_
  rw [strs_app]
  refine L_y (y_cat rfl rfl (by rw [bsz, bsz10, List.length_append, List.length_append]; simp only [List.length_cons, List.length_nil]; omega)) rfl ?_
  rw [cat10]
  refine L_y (y_assign rfl) rfl ?_
  refine L_nil ?_
  refine hK2 _ _ ?_
  refine T_ret ?_
  repeat (first | with_reducible refine up_then ?_ | with_reducible refine up_in ?_)
  refine ret1 rfl rfl ?_
  exact ⟨_, rfl, S0.like0, rfl⟩
end Go.Proofs.Ytgaklngnfecdaaa.Rev


/-
  Reverse.
-/
namespace Go.Proofs.Ytgaklngnfecdaaa.Rev
open Go.RowKit Zk Zx
open Oid (idf hexL)
open Tre (nmOk)
set_option linter.unusedVariables false
set_option linter.unusedSimpArgs false

/-- A list that is turned round from both ends inwards. -/
def RV (l : List UInt8) (k : Nat) (cur : List UInt8) : Prop := cur.length = l.length ∧ ∀ j, j < l.length → cur[j]? = if j < k ∨ l.length ≤ j + k then l[l.length - 1 - j]? else l[j]?
theorem RV.start (l : List UInt8) : RV l 0 l := ⟨rfl, fun j hj => by rw [if_neg (by omega)]⟩
theorem getD_q {l : List UInt8} {k : Nat} (h : k < l.length) : l[k]? = some (l.getD k 0) := by rw [List.getD_eq_getElem?_getD, List.getElem?_eq_getElem h]; rfl
theorem RV.step {l cur : List UInt8} {k : Nat} (h : RV l k cur) (hk : 2 * k + 1 < l.length) : RV l (k + 1) ((cur.set k (cur.getD (l.length - 1 - k) 0)).set (l.length - 1 - k) (cur.getD k 0)) := by
  obtain ⟨h1, h2⟩ := h
  refine ⟨by rw [List.length_set, List.length_set, h1], fun j hj => ?_⟩
  have ha := h2 k (by omega)
  have hb := h2 (l.length - 1 - k) (by omega)
  rw [if_neg (by omega), getD_q (by omega)] at ha
  rw [if_neg (by omega), getD_q (by omega)] at hb
  rw [List.getElem?_set, List.length_set]
  by_cases e1 : l.length - 1 - k = j
  · rw [if_pos e1, if_pos (by omega), if_pos (by omega), ha]
    congr 1
    omega
  · rw [if_neg e1, List.getElem?_set]
    by_cases e2 : k = j
    · rw [if_pos e2, if_pos (by omega), if_pos (by omega), hb]
      congr 1
      omega
    · rw [if_neg e2, h2 j hj]
      by_cases e3 : j < k ∨ l.length ≤ j + k
      · rw [if_pos e3, if_pos (by omega)]
      · rw [if_neg e3, if_neg (by omega)]
theorem RV.done {l cur : List UInt8} {k : Nat} (h : RV l k cur) (hk : l.length ≤ 2 * k + 1) : cur = l.reverse := by
  apply List.ext_getElem?
  intro j
  by_cases hj : j < l.length
  · rw [h.2 j hj, List.getElem?_reverse hj]
    split
    · rfl
    · congr 1
      omega
  · rw [List.getElem?_eq_none (by rw [h.1]; omega), List.getElem?_eq_none (by rw [List.length_reverse]; omega)]


theorem set_bL2 (l m : List UInt8) (k j : Nat) : (bL l).set k (.int .u8 (g8 m j)) = bL (l.set k (m.getD j 0)) := by
  unfold bL g8
  rw [List.map_set]
  rfl


set_option maxRecDepth 100000 in
theorem revers (A : Option Addr) (c : Nat) (l : List UInt8) (w0 : World) (hw : (row 5 1 A l.length c (bL l)).holds w0) :
    Calls Try.prog 62 #[.slice A l.length c] w0 fun e w' => ∃ u, e = .returned u ∧ Turned w0 w' (row 5 1 A l.length c (bL l)) (row 5 1 A l.length c (bL l.reverse)) := by
  refine enter1 (env := [(0, .slice A l.length c)]) [.slice A l.length c] Try.func62 rfl Try.ntmps62 rfl rfl ?_
  have hcap := ownsRow_cap hw; have S0 := St.borrow1 (row 5 1 A l.length c (bL l)) hw (fun i hi => (World.ownsRow.lt hw i hi).2)
  refine T_seq fun K1 hK1 => ?_
  refine T_region ?_
  refine L_y (y_move rfl) rfl ?_
  refine L_y (y_len Try.underlying27 rfl) rfl ?_
  refine L_y (y_sub rfl rfl (i64w (by omega))) rfl ?_
  refine L_y (y_assign rfl) rfl ?_
  refine L_y (y_assign rfl) rfl ?_
  refine L_nil ?_
  refine hK1 _ _ ?_
  refine T_block ?_
  refine T_loop2 [(0, _)] (fun (k : Nat) (cur : List UInt8) => [(2, .int .i64 (k : Int)), (3, .int .i64 ((l.length : Int) - 1 - (k : Int)))]) (fun (k : Nat) (cur : List UInt8) => l.length - k) (fun (k : Nat) (cur : List UInt8) (w : World) => (k ≤ l.length ∧ RV l k cur) ∧ St w0 (row 5 1 A l.length c (bL l)).dom [row 5 1 A l.length c (bL cur)] w) 0 l (Sub.cons rfl (by first | rfl | exact congrArg (Value.int _) (by omega)) (Sub.cons rfl (by first | rfl | exact congrArg (Value.int _) (by omega)) (Sub.nil _))) (Sub.cons rfl rfl (Sub.nil _)) ?_ ?_
  ·
    exact ⟨⟨by omega, RV.start l⟩, S0⟩
  ·
    intro k cur w1 hrel
    obtain ⟨⟨hk, hrv⟩, S1⟩ := hrel
    refine T_seq fun K2 hK2 => ?_
    refine T_seq fun K3 hK3 => ?_
    refine T_region ?_
    refine L_y (y_move rfl) rfl ?_
    refine L_y (y_move rfl) rfl ?_
    refine L_y (y_lss rfl rfl) rfl ?_
    refine L_nil ?_
    refine hK3 _ _ ?_
    refine T_cond rfl (fun h9 => ?_) (fun h9 => ?_)
    ·
      have hcl := hrv.1
      refine T_skip ?_
      refine hK2 _ _ ?_
      refine T_seq fun K4 hK4 => ?_
      refine T_block ?_
      refine T_zed [0, 1, 4, 5, 6, 7, 8, 9, 10, 11, 12] 13 [(2, 0), (3, 0), (0, 1), (1, 1), (4, 1), (5, 1), (6, 1), (7, 1), (8, 1), (9, 1), (10, 1), (11, 1), (12, 1), (13, 3), (14, 3), (15, 3)] hmix (by kernel_rfl) fun w2 l2 => ?_
      have S2 := S1.like l2
      refine ZA_y rfl (y_move rfl) rfl ?_
      refine ZA_y rfl (y_move rfl) rfl ?_
      refine ZA_B (Like w2) (Like.refl _) ?_
      refine ZB_y rfl (y_move rfl) rfl ?_
      refine ZB_y rfl (y_move rfl) rfl ?_
      refine ZB_y rfl (y_move rfl) rfl ?_
      refine ZB_y rfl (y_move rfl) rfl ?_
      refine ZB_y rfl (y_idx Try.underlying27 sz5 rfl rfl (by first | exact S2.row 0 rfl) (Nt.mk (by omega) : Nt _ (l.length - 1 - k)) (by omega)) rfl ?_
      refine ZB_yb rfl (y_ldb Try.underlying5 rfl rfl (by first | exact S2.row 0 rfl) (by omega)) rfl fun _ _ => ?_
      refine ZB_y rfl (y_move rfl) rfl ?_
      refine ZB_y rfl (y_move rfl) rfl ?_
      refine ZB_y rfl (y_idx Try.underlying27 sz5 rfl rfl (by first | exact S2.row 0 rfl) inferInstance (by omega)) rfl ?_
      refine ZB_yb rfl (y_ldb Try.underlying5 rfl rfl (by first | exact S2.row 0 rfl) (by omega)) rfl fun _ _ => ?_
      refine ZB_y rfl (y_idx Try.underlying27 sz5 rfl rfl (by first | exact S2.row 0 rfl) inferInstance (by omega)) rfl ?_
      refine ZB_c rfl (o_strow S2 0 rfl rfl rfl rfl sz5 (by omega) fun w3 S3 => ?_)
      refine ZA_oy rfl (y_idx Try.underlying27 sz5 rfl rfl (by first | exact S3.row 0 rfl) (Nt.mk (by omega) : Nt _ (l.length - 1 - k)) (by omega)) rfl ?_
      refine ZA_o rfl (o_strow S3 0 rfl rfl rfl rfl sz5 (by omega) fun w4 S4 => ?_)
      refine ZA_nil ?_
      refine hK4 _ _ ?_
      refine T_region ?_
      refine L_y (y_move rfl) rfl ?_
      refine L_y (y_add rfl rfl (i64w (by omega))) rfl ?_
      refine L_y (y_move rfl) rfl ?_
      refine L_y (y_sub rfl rfl (i64w (by omega))) rfl ?_
      refine L_y (y_assign rfl) rfl ?_
      refine L_y (y_assign rfl) rfl ?_
      refine L_nil ?_
      have S9 := S4.rowc 0 rfl (n' := l.length) (xs' := bL ((cur.set k (cur.getD (l.length - 1 - k) 0)).set (l.length - 1 - k) (cur.getD k 0))) rfl (by rw [set_bL2, set_bL2])
      refine ⟨k + 1, _, by omega, ⟨⟨by omega, hrv.step (by omega)⟩, S9⟩, ?_⟩
      exact (Sub.cons rfl (by first | rfl | exact congrArg (Value.int _) (by omega)) (Sub.cons rfl (by first | rfl | exact congrArg (Value.int _) (by omega)) (Sub.cons rfl rfl (Sub.nil _))))
    ·
      have hcl := hrv.done (by omega)
      refine T_exit ?_
      first | refine end0 (fn := Try.f62) rfl ?_ | (simp only [thenQ, inB, if_true]; refine end0 (fn := Try.f62) rfl ?_)
      rw [hcl] at S1
      exact ⟨_, rfl, S1.turned1 0 rfl⟩
end Go.Proofs.Ytgaklngnfecdaaa.Rev


/-
  Digits.
-/
namespace Go.Proofs.Ytgaklngnfecdaaa.Rev
open Go.RowKit Zk Zx
open Oid (idf hexL)
open Tre (nmOk)
set_option linter.unusedVariables false
set_option linter.unusedSimpArgs false

set_option maxRecDepth 100000 in
theorem digits (n : Int) (w0 : World) (hn : n ≤ 9223372036854775807) :
    Calls Try.prog 21 #[.int .i64 n] w0 fun e w' => ∃ u, e = .returned u ∧ Like w0 w' ∧ u = .string ⟨(digS n).toArray⟩ := by
  refine enter1 (env := [(0, .int .i64 n)]) [.int .i64 n] Try.func21 rfl Try.ntmps21 rfl rfl ?_
  have S0 := St.start w0 noM
  refine T_seq fun K1 hK1 => ?_
  refine T_region ?_
  refine L_y (y_assign rfl) rfl ?_
  refine L_nil ?_
  refine hK1 _ _ ?_
  refine T_seq fun K2 hK2 => ?_
  refine T_seq fun K3 hK3 => ?_
  refine T_region ?_
  refine L_y (y_move rfl) rfl ?_
  refine L_y (y_lss rfl rfl) rfl ?_
  refine L_nil ?_
  refine hK3 _ _ ?_
  refine T_cond rfl (fun h5 => ?_) (fun h5 => ?_)
  ·
    refine T_seq fun K4 hK4 => ?_
    refine T_region ?_
    refine L_y (y_assign rfl) rfl ?_
    refine L_nil ?_
    refine hK4 _ _ ?_
    refine T_ret ?_
    repeat (first | with_reducible refine up_then ?_ | with_reducible refine up_in ?_)
    refine ret1 rfl rfl ?_
    exact ⟨_, rfl, S0.like0, by rw [digS, if_pos (by omega)]⟩
  ·
    obtain ⟨N, rfl⟩ : ∃ N : Nat, n = (N : Int) := ⟨n.toNat, by omega⟩
    refine T_skip ?_
    refine hK2 _ _ ?_
    refine T_seq fun K5 hK5 => ?_
    refine T_region ?_
    refine L_y (y_move rfl) rfl ?_
    refine L_y (y_rem rfl rfl (by omega) (remI (by omega))) rfl ?_
    refine L_y (y_add rfl rfl (i64w (by omega))) rfl ?_
    refine L_y (y_conv is3 Try.underlying5 rfl (show IntKind.u8.wrap (48 + (N : Int) % 10) = ((dig N).toNat : Int) by rw [u8w (by omega), dig_nat]; omega)) rfl ?_
    refine L_o (o_bsl [_] te27 zz5 S0 rfl rfl rfl rfl rfl rfl rfl rfl fun b1 w1 S1 => ?_)
    refine L_y (y_assign rfl) rfl ?_
    refine L_nil ?_
    refine hK5 _ _ ?_
    refine T_seq fun K6 hK6 => ?_
    refine T_seq fun K7 hK7 => ?_
    refine T_region ?_
    refine L_y (y_move rfl) rfl ?_
    refine L_y (y_quo rfl rfl (by omega) (quoI (by omega) (by omega))) rfl ?_
    refine L_y (y_assign rfl) rfl ?_
    refine L_nil ?_
    refine hK7 _ _ ?_
    refine T_block ?_
    refine T_loop4 [] (fun (m : Nat) (A1 : Option Addr) (c1 : Nat) (bs : List UInt8) => [(0, .int .i64 (m : Int)), (3, .slice A1 bs.length c1)]) (fun (m : Nat) (A1 : Option Addr) (c1 : Nat) (bs : List UInt8) => m) (fun (m : Nat) (A1 : Option Addr) (c1 : Nat) (bs : List UInt8) (w : World) => (m ≤ N ∧ dgt N = dg0 m ++ bs.reverse ∧ bs.length + (dg0 m).length ≤ 20) ∧ St w0 noM [row 5 1 A1 bs.length c1 (bL bs)] w) (N / 10) _ _ [dig N] (Sub.cons rfl (by first | rfl | exact congrArg (Value.int _) (by omega)) (Sub.cons rfl (by first | rfl | exact congrArg (Value.int _) (by omega)) (Sub.nil _))) (Sub.nil _) ?_ ?_
    ·
      exact ⟨⟨by omega, by rw [dgt_eq]; rfl, by have h1 := dgt_len 18 N (by omega); rw [dgt_eq, List.length_append] at h1; simp only [List.length_cons, List.length_nil] at h1 ⊢; omega⟩, S1⟩
    ·
      intro m A1 c1 bs w2 hrel
      obtain ⟨⟨hm, hdg, hbl⟩, S2⟩ := hrel
      refine T_seq fun K8 hK8 => ?_
      refine T_seq fun K9 hK9 => ?_
      refine T_region ?_
      refine L_y (y_move rfl) rfl ?_
      refine L_y (y_gtr rfl rfl) rfl ?_
      refine L_nil ?_
      refine hK9 _ _ ?_
      refine T_cond rfl (fun h14 => ?_) (fun h14 => ?_)
      ·
        refine T_skip ?_
        refine hK8 _ _ ?_
        refine T_seq fun K10 hK10 => ?_
        refine T_block ?_
        refine T_region ?_
        refine L_y (y_move rfl) rfl ?_
        refine L_y (y_move rfl) rfl ?_
        refine L_y (y_rem rfl rfl (by omega) (remI (by omega))) rfl ?_
        refine L_y (y_add rfl rfl (i64w (by omega))) rfl ?_
        refine L_y (y_conv is3 Try.underlying5 rfl (show IntKind.u8.wrap (48 + (m : Int) % 10) = ((dig m).toNat : Int) by rw [u8w (by omega), dig_nat]; omega)) rfl ?_
        refine L_o (o_bsl [_] te27 zz5 S2 rfl rfl rfl rfl rfl rfl rfl rfl fun b3 w3 S3 => ?_)
        refine L_o (o_app te27 S3 0 rfl rfl rfl (by first | exact S3.row 0 rfl | exact S3.row 1 rfl) (by first | exact bL_one _ | exact iL_one _ | (intro u hu; simp at hu; subst hu; rfl) | (simp; done) | (simp [Value.oneCell']; done)) rfl (by omega) (by omega) fun A4 c4 w4 S4 => ?_)
        have S4d := S4.drop (rs' := [_]) (.cons_cons _ (.cons _ (.refl _)))
        refine L_y (y_assign rfl) rfl ?_
        refine L_nil ?_
        refine hK10 _ _ ?_
        refine T_region ?_
        refine L_y (y_move rfl) rfl ?_
        refine L_y (y_quo rfl rfl (by omega) (quoI (by omega) (by omega))) rfl ?_
        refine L_y (y_assign rfl) rfl ?_
        refine L_nil ?_
        have hst := dg0_step m (by omega)
        have S9 := S4d.rowc 0 rfl (n' := (bs ++ [dig m]).length) (xs' := bL (bs ++ [dig m])) (by simp) (by rw [bL_app]; rfl)
        refine ⟨m / 10, _, _, bs ++ [dig m], by omega, ⟨⟨by omega, by rw [hdg, hst, List.reverse_append]; simp, by rw [hst, List.length_append] at hbl; rw [List.length_append]; simp only [List.length_cons, List.length_nil] at hbl ⊢; omega⟩, S9⟩, ?_⟩
        exact (Sub.cons rfl (by first | rfl | exact congrArg (Value.int _) (by omega)) (Sub.cons rfl (by first | rfl | (rw [List.length_append]; rfl)) (Sub.nil _)))
      ·
        have hm0 : m = 0 := by omega
        subst hm0
        refine T_exit ?_
        refine hK6 _ _ ?_
        refine T_seq fun K11 hK11 => ?_
        refine T_region ?_
        refine L_y (y_move rfl) rfl ?_
        refine L_o (o_call Try.func62 rfl rfl (revers A1 c1 bs w2 (S2.get 0 rfl)) rfl rfl ?_)
        rintro e5 w5 ⟨v5, rfl, T5⟩
        refine ⟨_, rfl, ?_⟩
        have S5 := S2.turn 0 rfl T5
        refine L_nil ?_
        refine hK11 _ _ ?_
        refine T_seq fun K12 hK12 => ?_
        refine T_region ?_
        refine L_y (y_move rfl) rfl ?_
        refine L_y (y_bstr Try.underlying27 Try.underlying5 Try.underlying9 rfl (by first | exact S5.row 0 rfl)) rfl ?_
        refine L_y (y_assign rfl) rfl ?_
        refine L_nil ?_
        refine hK12 _ _ ?_
        refine T_ret ?_
        repeat (first | with_reducible refine up_then ?_ | with_reducible refine up_in ?_)
        refine ret1 rfl rfl ?_
        exact ⟨_, rfl, S5.like0, by rw [digS_nat, hdg, dg0_zero, List.nil_append]⟩


end Go.Proofs.Ytgaklngnfecdaaa.Rev


/-
  Number.
-/
namespace Go.Proofs.Ytgaklngnfecdaaa.Rev
open Go.RowKit Zk Zx
open Oid (idf hexL)
open Tre (nmOk)
set_option linter.unusedVariables false
set_option linter.unusedSimpArgs false

def numR (l : List UInt8) : Value := if numOk l then .tuple #[.int .i64 (numV l : Int), .int .i64 0] else .tuple #[.int .i64 0, .int .i64 12]
theorem g8_48 (l : List UInt8) : g8 l 0 = 48 ↔ l.getD 0 0 = 48 := by
  unfold g8
  constructor
  · intro h
    have h1 : (l.getD 0 0).toNat = 48 := by omega
    exact UInt8.toNat_inj.1 h1
  · intro h
    rw [h]
    rfl
theorem numR_no {l : List UInt8} (h : l.length < 1 ∨ 15 < l.length ∨ (g8 l 0 = 48 ∧ 1 < l.length)) : numR l = .tuple #[.int .i64 0, .int .i64 12] := by
  rw [g8_48] at h
  have : numOk l = false := by
    unfold numOk
    rw [decide_eq_false (fun ⟨h1, h2, h3⟩ => by rcases h with h | h | h; omega; omega; exact h3 h), Bool.false_and]
  rw [numR, this]
  rfl
theorem numR_bad {l : List UInt8} {k : Nat} (hk : k < l.length) (h : g8 l k < 48 ∨ 57 < g8 l k) : numR l = .tuple #[.int .i64 0, .int .i64 12] := by
  have h1 : isD l[k] = false := by
    have e : g8 l k = ((l[k]).toNat : Int) := by simp [g8, List.getD_eq_getElem?_getD, List.getElem?_eq_getElem hk]
    rw [e] at h
    cases hd : isD l[k] with
    | false => rfl
    | true => have := isD_lo hd; omega
  have h2 : l.all isD = false := by
    cases ha : l.all isD with
    | false => rfl
    | true => rw [List.all_eq_true] at ha; rw [ha _ (List.getElem_mem hk)] at h1; cases h1
  have : numOk l = false := by
    unfold numOk
    rw [h2, Bool.and_false]
  rw [numR, this]
  rfl
theorem numR_yes {l : List UInt8} (h1 : 1 ≤ l.length) (h2 : l.length ≤ 15) (h3 : ¬ (g8 l 0 = 48 ∧ 1 < l.length)) (h4 : l.all isD = true) : numR l = .tuple #[.int .i64 (numV l : Int), .int .i64 0] := by
  rw [g8_48] at h3
  have : numOk l = true := by
    unfold numOk
    rw [decide_eq_true ⟨h1, h2, h3⟩, h4]
    rfl
  rw [numR, this]
  rfl
theorem num_step {l : List UInt8} {k : Nat} (hk : k < l.length) (h1 : 48 ≤ g8 l k) (h2 : g8 l k ≤ 57) (ha : (l.take k).all isD = true) : (l.take (k + 1)).all isD = true ∧ (numV (l.take (k + 1)) : Int) = (numV (l.take k) : Int) * 10 + (g8 l k - 48) := by
  have e : g8 l k = ((l[k]).toNat : Int) := by simp [g8, List.getD_eq_getElem?_getD, List.getElem?_eq_getElem hk]
  have e2 : l.take (k + 1) = l.take k ++ [l[k]] := by rw [List.take_add_one, List.getElem?_eq_getElem hk]; rfl
  rw [e] at h1 h2 ⊢
  rw [e2, numV_snoc]
  refine ⟨?_, by omega⟩
  rw [List.all_append, ha]
  have : isD l[k] = true := by
    unfold isD
    rw [decide_eq_true (by omega), decide_eq_true (by omega)]
    rfl
  simp [this]
theorem num_lt {l : List UInt8} {k : Nat} (hl : l.length ≤ 15) (ha : (l.take k).all isD = true) : numV (l.take k) < 1000000000000000 := by
  have h1 := numV_lt _ ha
  have h2 : 10 ^ (l.take k).length ≤ 10 ^ 15 := Nat.pow_le_pow_right (by omega) (by rw [List.length_take]; omega)
  have h3 : (10 : Nat) ^ 15 = 1000000000000000 := by decide
  omega


set_option maxRecDepth 100000 in
theorem number (s : ByteArray) (w0 : World)  :
    Calls Try.prog 16 #[.string s] w0 fun e w' => ∃ u, e = .returned u ∧ Like w0 w' ∧ u = numR s.data.toList := by
  refine enter1 (env := [(0, .string s)]) [.string s] Try.func16 rfl Try.ntmps16 rfl rfl ?_
  have hsz : s.data.toList.length = s.size := by simp
  have S0 := St.start w0 noM
  refine T_seq fun K1 hK1 => ?_
  refine T_region ?_
  refine L_y (y_assign rfl) rfl ?_
  refine L_y (y_assign rfl) rfl ?_
  refine L_nil ?_
  refine hK1 _ _ ?_
  refine T_seq fun K2 hK2 => ?_
  refine T_seq fun K3 hK3 => ?_
  refine T_region ?_
  refine L_y (y_move rfl) rfl ?_
  refine L_y (y_lens Try.underlying9 rfl) rfl ?_
  refine L_y (y_eql rfl rfl) rfl ?_
  refine L_y (y_move rfl) rfl ?_
  refine L_split 9 rfl (fun h9 => ?_) (fun h9 => ?_)
  ·
    refine L_gno rfl rfl rfl ?_
    refine L_gno rfl rfl rfl ?_
    refine L_gno rfl rfl rfl ?_
    refine L_y ((by first | exact y_pickT rfl rfl | exact y_pickF rfl rfl)) rfl ?_
    refine L_y (y_move rfl) rfl ?_
    refine L_gno rfl rfl rfl ?_
    refine L_gno rfl rfl rfl ?_
    refine L_gno rfl rfl rfl ?_
    refine L_gno rfl rfl rfl ?_
    refine L_gnu rfl rfl rfl ?_
    refine L_gnu rfl rfl rfl ?_
    refine L_gnu rfl rfl rfl ?_
    refine L_gno rfl rfl rfl ?_
    refine L_y ((by first | exact y_pickT rfl rfl | exact y_pickF rfl rfl)) rfl ?_
    refine L_nil ?_
    refine hK3 _ _ ?_
    refine T_true rfl ?_
    refine T_seq fun K4 hK4 => ?_
    refine T_region ?_
    refine L_y (y_assign rfl) rfl ?_
    refine L_y (y_assign rfl) rfl ?_
    refine L_nil ?_
    refine hK4 _ _ ?_
    refine T_ret ?_
    repeat (first | with_reducible refine up_then ?_ | with_reducible refine up_in ?_)
    refine ret2 rfl rfl rfl ?_
    exact ⟨_, rfl, S0.like0, (numR_no (by omega)).symm⟩
  ·
    refine L_gyes rfl rfl ?_
    refine L_y (y_move rfl) rfl ?_
    refine L_gyes rfl rfl ?_
    refine L_y (y_lens Try.underlying9 rfl) rfl ?_
    refine L_gyes rfl rfl ?_
    refine L_y (y_gtr rfl rfl) rfl ?_
    refine L_y ((by first | exact y_pickT rfl rfl | exact y_pickF rfl rfl)) rfl ?_
    refine L_y (y_move rfl) rfl ?_
    refine L_split 14 rfl (fun h14 => ?_) (fun h14 => ?_)
    ·
      refine L_gno rfl rfl rfl ?_
      refine L_gno rfl rfl rfl ?_
      refine L_gno rfl rfl rfl ?_
      refine L_gno rfl rfl rfl ?_
      refine L_gnu rfl rfl rfl ?_
      refine L_gnu rfl rfl rfl ?_
      refine L_gnu rfl rfl rfl ?_
      refine L_gno rfl rfl rfl ?_
      refine L_y ((by first | exact y_pickT rfl rfl | exact y_pickF rfl rfl)) rfl ?_
      refine L_nil ?_
      refine hK3 _ _ ?_
      refine T_true rfl ?_
      refine T_seq fun K5 hK5 => ?_
      refine T_region ?_
      refine L_y (y_assign rfl) rfl ?_
      refine L_y (y_assign rfl) rfl ?_
      refine L_nil ?_
      refine hK5 _ _ ?_
      refine T_ret ?_
      repeat (first | with_reducible refine up_then ?_ | with_reducible refine up_in ?_)
      refine ret2 rfl rfl rfl ?_
      exact ⟨_, rfl, S0.like0, (numR_no (by omega)).symm⟩
    ·
      refine L_gyes rfl rfl ?_
      refine L_y (y_move rfl) rfl ?_
      refine L_gyes rfl rfl ?_
      refine L_y (y_idxS Try.underlying9 rfl rfl inferInstance (by omega)) rfl ?_
      refine L_gyes rfl rfl ?_
      refine L_y (y_eql rfl rfl) rfl ?_
      refine L_gyes rfl rfl ?_
      refine L_y (y_move rfl) rfl ?_
      refine L_split 18 rfl (fun h18 => ?_) (fun h18 => ?_)
      ·
        refine L_gyes rfl rfl ?_
        refine L_y (y_move rfl) rfl ?_
        refine L_gyes rfl rfl ?_
        refine L_y (y_lens Try.underlying9 rfl) rfl ?_
        refine L_gyes rfl rfl ?_
        refine L_y (y_gtr rfl rfl) rfl ?_
        refine L_gyes rfl rfl ?_
        refine L_y ((by first | exact y_pickT rfl rfl | exact y_pickF rfl rfl)) rfl ?_
        refine L_y ((by first | exact y_pickT rfl rfl | exact y_pickF rfl rfl)) rfl ?_
        refine L_nil ?_
        refine hK3 _ _ ?_
        refine T_cond rfl (fun h23 => ?_) (fun h23 => ?_)
        ·
          refine T_seq fun K6 hK6 => ?_
          refine T_region ?_
          refine L_y (y_assign rfl) rfl ?_
          refine L_y (y_assign rfl) rfl ?_
          refine L_nil ?_
          refine hK6 _ _ ?_
          refine T_ret ?_
          repeat (first | with_reducible refine up_then ?_ | with_reducible refine up_in ?_)
          refine ret2 rfl rfl rfl ?_
          exact ⟨_, rfl, S0.like0, (numR_no (by omega)).symm⟩
        ·
          refine T_skip ?_
          refine hK2 _ _ ?_
          refine T_seq fun K7 hK7 => ?_
          refine T_region ?_
          refine L_y (y_assign rfl) rfl ?_
          refine L_nil ?_
          refine hK7 _ _ ?_
          refine T_seq fun K8 hK8 => ?_
          refine T_seq fun K9 hK9 => ?_
          refine T_region ?_
          refine L_y (y_move rfl) rfl ?_
          refine L_y (y_lens Try.underlying9 rfl) rfl ?_
          refine L_y (y_move rfl) rfl ?_
          refine L_nil ?_
          refine hK9 _ _ ?_
          refine T_block ?_
          refine T_loop1 [(0, _), (25, _)] (fun (k : Nat) => [(4, .int .i64 (numV (s.data.toList.take k) : Int)), (26, .int .i64 (k : Int))]) (fun (k : Nat) => s.size - k) (fun (k : Nat) (w : World) => (k ≤ s.size ∧ (s.data.toList.take k).all isD = true) ∧ St w0 noM [] w) 0 (Sub.cons rfl (by first | rfl | exact congrArg (Value.int _) (by omega)) (Sub.cons rfl (by first | rfl | exact congrArg (Value.int _) (by omega)) (Sub.nil _))) (Sub.cons rfl rfl (Sub.cons rfl rfl (Sub.nil _))) ?_ ?_
          ·
            exact ⟨⟨by omega, by simp⟩, S0⟩
          ·
            intro k w4 hrel
            obtain ⟨⟨hk, hall⟩, S4⟩ := hrel
            have hnv := num_lt (k := k) (by omega) hall
            refine T_seq fun K10 hK10 => ?_
            refine T_region ?_
            refine L_y (y_lss rfl rfl) rfl ?_
            refine L_nil ?_
            refine hK10 _ _ ?_
            refine T_seq fun K11 hK11 => ?_
            refine T_cond rfl (fun h27 => ?_) (fun h27 => ?_)
            ·
              refine T_skip ?_
              refine hK11 _ _ ?_
              refine T_seq fun K12 hK12 => ?_
              refine T_block ?_
              refine T_seq fun K13 hK13 => ?_
              refine T_region ?_
              refine L_y (y_move rfl) rfl ?_
              refine L_y (y_assign rfl) rfl ?_
              refine L_nil ?_
              refine hK13 _ _ ?_
              refine T_seq fun K14 hK14 => ?_
              refine T_seq fun K15 hK15 => ?_
              refine T_region ?_
              refine L_y (y_move rfl) rfl ?_
              refine L_y (y_move rfl) rfl ?_
              refine L_y (y_idxS Try.underlying9 rfl rfl inferInstance (by omega)) rfl ?_
              refine L_y (y_lss rfl rfl) rfl ?_
              refine L_y (y_move rfl) rfl ?_
              refine L_split 33 rfl (fun h33 => ?_) (fun h33 => ?_)
              ·
                refine L_gno rfl rfl rfl ?_
                refine L_gno rfl rfl rfl ?_
                refine L_gno rfl rfl rfl ?_
                refine L_gno rfl rfl rfl ?_
                refine L_y ((by first | exact y_pickT rfl rfl | exact y_pickF rfl rfl)) rfl ?_
                refine L_nil ?_
                refine hK15 _ _ ?_
                refine T_true rfl ?_
                refine T_seq fun K16 hK16 => ?_
                refine T_region ?_
                refine L_y (y_assign rfl) rfl ?_
                refine L_y (y_assign rfl) rfl ?_
                refine L_nil ?_
                refine hK16 _ _ ?_
                refine T_ret ?_
                repeat (first | with_reducible refine up_then ?_ | with_reducible refine up_in ?_)
                refine ret2 rfl rfl rfl ?_
                exact ⟨_, rfl, S4.like0, (numR_bad (k := k) (by omega) (by omega)).symm⟩
              ·
                refine L_gyes rfl rfl ?_
                refine L_y (y_move rfl) rfl ?_
                refine L_gyes rfl rfl ?_
                refine L_y (y_move rfl) rfl ?_
                refine L_gyes rfl rfl ?_
                refine L_y (y_idxS Try.underlying9 rfl rfl inferInstance (by omega)) rfl ?_
                refine L_gyes rfl rfl ?_
                refine L_y (y_gtr rfl rfl) rfl ?_
                refine L_y ((by first | exact y_pickT rfl rfl | exact y_pickF rfl rfl)) rfl ?_
                refine L_nil ?_
                refine hK15 _ _ ?_
                refine T_cond rfl (fun h38 => ?_) (fun h38 => ?_)
                ·
                  refine T_seq fun K17 hK17 => ?_
                  refine T_region ?_
                  refine L_y (y_assign rfl) rfl ?_
                  refine L_y (y_assign rfl) rfl ?_
                  refine L_nil ?_
                  refine hK17 _ _ ?_
                  refine T_ret ?_
                  repeat (first | with_reducible refine up_then ?_ | with_reducible refine up_in ?_)
                  refine ret2 rfl rfl rfl ?_
                  exact ⟨_, rfl, S4.like0, (numR_bad (k := k) (by omega) (by omega)).symm⟩
                ·
                  refine T_skip ?_
                  refine hK14 _ _ ?_
                  refine T_region ?_
                  refine L_y (y_move rfl) rfl ?_
                  refine L_y (y_mul rfl rfl (i64w (by omega))) rfl ?_
                  refine L_y (y_move rfl) rfl ?_
                  refine L_y (y_move rfl) rfl ?_
                  refine L_y (y_idxS Try.underlying9 rfl rfl inferInstance (by omega)) rfl ?_
                  refine L_y (y_sub rfl rfl (u8w (by omega))) rfl ?_
                  refine L_y (y_conv is5 Try.underlying3 rfl (i64w (by omega))) rfl ?_
                  refine L_y (y_add rfl rfl (i64w (by omega))) rfl ?_
                  refine L_y (y_assign rfl) rfl ?_
                  refine L_nil ?_
                  refine hK12 _ _ ?_
                  refine T_region ?_
                  refine L_y (y_add rfl rfl (i64w (by omega))) rfl ?_
                  refine L_y (y_move rfl) rfl ?_
                  refine L_nil ?_
                  have hst := num_step (l := s.data.toList) (k := k) (by omega) (by omega) (by omega) hall
                  refine ⟨k + 1, by omega, ⟨⟨by omega, hst.1⟩, S4⟩, ?_⟩
                  exact (Sub.cons rfl (congrArg (Value.int _) (by first | (rw [hst.2]; done) | (rw [hst.2]; omega))) (Sub.cons rfl (by first | rfl | exact congrArg (Value.int _) (by omega)) (Sub.cons rfl rfl (Sub.cons rfl rfl (Sub.nil _)))))
            ·
              refine T_exit ?_
              refine hK8 _ _ ?_
              refine T_seq fun K18 hK18 => ?_
              refine T_region ?_
              refine L_y (y_move rfl) rfl ?_
              refine L_y (y_assign rfl) rfl ?_
              refine L_y (y_assign rfl) rfl ?_
              refine L_nil ?_
              refine hK18 _ _ ?_
              refine T_ret ?_
              repeat (first | with_reducible refine up_then ?_ | with_reducible refine up_in ?_)
              refine ret2 rfl rfl rfl ?_
              have hke : k = s.data.toList.length := by omega
              rw [hke, List.take_length] at hall hnv
              exact ⟨_, rfl, S4.like0, by rw [numR_yes (by omega) (by omega) (by omega) hall, hke, List.take_length]⟩
      ·
        refine L_gno rfl rfl rfl ?_
        refine L_gno rfl rfl rfl ?_
        refine L_gno rfl rfl rfl ?_
        refine L_gyes rfl rfl ?_
        refine L_y ((by first | exact y_pickT rfl rfl | exact y_pickF rfl rfl)) rfl ?_
        refine L_y ((by first | exact y_pickT rfl rfl | exact y_pickF rfl rfl)) rfl ?_
        refine L_nil ?_
        refine hK3 _ _ ?_
        refine T_false rfl ?_
        refine T_skip ?_
        refine hK2 _ _ ?_
        refine T_seq fun K19 hK19 => ?_
        refine T_region ?_
        refine L_y (y_assign rfl) rfl ?_
        refine L_nil ?_
        refine hK19 _ _ ?_
        refine T_seq fun K20 hK20 => ?_
        refine T_seq fun K21 hK21 => ?_
        refine T_region ?_
        refine L_y (y_move rfl) rfl ?_
        refine L_y (y_lens Try.underlying9 rfl) rfl ?_
        refine L_y (y_move rfl) rfl ?_
        refine L_nil ?_
        refine hK21 _ _ ?_
        refine T_block ?_
        refine T_loop1 [(0, _), (25, _)] (fun (k : Nat) => [(4, .int .i64 (numV (s.data.toList.take k) : Int)), (26, .int .i64 (k : Int))]) (fun (k : Nat) => s.size - k) (fun (k : Nat) (w : World) => (k ≤ s.size ∧ (s.data.toList.take k).all isD = true) ∧ St w0 noM [] w) 0 (Sub.cons rfl (by first | rfl | exact congrArg (Value.int _) (by omega)) (Sub.cons rfl (by first | rfl | exact congrArg (Value.int _) (by omega)) (Sub.nil _))) (Sub.cons rfl rfl (Sub.cons rfl rfl (Sub.nil _))) ?_ ?_
        ·
          exact ⟨⟨by omega, by simp⟩, S0⟩
        ·
          intro k w6 hrel
          obtain ⟨⟨hk, hall⟩, S6⟩ := hrel
          have hnv := num_lt (k := k) (by omega) hall
          refine T_seq fun K22 hK22 => ?_
          refine T_region ?_
          refine L_y (y_lss rfl rfl) rfl ?_
          refine L_nil ?_
          refine hK22 _ _ ?_
          refine T_seq fun K23 hK23 => ?_
          refine T_cond rfl (fun h27 => ?_) (fun h27 => ?_)
          ·
            refine T_skip ?_
            refine hK23 _ _ ?_
            refine T_seq fun K24 hK24 => ?_
            refine T_block ?_
            refine T_seq fun K25 hK25 => ?_
            refine T_region ?_
            refine L_y (y_move rfl) rfl ?_
            refine L_y (y_assign rfl) rfl ?_
            refine L_nil ?_
            refine hK25 _ _ ?_
            refine T_seq fun K26 hK26 => ?_
            refine T_seq fun K27 hK27 => ?_
            refine T_region ?_
            refine L_y (y_move rfl) rfl ?_
            refine L_y (y_move rfl) rfl ?_
            refine L_y (y_idxS Try.underlying9 rfl rfl inferInstance (by omega)) rfl ?_
            refine L_y (y_lss rfl rfl) rfl ?_
            refine L_y (y_move rfl) rfl ?_
            refine L_split 33 rfl (fun h33 => ?_) (fun h33 => ?_)
            ·
              refine L_gno rfl rfl rfl ?_
              refine L_gno rfl rfl rfl ?_
              refine L_gno rfl rfl rfl ?_
              refine L_gno rfl rfl rfl ?_
              refine L_y ((by first | exact y_pickT rfl rfl | exact y_pickF rfl rfl)) rfl ?_
              refine L_nil ?_
              refine hK27 _ _ ?_
              refine T_true rfl ?_
              refine T_seq fun K28 hK28 => ?_
              refine T_region ?_
              refine L_y (y_assign rfl) rfl ?_
              refine L_y (y_assign rfl) rfl ?_
              refine L_nil ?_
              refine hK28 _ _ ?_
              refine T_ret ?_
              repeat (first | with_reducible refine up_then ?_ | with_reducible refine up_in ?_)
              refine ret2 rfl rfl rfl ?_
              exact ⟨_, rfl, S6.like0, (numR_bad (k := k) (by omega) (by omega)).symm⟩
            ·
              refine L_gyes rfl rfl ?_
              refine L_y (y_move rfl) rfl ?_
              refine L_gyes rfl rfl ?_
              refine L_y (y_move rfl) rfl ?_
              refine L_gyes rfl rfl ?_
              refine L_y (y_idxS Try.underlying9 rfl rfl inferInstance (by omega)) rfl ?_
              refine L_gyes rfl rfl ?_
              refine L_y (y_gtr rfl rfl) rfl ?_
              refine L_y ((by first | exact y_pickT rfl rfl | exact y_pickF rfl rfl)) rfl ?_
              refine L_nil ?_
              refine hK27 _ _ ?_
              refine T_cond rfl (fun h38 => ?_) (fun h38 => ?_)
              ·
                refine T_seq fun K29 hK29 => ?_
                refine T_region ?_
                refine L_y (y_assign rfl) rfl ?_
                refine L_y (y_assign rfl) rfl ?_
                refine L_nil ?_
                refine hK29 _ _ ?_
                refine T_ret ?_
                repeat (first | with_reducible refine up_then ?_ | with_reducible refine up_in ?_)
                refine ret2 rfl rfl rfl ?_
                exact ⟨_, rfl, S6.like0, (numR_bad (k := k) (by omega) (by omega)).symm⟩
              ·
                refine T_skip ?_
                refine hK26 _ _ ?_
                refine T_region ?_
                refine L_y (y_move rfl) rfl ?_
                refine L_y (y_mul rfl rfl (i64w (by omega))) rfl ?_
                refine L_y (y_move rfl) rfl ?_
                refine L_y (y_move rfl) rfl ?_
                refine L_y (y_idxS Try.underlying9 rfl rfl inferInstance (by omega)) rfl ?_
                refine L_y (y_sub rfl rfl (u8w (by omega))) rfl ?_
                refine L_y (y_conv is5 Try.underlying3 rfl (i64w (by omega))) rfl ?_
                refine L_y (y_add rfl rfl (i64w (by omega))) rfl ?_
                refine L_y (y_assign rfl) rfl ?_
                refine L_nil ?_
                refine hK24 _ _ ?_
                refine T_region ?_
                refine L_y (y_add rfl rfl (i64w (by omega))) rfl ?_
                refine L_y (y_move rfl) rfl ?_
                refine L_nil ?_
                have hst := num_step (l := s.data.toList) (k := k) (by omega) (by omega) (by omega) hall
                refine ⟨k + 1, by omega, ⟨⟨by omega, hst.1⟩, S6⟩, ?_⟩
                exact (Sub.cons rfl (congrArg (Value.int _) (by first | (rw [hst.2]; done) | (rw [hst.2]; omega))) (Sub.cons rfl (by first | rfl | exact congrArg (Value.int _) (by omega)) (Sub.cons rfl rfl (Sub.cons rfl rfl (Sub.nil _)))))
          ·
            refine T_exit ?_
            refine hK20 _ _ ?_
            refine T_seq fun K30 hK30 => ?_
            refine T_region ?_
            refine L_y (y_move rfl) rfl ?_
            refine L_y (y_assign rfl) rfl ?_
            refine L_y (y_assign rfl) rfl ?_
            refine L_nil ?_
            refine hK30 _ _ ?_
            refine T_ret ?_
            repeat (first | with_reducible refine up_then ?_ | with_reducible refine up_in ?_)
            refine ret2 rfl rfl rfl ?_
            have hke : k = s.data.toList.length := by omega
            rw [hke, List.take_length] at hall hnv
            exact ⟨_, rfl, S6.like0, by rw [numR_yes (by omega) (by omega) (by omega) hall, hke, List.take_length]⟩


set_option maxRecDepth 100000 in
theorem time_ (n : Int) (w0 : World)  :
    Calls Try.prog 60 #[.int .i64 n] w0 fun e w' => ∃ u, e = .returned u ∧ Like w0 w' ∧ u = .bool (decide (0 ≤ n ∧ n ≤ 1099511627776)) := by
  refine enter1 (env := [(0, .int .i64 n)]) [.int .i64 n] Try.func60 rfl Try.ntmps60 rfl rfl ?_
  have S0 := St.start w0 noM
  refine T_seq fun K1 hK1 => ?_
  refine T_region ?_
  refine L_y (y_assign rfl) rfl ?_
  refine L_nil ?_
  refine hK1 _ _ ?_
  refine T_seq fun K2 hK2 => ?_
  refine T_region ?_
  refine L_y (y_move rfl) rfl ?_
  refine L_y (y_geq rfl rfl) rfl ?_
  refine L_y (y_move rfl) rfl ?_
  refine L_split 5 rfl (fun h5 => ?_) (fun h5 => ?_)
  ·
    refine L_gyes rfl rfl ?_
    refine L_y (y_move rfl) rfl ?_
    refine L_gyes rfl rfl ?_
    refine L_y (y_leq rfl rfl) rfl ?_
    refine L_y ((by first | exact y_pickT rfl rfl | exact y_pickF rfl rfl)) rfl ?_
    refine L_y (y_assign rfl) rfl ?_
    refine L_nil ?_
    refine hK2 _ _ ?_
    refine T_ret ?_
    repeat (first | with_reducible refine up_then ?_ | with_reducible refine up_in ?_)
    refine ret1 rfl rfl ?_
    exact ⟨_, rfl, S0.like0, by first | exact congrArg Value.bool (decide_eq_decide.2 (by omega)) | exact congrArg Value.bool (decide_eq_false (by omega)).symm⟩
  ·
    refine L_gno rfl rfl rfl ?_
    refine L_gno rfl rfl rfl ?_
    refine L_y ((by first | exact y_pickT rfl rfl | exact y_pickF rfl rfl)) rfl ?_
    refine L_y (y_assign rfl) rfl ?_
    refine L_nil ?_
    refine hK2 _ _ ?_
    refine T_ret ?_
    repeat (first | with_reducible refine up_then ?_ | with_reducible refine up_in ?_)
    refine ret1 rfl rfl ?_
    exact ⟨_, rfl, S0.like0, by first | exact congrArg Value.bool (decide_eq_decide.2 (by omega)) | exact congrArg Value.bool (decide_eq_false (by omega)).symm⟩
end Go.Proofs.Ytgaklngnfecdaaa.Rev


/-
  Check.
-/
namespace Go.Proofs.Ytgaklngnfecdaaa.Rev
open Go.RowKit Zk Zx
open Oid (idf hexL ris ris_ne idf_len)
open Tre (nmOk)
set_option linter.unusedVariables false
set_option linter.unusedSimpArgs false

/-- A commit. -/
structure Cm where
  tr : Oid.Id
  A : Option Addr
  n : Nat
  c : Nat
  ps : List Oid.Id
  au : ByteArray
  tm : Int
  tx : ByteArray
def cmf (x : Cm) : List Value := idf x.tr ++ [.slice x.A x.n x.c, .string x.au, .int .i64 x.tm, .string x.tx]
theorem cmf_len (x : Cm) : (cmf x).length = 36 := by simp [cmf, idf_len]
theorem cmf_one (x : Cm) : ∀ u ∈ cmf x, u.oneCell' = true := fun u hu => by
  rcases List.mem_append.1 hu with h | h
  · exact bL_one _ u h
  · simp at h
    rcases h with rfl | rfl | rfl | rfl <;> rfl
theorem cm_tr (x : Cm) : ((cmf x).toArray.toList.drop 0).take 32 = idf x.tr ∧ (idf x.tr).length = 32 := ⟨by rw [List.drop_zero]; simp [cmf, List.take_append, idf_len], idf_len _⟩
theorem cm_at (x : Cm) (k : Nat) : (cmf x).toArray[32 + k]? = [Value.slice x.A x.n x.c, .string x.au, .int .i64 x.tm, .string x.tx][k]? := by
  rw [List.getElem?_toArray, cmf, List.getElem?_append_right (by rw [idf_len]; omega), idf_len]
  congr 1
  omega
theorem cm32 (x : Cm) : (cmf x).toArray[32]? = some (.slice x.A x.n x.c) := cm_at x 0
theorem cm33 (x : Cm) : (cmf x).toArray[33]? = some (.string x.au) := cm_at x 1
theorem cm34 (x : Cm) : (cmf x).toArray[34]? = some (.int .i64 x.tm) := cm_at x 2
theorem cm35 (x : Cm) : (cmf x).toArray[35]? = some (.string x.tx) := cm_at x 3
theorem cm_whole (x : Cm) : ((cmf x).toArray.toList.drop 0).take 36 = cmf x ∧ (cmf x).length = 36 := ⟨by rw [List.drop_zero]; exact List.take_of_length_le (by have := cmf_len x; simp only [] at this ⊢; omega), cmf_len x⟩
/-- What Check answers. -/
def chk (x : Cm) : Int := if 6 < x.n ∨ 400 < x.tx.size then 3 else if ¬ x.ps.Nodup then 17 else if nmOk x.au = false then 15 else if x.tm < 0 ∨ 1099511627776 < x.tm then 2 else 0
theorem nodup_le {α : Type} [DecidableEq α] : ∀ (a b : List α), a.Nodup → (∀ x ∈ a, x ∈ b) → a.length ≤ b.length
  | [], b, _, _ => Nat.zero_le _
  | x :: a, b, hn, h => by
    rw [List.nodup_cons] at hn
    have hx := h x List.mem_cons_self
    have ih := nodup_le a (b.erase x) hn.2 fun y hy => (List.mem_erase_of_ne (fun e => by subst e; exact hn.1 hy)).2 (h y (List.mem_cons_of_mem _ hy))
    rw [List.length_erase_of_mem hx] at ih
    have := List.length_pos_of_mem hx
    rw [List.length_cons]
    omega
theorem shorter {α : Type} [DecidableEq α] : ∀ (l : List α), ¬ l.Nodup → ∃ m : List α, m.length < l.length ∧ ∀ z ∈ l, z ∈ m
  | [], h => absurd List.nodup_nil h
  | x :: l, h => by
    by_cases hx : x ∈ l
    · exact ⟨l, by simp, fun z hz => by rcases List.mem_cons.1 hz with rfl | hz; exact hx; exact hz⟩
    · obtain ⟨m, h1, h2⟩ := shorter l (fun hn => h (List.nodup_cons.2 ⟨hx, hn⟩))
      exact ⟨x :: m, by simp; exact h1, fun z hz => by rcases List.mem_cons.1 hz with rfl | hz; exact List.mem_cons_self; exact List.mem_cons_of_mem _ (h2 z hz)⟩
theorem ris_nodup {s : List Oid.Id} (h : ris s = true) : s.Nodup := by
  unfold List.Nodup
  rw [List.pairwise_iff_getElem]
  exact fun i j hi hj hij => ris_ne h (List.getElem?_eq_getElem hi) (List.getElem?_eq_getElem hj) (by omega)
theorem twice_iff {s l : List Oid.Id} (hr : ris s = true) (hm : ∀ z, z ∈ s ↔ z ∈ l) : s.length < l.length ↔ ¬ l.Nodup := by
  have hs := ris_nodup hr
  constructor
  · intro h hn
    have := nodup_le l s hn fun z hz => (hm z).2 hz
    omega
  · intro h
    obtain ⟨m, h1, h2⟩ := shorter l h
    have := nodup_le s m hs fun z hz => h2 z ((hm z).1 hz)
    omega
theorem not_nodup {l : List Oid.Id} {i k : Nat} {x : Oid.Id} (hi : l[i]? = some x) (hk : l[k]? = some x) (h : i < k) : ¬ l.Nodup := fun hn => by
  unfold List.Nodup at hn
  rw [List.pairwise_iff_getElem] at hn
  obtain ⟨h1, h2⟩ := List.getElem?_eq_some_iff.1 hi
  obtain ⟨h3, h4⟩ := List.getElem?_eq_some_iff.1 hk
  exact hn i k h1 h3 h (by rw [h2, h4])


set_option maxRecDepth 100000 in
theorem check (x : Cm) (w0 : World) (hps : Rs w0 32 x.A x.n x.c (x.ps.flatMap idf)) :
    Calls Try.prog 19 #[.agg (cmf x).toArray] w0 fun e w' => ∃ u, e = .returned u ∧ Like w0 w' ∧ u = .int .i64 (chk x) := by
  refine enter1 (env := [(0, .agg (cmf x).toArray)]) [.agg (cmf x).toArray] Try.func19 rfl Try.ntmps19 rfl rfl ?_
  have hpn : x.n = x.ps.length := Oid.ids_n hps
  have S0 := St.start w0 noM
  refine T_seq fun K1 hK1 => ?_
  refine T_region ?_
  refine L_o (o_box rfl S0 rfl fun b1 w1 hb1 S1 => ?_)
  refine L_y (y_assign rfl) rfl ?_
  refine L_nil ?_
  refine hK1 _ _ ?_
  refine T_seq fun K2 hK2 => ?_
  refine T_block ?_
  refine T_seq fun K3 hK3 => ?_
  refine T_region ?_
  refine L_y (y_fieldA 32 Try.underlying26 rfl sz24 rfl rfl rfl) rfl ?_
  refine L_y (y_ldc Try.underlying24 rfl rfl (((S1.blk 0 rfl).cell _).trans (cm32 x))) rfl ?_
  refine L_y (y_len Try.underlying24 rfl) rfl ?_
  refine L_y (y_gtr rfl rfl) rfl ?_
  refine L_y (y_move rfl) rfl ?_
  refine L_split 8 rfl (fun h8 => ?_) (fun h8 => ?_)
  ·
    refine L_gno rfl rfl rfl ?_
    refine L_gno rfl rfl rfl ?_
    refine L_gno rfl rfl rfl ?_
    refine L_gno rfl rfl rfl ?_
    refine L_y ((by first | exact y_pickT rfl rfl | exact y_pickF rfl rfl)) rfl ?_
    refine L_y (y_assign rfl) rfl ?_
    refine L_nil ?_
    refine hK3 _ _ ?_
    refine T_true rfl ?_
    refine T_seq fun K4 hK4 => ?_
    refine T_region ?_
    refine L_y (y_assign rfl) rfl ?_
    refine L_nil ?_
    refine hK4 _ _ ?_
    refine T_ret ?_
    repeat (first | with_reducible refine up_then ?_ | with_reducible refine up_in ?_)
    refine ret1 rfl rfl ?_
    exact ⟨_, rfl, S1.like0, by unfold chk; first | rw [if_pos (by omega)] | rw [if_neg (by omega), if_pos (by assumption)] | rw [if_neg (by omega), if_neg hnd, if_pos hnm] | rw [if_neg (by omega), if_neg hnd, if_neg hnm, if_pos htm] | rw [if_neg (by omega), if_neg hnd, if_neg hnm, if_neg htm]⟩
  ·
    refine L_gyes rfl rfl ?_
    refine L_y (y_fieldA 35 Try.underlying26 rfl sz9 rfl rfl rfl) rfl ?_
    refine L_gyes rfl rfl ?_
    refine L_y (y_ldc Try.underlying9 rfl rfl (((S1.blk 0 rfl).cell _).trans (cm35 x))) rfl ?_
    refine L_gyes rfl rfl ?_
    refine L_y (y_lens Try.underlying9 rfl) rfl ?_
    refine L_gyes rfl rfl ?_
    refine L_y (y_gtr rfl rfl) rfl ?_
    refine L_y ((by first | exact y_pickT rfl rfl | exact y_pickF rfl rfl)) rfl ?_
    refine L_y (y_assign rfl) rfl ?_
    refine L_nil ?_
    refine hK3 _ _ ?_
    refine T_cond rfl (fun h3 => ?_) (fun h3 => ?_)
    ·
      refine T_seq fun K5 hK5 => ?_
      refine T_region ?_
      refine L_y (y_assign rfl) rfl ?_
      refine L_nil ?_
      refine hK5 _ _ ?_
      refine T_ret ?_
      repeat (first | with_reducible refine up_then ?_ | with_reducible refine up_in ?_)
      refine ret1 rfl rfl ?_
      exact ⟨_, rfl, S1.like0, by unfold chk; first | rw [if_pos (by omega)] | rw [if_neg (by omega), if_pos (by assumption)] | rw [if_neg (by omega), if_neg hnd, if_pos hnm] | rw [if_neg (by omega), if_neg hnd, if_neg hnm, if_pos htm] | rw [if_neg (by omega), if_neg hnd, if_neg hnm, if_neg htm]⟩
    ·
      refine T_seq fun K6 hK6 => ?_
      refine T_drawnL [(0, true), (1, true), (4, true), (5, true), (6, true), (2, false), (3, true), (7, true), (8, true)] hmix (by kernel_rfl) fun w3 l3 => ?_
      have S3 := S1.like l3
      refine DL_y rfl (y_fieldA 32 Try.underlying26 rfl sz24 rfl rfl rfl) rfl ?_
      refine DL_y rfl (y_ldc Try.underlying24 rfl rfl (((S3.blk 0 rfl).cell _).trans (cm32 x))) rfl ?_
      refine DL_y rfl (y_fieldA 32 Try.underlying26 rfl sz24 rfl rfl rfl) rfl ?_
      refine DL_y rfl (y_ldc Try.underlying24 rfl rfl (((S3.blk 0 rfl).cell _).trans (cm32 x))) rfl ?_
      refine DL_y rfl (y_len Try.underlying24 rfl) rfl ?_
      refine DL_o rfl (o_call Try.func58 rfl rfl (Oid.psorted x.A x.n x.c x.ps w3 (S3.rd hps) (by omega)) rfl rfl ?_)
      rintro e4 w4 ⟨v4, rfl, l4, A', m', c', s, rfl, hs, hri, hmem⟩
      refine ⟨_, rfl, l4, ?_⟩
      have S4 := S3.like l4
      have hti := twice_iff hri hmem
      have hsn : m' = s.length := Oid.ids_n hs
      have q4 := l4
      refine DL_y rfl (y_len Try.underlying24 rfl) rfl ?_
      refine DL_y rfl (y_lss rfl rfl) rfl ?_
      refine DL_y rfl (y_assign rfl) rfl ?_
      refine DL_nil ?_
      refine hK6 _ _ ?_
      refine T_cond rfl (fun h14 => ?_) (fun h14 => ?_)
      ·
        have hnd : ¬ x.ps.Nodup := hti.1 (by omega)
        refine T_seq fun K7 hK7 => ?_
        refine T_region ?_
        refine L_y (y_assign rfl) rfl ?_
        refine L_nil ?_
        refine hK7 _ _ ?_
        refine T_ret ?_
        repeat (first | with_reducible refine up_then ?_ | with_reducible refine up_in ?_)
        refine ret1 rfl rfl ?_
        exact ⟨_, rfl, S4.like0, by unfold chk; first | rw [if_pos (by omega)] | rw [if_neg (by omega), if_pos (by assumption)] | rw [if_neg (by omega), if_neg hnd, if_pos hnm] | rw [if_neg (by omega), if_neg hnd, if_neg hnm, if_pos htm] | rw [if_neg (by omega), if_neg hnd, if_neg hnm, if_neg htm]⟩
      ·
        have hnd : ¬ ¬ x.ps.Nodup := fun h => by have := hti.2 h; omega
        refine T_seq fun K8 hK8 => ?_
        refine T_region ?_
        refine L_y (y_fieldA 33 Try.underlying26 rfl sz9 rfl rfl rfl) rfl ?_
        refine L_y (y_ldc Try.underlying9 rfl rfl (((S4.blk 0 rfl).cell _).trans (cm33 x))) rfl ?_
        refine L_o (o_call Try.func59 rfl rfl (Tre.pname x.au w4) rfl rfl ?_)
        rintro e5 w5 ⟨v5, rfl, l5, rfl⟩
        refine ⟨_, rfl, ?_⟩
        have S5 := S4.like l5
        refine L_y ((by first | exact y_notD rfl | exact y_not rfl)) rfl ?_
        refine L_y (y_assign rfl) rfl ?_
        refine L_nil ?_
        refine hK8 _ _ ?_
        refine T_condB rfl (fun h23 => ?_) (fun h23 => ?_)
        ·
          have hnm : nmOk x.au = false := by simpa using h23
          refine T_seq fun K9 hK9 => ?_
          refine T_region ?_
          refine L_y (y_assign rfl) rfl ?_
          refine L_nil ?_
          refine hK9 _ _ ?_
          refine T_ret ?_
          repeat (first | with_reducible refine up_then ?_ | with_reducible refine up_in ?_)
          refine ret1 rfl rfl ?_
          exact ⟨_, rfl, S5.like0, by unfold chk; first | rw [if_pos (by omega)] | rw [if_neg (by omega), if_pos (by assumption)] | rw [if_neg (by omega), if_neg hnd, if_pos hnm] | rw [if_neg (by omega), if_neg hnd, if_neg hnm, if_pos htm] | rw [if_neg (by omega), if_neg hnd, if_neg hnm, if_neg htm]⟩
        ·
          have hnm : ¬ nmOk x.au = false := by simpa using h23
          refine T_seq fun K10 hK10 => ?_
          refine T_region ?_
          refine L_y (y_fieldA 34 Try.underlying26 rfl sz3 rfl rfl rfl) rfl ?_
          refine L_y (y_ldc Try.underlying3 rfl rfl (((S5.blk 0 rfl).cell _).trans (cm34 x))) rfl ?_
          refine L_o (o_call Try.func60 rfl rfl (time_ x.tm w5) rfl rfl ?_)
          rintro e6 w6 ⟨v6, rfl, l6, rfl⟩
          refine ⟨_, rfl, ?_⟩
          have S6 := S5.like l6
          refine L_y ((by first | exact y_notD rfl | exact y_not rfl)) rfl ?_
          refine L_y (y_assign rfl) rfl ?_
          refine L_nil ?_
          refine hK10 _ _ ?_
          refine T_condB rfl (fun h28 => ?_) (fun h28 => ?_)
          ·
            have htm : x.tm < 0 ∨ 1099511627776 < x.tm := by simpa using h28
            refine T_seq fun K11 hK11 => ?_
            refine T_region ?_
            refine L_y (y_assign rfl) rfl ?_
            refine L_nil ?_
            refine hK11 _ _ ?_
            refine T_ret ?_
            repeat (first | with_reducible refine up_then ?_ | with_reducible refine up_in ?_)
            refine ret1 rfl rfl ?_
            exact ⟨_, rfl, S6.like0, by unfold chk; first | rw [if_pos (by omega)] | rw [if_neg (by omega), if_pos (by assumption)] | rw [if_neg (by omega), if_neg hnd, if_pos hnm] | rw [if_neg (by omega), if_neg hnd, if_neg hnm, if_pos htm] | rw [if_neg (by omega), if_neg hnd, if_neg hnm, if_neg htm]⟩
          ·
            have htm : ¬ (x.tm < 0 ∨ 1099511627776 < x.tm) := by simpa using h28
            refine T_skip ?_
            refine hK2 _ _ ?_
            refine T_seq fun K12 hK12 => ?_
            refine T_region ?_
            refine L_y (y_assign rfl) rfl ?_
            refine L_nil ?_
            refine hK12 _ _ ?_
            refine T_ret ?_
            repeat (first | with_reducible refine up_then ?_ | with_reducible refine up_in ?_)
            refine ret1 rfl rfl ?_
            exact ⟨_, rfl, S6.like0, by unfold chk; first | rw [if_pos (by omega)] | rw [if_neg (by omega), if_pos (by assumption)] | rw [if_neg (by omega), if_neg hnd, if_pos hnm] | rw [if_neg (by omega), if_neg hnd, if_neg hnm, if_pos htm] | rw [if_neg (by omega), if_neg hnd, if_neg hnm, if_neg htm]⟩
end Go.Proofs.Ytgaklngnfecdaaa.Rev


/-
  The document: Check.
-/
namespace Go.Proofs.Ytgaklngnfecdaaa.Rev
open Go.RowKit Zk Zx
open Oid (idf hexL ris ris_ne idf_len)
open Tre (nmOk)
set_option linter.unusedVariables false
set_option linter.unusedSimpArgs false

end Go.Proofs.Ytgaklngnfecdaaa.Rev


/-
  Put.
-/
namespace Go.Proofs.Ytgaklngnfecdaaa.Rev
open Go.RowKit Zk Zx
open Oid (idf hexL ris ris_ne idf_len length_hexL)
open Tre (nmOk)
set_option linter.unusedVariables false
set_option linter.unusedSimpArgs false

theorem hexN (x : Oid.Id) (w : World) : Calls Try.prog 55 #[.agg (idf x).toArray] w fun e w' => ∃ u, e = .returned u ∧ Like w w' ∧ u = .string ⟨(hexL x.l).toArray⟩ := (Oid.hex_any x.l w x.h).mono fun e w' ⟨h1, h2⟩ => ⟨_, h1, h2, rfl⟩
theorem hexI_len (x : Oid.Id) : (hexL x.l).length = 64 := by rw [length_hexL, x.h]
/-- WriteString, the lengths told by the text. -/
theorem wstr (b : Nat) (p A : Option Addr) (n c : Nat) (l s : List UInt8) (w0 : World) (hp : p = none ∨ p = some ⟨b, 0, none⟩) (hw : (bld b p A n c l).holds w0) (hn : l.length + s.length ≤ 140737488355328) :
    Calls Try.prog 53 #[.pointer (some ⟨b, 0, none⟩), .string ⟨s.toArray⟩] w0 fun e w' => ∃ u, e = .returned u ∧ ∃ A' n' c', Turned w0 w' (bld b p A n c l) (bld b (some ⟨b, 0, none⟩) A' n' c' (l ++ s)) :=
  (wstr0 b p A n c l ⟨s.toArray⟩ w0 hp hw (by rw [bsz, ← bld_len hw]; exact hn)).mono fun e w' ⟨u, h1, A', c', h2, _⟩ => ⟨u, h1, A', _, c', h2⟩
theorem ge_turn {w w' : World} {r r' : Res} {b : Nat} (T : Turned w w' r r') (h : ∀ i, r.dom i → b ≤ i) (hb : b < w.heap.size) : ∀ i, r'.dom i → b ≤ i := fun i hi => (T.dom i hi).elim (h i) (fun k => by omega)
theorem ge_zero (b : Nat) : ∀ i, (bld b none none 0 0 []).dom i → b ≤ i := fun i hi => by
  rcases hi with hi | hi
  · have hi' : i = b := hi
    omega
  · cases hi
theorem bld_in {w : World} {b n c : Nat} {p A : Option Addr} {l : List UInt8} (h : (bld b p A n c l).holds w) : b < w.heap.size := Blk.lt h.1
def wTree : List UInt8 := [116, 114, 101, 101]
def wParent : List UInt8 := [112, 97, 114, 101, 110, 116]
def wAuthor : List UInt8 := [97, 117, 116, 104, 111, 114]
def wTime : List UInt8 := [116, 105, 109, 101]
def parL (ps : List Oid.Id) : List UInt8 := ps.flatMap fun p => lineL wParent (hexL p.l)
/-- A commit's bytes. -/
def revB (x : Cm) : List UInt8 := lineL wTree (hexL x.tr.l) ++ parL x.ps ++ lineL wAuthor x.au.data.toList ++ lineL wTime (digS x.tm) ++ [10] ++ x.tx.data.toList
theorem lineL_len (a s : List UInt8) : (lineL a s).length = a.length + s.length + 2 := by simp [lineL]; omega
theorem parL_step {ps : List Oid.Id} {k : Nat} {p : Oid.Id} (h : ps[k]? = some p) : parL (ps.take (k + 1)) = parL (ps.take k) ++ lineL wParent (hexL p.l) := by
  unfold parL
  rw [List.take_add_one, h, List.flatMap_append]
  simp
theorem parL_len (ps : List Oid.Id) : (parL ps).length = ps.length * 72 := by
  unfold parL
  rw [List.length_flatMap]
  induction ps with
  | nil => rfl
  | cons p ps ih => rw [List.map_cons, List.sum_cons, ih, lineL_len, hexI_len]; simp [wParent]; omega
/-- What Check lets through. -/
theorem chk_ok {x : Cm} (h : chk x = 0) : x.n ≤ 6 ∧ x.tx.size ≤ 400 ∧ x.ps.Nodup ∧ nmOk x.au = true ∧ 0 ≤ x.tm ∧ x.tm ≤ 1099511627776 := by
  unfold chk at h
  split at h
  · cases h
  · split at h
    · cases h
    · split at h
      · cases h
      · split at h
        · cases h
        · rename_i h1 h2 h3 h4
          exact ⟨by omega, by omega, Classical.not_not.1 h2, by simpa using h3, by omega, by omega⟩
theorem nm_len {s : ByteArray} (h : nmOk s = true) : s.data.toList.length ≤ 32 := by
  unfold nmOk at h
  simp only [Bool.and_eq_true, decide_eq_true_eq] at h
  have := h.2.1
  simpa using this
set_option maxRecDepth 100000 in
theorem put (x : Cm) (w0 : World) (hps : Rs w0 32 x.A x.n x.c (x.ps.flatMap idf)) :
    Calls Try.prog 14 #[.agg (cmf x).toArray] w0 fun e w' => ∃ u, e = .returned u ∧ Like w0 w' ∧ ∃ B m d l e, u = .tuple #[.slice B m d, .int .i64 e] ∧ e = chk x ∧ l = (if chk x = 0 then revB x else []) ∧ Fr w0 w' 1 B m d (bL l) := by
  refine enter1 (env := [(0, .agg (cmf x).toArray)]) [.agg (cmf x).toArray] Try.func14 rfl Try.ntmps14 rfl rfl ?_
  have hpn : x.n = x.ps.length := Oid.ids_n hps
  have S0 := St.start w0 noM
  refine T_seq fun K1 hK1 => ?_
  refine T_region ?_
  refine L_o (o_box rfl S0 rfl fun b1 w1 hb1 S1 => ?_)
  refine L_y (y_assign rfl) rfl ?_
  refine L_y (y_assign rfl) rfl ?_
  refine L_nil ?_
  refine hK1 _ _ ?_
  refine T_seq fun K2 hK2 => ?_
  refine T_seq fun K3 hK3 => ?_
  refine T_region ?_
  refine L_y (y_ldW Try.underlying26 rfl sz26 rfl (S1.blk 0 rfl) (cm_whole x)) rfl ?_
  refine L_o (o_call Try.func19 rfl rfl (check x w1 (S1.rd hps)) rfl rfl ?_)
  rintro e2 w2 ⟨v2, rfl, l2, rfl⟩
  refine ⟨_, rfl, ?_⟩
  have S2 := S1.like l2
  refine L_y (y_assign rfl) rfl ?_
  refine L_nil ?_
  refine hK3 _ _ ?_
  refine T_seq fun K4 hK4 => ?_
  refine T_region ?_
  refine L_y (y_move rfl) rfl ?_
  refine L_y (y_neq rfl rfl) rfl ?_
  refine L_nil ?_
  refine hK4 _ _ ?_
  refine T_cond rfl (fun h11 => ?_) (fun h11 => ?_)
  ·
    refine T_seq fun K5 hK5 => ?_
    refine T_region ?_
    refine L_y (y_move rfl) rfl ?_
    refine L_y (y_assign rfl) rfl ?_
    refine L_y (y_assign rfl) rfl ?_
    refine L_nil ?_
    refine hK5 _ _ ?_
    refine T_ret ?_
    repeat (first | with_reducible refine up_then ?_ | with_reducible refine up_in ?_)
    refine ret2 rfl rfl rfl ?_
    exact ⟨_, rfl, S2.like0, none, 0, 0, [], chk x, rfl, rfl, by rw [if_neg (fun e => h11 e)], ⟨Rs.nil _ 1, fun ad h => absurd h (by omega)⟩⟩
  ·
    have h0 : chk x = 0 := Classical.not_not.1 h11
    obtain ⟨hn6, ht4, hnd, hnm, htm0, htm1⟩ := chk_ok h0
    have haul := nm_len hnm
    have htl : x.tx.data.toList.length ≤ 400 := by have h9 : x.tx.data.toList.length = x.tx.size := (by simp); omega
    refine T_skip ?_
    refine hK2 _ _ ?_
    refine T_seq fun K6 hK6 => ?_
    refine T_region ?_
    refine L_o (o_alloc zz106 S2 rfl fun b3 w3 hb3 S3 => ?_)
    have S4 := S3.nilrow 5 1
    have S5 : Zx.St w0 noM [_, bld b3 none none 0 0 []] w3 := St.join2 (rs := [_]) S4
    have hge := ge_zero b3
    obtain ⟨l0, hl0⟩ : ∃ l0 : List UInt8, l0 = [] := ⟨_, rfl⟩
    have hlb : l0.length ≤ 0 := by rw [hl0]; exact Nat.le_refl 0
    rw [← hl0] at S5 hge
    refine L_nil ?_
    refine hK6 _ _ ?_
    refine T_seq fun K7 hK7 => ?_
    refine T_region ?_
    refine L_y (y_fieldA 0 Try.underlying26 rfl sz23 rfl rfl rfl) rfl ?_
    refine L_y (y_ldW Try.underlying23 rfl sz23 rfl (S5.blk 0 rfl) (cm_tr x)) rfl ?_
    refine L_o (o_call Try.func55 rfl rfl (hexN x.tr w3) rfl rfl ?_)
    rintro e6 w6 ⟨v6, rfl, l6, rfl⟩
    refine ⟨_, rfl, ?_⟩
    have S6 := S5.like l6
    refine L_o (o_call Try.func54 rfl rfl (linec wTree (hexL x.tr.l) w6 (by decide) (by have hq := hexI_len x.tr; omega)) rfl rfl ?_)
    rintro e7 w7 ⟨v7, rfl, l7, rfl⟩
    refine ⟨_, rfl, ?_⟩
    have S7 := S6.like l7
    refine L_o (o_call Try.func53 rfl rfl (wstr b3 none none 0 0 l0 (lineL wTree (hexL x.tr.l)) w7 (.inl rfl) (S7.get 1 rfl) (by have hq : ((lineL wTree (hexL x.tr.l)) : List UInt8).length ≤ 72 := (by rw [lineL_len]; have hq := hexI_len x.tr; have hw : wTree.length ≤ 6 := (by decide); omega); omega)) rfl rfl ?_)
    rintro e8 w8 ⟨v8, rfl, A8, n8, c8, T8⟩
    refine ⟨_, rfl, ?_⟩
    have S8 := S7.turn 1 rfl T8
    have hge8 := ge_turn T8 hge (bld_in (S7.get 1 rfl))
    clear hge
    have hge := hge8
    obtain ⟨l8, hl8⟩ : ∃ l : List UInt8, l = l0 ++ (lineL wTree (hexL x.tr.l)) := ⟨_, rfl⟩
    have hlb8 : l8.length ≤ 72 := by rw [hl8, List.length_append]; have hq : ((lineL wTree (hexL x.tr.l)) : List UInt8).length ≤ 72 := (by rw [lineL_len]; have hq := hexI_len x.tr; have hw : wTree.length ≤ 6 := (by decide); omega); omega
    clear hlb
    have hlb := hlb8
    rw [← hl8] at S8 hge
    refine L_nil ?_
    refine hK7 _ _ ?_
    refine T_seq fun K8 hK8 => ?_
    refine T_seq fun K9 hK9 => ?_
    refine T_region ?_
    refine L_y (y_fieldA 32 Try.underlying26 rfl sz24 rfl rfl rfl) rfl ?_
    refine L_y (y_ldc Try.underlying24 rfl rfl (((S8.blk 0 rfl).cell _).trans (cm32 x))) rfl ?_
    refine L_y (y_len Try.underlying24 rfl) rfl ?_
    refine L_y (y_move rfl) rfl ?_
    refine L_nil ?_
    refine hK9 _ _ ?_
    refine T_block ?_
    refine T_loop4 [(1, _), (5, _), (19, _), (20, _)] (fun (k : Nat) (A : Option Addr) (n : Nat) (c : Nat) => [(21, .int .i64 (k : Int))]) (fun (k : Nat) (A : Option Addr) (n : Nat) (c : Nat) => x.ps.length - k) (fun (k : Nat) (A : Option Addr) (n : Nat) (c : Nat) (w : World) => (k ≤ x.ps.length ∧ ∀ i, (bld b3 (some ⟨b3, 0, none⟩) A n c (l8 ++ parL (x.ps.take k))).dom i → b3 ≤ i) ∧ Zx.St w0 noM [blk b1 26 (cmf x).toArray, bld b3 (some ⟨b3, 0, none⟩) A n c (l8 ++ parL (x.ps.take k))] w) 0 A8 n8 c8 (Sub.cons rfl (by first | rfl | exact congrArg (Value.int _) (by omega)) (Sub.nil _)) (Sub.cons rfl rfl (Sub.cons rfl rfl (Sub.cons rfl rfl (Sub.cons rfl rfl (Sub.nil _))))) ?_ ?_
    ·
      exact ⟨⟨by omega, by simpa [parL] using hge⟩, by simpa [parL] using S8⟩
    ·
      intro k A n c w9 hrel
      obtain ⟨⟨hk, hge⟩, S9⟩ := hrel
      refine T_seq fun K10 hK10 => ?_
      refine T_region ?_
      refine L_y (y_lss rfl rfl) rfl ?_
      refine L_nil ?_
      refine hK10 _ _ ?_
      refine T_seq fun K11 hK11 => ?_
      refine T_cond rfl (fun h22 => ?_) (fun h22 => ?_)
      ·
        obtain ⟨px, hpx⟩ : ∃ px, x.ps[k]? = some px := ⟨_, List.getElem?_eq_getElem (by omega)⟩
        obtain ⟨l0, hl0⟩ : ∃ l0 : List UInt8, l0 = l8 ++ parL (x.ps.take k) := ⟨_, rfl⟩
        have hlb0 : l0.length ≤ 600 := by rw [hl0, List.length_append, parL_len, List.length_take]; omega
        clear hlb
        have hlb := hlb0
        rw [← hl0] at S9 hge
        refine T_skip ?_
        refine hK11 _ _ ?_
        refine T_seq fun K12 hK12 => ?_
        refine T_block ?_
        refine T_seq fun K13 hK13 => ?_
        refine T_region ?_
        refine L_y (y_idx Try.underlying24 sz23 rfl rfl (S9.rd hps) inferInstance (by omega)) rfl ?_
        refine L_y (y_ldp (f := idf) idf_len Try.underlying23 rfl sz23 rfl (S9.rd hps) (by omega) hpx) rfl ?_
        refine L_o (o_alloc zz23 S9 rfl fun b10 w10 hb10 S10 => ?_)
        refine L_o (o_stW S10 2 rfl rfl rfl (by rw [List.size_toArray, idf_len]; exact sz23) (by rw [List.size_toArray, idf_len]; simp [Value.cells]) (fun u hu => bL_one px.l u (by rw [List.toList_toArray] at hu; exact hu)) fun w11 S11 => ?_)
        refine L_nil ?_
        refine hK13 _ _ ?_
        refine T_region ?_
        refine L_y (y_ldW Try.underlying23 rfl sz23 rfl (S11.blk 2 rfl) (⟨by rw [List.drop_zero]; exact List.take_of_length_le (by simp [idf_len]), idf_len px⟩ : _ = idf px ∧ _)) rfl ?_
        have S12d := S11.drop (rs' := [_, _]) (.cons_cons _ (.cons_cons _ (.cons _ (.refl _))))
        refine L_o (o_call Try.func55 rfl rfl (hexN px w11) rfl rfl ?_)
        rintro e13 w13 ⟨v13, rfl, l13, rfl⟩
        refine ⟨_, rfl, ?_⟩
        have S13 := S12d.like l13
        refine L_o (o_call Try.func54 rfl rfl (linec wParent (hexL px.l) w13 (by decide) (by have hq := hexI_len px; omega)) rfl rfl ?_)
        rintro e14 w14 ⟨v14, rfl, l14, rfl⟩
        refine ⟨_, rfl, ?_⟩
        have S14 := S13.like l14
        refine L_o (o_call Try.func53 rfl rfl (wstr b3 (some ⟨b3, 0, none⟩) A n c l0 (lineL wParent (hexL px.l)) w14 (.inr rfl) (S14.get 1 rfl) (by have hq : ((lineL wParent (hexL px.l)) : List UInt8).length ≤ 72 := (by rw [lineL_len]; have hq := hexI_len px; have hw : wParent.length ≤ 6 := (by decide); omega); omega)) rfl rfl ?_)
        rintro e15 w15 ⟨v15, rfl, A15, n15, c15, T15⟩
        refine ⟨_, rfl, ?_⟩
        have S15 := S14.turn 1 rfl T15
        have hge15 := ge_turn T15 hge (bld_in (S14.get 1 rfl))
        clear hge
        have hge := hge15
        obtain ⟨l15, hl15⟩ : ∃ l : List UInt8, l = l0 ++ (lineL wParent (hexL px.l)) := ⟨_, rfl⟩
        have hlb15 : l15.length ≤ 672 := by rw [hl15, List.length_append]; have hq : ((lineL wParent (hexL px.l)) : List UInt8).length ≤ 72 := (by rw [lineL_len]; have hq := hexI_len px; have hw : wParent.length ≤ 6 := (by decide); omega); omega
        clear hlb
        have hlb := hlb15
        rw [← hl15] at S15 hge
        refine L_nil ?_
        refine hK12 _ _ ?_
        refine T_region ?_
        refine L_y (y_add rfl rfl (i64w (by omega))) rfl ?_
        refine L_y (y_move rfl) rfl ?_
        refine L_nil ?_
        rw [hl15, hl0, List.append_assoc, ← parL_step hpx] at S15 hge
        refine ⟨k + 1, _, _, _, by omega, ⟨⟨by omega, hge⟩, S15⟩, ?_⟩
        exact (Sub.cons rfl (by first | rfl | exact congrArg (Value.int _) (by omega)) (Sub.cons rfl rfl (Sub.cons rfl rfl (Sub.cons rfl rfl (Sub.cons rfl rfl (Sub.nil _))))))
      ·
        have hke : x.ps.take k = x.ps := List.take_of_length_le (by omega)
        obtain ⟨l0, hl0⟩ : ∃ l0 : List UInt8, l0 = l8 ++ parL (x.ps.take k) := ⟨_, rfl⟩
        have hlb0 : l0.length ≤ 600 := by rw [hl0, List.length_append, parL_len, List.length_take]; omega
        clear hlb
        have hlb := hlb0
        rw [← hl0] at S9 hge
        refine T_exit ?_
        refine hK8 _ _ ?_
        refine T_seq fun K14 hK14 => ?_
        refine T_region ?_
        refine L_y (y_fieldA 33 Try.underlying26 rfl sz9 rfl rfl rfl) rfl ?_
        skip
        refine L_y (y_ldc Try.underlying9 rfl rfl (((S9.blk 0 rfl).cell _).trans (cm33 x))) rfl ?_
        refine L_o (o_call Try.func54 rfl rfl (linec wAuthor x.au.data.toList w9 (by decide) (by omega)) rfl rfl ?_)
        rintro e16 w16 ⟨v16, rfl, l16, rfl⟩
        refine ⟨_, rfl, ?_⟩
        have S16 := S9.like l16
        refine L_o (o_call Try.func53 rfl rfl (wstr b3 (some ⟨b3, 0, none⟩) A n c l0 (lineL wAuthor x.au.data.toList) w16 (.inr rfl) (S16.get 1 rfl) (by have hq : ((lineL wAuthor x.au.data.toList) : List UInt8).length ≤ 40 := (by rw [lineL_len]; have hw : wAuthor.length ≤ 6 := (by decide); omega); omega)) rfl rfl ?_)
        rintro e17 w17 ⟨v17, rfl, A17, n17, c17, T17⟩
        refine ⟨_, rfl, ?_⟩
        have S17 := S16.turn 1 rfl T17
        have hge17 := ge_turn T17 hge (bld_in (S16.get 1 rfl))
        clear hge
        have hge := hge17
        obtain ⟨l17, hl17⟩ : ∃ l : List UInt8, l = l0 ++ (lineL wAuthor x.au.data.toList) := ⟨_, rfl⟩
        have hlb17 : l17.length ≤ 640 := by rw [hl17, List.length_append]; have hq : ((lineL wAuthor x.au.data.toList) : List UInt8).length ≤ 40 := (by rw [lineL_len]; have hw : wAuthor.length ≤ 6 := (by decide); omega); omega
        clear hlb
        have hlb := hlb17
        rw [← hl17] at S17 hge
        refine L_nil ?_
        refine hK14 _ _ ?_
        refine T_seq fun K15 hK15 => ?_
        refine T_region ?_
        refine L_y (y_fieldA 34 Try.underlying26 rfl sz3 rfl rfl rfl) rfl ?_
        refine L_y (y_ldc Try.underlying3 rfl rfl (((S17.blk 0 rfl).cell _).trans (cm34 x))) rfl ?_
        refine L_o (o_call Try.func21 rfl rfl (digits x.tm w17 (by omega)) rfl rfl ?_)
        rintro e18 w18 ⟨v18, rfl, l18, rfl⟩
        refine ⟨_, rfl, ?_⟩
        have S18 := S17.like l18
        refine L_o (o_call Try.func54 rfl rfl (linec wTime (digS x.tm) w18 (by decide) (by have hq := digS_len (n := x.tm) (by omega); omega)) rfl rfl ?_)
        rintro e19 w19 ⟨v19, rfl, l19, rfl⟩
        refine ⟨_, rfl, ?_⟩
        have S19 := S18.like l19
        refine L_o (o_call Try.func53 rfl rfl (wstr b3 (some ⟨b3, 0, none⟩) A17 n17 c17 l17 (lineL wTime (digS x.tm)) w19 (.inr rfl) (S19.get 1 rfl) (by have hq : ((lineL wTime (digS x.tm)) : List UInt8).length ≤ 30 := (by rw [lineL_len]; have hq := digS_len (n := x.tm) (by omega); have hw : wTime.length ≤ 6 := (by decide); omega); omega)) rfl rfl ?_)
        rintro e20 w20 ⟨v20, rfl, A20, n20, c20, T20⟩
        refine ⟨_, rfl, ?_⟩
        have S20 := S19.turn 1 rfl T20
        have hge20 := ge_turn T20 hge (bld_in (S19.get 1 rfl))
        clear hge
        have hge := hge20
        obtain ⟨l20, hl20⟩ : ∃ l : List UInt8, l = l17 ++ (lineL wTime (digS x.tm)) := ⟨_, rfl⟩
        have hlb20 : l20.length ≤ 670 := by rw [hl20, List.length_append]; have hq : ((lineL wTime (digS x.tm)) : List UInt8).length ≤ 30 := (by rw [lineL_len]; have hq := digS_len (n := x.tm) (by omega); have hw : wTime.length ≤ 6 := (by decide); omega); omega
        clear hlb
        have hlb := hlb20
        rw [← hl20] at S20 hge
        refine L_nil ?_
        refine hK15 _ _ ?_
        refine T_seq fun K16 hK16 => ?_
        refine T_region ?_
        refine L_o (o_call Try.func53 rfl rfl (wstr b3 (some ⟨b3, 0, none⟩) A20 n20 c20 l20 [10] w20 (.inr rfl) (S20.get 1 rfl) (by have hq : ([10] : List UInt8).length ≤ 1 := (by decide); omega)) rfl rfl ?_)
        rintro e21 w21 ⟨v21, rfl, A21, n21, c21, T21⟩
        refine ⟨_, rfl, ?_⟩
        have S21 := S20.turn 1 rfl T21
        have hge21 := ge_turn T21 hge (bld_in (S20.get 1 rfl))
        clear hge
        have hge := hge21
        obtain ⟨l21, hl21⟩ : ∃ l : List UInt8, l = l20 ++ [10] := ⟨_, rfl⟩
        have hlb21 : l21.length ≤ 671 := by rw [hl21, List.length_append]; have hq : ([10] : List UInt8).length ≤ 1 := (by decide); omega
        clear hlb
        have hlb := hlb21
        rw [← hl21] at S21 hge
        refine L_nil ?_
        refine hK16 _ _ ?_
        refine T_seq fun K17 hK17 => ?_
        refine T_region ?_
        refine L_y (y_fieldA 35 Try.underlying26 rfl sz9 rfl rfl rfl) rfl ?_
        refine L_y (y_ldc Try.underlying9 rfl rfl (((S21.blk 0 rfl).cell _).trans (cm35 x))) rfl ?_
        refine L_o (o_call Try.func53 rfl rfl (wstr b3 (some ⟨b3, 0, none⟩) A21 n21 c21 l21 x.tx.data.toList w21 (.inr rfl) (S21.get 1 rfl) (by have hq : (x.tx.data.toList : List UInt8).length ≤ 400 := htl; omega)) rfl rfl ?_)
        rintro e22 w22 ⟨v22, rfl, A22, n22, c22, T22⟩
        refine ⟨_, rfl, ?_⟩
        have S22 := S21.turn 1 rfl T22
        have hge22 := ge_turn T22 hge (bld_in (S21.get 1 rfl))
        clear hge
        have hge := hge22
        obtain ⟨l22, hl22⟩ : ∃ l : List UInt8, l = l21 ++ x.tx.data.toList := ⟨_, rfl⟩
        have hlb22 : l22.length ≤ 1071 := by rw [hl22, List.length_append]; have hq : (x.tx.data.toList : List UInt8).length ≤ 400 := htl; omega
        clear hlb
        have hlb := hlb22
        rw [← hl22] at S22 hge
        refine L_nil ?_
        refine hK17 _ _ ?_
        refine T_seq fun K18 hK18 => ?_
        refine T_region ?_
        refine L_o (o_call Try.func56 rfl rfl (strB b3 _ _ _ _ l22 w22 (.inr rfl) (S22.get 1 rfl) hge) rfl rfl ?_)
        rintro e23 w23 ⟨v23, rfl, bel23, rfl⟩
        refine ⟨_, rfl, ?_⟩
        have S23 := past S22 bel23 hb3
        refine L_o (o_sbytes Try.underlying9 Try.underlying27 Try.underlying5 rfl (by rw [bsz]; omega) S23 rfl fun b24 c24 w24 l24 S24 => ?_)
        refine L_y (y_assign rfl) rfl ?_
        refine L_y (y_assign rfl) rfl ?_
        refine L_nil ?_
        refine hK18 _ _ ?_
        refine T_ret ?_
        repeat (first | with_reducible refine up_then ?_ | with_reducible refine up_in ?_)
        refine ret2 rfl rfl rfl ?_
        have hfin : l22 = revB x := by subst_vars; unfold revB; simp [hke]
        exact ⟨_, rfl, S24.like0, _, _, _, l22, 0, rfl, h0.symm, by rw [if_pos h0]; exact hfin, S24.fr 0 rfl⟩
end Go.Proofs.Ytgaklngnfecdaaa.Rev


/-
  The document: Put.
-/
namespace Go.Proofs.Ytgaklngnfecdaaa.Rev
open Go.RowKit Zk Zx
open Oid (idf hexL ris ris_ne idf_len length_hexL)
open Tre (nmOk)
set_option linter.unusedVariables false
set_option linter.unusedSimpArgs false

end Go.Proofs.Ytgaklngnfecdaaa.Rev


/-
  The law RevPuts.
-/
namespace Go.Proofs.Ytgaklngnfecdaaa.Rev
open Go.RowKit Zk Zx
open Oid (idf hexL ris ris_ne idf_len length_hexL)
open Tre (nmOk)
set_option linter.unusedVariables false
set_option linter.unusedSimpArgs false

def wCm : Cm := ⟨⟨List.replicate 32 0, rfl⟩, none, 0, 0, [], ⟨#[97, 110, 110]⟩, 5, ⟨#[120]⟩⟩
theorem wCm_chk : chk wCm = 0 := by decide +kernel
theorem dig5 : digS 5 = [53] := by
  rw [show (5 : Int) = ((5 : Nat) : Int) from rfl, digS_nat, dgt_eq, show 5 / 10 = 0 from rfl, dg0_zero]
  rfl
theorem wCm_rev : revB wCm = lineL wTree (hexL (List.replicate 32 0)) ++ lineL wAuthor [97, 110, 110] ++ lineL wTime [53] ++ [10] ++ [120] := by
  unfold revB
  rw [show wCm.tm = 5 from rfl, dig5]
  rfl
theorem wCm_len : (revB wCm).length = 90 := by rw [wCm_rev]; decide +kernel
theorem wCm_end : ((revB wCm).drop 70).take (90 - 70) = [97, 117, 116, 104, 111, 114, 32, 97, 110, 110, 10, 116, 105, 109, 101, 32, 53, 10, 10, 120] := by rw [wCm_rev]; decide +kernel
set_option maxRecDepth 100000 in
theorem works  (w0 : World)  :
    Calls Try.prog 23 #[] w0 fun e w' => ∃ u, e = .returned u ∧ Like w0 w' ∧ u = .bool true := by
  refine enter1 (env := []) [] Try.func23 rfl Try.ntmps23 rfl rfl ?_
  have S0 := St.start w0 noM
  refine T_seq fun K1 hK1 => ?_
  refine T_region ?_
  refine L_y (y_assign rfl) rfl ?_
  refine L_nil ?_
  refine hK1 _ _ ?_
  refine T_seq fun K2 hK2 => ?_
  refine T_region ?_
  refine L_y (y_build rfl (show _ = some (cmf wCm).toArray by kernel_rfl)) rfl ?_
  refine L_o (o_call Try.func14 rfl rfl (put wCm w0 (Rs.nil _ 32)) rfl rfl ?_)
  rintro e1 w1 ⟨v1, rfl, l1, B, m, d, l, e, rfl, he, hl, F1⟩
  refine ⟨_, rfl, ?_⟩
  have S1 := S0.adoptF l1 F1
  rw [wCm_chk] at he
  subst he
  rw [if_pos wCm_chk] at hl
  subst hl
  have hm : m = 90 := by rw [← F1.1.lenb]; exact wCm_len
  subst hm
  have hcp := F1.1.cap
  refine L_y (y_move rfl) rfl ?_
  refine L_y (y_extract rfl rfl) rfl ?_
  refine L_y (y_extract rfl rfl) rfl ?_
  refine L_y (y_assign rfl) rfl ?_
  refine L_y (y_assign rfl) rfl ?_
  refine L_nil ?_
  refine hK2 _ _ ?_
  refine T_seq fun K3 hK3 => ?_
  refine T_region ?_
  refine L_y (y_move rfl) rfl ?_
  refine L_y (y_eql rfl rfl) rfl ?_
  refine L_y (y_move rfl) rfl ?_
  refine L_split 10 rfl (fun h10 => ?_) (fun h10 => ?_)
  ·
    refine L_gyes rfl rfl ?_
    refine L_y (y_move rfl) rfl ?_
    refine L_gyes rfl rfl ?_
    refine L_y (y_len Try.underlying27 rfl) rfl ?_
    refine L_gyes rfl rfl ?_
    refine L_y (y_eql rfl rfl) rfl ?_
    refine L_y ((by first | exact y_pickT rfl rfl | exact y_pickF rfl rfl)) rfl ?_
    refine L_y (y_move rfl) rfl ?_
    refine L_split 15 rfl (fun h15 => ?_) (fun h15 => ?_)
    ·
      refine L_gyes rfl rfl ?_
      refine L_y (y_move rfl) rfl ?_
      refine L_gyes rfl rfl ?_
      refine L_y (y_sliceL Try.underlying27 sz5 rfl rfl inferInstance (by omega)) rfl ?_
      refine L_gyes rfl rfl ?_
      refine L_y (y_bstr Try.underlying27 Try.underlying5 Try.underlying9 rfl ((S1.get 0 rfl).cutb (l := 70) (u := 90) (by omega) (by omega))) rfl ?_
      rw [wCm_end]
      refine L_gyes rfl rfl ?_
      refine L_y (y_seql rfl rfl) rfl ?_
      refine L_y ((by first | exact y_pickT rfl rfl | exact y_pickF rfl rfl)) rfl ?_
      refine L_y (y_assign rfl) rfl ?_
      refine L_nil ?_
      refine hK3 _ _ ?_
      refine T_ret ?_
      repeat (first | with_reducible refine up_then ?_ | with_reducible refine up_in ?_)
      refine ret1 rfl rfl ?_
      exact ⟨_, rfl, S1.like0, rfl⟩
    ·
      exact absurd rfl h15
  ·
    exact absurd rfl h10


end Go.Proofs.Ytgaklngnfecdaaa.Rev


/-
  Commits and tags as a law's arguments.
-/
namespace Go.Proofs.Ytgaklngnfecdaaa.Rev
open Go.ChangeShapes Go.WideShapes Go.ChangeAt Go.RowKit Go.Deep Zk Zx
open Oid (idf idf_len)
set_option linter.unusedVariables false
set_option linter.unusedSimpArgs false
set_option maxRecDepth 100000
section
variable {H : Type} {enc : TypeId × Value → H} {w : World} {base : Nat} {spare : Nat → Bool} {held : Bool}
theorem c9 : Try.prog.cellsOf 9 = 1 := by kernel_rfl
theorem c3 : Try.prog.cellsOf 3 = 1 := by kernel_rfl
end
end Go.Proofs.Ytgaklngnfecdaaa.Rev


/-
  Index, Cut, prefixes.
-/
namespace Go.Proofs.Ytgaklngnfecdaaa.Rev
open Go.RowKit Zk Zx
open Oid (idf hexL)
open Tre (nmOk)
set_option linter.unusedVariables false
set_option linter.unusedSimpArgs false

/-- The text ahead of the first c, and behind it. -/
def cutF (c : UInt8) : List UInt8 → Option (List UInt8 × List UInt8)
  | [] => none
  | x :: r => if x = c then some ([], r) else (cutF c r).map fun p => (x :: p.1, p.2)
theorem cutF_some {c : UInt8} : ∀ {s a b : List UInt8}, cutF c s = some (a, b) → s = a ++ c :: b ∧ c ∉ a
  | [], a, b, h => by cases h
  | x :: r, a, b, h => by
    unfold cutF at h
    split at h
    · rename_i hx
      cases h
      exact ⟨by rw [hx]; rfl, by simp⟩
    · rename_i hx
      cases hr : cutF c r with
      | none => rw [hr] at h; cases h
      | some p =>
        rw [hr] at h
        cases h
        obtain ⟨h1, h2⟩ := cutF_some hr
        refine ⟨by rw [h1]; rfl, fun hm => ?_⟩
        rcases List.mem_cons.1 hm with e | hm
        · exact hx e.symm
        · exact h2 hm
theorem cutF_of {c : UInt8} : ∀ {a b : List UInt8}, c ∉ a → cutF c (a ++ c :: b) = some (a, b)
  | [], b, _ => by rw [List.nil_append, cutF, if_pos rfl]
  | x :: a, b, h => by
    rw [List.cons_append, cutF, if_neg (fun e => h (by rw [e]; exact List.mem_cons_self)), cutF_of (fun hm => h (List.mem_cons_of_mem _ hm))]
    rfl
theorem idx_cut (c : UInt8) : ∀ s : List UInt8, Lib.indexByte s c = match cutF c s with
    | some (a, _) => (a.length : Int)
    | none => -1
  | [] => rfl
  | x :: r => by
    have ih := idx_cut c r
    unfold Lib.indexByte cutF
    by_cases h : x = c
    · subst h
      simp
    · have hb : (x == c) = false := by simp [h]
      rw [hb, if_neg h, if_neg (by decide), ih]
      cases cutF c r with
      | none => rfl
      | some p =>
        obtain ⟨a, b⟩ := p
        have : ((a.length : Int) == -1) = false := by simp
        simp only [this, Bool.false_eq_true, if_false, Option.map_some]
        simp
def cutV (c : UInt8) (s : List UInt8) : Value := match cutF c s with
  | some (a, b) => .tuple #[.string ⟨a.toArray⟩, .string ⟨b.toArray⟩, .bool true]
  | none => .tuple #[.string ⟨s.toArray⟩, .string ⟨#[]⟩, .bool false]
theorem strIdx (s : ByteArray) (c : UInt8) (w0 : World) : Calls Try.prog 189 #[.string s, .int .u8 (c.toNat : Int)] w0 fun e w' => ∃ u, e = .returned u ∧ Like w0 w' ∧ u = .int .i64 (Lib.indexByte s.data.toList c) := by
  have h := Any.stringslite_IndexByte Tre.idxS s (c.toNat : Int) w0
  rw [Int.toNat_natCast, show (c.toNat).toUInt8 = c from UInt8.ofNat_toNat] at h
  refine (show Calls Try.prog 189 _ _ _ from h).mono fun e w' ⟨h1, h2⟩ => ?_
  subst h2
  exact ⟨_, h1, Like.refl _, rfl⟩
theorem idx_self (c : UInt8) : Lib.indexByte [c] c = 0 := by unfold Lib.indexByte; simp
theorem ext_list (l : List UInt8) (i j : Nat) : (⟨l.toArray⟩ : ByteArray).extract i j = ⟨((l.drop i).take (j - i)).toArray⟩ := by
  apply ByteArray.ext
  simp
theorem ext_a (a b : List UInt8) : (⟨(a ++ b).toArray⟩ : ByteArray).extract 0 a.length = ⟨a.toArray⟩ := by rw [ext_list]; simp
theorem ext_b (a b : List UInt8) (n k : Nat) (h : n = (a ++ b).length) (hk : k = a.length) : (⟨(a ++ b).toArray⟩ : ByteArray).extract k n = ⟨b.toArray⟩ := by
  rw [ext_list, h, hk, List.drop_left, List.take_of_length_le (by simp)]
theorem cut_b {a b s : List UInt8} {c : UInt8} (hs : s = a ++ c :: b) : (⟨s.toArray⟩ : ByteArray).extract (a.length + 1) (⟨s.toArray⟩ : ByteArray).size = ⟨b.toArray⟩ := by
  subst hs
  have h := ext_b (a ++ [c]) b (⟨(a ++ c :: b).toArray⟩ : ByteArray).size (a.length + 1) (by rw [bsz]; simp) (by simp)
  rw [show a ++ [c] ++ b = a ++ c :: b by simp] at h
  exact h
theorem cut_a {a b s : List UInt8} {c : UInt8} (hs : s = a ++ c :: b) : (⟨s.toArray⟩ : ByteArray).extract 0 a.length = ⟨a.toArray⟩ := by
  subst hs
  exact ext_a a (c :: b)
theorem g8_one (c : UInt8) : g8 [c] 0 = (c.toNat : Int) := rfl


set_option maxRecDepth 100000 in
theorem sidx (c : UInt8) (s : List UInt8) (w0 : World)  :
    Calls Try.prog 166 #[.string ⟨s.toArray⟩, .string ⟨[c].toArray⟩] w0 fun e w' => ∃ u, e = .returned u ∧ Like w0 w' ∧ u = .int .i64 (Lib.indexByte s c) := by
  refine enter1 (env := [(0, .string ⟨s.toArray⟩), (1, .string ⟨[c].toArray⟩)]) [.string ⟨s.toArray⟩, .string ⟨[c].toArray⟩] Try.func166 rfl Try.ntmps166 rfl rfl ?_
  have h1z : (⟨[c].toArray⟩ : ByteArray).size = 1 := rfl; have S0 := St.start w0 noM
  refine T_seq fun K1 hK1 => ?_
  refine T_region ?_
  refine L_y (y_assign rfl) rfl ?_
  refine L_nil ?_
  refine hK1 _ _ ?_
  refine T_seq fun K2 hK2 => ?_
  refine T_region ?_
  refine L_y (y_move rfl) rfl ?_
  refine L_y (y_lens Try.underlying9 rfl) rfl ?_
  refine L_y (y_assign rfl) rfl ?_
  refine L_nil ?_
  refine hK2 _ _ ?_
  refine T_seq fun K3 hK3 => ?_
  refine T_block ?_
  refine T_seq fun K4 hK4 => ?_
  refine T_region ?_
  refine L_y (y_move rfl) rfl ?_
  refine L_y (y_eql rfl rfl) rfl ?_
  refine L_y (y_move rfl) rfl ?_
  refine L_split 19 rfl (fun h19 => ?_) (fun h19 => ?_)
  ·
    omega
  ·
    refine L_gyes rfl rfl ?_
    refine L_y (y_move rfl) rfl ?_
    refine L_gyes rfl rfl ?_
    refine L_y (y_move rfl) rfl ?_
    refine L_gyes rfl rfl ?_
    refine L_y (y_seql rfl rfl) rfl ?_
    refine L_y ((by first | exact y_pickT rfl rfl | exact y_pickF rfl rfl)) rfl ?_
    refine L_y (y_assign rfl) rfl ?_
    refine L_nil ?_
    refine hK4 _ _ ?_
    refine T_cond rfl (fun h16 => ?_) (fun h16 => ?_)
    ·
      refine T_seq fun K5 hK5 => ?_
      refine T_region ?_
      refine L_y (y_assign rfl) rfl ?_
      refine L_nil ?_
      refine hK5 _ _ ?_
      refine T_ret ?_
      repeat (first | with_reducible refine up_then ?_ | with_reducible refine up_in ?_)
      refine ret1 rfl rfl ?_
      have e1 : s = [c] := by have e2 := congrArg (fun b : ByteArray => b.data.toList) h16; exact e2.symm
      exact ⟨_, rfl, S0.like0, by rw [e1, idx_self]⟩
    ·
      refine T_seq fun K6 hK6 => ?_
      refine T_region ?_
      refine L_y (y_move rfl) rfl ?_
      refine L_y (y_eql rfl rfl) rfl ?_
      refine L_y (y_assign rfl) rfl ?_
      refine L_nil ?_
      refine hK6 _ _ ?_
      refine T_cond rfl (fun h24 => ?_) (fun h24 => ?_)
      ·
        refine T_seq fun K7 hK7 => ?_
        refine T_region ?_
        refine L_y (y_move rfl) rfl ?_
        refine L_y (y_move rfl) rfl ?_
        refine L_y (y_idxS Try.underlying9 rfl rfl inferInstance (by omega)) rfl ?_
        rw [g8_one]
        refine L_o (o_call Try.func189 rfl rfl (strIdx ⟨s.toArray⟩ c w0) rfl rfl ?_)
        rintro e2 w2 ⟨v2, rfl, l2, rfl⟩
        refine ⟨_, rfl, ?_⟩
        have S2 := S0.like l2
        refine L_y (y_assign rfl) rfl ?_
        refine L_nil ?_
        refine hK7 _ _ ?_
        refine T_ret ?_
        repeat (first | with_reducible refine up_then ?_ | with_reducible refine up_in ?_)
        refine ret1 rfl rfl ?_
        exact ⟨_, rfl, S2.like0, rfl⟩
      ·
        omega


set_option maxRecDepth 100000 in
theorem scut0 (c : UInt8) (s : List UInt8) (w0 : World) (hl : s.length ≤ 1000000000) :
    Calls Try.prog 139 #[.string ⟨s.toArray⟩, .string ⟨[c].toArray⟩] w0 fun e w' => ∃ u, e = .returned u ∧ Like w0 w' ∧ u = cutV c s := by
  refine enter1 (env := [(0, .string ⟨s.toArray⟩), (1, .string ⟨[c].toArray⟩)]) [.string ⟨s.toArray⟩, .string ⟨[c].toArray⟩] Try.func139 rfl Try.ntmps139 rfl rfl ?_
  have hix := idx_cut c s
  have h1z : (⟨[c].toArray⟩ : ByteArray).size = 1 := rfl
  have S0 := St.start w0 noM
  refine T_seq fun K1 hK1 => ?_
  refine T_region ?_
  refine L_y (y_assign rfl) rfl ?_
  refine L_y (y_assign rfl) rfl ?_
  refine L_y (y_assign rfl) rfl ?_
  refine L_nil ?_
  refine hK1 _ _ ?_
  refine T_seq fun K2 hK2 => ?_
  refine T_seq fun K3 hK3 => ?_
  refine T_region ?_
  refine L_y (y_move rfl) rfl ?_
  refine L_y (y_move rfl) rfl ?_
  refine L_o (o_call Try.func166 rfl rfl (sidx c s w0) rfl rfl ?_)
  rintro e1 w1 ⟨v1, rfl, l1, rfl⟩
  refine ⟨_, rfl, ?_⟩
  have S1 := S0.like l1
  refine L_y (y_assign rfl) rfl ?_
  refine L_nil ?_
  refine hK3 _ _ ?_
  refine T_seq fun K4 hK4 => ?_
  refine T_region ?_
  refine L_y (y_move rfl) rfl ?_
  refine L_y (y_geq rfl rfl) rfl ?_
  refine L_nil ?_
  refine hK4 _ _ ?_
  refine T_cond rfl (fun h12 => ?_) (fun h12 => ?_)
  ·
    obtain ⟨a, b, hcf⟩ : ∃ a b, cutF c s = some (a, b) := by cases hc : cutF c s with | none => rw [hc] at hix; simp only [] at hix; omega | some p => exact ⟨p.1, p.2, rfl⟩
    rw [hcf] at hix
    have hix2 : Lib.indexByte s c = (a.length : Int) := hix
    obtain ⟨hs, hca⟩ := cutF_some hcf
    have hsz := bsz s
    have hsl : s.length = a.length + 1 + b.length := by rw [hs, List.length_append, List.length_cons]; omega
    rw [hix2]
    refine T_seq fun K5 hK5 => ?_
    refine T_drawnL [(0, true), (1, true), (2, true), (3, true), (4, true), (5, true), (6, true), (7, true), (8, true), (9, true), (10, true), (11, true)] hmix (by kernel_rfl) fun w2 l2 => ?_
    have S2 := S1.like l2
    refine DL_y rfl (y_move rfl) rfl ?_
    refine DL_y rfl (y_move rfl) rfl ?_
    refine DL_y rfl (y_ssliceH Try.underlying9 rfl rfl inferInstance (by omega)) rfl ?_
    refine DL_y rfl (y_move rfl) rfl ?_
    refine DL_y rfl (y_move rfl) rfl ?_
    refine DL_y rfl (y_move rfl) rfl ?_
    refine DL_y rfl (y_lens Try.underlying9 rfl) rfl ?_
    refine DL_y rfl (y_add rfl rfl (i64w (by omega))) rfl ?_
    refine DL_y rfl (y_ssliceL Try.underlying9 rfl rfl inferInstance (by omega)) rfl ?_
    refine DL_y rfl (y_assign rfl) rfl ?_
    refine DL_y rfl (y_assign rfl) rfl ?_
    refine DL_y rfl (y_assign rfl) rfl ?_
    refine DL_nil ?_
    refine hK5 _ _ ?_
    refine T_ret ?_
    repeat (first | with_reducible refine up_then ?_ | with_reducible refine up_in ?_)
    refine ret3 rfl rfl rfl rfl ?_
    exact ⟨_, rfl, S2.like0, by unfold cutV; rw [hcf, cut_a hs, h1z, cut_b hs]⟩
  ·
    have hcf : cutF c s = none := by cases hc : cutF c s with | none => rfl | some p => rw [hc] at hix; have hix2 : Lib.indexByte s c = (p.1.length : Int) := hix; omega
    refine T_skip ?_
    refine hK2 _ _ ?_
    refine T_seq fun K6 hK6 => ?_
    refine T_region ?_
    refine L_y (y_move rfl) rfl ?_
    refine L_y (y_assign rfl) rfl ?_
    refine L_y (y_assign rfl) rfl ?_
    refine L_y (y_assign rfl) rfl ?_
    refine L_nil ?_
    refine hK6 _ _ ?_
    refine T_ret ?_
    repeat (first | with_reducible refine up_then ?_ | with_reducible refine up_in ?_)
    refine ret3 rfl rfl rfl rfl ?_
    exact ⟨_, rfl, S1.like0, by unfold cutV; rw [hcf]⟩


theorem cutV_form (c : UInt8) (s : List UInt8) : ∃ a b f : Value, cutV c s = .tuple #[a, b, f] := by
  unfold cutV
  split
  · exact ⟨_, _, _, rfl⟩
  · exact ⟨_, _, _, rfl⟩
/-- Does s begin with p? -/
def preP (s p : List UInt8) : Prop := s.take p.length = p
instance (s p : List UInt8) : Decidable (preP s p) := inferInstanceAs (Decidable (s.take p.length = p))
theorem pre_iff (s p : List UInt8) : ((⟨s.toArray⟩ : ByteArray).extract 0 p.length = ⟨p.toArray⟩) ↔ preP s p := by
  rw [ext_list, List.drop_zero, Nat.sub_zero]
  constructor
  · intro h
    have := congrArg (fun b : ByteArray => b.data.toList) h
    exact this
  · intro h
    rw [show s.take p.length = p from h]
theorem pre_len {s p : List UInt8} (h : preP s p) : p.length ≤ s.length := by
  have := congrArg List.length h
  rw [List.length_take] at this
  omega
def cutP (s p : List UInt8) : Value := if preP s p then .tuple #[.string ⟨(s.drop p.length).toArray⟩, .bool true] else .tuple #[.string ⟨s.toArray⟩, .bool false]
theorem cutP_form (s p : List UInt8) : ∃ a b : Value, cutP s p = .tuple #[a, b] := by
  unfold cutP
  split
  · exact ⟨_, _, rfl⟩
  · exact ⟨_, _, rfl⟩
theorem ext_drop (s : List UInt8) (k : Nat) : (⟨s.toArray⟩ : ByteArray).extract k (⟨s.toArray⟩ : ByteArray).size = ⟨(s.drop k).toArray⟩ := by
  rw [ext_list, bsz, List.take_of_length_le (by rw [List.length_drop]; omega)]


set_option maxRecDepth 100000 in
theorem scut (c : UInt8) (s : List UInt8) (w0 : World) (hl : s.length ≤ 1000000000) :
    Calls Try.prog 94 #[.string ⟨s.toArray⟩, .string ⟨[c].toArray⟩] w0 fun e w' => ∃ u, e = .returned u ∧ Like w0 w' ∧ u = cutV c s := by
  refine enter1 (env := [(0, .string ⟨s.toArray⟩), (1, .string ⟨[c].toArray⟩)]) [.string ⟨s.toArray⟩, .string ⟨[c].toArray⟩] Try.func94 rfl Try.ntmps94 rfl rfl ?_
  have S0 := St.start w0 noM
  refine T_seq fun K1 hK1 => ?_
  refine T_region ?_
  refine L_y (y_assign rfl) rfl ?_
  refine L_y (y_assign rfl) rfl ?_
  refine L_y (y_assign rfl) rfl ?_
  refine L_nil ?_
  refine hK1 _ _ ?_
  refine T_seq fun K2 hK2 => ?_
  refine T_region ?_
  refine L_y (y_move rfl) rfl ?_
  refine L_y (y_move rfl) rfl ?_
  refine L_o (o_call Try.func139 rfl rfl (scut0 c s w0 hl) rfl rfl ?_)
  rintro e1 w1 ⟨v1, rfl, l1, hu1⟩
  refine ⟨_, rfl, ?_⟩
  have S1 := S0.like l1
  obtain ⟨va, vb, vf, hcv⟩ := cutV_form c s
  rw [hcv] at hu1
  subst hu1
  refine L_y (y_extract rfl rfl) rfl ?_
  refine L_y (y_extract rfl rfl) rfl ?_
  refine L_y (y_extract rfl rfl) rfl ?_
  refine L_y (y_assign rfl) rfl ?_
  refine L_y (y_assign rfl) rfl ?_
  refine L_y (y_assign rfl) rfl ?_
  refine L_nil ?_
  refine hK2 _ _ ?_
  refine T_ret ?_
  repeat (first | with_reducible refine up_then ?_ | with_reducible refine up_in ?_)
  refine ret3 rfl rfl rfl rfl ?_
  exact ⟨_, rfl, S1.like0, by rw [hcv]; rfl⟩


set_option maxRecDepth 100000 in
theorem pref0 (s p : List UInt8) (w0 : World)  :
    Calls Try.prog 185 #[.string ⟨s.toArray⟩, .string ⟨p.toArray⟩] w0 fun e w' => ∃ u, e = .returned u ∧ Like w0 w' ∧ u = .bool (decide (preP s p)) := by
  refine enter1 (env := [(0, .string ⟨s.toArray⟩), (1, .string ⟨p.toArray⟩)]) [.string ⟨s.toArray⟩, .string ⟨p.toArray⟩] Try.func185 rfl Try.ntmps185 rfl rfl ?_
  have hs := bsz s
  have hp := bsz p
  have S0 := St.start w0 noM
  refine T_seq fun K1 hK1 => ?_
  refine T_region ?_
  refine L_y (y_assign rfl) rfl ?_
  refine L_nil ?_
  refine hK1 _ _ ?_
  refine T_seq fun K2 hK2 => ?_
  refine T_region ?_
  refine L_y (y_move rfl) rfl ?_
  refine L_y (y_lens Try.underlying9 rfl) rfl ?_
  refine L_y (y_move rfl) rfl ?_
  refine L_y (y_lens Try.underlying9 rfl) rfl ?_
  refine L_y (y_geq rfl rfl) rfl ?_
  refine L_y (y_move rfl) rfl ?_
  refine L_split 10 rfl (fun h10 => ?_) (fun h10 => ?_)
  ·
    refine L_gyes rfl rfl ?_
    refine L_y (y_move rfl) rfl ?_
    refine L_gyes rfl rfl ?_
    refine L_y (y_move rfl) rfl ?_
    refine L_gyes rfl rfl ?_
    refine L_y (y_lens Try.underlying9 rfl) rfl ?_
    refine L_gyes rfl rfl ?_
    refine L_y (y_ssliceH (u := p.length) Try.underlying9 rfl rfl (Nt.mk (by omega)) (by omega)) rfl ?_
    refine L_gyes rfl rfl ?_
    refine L_y (y_move rfl) rfl ?_
    refine L_gyes rfl rfl ?_
    refine L_y (y_seql rfl rfl) rfl ?_
    refine L_y ((by first | exact y_pickT rfl rfl | exact y_pickF rfl rfl)) rfl ?_
    refine L_y (y_assign rfl) rfl ?_
    refine L_nil ?_
    refine hK2 _ _ ?_
    refine T_ret ?_
    repeat (first | with_reducible refine up_then ?_ | with_reducible refine up_in ?_)
    refine ret1 rfl rfl ?_
    first | exact ⟨_, rfl, S0.like0, congrArg Value.bool (decide_eq_decide.2 (pre_iff s p))⟩ | exact ⟨_, rfl, S0.like0, congrArg Value.bool (decide_eq_false (fun h => by have := pre_len h; omega)).symm⟩
  ·
    refine L_gno rfl rfl rfl ?_
    refine L_gno rfl rfl rfl ?_
    refine L_gno rfl rfl rfl ?_
    refine L_gno rfl rfl rfl ?_
    refine L_gno rfl rfl rfl ?_
    refine L_gno rfl rfl rfl ?_
    refine L_y ((by first | exact y_pickT rfl rfl | exact y_pickF rfl rfl)) rfl ?_
    refine L_y (y_assign rfl) rfl ?_
    refine L_nil ?_
    refine hK2 _ _ ?_
    refine T_ret ?_
    repeat (first | with_reducible refine up_then ?_ | with_reducible refine up_in ?_)
    refine ret1 rfl rfl ?_
    first | exact ⟨_, rfl, S0.like0, congrArg Value.bool (decide_eq_decide.2 (pre_iff s p))⟩ | exact ⟨_, rfl, S0.like0, congrArg Value.bool (decide_eq_false (fun h => by have := pre_len h; omega)).symm⟩


set_option maxRecDepth 100000 in
theorem pref (s p : List UInt8) (w0 : World)  :
    Calls Try.prog 161 #[.string ⟨s.toArray⟩, .string ⟨p.toArray⟩] w0 fun e w' => ∃ u, e = .returned u ∧ Like w0 w' ∧ u = .bool (decide (preP s p)) := by
  refine enter1 (env := [(0, .string ⟨s.toArray⟩), (1, .string ⟨p.toArray⟩)]) [.string ⟨s.toArray⟩, .string ⟨p.toArray⟩] Try.func161 rfl Try.ntmps161 rfl rfl ?_
  have S0 := St.start w0 noM
  refine T_seq fun K1 hK1 => ?_
  refine T_region ?_
  refine L_y (y_assign rfl) rfl ?_
  refine L_nil ?_
  refine hK1 _ _ ?_
  refine T_seq fun K2 hK2 => ?_
  refine T_region ?_
  refine L_y (y_move rfl) rfl ?_
  refine L_y (y_move rfl) rfl ?_
  refine L_o (o_call Try.func185 rfl rfl (pref0 s p w0) rfl rfl ?_)
  rintro e1 w1 ⟨v1, rfl, l1, rfl⟩
  refine ⟨_, rfl, ?_⟩
  have S1 := S0.like l1
  refine L_y (y_assign rfl) rfl ?_
  refine L_nil ?_
  refine hK2 _ _ ?_
  refine T_ret ?_
  repeat (first | with_reducible refine up_then ?_ | with_reducible refine up_in ?_)
  refine ret1 rfl rfl ?_
  exact ⟨_, rfl, S1.like0, rfl⟩


set_option maxRecDepth 100000 in
theorem cutp0 (s p : List UInt8) (w0 : World)  :
    Calls Try.prog 186 #[.string ⟨s.toArray⟩, .string ⟨p.toArray⟩] w0 fun e w' => ∃ u, e = .returned u ∧ Like w0 w' ∧ u = cutP s p := by
  refine enter1 (env := [(0, .string ⟨s.toArray⟩), (1, .string ⟨p.toArray⟩)]) [.string ⟨s.toArray⟩, .string ⟨p.toArray⟩] Try.func186 rfl Try.ntmps186 rfl rfl ?_
  have hs := bsz s
  have hp := bsz p
  have S0 := St.start w0 noM
  refine T_seq fun K1 hK1 => ?_
  refine T_region ?_
  refine L_y (y_assign rfl) rfl ?_
  refine L_y (y_assign rfl) rfl ?_
  refine L_nil ?_
  refine hK1 _ _ ?_
  refine T_seq fun K2 hK2 => ?_
  refine T_seq fun K3 hK3 => ?_
  refine T_region ?_
  refine L_y (y_move rfl) rfl ?_
  refine L_y (y_move rfl) rfl ?_
  refine L_o (o_call Try.func185 rfl rfl (pref0 s p w0) rfl rfl ?_)
  rintro e1 w1 ⟨v1, rfl, l1, rfl⟩
  refine ⟨_, rfl, ?_⟩
  have S1 := S0.like l1
  refine L_y ((by first | exact y_notD rfl | exact y_not rfl)) rfl ?_
  refine L_nil ?_
  refine hK3 _ _ ?_
  refine T_cond rfl (fun h9 => ?_) (fun h9 => ?_)
  ·
    have hn : ¬ preP s p := h9
    refine T_seq fun K4 hK4 => ?_
    refine T_region ?_
    refine L_y (y_move rfl) rfl ?_
    refine L_y (y_assign rfl) rfl ?_
    refine L_y (y_assign rfl) rfl ?_
    refine L_nil ?_
    refine hK4 _ _ ?_
    refine T_ret ?_
    repeat (first | with_reducible refine up_then ?_ | with_reducible refine up_in ?_)
    refine ret2 rfl rfl rfl ?_
    exact ⟨_, rfl, S1.like0, by rw [cutP, if_neg hn]⟩
  ·
    have hy : preP s p := Classical.not_not.1 h9
    have hpl := pre_len hy
    refine T_skip ?_
    refine hK2 _ _ ?_
    refine T_seq fun K5 hK5 => ?_
    refine T_region ?_
    refine L_y (y_move rfl) rfl ?_
    refine L_y (y_move rfl) rfl ?_
    refine L_y (y_lens Try.underlying9 rfl) rfl ?_
    refine L_y (y_ssliceL (l := p.length) Try.underlying9 rfl rfl (Nt.mk (by omega)) (by omega)) rfl ?_
    refine L_y (y_assign rfl) rfl ?_
    refine L_y (y_assign rfl) rfl ?_
    refine L_nil ?_
    refine hK5 _ _ ?_
    refine T_ret ?_
    repeat (first | with_reducible refine up_then ?_ | with_reducible refine up_in ?_)
    refine ret2 rfl rfl rfl ?_
    exact ⟨_, rfl, S1.like0, by rw [cutP, if_pos hy, ext_drop]⟩


set_option maxRecDepth 100000 in
theorem cutp (s p : List UInt8) (w0 : World)  :
    Calls Try.prog 162 #[.string ⟨s.toArray⟩, .string ⟨p.toArray⟩] w0 fun e w' => ∃ u, e = .returned u ∧ Like w0 w' ∧ u = cutP s p := by
  refine enter1 (env := [(0, .string ⟨s.toArray⟩), (1, .string ⟨p.toArray⟩)]) [.string ⟨s.toArray⟩, .string ⟨p.toArray⟩] Try.func162 rfl Try.ntmps162 rfl rfl ?_
  have S0 := St.start w0 noM
  refine T_seq fun K1 hK1 => ?_
  refine T_region ?_
  refine L_y (y_assign rfl) rfl ?_
  refine L_y (y_assign rfl) rfl ?_
  refine L_nil ?_
  refine hK1 _ _ ?_
  refine T_seq fun K2 hK2 => ?_
  refine T_region ?_
  refine L_y (y_move rfl) rfl ?_
  refine L_y (y_move rfl) rfl ?_
  refine L_o (o_call Try.func186 rfl rfl (cutp0 s p w0) rfl rfl ?_)
  rintro e1 w1 ⟨v1, rfl, l1, hu1⟩
  refine ⟨_, rfl, ?_⟩
  have S1 := S0.like l1
  obtain ⟨va, vb, hcv⟩ := cutP_form s p
  rw [hcv] at hu1
  subst hu1
  refine L_y (y_extract rfl rfl) rfl ?_
  refine L_y (y_extract rfl rfl) rfl ?_
  refine L_y (y_assign rfl) rfl ?_
  refine L_y (y_assign rfl) rfl ?_
  refine L_nil ?_
  refine hK2 _ _ ?_
  refine T_ret ?_
  repeat (first | with_reducible refine up_then ?_ | with_reducible refine up_in ?_)
  refine ret2 rfl rfl rfl ?_
  exact ⟨_, rfl, S1.like0, by rw [hcv]; rfl⟩
end Go.Proofs.Ytgaklngnfecdaaa.Rev


/-
  Panics and recover: a call that may end by a panic, a deferred closure with what it has of its own. General; nothing here names a program.
-/
namespace Go.Proofs.Ytgaklngnfecdaaa.Zx
open Go.RowKit Zk
set_option linter.unusedVariables false
set_option linter.unusedSimpArgs false
section
variable {P : Program} {N : Nat} {Q : Post} {S : World → Prop} {env : Env} {w w0 : World} {K : Env → World → Prop} {dst : Option Tmp} {d : Tmp} {ty : TypeId} {pos : String} {after : Array Edge} {g : Option (Nat × Bool)}
theorem y_mkI {x : Operand} {t : TypeId} {v : Value} (hc : P.concrete t = true) (hx : ev env x = some v) : Y P S env ⟨dst, .makeInterface t x, ty, pos, after, g⟩ (.iface t v) := fun N a w ha _ => by
  simp only [execOp, ha.eval hx, Sem.run_bind, run_makeInterface w t v hc, Result.andThen_ok, Sem.run_pure]
theorem y_asHit {x : Operand} {t xt : TypeId} {v : Value} {td : TypeDesc} (ht : P.underlying t = some td) (hi : ∀ m, td ≠ .interface m) (hx : ev env x = some (.iface t v)) : Y P S env ⟨dst, .typeAssert x xt t true, ty, pos, after, g⟩ (.tuple #[v, .bool true]) := fun N a w ha _ => by
  have h1 : (Instr.typeAssert (.iface t v) xt t true).run P w = .ok (.tuple #[v, .bool true]) w := by
    simp only [Instr.typeAssert, Sem.run_bind, run_underlying ht, Result.andThen_ok]
    cases td <;> first | exact absurd rfl (hi _) | simp
  simp only [execOp, ha.eval hx, Sem.run_bind, h1, Result.andThen_ok, Sem.run_pure]
theorem y_asNil {x : Operand} {t xt : TypeId} {z : Value} {td : TypeDesc} (ht : P.underlying t = some td) (hi : ∀ m, td ≠ .interface m) (hz : ∀ W, (zeroValue t).run P W = .ok z W) (hx : ev env x = some .nilIface) : Y P S env ⟨dst, .typeAssert x xt t true, ty, pos, after, g⟩ (.tuple #[z, .bool false]) := fun N a w ha _ => by
  have h1 : (Instr.typeAssert .nilIface xt t true).run P w = .ok (.tuple #[z, .bool false]) w := by
    simp only [Instr.typeAssert, Sem.run_bind, run_underlying ht, Result.andThen_ok]
    cases td <;> first | exact absurd rfl (hi _) | simp [hz]
  simp only [execOp, ha.eval hx, Sem.run_bind, h1, Result.andThen_ok, Sem.run_pure]
/-- A panic. -/
theorem L_panic {ops : Array Oper} {rest : List Oper} {x : Operand} {t : TypeId} {v : Value} (hx : ev env x = some (.iface t v)) (h : Q (.panic [{ v := .iface t v, recovered := false }]) env w) :
    L P N ops Q (⟨none, .panic x, ty, pos, after, none⟩ :: rest) env w := L_o fun a ha => by
  have hr : (execOp a.eval ⟨none, .panic x, ty, pos, after, none⟩).run P w = .halt (.panic (.iface t v)) w := by
    simp only [execOp, ha.eval hx, Instr.panic]
    rfl
  unfold Oper.wp
  rw [hr]
  exact ⟨env, ha, h⟩
/-- A call that may end by a panic. -/
theorem o_callP {f : FuncId} {fn : Func} {xs : Array Operand} {ts : Array TypeId} {args : List Value} {R : Ending → World → Prop} (hf : P.funcs[f]? = some fn) (hn : (fn.name == "runtime.NumGoroutine") = false) (hb : fn.body.isNone = false)
    (hc : Calls P f args.toArray w R) (hargs : evl env xs.toList = some args) (hd : Nat.blt d N = true)
    (h : ∀ e w', R e w' → (∃ v, e = .returned v ∧ K ((d, v) :: env) w') ∨ ∃ c, e = .panicked c ∧ Q (.panic c) env w') :
    O P N Q ⟨some d, .call { callee := .value (.func f), args := xs, argTypes := ts }, ty, pos, after, g⟩ env w K := fun a ha => by
  have hmap : xs.map a.eval = args.toArray := by
    rw [← evl_map ha xs.toList args hargs]
    apply Array.ext'
    simp
  unfold Oper.wp
  have hrun : (execOp a.eval ⟨some d, .call { callee := .value (.func f), args := xs, argTypes := ts }, ty, pos, after, g⟩).run P w = .ok (.enter f args.toArray) w := by
    simp only [execOp, resolve, hmap, Act.eval, Deferred.ofValue, invoke, callFunc, Sem.run_bind, Sem.run_pure, Result.andThen_ok, run_program, hf, hn, hb, Bool.false_eq_true, if_false, Array.append_empty, Array.empty_append]
  rw [hrun]
  refine hc.mono fun e w' hR => ?_
  rcases h e w' hR with ⟨v, rfl, hK⟩ | ⟨c, rfl, hK⟩
  · exact ⟨_, ha.put d v hd, hK⟩
  · exact ⟨env, ha, hK⟩
/-- A closure that waits. -/
theorem L_deferV {ops : Array Oper} {rest : List Oper} {x : Operand} {f : FuncId} {cs : List Value} (hx : ev env x = some (.func (.func f) #[] cs.toArray))
    (h : L P N ops Q rest ((1000000, .agg #[.agg #[.int .i64 (f : Int), .agg #[], .agg cs.toArray]]) :: env) w) (hd0 : dfs env = [] := by rfl) :
    L P N ops Q (⟨none, .defer { callee := .value x, args := #[], argTypes := #[] }, ty, pos, after, none⟩ :: rest) env w :=
  L_o fun a ha => by
    unfold Oper.wp
    have hrun : (execOp a.eval ⟨none, .defer { callee := .value x, args := #[], argTypes := #[] }, ty, pos, after, none⟩).run P w = .ok (.defer ⟨.fn (.func f) cs.toArray, #[]⟩) w := by
      simp only [execOp, resolve, ha.eval hx, Deferred.ofValue, Sem.run_bind, Sem.run_pure, Result.andThen_ok, Array.append_empty, Array.empty_append, Array.map_empty]
    rw [hrun]
    refine ⟨_, ⟨?_, ha.small, ha.size, fun i v hv => ?_⟩, h⟩
    · show _ :: a.defers = _
      rw [ha.defers, hd0]
      rfl
    · simp only [look] at hv
      cases hb : Nat.beq 1000000 i with
      | false =>
        rw [hb] at hv
        exact ha.vals i v hv
      | true =>
        rw [hb] at hv
        cases hv
end
/-- The calls that wait, as they stand in the list. -/
def lookD : Env → Option Value
  | [] => none
  | (i, v) :: r => bif Nat.beq i 1000000 then some v else lookD r
theorem dfs_lookD : ∀ {e : Env} {D : Value}, lookD e = some D → dfs e = decL D
  | [], _, h => by cases h
  | (i, v) :: r, D, h => by
    simp only [lookD] at h
    simp only [dfs]
    cases hb : Nat.beq i 1000000 with
    | true =>
      rw [hb] at h
      simp only [cond_true, Option.some.injEq] at h
      rw [h]
      rfl
    | false =>
      rw [hb] at h
      exact dfs_lookD h
theorem Sub.dfr {e : Env} {D : Value} (h : lookD e = some D) : Sub [(1000000, D)] e := by
  refine ⟨(dfs_lookD h).symm, fun i v hi => ?_⟩
  simp only [Zx.look] at hi
  cases hb : Nat.beq 1000000 i with
  | true => rw [hb] at hi; cases hi
  | false => rw [hb] at hi; cases hi
/-! ### a deferred closure that recovers -/
theorem wp_mono2 {P : Program} {o : Oper} {a : Act} {w : World} {K K' : Act → World → Prop} {Q Q' : Exit → Act → World → Prop} (hK : ∀ a w, K a w → K' a w) (hQ : ∀ e a w, Q e a w → Q' e a w) (h : o.wp P a w K Q) : o.wp P a w K' Q' := by
  unfold Oper.wp at *
  generalize (execOp a.eval o).run P w = r at *
  unfold Oper.upon at *
  split at h
  · exact hK _ _ h
  · exact hK _ _ h
  · exact hK _ _ h
  · refine h.mono fun e w' hh => ?_
    cases e with
    | returned v => exact hK _ _ hh
    | panicked c => exact hQ _ _ _ hh
    | outgrown => obtain ⟨a0, w0, h0⟩ := hh; exact ⟨a0, w0, hQ _ _ _ h0⟩
  · exact h.mono fun v w' hh => hK _ _ hh
  · exact hQ _ _ _ h
  · exact h.elim
theorem opsS {P : Program} {ops : Array Oper} {Q0 : Exit → Act → World → Prop} {Q : Exit → Act → List Frame → World → Prop} {cs : List Frame} (hno : ¬ LetsOut Q0) (hQ : ∀ e a w, Q0 e a w → Q e a cs w) : ∀ (l : List Nat) (a : Act) (w : World), wpOps P ops Q0 l a w → wpOpsS P ops Q l a cs w
  | [], a, w, h => hQ _ _ _ h
  | i :: l, a, w, h => by
    unfold wpOps at h
    unfold wpOpsS
    cases ho : ops[i]? with
    | none =>
      simp only [ho] at h ⊢
      exact opsS hno hQ l a w h
    | some o =>
      simp only [ho] at h ⊢
      by_cases hw : Region.wanted o (yielded ops a.tmps) = true
      · simp only [hw, if_true] at h ⊢
        have h1 := h.resolve_right (fun k => hno k.2)
        have h2 : o.wp P a w (fun a' w' => wpOpsS P ops Q l a' cs w') (fun e a w => Q e a cs w) := wp_mono2 (fun a w h => opsS hno hQ l a w h) hQ h1
        unfold Oper.wp at h2
        split
        · rename_i w' hr
          rw [hr] at h2
          exact h2.elim
        · exact h2
      · simp only [hw, if_false, Bool.false_eq_true] at h ⊢
        exact opsS hno hQ l _ w h
abbrev recOp : Op := .call { callee := .builtin .recover, args := #[], argTypes := #[] }
/-- What recover hands out of a frame of mode u, and the mode behind it. -/
def Recov (u u2 : FrameMode) (v : Value) : Prop := (u = .returning ∧ u2 = .returning ∧ v = .nilIface) ∨ ∃ older, u = .panicking ({ v := v, recovered := false } :: older) ∧ u2 = .panicking ({ v := v, recovered := true } :: older)
theorem enterR {P : Program} {N : Nat} {env : Env} {w : World} {f : FuncId} {fn : Func} {id : Nat} {d : Tmp} {ty : TypeId} {pos : String} {after : Array Edge} {rest : List Oper} {y : Code} {R : Ending → World → Prop} {u u2 : FrameMode} {v : Value} (args : List Value)
    (hu : Recov u u2 v) (hf : P.funcs[f]? = some fn) (hb : fn.body = some (.seq (.region id ((⟨some d, recOp, ty, pos, after, none⟩ :: rest).toArray) false) y)) (hn : fn.ntmps = N) (hN : Nat.ble args.length N = true) (he : envOf args 0 = env) (hd : Nat.blt d N = true)
    (h : ∀ K : Env → World → Prop, (∀ e w, T P N y (bodyQ P fn R) e w → K e w) → L P N ((⟨some d, recOp, ty, pos, after, none⟩ :: rest).toArray) (thenQ K (bodyQ P fn R)) rest ((d, v) :: env) w) (hd0 : dfs env = [] := by rfl) (hsm : Nat.ble N 1000000 = true := by rfl) :
    CallsD P f args.toArray u w fun e u' w' => u' = u2 ∧ R e w' := by
  refine callsD_of_wpS hf hb fun c₀ cs hu0 => ?_
  have hsm' : N ≤ 1000000 := by simpa using hsm
  have hN' : args.length ≤ N := by simpa using hN
  have hfit : Fits N env { tmps := args.toArray ++ Array.replicate (fn.ntmps - args.toArray.size) undef, defers := [] } := by
    refine ⟨hd0.symm, hsm', by simp [hn]; omega, fun i v hv => ?_⟩
    have h1 : args[i]? = some v := by subst he; simpa using (look_envOf _ _ _ _ hv).2
    have h2 := (List.getElem?_eq_some_iff.1 h1).1
    rw [Array.getElem?_append_left (by simpa using h2)]
    simpa using h1
  generalize ({ tmps := args.toArray ++ Array.replicate (fn.ntmps - args.toArray.size) undef, defers := [] } : Act) = a at hfit
  have key : ∀ (Q' : Post) (e : Exit) (a' : Act) (w' : World), Q' = bodyQ P fn R → lift N Q' e a' w' → bodyPostS P fn c₀ cs (fun e u' w' => u' = u2 ∧ R e w') e a' ({ c₀ with mode := u2 } :: cs) w' := by
    rintro Q' e a' w' rfl hq
    cases e with
    | normal =>
      obtain ⟨e', h1, h0, v, h2, h3⟩ := hq
      exact ⟨h1.defers.trans h0, u2, rfl, v, h2 N a' h1, rfl, h3⟩
    | ret =>
      obtain ⟨e', h1, h0, v, h2, h3⟩ := hq
      exact ⟨h1.defers.trans h0, u2, rfl, v, h2 N a' h1, rfl, h3⟩
    | panic c =>
      obtain ⟨e', h1, h0, h2⟩ := hq
      exact ⟨h1.defers.trans h0, u2, rfl, rfl, h2⟩
    | outgrown => exact hq.elim
    | exit i => obtain ⟨_, _, h⟩ := hq; exact h.elim
    | goto i => obtain ⟨_, _, h⟩ := hq; exact h.elim
  have hrun : (execOp a.eval ⟨some d, recOp, ty, pos, after, none⟩).run P w = .ok .recover w := rfl
  have hrec : (match recoverD (c₀ :: cs) with
      | some (v', cs') => v' = v ∧ cs' = { c₀ with mode := u2 } :: cs
      | none => v = .nilIface ∧ (c₀ :: cs) = { c₀ with mode := u2 } :: cs) := by
    rcases hu with ⟨h1, h2, h3⟩ | ⟨older, h1, h2⟩
    · have e : recoverD (c₀ :: cs) = none := by simp [recoverD, hu0, h1]
      rw [e]
      refine ⟨h3, ?_⟩
      rw [h2, ← h1, ← hu0]
    · have e : recoverD (c₀ :: cs) = some (v, { c₀ with mode := u2 } :: cs) := by simp [recoverD, hu0, h1, h2]
      rw [e]
      exact ⟨rfl, rfl⟩
  refine wpS_seq (wpS_region ?_)
  have hrange : List.range ((⟨some d, recOp, ty, pos, after, none⟩ :: rest : List Oper).toArray).size = 0 :: List.range' 1 rest.length := by
    rw [List.size_toArray, List.length_cons, List.range_eq_range', List.range'_succ]
  rw [hrange]
  have hL := h (fun e w => T P N y (bodyQ P fn R) e w) (fun _ _ h => h) _ (hfit.put d v hd)
  rw [← wpOps_eq_wpList rest 1 (fun j => by simp [Nat.add_comm 1 j])] at hL
  have hgo : wpOpsS P ((⟨some d, recOp, ty, pos, after, none⟩ :: rest : List Oper).toArray) (Exit.thenS (y.wpS P (bodyPostS P fn c₀ cs (fun e u' w' => u' = u2 ∧ R e w'))) (bodyPostS P fn c₀ cs (fun e u' w' => u' = u2 ∧ R e w'))) (List.range' 1 rest.length) (a.put (some d) v) ({ c₀ with mode := u2 } :: cs) w := by
    refine opsS (fun ⟨_, _, h⟩ => h.elim) (fun e a' w' hq => ?_) _ _ _ hL
    cases e with
    | normal =>
      obtain ⟨e', h1, h2⟩ := hq
      exact wpS_of_wp (Code.wp_mono (fun e a w hh => key _ e a w rfl hh) (h2 a' h1))
    | exit i => obtain ⟨e', h1, h2⟩ := hq; exact key _ (.exit i) a' w' rfl ⟨e', h1, h2⟩
    | goto i => obtain ⟨e', h1, h2⟩ := hq; exact key _ (.goto i) a' w' rfl ⟨e', h1, h2⟩
    | ret => obtain ⟨e', h1, h2⟩ := hq; exact key _ .ret a' w' rfl ⟨e', h1, h2⟩
    | panic c => obtain ⟨e', h1, h2⟩ := hq; exact key _ (.panic c) a' w' rfl ⟨e', h1, h2⟩
    | outgrown => exact hq.elim
  unfold wpOpsS
  simp only [List.getElem?_toArray, List.getElem?_cons_zero, Region.wanted, if_true, hrun]
  split at hrec
  · rename_i v' cs' hr
    rw [hr]
    obtain ⟨rfl, rfl⟩ := hrec
    exact hgo
  · rename_i hr
    rw [hr]
    obtain ⟨rfl, hcs⟩ := hrec
    rw [hcs]
    exact hgo
end Go.Proofs.Ytgaklngnfecdaaa.Zx
