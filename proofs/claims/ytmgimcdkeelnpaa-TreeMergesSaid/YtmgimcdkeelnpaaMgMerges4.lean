import Derived.Test.YtmgimcdkeelnpaaMgMerges3

/-
  What two lists have of each name: plain law.
-/
namespace Go.Proofs.Ytmgimcdkeelnpaa.Mrg
open Go.RowKit Zk Zx
set_option linter.unusedVariables false
set_option linter.unusedSimpArgs false
/-! ### names in order -/
theorem ba_ext {a b : ByteArray} (h : a.data.toList = b.data.toList) : a = b := by
  cases a; cases b
  simp only [ByteArray.mk.injEq]
  exact Array.ext' h
theorem sirr (a : ByteArray) : sLt a a = false := by rw [sLt_bl]; exact bl_irr _
theorem strn {a b c : ByteArray} (h1 : sLt a b = true) (h2 : sLt b c = true) : sLt a c = true := by
  rw [sLt_bl] at h1 h2 ⊢
  exact bl_trans _ _ _ h1 h2
theorem stot {a b : ByteArray} (h : sLt a b = false) (hne : a ≠ b) : sLt b a = true := by
  rw [sLt_bl] at h ⊢
  exact bl_total _ _ h fun e => hne (ba_ext e)
theorem sne {a b : ByteArray} (h : sLt a b = true) : a ≠ b := fun e => by
  subst e
  rw [sirr] at h
  cases h
theorem snlt {a b : ByteArray} (h : sLt a b = true) : sLt b a = false := by
  cases h2 : sLt b a with
  | false => rfl
  | true =>
    have := strn h h2
    rw [sirr] at this
    cases this
theorem sge {a b c : ByteArray} (h : sLt a b = true) (h2 : sLt c b = false) : sLt a c = true := by
  by_cases e : c = b
  · subst e; exact h
  · exact strn h (stot h2 e)
def Asc (l : List ByteArray) : Prop := l.Pairwise fun x y => sLt x y = true
theorem insN_nil (x : ByteArray) : insN [] x = [x] := rfl
theorem cutN_cons (y x : ByteArray) (xs : List ByteArray) : cutN (y :: xs) x = if sLt y x = true then cutN xs x + 1 else 0 := by
  unfold cutN
  rw [List.takeWhile_cons]
  cases sLt y x <;> simp
theorem insN_lt {y x : ByteArray} {xs : List ByteArray} (h : sLt y x = true) : insN (y :: xs) x = y :: insN xs x := by
  unfold insN
  rw [cutN_cons, if_pos h]
  simp only [List.getElem?_cons_succ, List.take_succ_cons, List.drop_succ_cons, List.cons_append]
  split <;> rfl
theorem insN_eq {x : ByteArray} {xs : List ByteArray} : insN (x :: xs) x = x :: xs := by
  have e : cutN (x :: xs) x = 0 := by rw [cutN_cons, sirr]; rfl
  unfold insN
  rw [e]
  simp
theorem insN_gt {y x : ByteArray} {xs : List ByteArray} (h : sLt y x = false) (hne : y ≠ x) : insN (y :: xs) x = x :: y :: xs := by
  have e : cutN (y :: xs) x = 0 := by rw [cutN_cons, h]; rfl
  unfold insN
  rw [e, if_neg (by simpa using hne)]
  simp
theorem insN_mem : ∀ (xs : List ByteArray) (x z : ByteArray), z ∈ insN xs x ↔ z = x ∨ z ∈ xs
  | [], x, z => by rw [insN_nil]; simp
  | y :: xs, x, z => by
    by_cases h : sLt y x = true
    · rw [insN_lt h, List.mem_cons, insN_mem xs x z, List.mem_cons]
      constructor
      · rintro (h | h | h)
        · exact .inr (.inl h)
        · exact .inl h
        · exact .inr (.inr h)
      · rintro (h | h | h)
        · exact .inr (.inl h)
        · exact .inl h
        · exact .inr (.inr h)
    · by_cases e : y = x
      · subst e
        rw [insN_eq]
        simp
      · rw [insN_gt (by simpa using h) e]
        simp
theorem insN_asc : ∀ (xs : List ByteArray) (x : ByteArray), Asc xs → Asc (insN xs x)
  | [], x, _ => by rw [insN_nil]; exact List.pairwise_singleton _ _
  | y :: xs, x, h => by
    obtain ⟨h1, h2⟩ := List.pairwise_cons.1 h
    by_cases hl : sLt y x = true
    · rw [insN_lt hl]
      refine List.pairwise_cons.2 ⟨fun z hz => ?_, insN_asc xs x h2⟩
      rcases (insN_mem xs x z).1 hz with rfl | hz
      · exact hl
      · exact h1 z hz
    · by_cases e : y = x
      · subst e
        rw [insN_eq]
        exact h
      · rw [insN_gt (by simpa using hl) e]
        have hxy := stot (by simpa using hl) e
        refine List.pairwise_cons.2 ⟨fun z hz => ?_, h⟩
        rcases List.mem_cons.1 hz with rfl | hz
        · exact hxy
        · exact strn hxy (h1 z hz)
theorem nms_all : ∀ (l : List EV) (o : List ByteArray), Asc o → Asc (l.foldl (fun o e => insN o e.nm) o) ∧ ∀ z, z ∈ l.foldl (fun o e => insN o e.nm) o ↔ z ∈ o ∨ ∃ e ∈ l, e.nm = z
  | [], o, h => ⟨h, fun z => by simp⟩
  | x :: l, o, h => by
    obtain ⟨h1, h2⟩ := nms_all l (insN o x.nm) (insN_asc o _ h)
    refine ⟨h1, fun z => ?_⟩
    rw [List.foldl_cons, h2, insN_mem]
    constructor
    · rintro ((h | h) | ⟨e, he, hz⟩)
      · exact .inr ⟨x, by simp, h.symm⟩
      · exact .inl h
      · exact .inr ⟨e, by simp [he], hz⟩
    · rintro (h | ⟨e, he, hz⟩)
      · exact .inl (.inr h)
      · rcases List.mem_cons.1 he with rfl | he
        · exact .inl (.inl hz.symm)
        · exact .inr ⟨e, he, hz⟩
theorem nms_asc (l : List EV) : Asc (nms l) := (nms_all l [] List.Pairwise.nil).1
theorem nms_mem (l : List EV) (z : ByteArray) : z ∈ nms l ↔ ∃ e ∈ l, e.nm = z := by
  have := (nms_all l [] List.Pairwise.nil).2 z
  simpa [nms] using this
theorem asc_uniq : ∀ (xs ys : List ByteArray), Asc xs → Asc ys → (∀ z, z ∈ xs ↔ z ∈ ys) → xs = ys
  | [], [], _, _, _ => rfl
  | [], y :: ys, _, _, h => by have := (h y).2 (by simp); cases this
  | x :: xs, [], _, _, h => by have := (h x).1 (by simp); cases this
  | x :: xs, y :: ys, hx, hy, h => by
    obtain ⟨hx1, hx2⟩ := List.pairwise_cons.1 hx
    obtain ⟨hy1, hy2⟩ := List.pairwise_cons.1 hy
    have e : x = y := by
      rcases List.mem_cons.1 ((h x).1 (by simp)) with e | h1
      · exact e
      · rcases List.mem_cons.1 ((h y).2 (by simp)) with e | h2
        · exact e.symm
        · have := strn (hx1 y h2) (hy1 x h1)
          rw [sirr] at this
          cases this
    subst e
    rw [asc_uniq xs ys hx2 hy2 fun z => ⟨fun hz => ?_, fun hz => ?_⟩]
    · rcases List.mem_cons.1 ((h z).1 (by simp [hz])) with e | h1
      · subst e; exact absurd rfl (sne (hx1 z hz))
      · exact h1
    · rcases List.mem_cons.1 ((h z).2 (by simp [hz])) with e | h1
      · subst e; exact absurd rfl (sne (hy1 z hz))
      · exact h1
/-! ### the first entry of a name, behind the sort -/
theorem ins_filter (s : ByteArray) (x : EV) : ∀ xs : List EV, Srt ltN xs → (insS ltN xs x).filter (fun e => decide (e.nm = s)) = xs.filter (fun e => decide (e.nm = s)) ++ [x].filter (fun e => decide (e.nm = s))
  | [], _ => rfl
  | y :: xs, h => by
    obtain ⟨h1, h2⟩ := List.pairwise_cons.1 h
    cases hl : ltN x y with
    | true =>
      rw [ins_lt hl]
      by_cases e : x.nm = s
      · have hno : (y :: xs).filter (fun e => decide (e.nm = s)) = [] := by
          rw [List.filter_eq_nil_iff]
          intro z hz
          have hxy : sLt x.nm y.nm = true := hl
          have hxz : sLt x.nm z.nm = true := by
            rcases List.mem_cons.1 hz with rfl | hz
            · exact hxy
            · exact sge hxy (h1 z hz)
          simp only [decide_eq_true_eq]
          intro e2
          exact sne hxz (e.trans e2.symm)
        rw [List.filter_cons, hno]
        simp [e]
      · rw [List.filter_cons]
        simp [e]
    | false =>
      rw [ins_ge hl]
      by_cases e : y.nm = s
      · rw [List.filter_cons_of_pos (by simpa using e), List.filter_cons_of_pos (by simpa using e), ins_filter s x xs h2, List.cons_append]
      · rw [List.filter_cons_of_neg (by simpa using e), List.filter_cons_of_neg (by simpa using e), ins_filter s x xs h2]
theorem srt_filter (s : ByteArray) : ∀ (l o : List EV), Srt ltN o → (l.foldl (insS ltN) o).filter (fun e => decide (e.nm = s)) = o.filter (fun e => decide (e.nm = s)) ++ l.filter (fun e => decide (e.nm = s))
  | [], o, _ => by simp
  | x :: l, o, h => by
    rw [List.foldl_cons, srt_filter s l _ (ins_sorted ordN x o h), ins_filter s x o h, List.append_assoc, ← List.filter_append]
    rfl
theorem fO_srt (l : List EV) (s : ByteArray) : fO (srt ltN l) s = fO l s := by
  unfold fO
  rw [← List.head?_filter, ← List.head?_filter]
  have h := srt_filter s l [] List.Pairwise.nil
  rw [List.filter_nil, List.nil_append] at h
  exact congrArg List.head? h
/-! ### what two lists have of a name -/
structure BV where
  nm : ByteArray
  A : EV
  B : EV
  ha : Bool
  hb : Bool
deriving DecidableEq
def mkB (a b : List EV) (s : ByteArray) : BV := ⟨s, fE a s, fE b s, fB a s, fB b s⟩
theorem mkB_srt (a b : List EV) (s : ByteArray) : mkB (srt ltN a) (srt ltN b) s = mkB a b s := by
  unfold mkB fE fB
  rw [fO_srt, fO_srt]
/-- How far a list is, of whose entries those of the name s go next. -/
def Adv (l : List EV) (s : ByteArray) (k j : Nat) (e : EV) (h : Bool) : Prop :=
  (∃ x, l[k]? = some x ∧ x.nm = s ∧ Over l x k j ∧ (∀ y, l[j]? = some y → y.nm ≠ x.nm) ∧ e = x ∧ h = true) ∨ (j = k ∧ e = zE ∧ h = false ∧ ∀ i y, k ≤ i → l[i]? = some y → sLt s y.nm = true)
/-- What has come of one list. -/
structure Mg1 (l : List EV) (k : Nat) (zs : List BV) : Prop where
  le : k ≤ l.length
  ins : ∀ i y, i < k → l[i]? = some y → ∃ z ∈ zs, z.nm = y.nm
  low : ∀ z ∈ zs, ∀ i y, k ≤ i → l[i]? = some y → sLt z.nm y.nm = true
structure Mg (la lb : List EV) (ka kb : Nat) (zs : List BV) : Prop where
  a : Mg1 la ka zs
  b : Mg1 lb kb zs
  asc : Asc (zs.map BV.nm)
  is : ∀ z ∈ zs, z = mkB la lb z.nm ∧ ((∃ e ∈ la, e.nm = z.nm) ∨ ∃ e ∈ lb, e.nm = z.nm)
theorem srt_le {l : List EV} (h : Srt ltN l) {i j : Nat} {x y : EV} (hij : i ≤ j) (hx : l[i]? = some x) (hy : l[j]? = some y) : sLt y.nm x.nm = false := by
  rcases Nat.lt_or_ge i j with q | q
  · obtain ⟨h1, rfl⟩ := List.getElem?_eq_some_iff.1 hx
    obtain ⟨h2, rfl⟩ := List.getElem?_eq_some_iff.1 hy
    exact List.pairwise_iff_getElem.1 h i j h1 h2 q
  · have e : i = j := by omega
    subst e
    rw [hx] at hy
    cases hy
    exact sirr _
theorem adv_low {l : List EV} (h : Srt ltN l) {s : ByteArray} {k j : Nat} {e : EV} {b : Bool} (ha : Adv l s k j e b) : ∀ i y, j ≤ i → l[i]? = some y → sLt s y.nm = true := by
  rcases ha with ⟨x, hx, hs, ho, hn, _, _⟩ | ⟨rfl, _, _, h4⟩
  · intro i y hi hy
    have hil := (List.getElem?_eq_some_iff.1 hy).1
    obtain ⟨u, hu⟩ : ∃ u, l[j]? = some u := ⟨_, List.getElem?_eq_getElem (by omega)⟩
    have h1 : sLt u.nm x.nm = false := srt_le h ho.1 hx hu
    have h2 : sLt x.nm u.nm = true := stot h1 (hn u hu)
    rw [← hs]
    exact sge h2 (srt_le h hi hu hy)
  · exact h4
theorem adv_find {l : List EV} {s : ByteArray} {k j : Nat} {e : EV} {b : Bool} {zs : List BV} (hm : Mg1 l k zs) (hz : ∀ z ∈ zs, sLt z.nm s = true) (ha : Adv l s k j e b) : fE l s = e ∧ fB l s = b := by
  have hlo : ∀ i y, i < k → l[i]? = some y → y.nm ≠ s := fun i y hi hy => by
    obtain ⟨z, hz1, hz2⟩ := hm.ins i y hi hy
    rw [← hz2]
    exact sne (hz z hz1)
  rcases ha with ⟨x, hx, hs, _, _, rfl, rfl⟩ | ⟨_, rfl, rfl, h4⟩
  · exact fE_some (fO_at hx hs hlo)
  · exact fE_no (fO_no fun i y hi hy => by
      rcases Nat.lt_or_ge i k with q | q
      · exact hlo i y q hy
      · exact fun e => sne (h4 i y q hy) e.symm)
theorem adv_mg {l : List EV} (h : Srt ltN l) {s : ByteArray} {k j : Nat} {e : EV} {b : Bool} {zs : List BV} (hm : Mg1 l k zs) (ha : Adv l s k j e b) {v : BV} (hv : v.nm = s) : Mg1 l j (zs ++ [v]) := by
  have hkj : k ≤ j ∧ j ≤ l.length := by
    rcases ha with ⟨x, _, _, ho, _⟩ | ⟨rfl, _⟩
    · exact ⟨ho.1, ho.2.1⟩
    · exact ⟨Nat.le_refl _, hm.le⟩
  refine ⟨hkj.2, fun i y hi hy => ?_, fun z hz i y hi hy => ?_⟩
  · rcases Nat.lt_or_ge i k with q | q
    · obtain ⟨z, h1, h2⟩ := hm.ins i y q hy
      exact ⟨z, List.mem_append_left _ h1, h2⟩
    · rcases ha with ⟨x, hx, hs, ho, _⟩ | ⟨rfl, _⟩
      · exact ⟨v, by simp, by rw [hv, ← hs]; exact (ho.2.2 i y q hi hy).symm⟩
      · omega
  · rcases List.mem_append.1 hz with hz | hz
    · exact hm.low z hz i y (by omega) hy
    · obtain rfl := List.mem_singleton.1 hz
      rw [hv]
      exact adv_low h ha i y hi hy
theorem adv_zs {l : List EV} {s : ByteArray} {k j : Nat} {e : EV} {zs : List BV} (hm : Mg1 l k zs) (ha : Adv l s k j e true) : (∀ z ∈ zs, sLt z.nm s = true) ∧ ∃ x ∈ l, x.nm = s := by
  rcases ha with ⟨x, hx, hs, _⟩ | ⟨_, _, h, _⟩
  · exact ⟨fun z hz => by rw [← hs]; exact hm.low z hz k x (Nat.le_refl _) hx, x, List.mem_of_getElem? hx, hs⟩
  · cases h
theorem Mg.step {la lb : List EV} (hla : Srt ltN la) (hlb : Srt ltN lb) {ka kb ja jb : Nat} {zs : List BV} {s : ByteArray} {ea eb : EV} {ha hb : Bool} (m : Mg la lb ka kb zs) (h1 : Adv la s ka ja ea ha) (h2 : Adv lb s kb jb eb hb) (hh : ha = true ∨ hb = true) :
    Mg la lb ja jb (zs ++ [⟨s, ea, eb, ha, hb⟩]) := by
  have hz : (∀ z ∈ zs, sLt z.nm s = true) ∧ ((∃ e ∈ la, e.nm = s) ∨ ∃ e ∈ lb, e.nm = s) := by
    rcases hh with rfl | rfl
    · exact ⟨(adv_zs m.a h1).1, .inl (adv_zs m.a h1).2⟩
    · exact ⟨(adv_zs m.b h2).1, .inr (adv_zs m.b h2).2⟩
  refine ⟨adv_mg hla m.a h1 rfl, adv_mg hlb m.b h2 rfl, ?_, fun z hz2 => ?_⟩
  · rw [List.map_append]
    refine List.pairwise_append.2 ⟨m.asc, List.pairwise_singleton _ _, fun x hx y hy => ?_⟩
    obtain rfl := List.mem_singleton.1 hy
    obtain ⟨z, hz1, rfl⟩ := List.mem_map.1 hx
    exact hz.1 z hz1
  · rcases List.mem_append.1 hz2 with hz2 | hz2
    · exact m.is z hz2
    · obtain rfl := List.mem_singleton.1 hz2
      refine ⟨?_, hz.2⟩
      unfold mkB
      rw [(adv_find m.a hz.1 h1).1, (adv_find m.a hz.1 h1).2, (adv_find m.b hz.1 h2).1, (adv_find m.b hz.1 h2).2]
theorem Mg.start (la lb : List EV) : Mg la lb 0 0 [] := ⟨⟨Nat.zero_le _, fun i y hi => absurd hi (by omega), fun z hz => by cases hz⟩, ⟨Nat.zero_le _, fun i y hi => absurd hi (by omega), fun z hz => by cases hz⟩, List.Pairwise.nil, fun z hz => by cases hz⟩
theorem Mg.done {a b : List EV} {ka kb : Nat} {zs : List BV} (m : Mg (srt ltN a) (srt ltN b) ka kb zs) (ha : ka = (srt ltN a).length) (hb : kb = (srt ltN b).length) : zs = (nms (a ++ b)).map (mkB a b) := by
  have e : zs.map BV.nm = nms (a ++ b) := by
    refine asc_uniq _ _ m.asc (nms_asc _) fun z => ?_
    rw [nms_mem]
    constructor
    · intro hz
      obtain ⟨v, hv, rfl⟩ := List.mem_map.1 hz
      rcases (m.is v hv).2 with ⟨e, he, h⟩ | ⟨e, he, h⟩
      · exact ⟨e, List.mem_append_left _ (srt_mem.1 he), h⟩
      · exact ⟨e, List.mem_append_right _ (srt_mem.1 he), h⟩
    · rintro ⟨e, he, rfl⟩
      rcases List.mem_append.1 he with he | he
      · obtain ⟨i, hi, h⟩ := List.getElem_of_mem (srt_mem (lt := ltN).2 he)
        obtain ⟨z, h1, h2⟩ := m.a.ins i e (by omega) (by rw [List.getElem?_eq_getElem hi, h])
        exact List.mem_map.2 ⟨z, h1, h2⟩
      · obtain ⟨i, hi, h⟩ := List.getElem_of_mem (srt_mem (lt := ltN).2 he)
        obtain ⟨z, h1, h2⟩ := m.b.ins i e (by omega) (by rw [List.getElem?_eq_getElem hi, h])
        exact List.mem_map.2 ⟨z, h1, h2⟩
  rw [← e, List.map_map]
  conv => lhs; rw [← List.map_id zs]
  refine List.map_congr_left fun z hz => ?_
  show z = mkB a b z.nm
  rw [← mkB_srt]
  exact (m.is z hz).1
/-- Where two lists stand. -/
inductive Two (la lb : List EV) (ka kb : Nat) : Prop
  | none (h1 : ka = la.length) (h2 : kb = lb.length)
  | left (x : EV) (hx : la[ka]? = some x) (h2 : kb = lb.length)
  | right (y : EV) (h1 : ka = la.length) (hy : lb[kb]? = some y)
  | lt (x y : EV) (hx : la[ka]? = some x) (hy : lb[kb]? = some y) (h : sLt x.nm y.nm = true)
  | eq (x y : EV) (hx : la[ka]? = some x) (hy : lb[kb]? = some y) (h : x.nm = y.nm)
  | gt (x y : EV) (hx : la[ka]? = some x) (hy : lb[kb]? = some y) (h : sLt y.nm x.nm = true)
theorem two_of {la lb : List EV} {ka kb : Nat} (h1 : ka ≤ la.length) (h2 : kb ≤ lb.length) : Two la lb ka kb := by
  by_cases e1 : ka = la.length
  · by_cases e2 : kb = lb.length
    · exact .none e1 e2
    · exact .right _ e1 (List.getElem?_eq_getElem (by omega))
  · have hx := List.getElem?_eq_getElem (l := la) (i := ka) (by omega)
    by_cases e2 : kb = lb.length
    · exact .left _ hx e2
    · have hy := List.getElem?_eq_getElem (l := lb) (i := kb) (by omega)
      by_cases e : (la[ka]'(by omega)).nm = (lb[kb]'(by omega)).nm
      · exact .eq _ _ hx hy e
      · cases h : sLt (la[ka]'(by omega)).nm (lb[kb]'(by omega)).nm with
        | true => exact .lt _ _ hx hy h
        | false => exact .gt _ _ hx hy (stot h e)
theorem adv_none {l : List EV} {s : ByteArray} {k : Nat} (h : k = l.length) : Adv l s k k zE false := .inr ⟨rfl, rfl, rfl, fun i y hi hy => by rw [List.getElem?_eq_none (by omega)] at hy; cases hy⟩
theorem adv_stay {l : List EV} (hs : Srt ltN l) {s : ByteArray} {k : Nat} {x : EV} (hx : l[k]? = some x) (h : sLt s x.nm = true) : Adv l s k k zE false := .inr ⟨rfl, rfl, rfl, fun i y hi hy => sge h (srt_le hs hi hx hy)⟩
theorem adv_go {l : List EV} {k j : Nat} {x : EV} (hx : l[k]? = some x) (ho : Over l x k j) (hn : ∀ y, l[j]? = some y → y.nm ≠ x.nm) : Adv l x.nm k j x true := .inl ⟨x, hx, rfl, ho, hn, rfl, rfl⟩
theorem over_lt {l : List EV} {k j : Nat} {x : EV} (hx : l[k]? = some x) (ho : Over l x k j) (hn : ∀ y, l[j]? = some y → y.nm ≠ x.nm) : k < j := by
  rcases Nat.lt_or_ge k j with q | q
  · exact q
  · have e : j = k := by have := ho.1; omega
    subst e
    exact absurd rfl (hn x hx)
/-! ### as cells -/
def bvf (v : BV) : List Value := .string v.nm :: (enf v.A ++ (enf v.B ++ [.bool v.ha, .bool v.hb]))
theorem bvf_len (v : BV) : (bvf v).length = 71 := by simp [bvf, enf_len]
theorem bvf_sz (v : BV) : (bvf v).toArray.size = 71 := by rw [List.size_toArray, bvf_len]
theorem bvf_take (v : BV) : List.take 71 (List.drop 0 (bvf v).toArray.toList) = bvf v := by
  rw [List.drop_zero]
  exact List.take_of_length_le (by rw [List.toList_toArray, bvf_len]; exact Nat.le_refl _)
theorem bvf_one (v : BV) : ∀ u ∈ bvf v, u.oneCell' = true := fun u hu => by
  unfold bvf at hu
  rcases List.mem_cons.1 hu with rfl | hu
  · rfl
  · rcases List.mem_append.1 hu with hu | hu
    · exact enf_one _ u hu
    · rcases List.mem_append.1 hu with hu | hu
      · exact enf_one _ u hu
      · simp only [List.mem_cons, List.not_mem_nil, or_false] at hu
        rcases hu with rfl | rfl <;> rfl
theorem bv_nm (n : ByteArray) (A B : EV) (a b : Bool) (s : ByteArray) : (bvf ⟨n, A, B, a, b⟩).toArray.setIfInBounds 0 (.string s) = (bvf ⟨s, A, B, a, b⟩).toArray := by
  simp [bvf]
theorem bv_A (n : ByteArray) (A B : EV) (a b : Bool) (x : EV) : ((bvf ⟨n, A, B, a, b⟩).toArray.toList.take 1 ++ (enf x).toArray.toList ++ (bvf ⟨n, A, B, a, b⟩).toArray.toList.drop (1 + (enf x).toArray.size)).toArray = (bvf ⟨n, x, B, a, b⟩).toArray := by
  rw [enf_sz]
  simp [bvf, enf_len, List.drop_append]
theorem bv_B (n : ByteArray) (A B : EV) (a b : Bool) (x : EV) : ((bvf ⟨n, A, B, a, b⟩).toArray.toList.take 35 ++ (enf x).toArray.toList ++ (bvf ⟨n, A, B, a, b⟩).toArray.toList.drop (35 + (enf x).toArray.size)).toArray = (bvf ⟨n, A, x, a, b⟩).toArray := by
  rw [enf_sz]
  simp [bvf, enf_len, List.drop_append, List.take_append]
theorem bv_ha (n : ByteArray) (A B : EV) (a b c : Bool) : (bvf ⟨n, A, B, a, b⟩).toArray.setIfInBounds 69 (.bool c) = (bvf ⟨n, A, B, c, b⟩).toArray := by
  simp [bvf, enf_len, List.set_append]
theorem bv_hb (n : ByteArray) (A B : EV) (a b c : Bool) : (bvf ⟨n, A, B, a, b⟩).toArray.setIfInBounds 70 (.bool c) = (bvf ⟨n, A, B, a, c⟩).toArray := by
  simp [bvf, enf_len, List.set_append]
theorem bv_getA (n : ByteArray) (A B : EV) (a b : Bool) : (bvf ⟨n, A, B, a, b⟩).toArray[69]? = some (.bool a) := by
  simp [bvf, enf_len, List.getElem?_append]
theorem bv_getB (n : ByteArray) (A B : EV) (a b : Bool) : (bvf ⟨n, A, B, a, b⟩).toArray[70]? = some (.bool b) := by
  simp [bvf, enf_len, List.getElem?_append]
end Go.Proofs.Ytmgimcdkeelnpaa.Mrg


/-
  The iterator.
-/
namespace Go.Proofs.Ytmgimcdkeelnpaa.Mrg
open Go.RowKit Zk Zx
set_option linter.unusedVariables false
set_option linter.unusedSimpArgs false

set_option maxHeartbeats 4000000 in
set_option maxRecDepth 100000 in
theorem rowsI {σ : Type} (Y : σ → Res) (out : σ → List BV) (s0 : σ) (ll g1 g2 : Nat) (A : Option Addr) (c : Nat) (la : List EV) (B : Option Addr) (d : Nat) (lb : List EV) (w0 : World) (hb1 : Blk w0 g1 22 #[.slice A la.length c]) (hb2 : Blk w0 g2 22 #[.slice B lb.length d]) (ha : Rs w0 34 A la.length c (la.flatMap enf)) (hb : Rs w0 34 B lb.length d (lb.flatMap enf)) (hna : la.length ≤ 10000) (hnb : lb.length ≤ 10000) (hY0 : (Y s0).holds w0) (hYd : ∀ i, (Y s0).dom i → i < w0.heap.size)
    (hY : ∀ s x W, (out s).length ≤ (out s0).length + la.length + lb.length → (Y s).holds W → (∀ i, (Y s).dom i → i < W.heap.size) → YieldAt (WF none) 0 Try.prog ll #[.agg (bvf x).toArray] W fun e W' => e = .returned (.bool true) ∧ ∃ s', out s' = out s ++ [x] ∧ Turned W W' (Y s) (Y s')) :
    Calls Try.prog 41 #[.func (.yield ll) #[] #[], .pointer (some ⟨g1, 0, none⟩), .pointer (some ⟨g2, 0, none⟩)] w0 fun e w' => ∃ u, e = .returned u ∧ ∃ s', out s' = out s0 ++ (nms (la ++ lb)).map (mkB la lb) ∧ Turned w0 w' (Y s0) (Y s') := by
  refine enter1 (env := [(0, .func (.yield ll) #[] #[]), (1, .pointer (some ⟨g1, 0, none⟩)), (2, .pointer (some ⟨g2, 0, none⟩))]) [.func (.yield ll) #[] #[], .pointer (some ⟨g1, 0, none⟩), .pointer (some ⟨g2, 0, none⟩)] Try.func41 rfl Try.ntmps41 rfl rfl ?_
  have S0 := St.borrow1 (Y s0) hY0 hYd
  refine T_seq fun K1 hK1 => ?_
  refine T_region ?_
  refine L_y (y_ldc Try.underlying22 rfl rfl ((hb1.cell _).trans (by rfl))) rfl ?_
  refine L_o (o_call Try.func42 rfl rfl (pull A c la w0 ha hna) rfl rfl ?_)
  rintro e1 w1 ⟨v1, rfl, l1, p4, p5, Ap, cp, rfl, hp4, hd4⟩
  refine ⟨_, rfl, ?_⟩
  have S1 := S0.new l1 _ hp4 hd4
  refine L_y (y_move rfl) rfl ?_
  refine L_y (y_extract rfl rfl) rfl ?_
  refine L_y (y_extract rfl rfl) rfl ?_
  refine L_y (y_assign rfl) rfl ?_
  refine L_y (y_assign rfl) rfl ?_
  refine L_nil ?_
  refine hK1 _ _ ?_
  refine T_seq fun K2 hK2 => ?_
  refine T_region ?_
  refine L_y (y_ldc Try.underlying22 rfl rfl (((hb2.below l1 hb2.lt).cell _).trans (by rfl))) rfl ?_
  refine L_o (o_call Try.func42 rfl rfl (pull B d lb w1 (hb.like l1) hnb) rfl rfl ?_)
  rintro e2 w2 ⟨v2, rfl, l2, q6, q7, Aq, cq, rfl, hp6, hd6⟩
  refine ⟨_, rfl, ?_⟩
  have S2 := S1.new l2 _ hp6 hd6
  refine L_y (y_move rfl) rfl ?_
  refine L_y (y_extract rfl rfl) rfl ?_
  refine L_y (y_extract rfl rfl) rfl ?_
  refine L_y (y_assign rfl) rfl ?_
  refine L_y (y_assign rfl) rfl ?_
  refine L_nil ?_
  refine hK2 _ _ ?_
  refine T_block ?_
  refine T_loop4 [(0, _), (4, _), (5, _), (6, _), (7, _)] (fun (ka : Nat) (kb : Nat) (s : σ) (zs : List BV) => []) (fun (ka : Nat) (kb : Nat) (s : σ) (zs : List BV) => ((srt ltN la).length - ka) + ((srt ltN lb).length - kb)) (fun (ka : Nat) (kb : Nat) (s : σ) (zs : List BV) (w : World) => (Mg (srt ltN la) (srt ltN lb) ka kb zs ∧ out s = out s0 ++ zs ∧ zs.length ≤ ka + kb) ∧ Zx.St w0 (Y s0).dom [Y s, pullR p4 p5 Ap cp (srt ltN la) ka, pullR q6 q7 Aq cq (srt ltN lb) kb] w) 0 0 s0 [] (Sub.nil _) (Sub.cons rfl rfl (Sub.cons rfl rfl (Sub.cons rfl rfl (Sub.cons rfl rfl (Sub.cons rfl rfl (Sub.nil _)))))) ?_ ?_
  ·
    exact ⟨⟨Mg.start _ _, by simp, Nat.zero_le _⟩, S2⟩
  ·
    intro ka kb s zs w3 hrel
    obtain ⟨⟨hm, hzs, hzl⟩, S3⟩ := hrel
    have hal := hm.a.le
    have hbl := hm.b.le
    refine T_block ?_
    refine T_seq fun K3 hK3 => ?_
    refine T_region ?_
    refine L_y (y_move rfl) rfl ?_
    refine L_o (o_callv rfl Try.func49 rfl rfl (look p4 p5 Ap cp (srt ltN la) ka w3 (S3.get 1 rfl) hal) rfl rfl (fun d' hd => by cases hd <;> rfl) ?_)
    rintro e4 w4 ⟨v4, rfl, l4, rfl⟩
    refine ⟨_, rfl, ?_⟩
    have S4 := S3.like l4
    refine L_y (y_move rfl) rfl ?_
    refine L_y (y_extract rfl rfl) rfl ?_
    refine L_y (y_extract rfl rfl) rfl ?_
    refine L_o (o_alloc zz39 S4 rfl fun b5 w5 hb5 S5 => ?_)
    refine L_o (o_stW S5 3 rfl rfl rfl (by rw [enf_sz]; exact sz39) (by first | (rw [enf_sz]; done) | (rw [enf_sz]; rfl) | (rw [enf_sz, enf_sz]; done)) (enf_one _) fun w6 S6 => ?_)
    refine L_y (y_assign rfl) rfl ?_
    refine L_nil ?_
    refine hK3 _ _ ?_
    refine T_seq fun K4 hK4 => ?_
    refine T_region ?_
    refine L_y (y_move rfl) rfl ?_
    refine L_o (o_callv rfl Try.func49 rfl rfl (look q6 q7 Aq cq (srt ltN lb) kb w6 (S6.get 2 rfl) hbl) rfl rfl (fun d' hd => by cases hd <;> rfl) ?_)
    rintro e7 w7 ⟨v7, rfl, l7, rfl⟩
    refine ⟨_, rfl, ?_⟩
    have S7 := S6.like l7
    refine L_y (y_move rfl) rfl ?_
    refine L_y (y_extract rfl rfl) rfl ?_
    refine L_y (y_extract rfl rfl) rfl ?_
    refine L_o (o_alloc zz39 S7 rfl fun b8 w8 hb8 S8 => ?_)
    refine L_o (o_stW S8 4 rfl rfl rfl (by rw [enf_sz]; exact sz39) (by first | (rw [enf_sz]; done) | (rw [enf_sz]; rfl) | (rw [enf_sz, enf_sz]; done)) (enf_one _) fun w9 S9 => ?_)
    refine L_y (y_assign rfl) rfl ?_
    rcases two_of hal hbl with ⟨h1, h2⟩ | ⟨x, hx, h2⟩ | ⟨y, h1, hy⟩ | ⟨x, y, hx, hy, h⟩ | ⟨x, y, hx, hy, hxy⟩ | ⟨x, y, hx, hy, h⟩
    ·
      rw [decide_eq_false (show ¬ ka < (srt ltN la).length by omega)]
      rw [decide_eq_false (show ¬ kb < (srt ltN lb).length by omega)]
      refine L_nil ?_
      refine hK4 _ _ ?_
      refine T_seq fun K5 hK5 => ?_
      refine T_seq fun K6 hK6 => ?_
      refine T_region ?_
      refine L_y (y_move rfl) rfl ?_
      refine L_y ((by first | exact y_notD rfl | exact y_not rfl)) rfl ?_
      refine L_y (y_move rfl) rfl ?_
      refine L_gyes rfl rfl ?_
      refine L_y (y_move rfl) rfl ?_
      refine L_gyes rfl rfl ?_
      refine L_y ((by first | exact y_notD rfl | exact y_not rfl)) rfl ?_
      refine L_y (y_pk rfl rfl) rfl ?_
      refine L_nil ?_
      refine hK6 _ _ ?_
      refine T_true rfl ?_
      refine T_ret ?_
      refine ur ?_
      refine ret0 rfl ?_
      exact ⟨_, rfl, s, by rw [hzs, hm.done h1 h2], S9.turned1 0 rfl⟩
    ·
      have hkx := (List.getElem?_eq_some_iff.1 hx).1
      have S10 := S9
      rw [show hdE (srt ltN la) ka = x from by unfold hdE; rw [hx]; rfl] at S10
      rw [decide_eq_true (show ka < (srt ltN la).length by omega)]
      rw [decide_eq_false (show ¬ kb < (srt ltN lb).length by omega)]
      refine L_nil ?_
      refine hK4 _ _ ?_
      refine T_seq fun K7 hK7 => ?_
      refine T_seq fun K8 hK8 => ?_
      refine T_region ?_
      refine L_y (y_move rfl) rfl ?_
      refine L_y ((by first | exact y_notD rfl | exact y_not rfl)) rfl ?_
      refine L_y (y_move rfl) rfl ?_
      refine L_gno rfl rfl rfl ?_
      refine L_gno rfl rfl rfl ?_
      refine L_y (y_pk rfl rfl) rfl ?_
      refine L_nil ?_
      refine hK8 _ _ ?_
      refine T_false rfl ?_
      refine T_skip ?_
      refine hK7 _ _ ?_
      refine T_seq fun K9 hK9 => ?_
      refine T_region ?_
      refine L_o (o_alloc zz47 S10 rfl fun b11 w11 hb11 S11 => ?_)
      have S12 := S11.blkc 5 rfl (cs' := (bvf _).toArray) ((by kernel_rfl : _ = (bvf ⟨⟨#[]⟩, zE, zE, false, false⟩).toArray))
      have S13 : Zx.St w0 (Y s0).dom [Y s, pullR p4 p5 Ap cp (srt ltN la) ka, pullR q6 q7 Aq cq (srt ltN lb) kb, Zx.blk b5 39 (enf x).toArray, Zx.blk b8 39 (enf (hdE (srt ltN lb) kb)).toArray, Zx.blk b11 47 (bvf ⟨⟨#[]⟩, zE, zE, false, false⟩).toArray] w11 := S12.cast (by kernel_rfl)
      refine L_nil ?_
      refine hK9 _ _ ?_
      refine T_seq fun K10 hK10 => ?_
      refine T_seq fun K11 hK11 => ?_
      refine T_region ?_
      refine L_y (y_move rfl) rfl ?_
      refine L_y (y_move rfl) rfl ?_
      refine L_gyes rfl rfl ?_
      refine L_y (y_move rfl) rfl ?_
      refine L_gyes rfl rfl ?_
      refine L_y ((by first | exact y_notD rfl | exact y_not rfl)) rfl ?_
      refine L_gyes rfl rfl ?_
      refine L_y (y_move rfl) rfl ?_
      refine L_gno rfl rfl rfl ?_
      refine L_gno rfl rfl rfl ?_
      refine L_gno rfl rfl rfl ?_
      refine L_gno rfl rfl rfl ?_
      refine L_gno rfl rfl rfl ?_
      refine L_gyes rfl rfl ?_
      refine L_y (y_pk rfl rfl) rfl ?_
      refine L_y (y_pk rfl rfl) rfl ?_
      refine L_nil ?_
      refine hK11 _ _ ?_
      refine T_true rfl ?_
      refine T_drawn (fun w => Blk w b5 39 (enf x).toArray) [(0, true), (1, true), (2, true), (3, true), (4, false), (5, true), (6, false), (7, true), (8, false)] hmix (by kernel_rfl) (fun w l => (S13.like l).blk 3 rfl) fun w14 l14 => ?_
      have S14 := S13.like l14
      refine DL_y rfl (y_fieldA 0 Try.underlying39 rfl sz9 rfl rfl rfl) rfl ?_
      refine DL_y rfl (y_ldS Try.underlying9 rfl rfl (fun w h => (h.cell _).trans (by rfl))) rfl ?_
      refine DL_y rfl (y_of fun w hw => y_ldW Try.underlying39 rfl sz39 rfl hw ⟨take_enf x, enf_len x⟩) rfl ?_
      refine DL_y rfl (y_fieldA 0 Try.underlying47 rfl sz9 rfl rfl rfl) rfl ?_
      refine DL_o rfl (o_st1 S14 5 rfl rfl rfl rfl sz9 (by rw [bvf_sz]; decide) fun w15 S15 => ?_)
      have S16 := S15.blkc 5 rfl (cs' := (bvf _).toArray) (bv_nm _ _ _ _ _ _)
      have S17 : Zx.St w0 (Y s0).dom [Y s, pullR p4 p5 Ap cp (srt ltN la) ka, pullR q6 q7 Aq cq (srt ltN lb) kb, Zx.blk b5 39 (enf x).toArray, Zx.blk b8 39 (enf (hdE (srt ltN lb) kb)).toArray, Zx.blk b11 47 (bvf ⟨x.nm, zE, zE, false, false⟩).toArray] w15 := S16.cast (by kernel_rfl)
      refine ⟨S17.blk 3 rfl, ?_⟩
      refine DL_y rfl (y_fieldA 1 Try.underlying47 rfl sz39 rfl rfl rfl) rfl ?_
      refine DL_o rfl (o_stR S17 5 rfl rfl rfl (by rw [enf_sz]; exact sz39) (by rw [enf_sz, bvf_sz]; decide) (enf_one _) fun w18 S18 => ?_)
      have S19 := S18.blkc 5 rfl (cs' := (bvf _).toArray) (bv_A _ _ _ _ _ _)
      have S20 : Zx.St w0 (Y s0).dom [Y s, pullR p4 p5 Ap cp (srt ltN la) ka, pullR q6 q7 Aq cq (srt ltN lb) kb, Zx.blk b5 39 (enf x).toArray, Zx.blk b8 39 (enf (hdE (srt ltN lb) kb)).toArray, Zx.blk b11 47 (bvf ⟨x.nm, x, zE, false, false⟩).toArray] w18 := S19.cast (by kernel_rfl)
      refine ⟨S20.blk 3 rfl, ?_⟩
      refine DL_y rfl (y_fieldA 69 Try.underlying47 rfl sz4 rfl rfl rfl) rfl ?_
      refine DL_o rfl (o_st1 S20 5 rfl rfl rfl rfl sz4 (by rw [bvf_sz]; decide) fun w21 S21 => ?_)
      have S22 := S21.blkc 5 rfl (cs' := (bvf _).toArray) (bv_ha _ _ _ _ _ _)
      have S23 : Zx.St w0 (Y s0).dom [Y s, pullR p4 p5 Ap cp (srt ltN la) ka, pullR q6 q7 Aq cq (srt ltN lb) kb, Zx.blk b5 39 (enf x).toArray, Zx.blk b8 39 (enf (hdE (srt ltN lb) kb)).toArray, Zx.blk b11 47 (bvf ⟨x.nm, x, zE, true, false⟩).toArray] w21 := S22.cast (by kernel_rfl)
      refine ⟨S23.blk 3 rfl, ?_⟩
      refine DL_nil ?_
      refine hK10 _ _ ?_
      refine T_seq fun K12 hK12 => ?_
      refine T_seq fun K13 hK13 => ?_
      refine T_region ?_
      refine L_y (y_move rfl) rfl ?_
      refine L_y (y_move rfl) rfl ?_
      refine L_gno rfl rfl rfl ?_
      refine L_gno rfl rfl rfl ?_
      refine L_gno rfl rfl rfl ?_
      refine L_gnu rfl rfl rfl ?_
      refine L_gnu rfl rfl rfl ?_
      refine L_gnu rfl rfl rfl ?_
      refine L_gnu rfl rfl rfl ?_
      refine L_gnu rfl rfl rfl ?_
      refine L_gno rfl rfl rfl ?_
      refine L_y (y_pk rfl rfl) rfl ?_
      refine L_nil ?_
      refine hK13 _ _ ?_
      refine T_false rfl ?_
      refine T_skip ?_
      refine hK12 _ _ ?_
      refine T_seq fun K14 hK14 => ?_
      refine T_seq fun K15 hK15 => ?_
      refine T_region ?_
      refine L_y (y_fieldA 69 Try.underlying47 rfl sz4 rfl rfl rfl) rfl ?_
      refine L_y (y_ldc Try.underlying4 rfl rfl (((S23.blk 5 rfl).cell _).trans (bv_getA _ _ _ _ _))) rfl ?_
      refine L_nil ?_
      refine hK15 _ _ ?_
      refine T_true rfl ?_
      refine T_region ?_
      refine L_y (y_move rfl) rfl ?_
      refine L_o (o_callv rfl Try.func50 rfl rfl (over p4 p5 Ap cp (srt ltN la) ka x w21 (S23.get 1 rfl) (S23.lt 1 rfl) hx (by rw [srt_len]; omega)) rfl rfl (fun d' hd => by cases hd <;> rfl) ?_)
      rintro e24 w24 ⟨v24, rfl, jA, hoA, hnA, T24⟩
      refine ⟨_, rfl, ?_⟩
      have S24 := S23.turn 1 rfl T24
      have hltA := over_lt hx hoA hnA
      refine L_nil ?_
      refine hK14 _ _ ?_
      refine T_seq fun K16 hK16 => ?_
      refine T_seq fun K17 hK17 => ?_
      refine T_region ?_
      refine L_y (y_fieldA 70 Try.underlying47 rfl sz4 rfl rfl rfl) rfl ?_
      refine L_y (y_ldc Try.underlying4 rfl rfl (((S24.blk 5 rfl).cell _).trans (bv_getB _ _ _ _ _))) rfl ?_
      refine L_nil ?_
      refine hK17 _ _ ?_
      refine T_false rfl ?_
      refine T_skip ?_
      refine hK16 _ _ ?_
      refine T_seq fun K18 hK18 => ?_
      have S25 : Zx.St w0 (Y s0).dom [Y s, pullR p4 p5 Ap cp (srt ltN la) jA, pullR q6 q7 Aq cq (srt ltN lb) kb, Zx.blk b5 39 (enf x).toArray, Zx.blk b8 39 (enf (hdE (srt ltN lb) kb)).toArray, Zx.blk b11 47 (bvf ⟨x.nm, x, zE, true, false⟩).toArray] w24 := S24.cast (by kernel_rfl)
      refine T_regionW ?_
      refine LW_y (y_move rfl) rfl ?_
      refine LW_y (y_ldW Try.underlying47 rfl sz47 rfl (S25.blk 5 rfl) ⟨bvf_take _, bvf_len _⟩) rfl ?_
      refine LW_yield rfl rfl (hY _ _ w24 (by rw [hzs, List.length_append]; rw [srt_len] at hal hbl; omega) (S25.get 0 rfl) (S25.lt 0 rfl)) rfl ?_
      rintro e26 w26 ⟨rfl, s9, hout9, T26⟩
      refine ⟨_, rfl, ?_⟩
      have S26 := S25.turn 0 rfl T26
      refine LW_y ((by first | exact y_notD rfl | exact y_not rfl)) rfl ?_
      refine LW_nil ?_
      refine hK18 _ _ ?_
      refine T_false rfl ?_
      refine T_skip ?_
      have hm9 := Mg.step (srt_sorted ordN la) (srt_sorted ordN lb) hm (adv_go hx hoA hnA) (adv_none h2) (by simp)
      have S99 := S26.drop (rs' := [_, _, _]) (.cons_cons _ (.cons_cons _ (.cons_cons _ (List.nil_sublist _))))
      refine ⟨jA, kb, s9, _, by omega, ⟨⟨hm9, by rw [hout9, hzs, List.append_assoc], by rw [List.length_append]; simp only [List.length_cons, List.length_nil]; omega⟩, S99⟩, ?_⟩
      exact (Sub.cons rfl rfl (Sub.cons rfl rfl (Sub.cons rfl rfl (Sub.cons rfl rfl (Sub.cons rfl rfl (Sub.nil _))))))
    ·
      rw [decide_eq_false (show ¬ ka < (srt ltN la).length by omega)]
      have hky := (List.getElem?_eq_some_iff.1 hy).1
      have S27 := S9
      rw [show hdE (srt ltN lb) kb = y from by unfold hdE; rw [hy]; rfl] at S27
      rw [decide_eq_true (show kb < (srt ltN lb).length by omega)]
      refine L_nil ?_
      refine hK4 _ _ ?_
      refine T_seq fun K19 hK19 => ?_
      refine T_seq fun K20 hK20 => ?_
      refine T_region ?_
      refine L_y (y_move rfl) rfl ?_
      refine L_y ((by first | exact y_notD rfl | exact y_not rfl)) rfl ?_
      refine L_y (y_move rfl) rfl ?_
      refine L_gyes rfl rfl ?_
      refine L_y (y_move rfl) rfl ?_
      refine L_gyes rfl rfl ?_
      refine L_y ((by first | exact y_notD rfl | exact y_not rfl)) rfl ?_
      refine L_y (y_pk rfl rfl) rfl ?_
      refine L_nil ?_
      refine hK20 _ _ ?_
      refine T_false rfl ?_
      refine T_skip ?_
      refine hK19 _ _ ?_
      refine T_seq fun K21 hK21 => ?_
      refine T_region ?_
      refine L_o (o_alloc zz47 S27 rfl fun b28 w28 hb28 S28 => ?_)
      have S29 := S28.blkc 5 rfl (cs' := (bvf _).toArray) ((by kernel_rfl : _ = (bvf ⟨⟨#[]⟩, zE, zE, false, false⟩).toArray))
      have S30 : Zx.St w0 (Y s0).dom [Y s, pullR p4 p5 Ap cp (srt ltN la) ka, pullR q6 q7 Aq cq (srt ltN lb) kb, Zx.blk b5 39 (enf (hdE (srt ltN la) ka)).toArray, Zx.blk b8 39 (enf y).toArray, Zx.blk b28 47 (bvf ⟨⟨#[]⟩, zE, zE, false, false⟩).toArray] w28 := S29.cast (by kernel_rfl)
      refine L_nil ?_
      refine hK21 _ _ ?_
      refine T_seq fun K22 hK22 => ?_
      refine T_seq fun K23 hK23 => ?_
      refine T_region ?_
      refine L_y (y_move rfl) rfl ?_
      refine L_y (y_move rfl) rfl ?_
      refine L_gno rfl rfl rfl ?_
      refine L_gno rfl rfl rfl ?_
      refine L_gno rfl rfl rfl ?_
      refine L_gnu rfl rfl rfl ?_
      refine L_gnu rfl rfl rfl ?_
      refine L_gnu rfl rfl rfl ?_
      refine L_gnu rfl rfl rfl ?_
      refine L_gnu rfl rfl rfl ?_
      refine L_gno rfl rfl rfl ?_
      refine L_y (y_pk rfl rfl) rfl ?_
      refine L_nil ?_
      refine hK23 _ _ ?_
      refine T_false rfl ?_
      refine T_skip ?_
      refine hK22 _ _ ?_
      refine T_seq fun K24 hK24 => ?_
      refine T_seq fun K25 hK25 => ?_
      refine T_region ?_
      refine L_y (y_move rfl) rfl ?_
      refine L_y (y_move rfl) rfl ?_
      refine L_gyes rfl rfl ?_
      refine L_y (y_move rfl) rfl ?_
      refine L_gyes rfl rfl ?_
      refine L_y ((by first | exact y_notD rfl | exact y_not rfl)) rfl ?_
      refine L_gyes rfl rfl ?_
      refine L_y (y_move rfl) rfl ?_
      refine L_gno rfl rfl rfl ?_
      refine L_gno rfl rfl rfl ?_
      refine L_gno rfl rfl rfl ?_
      refine L_gno rfl rfl rfl ?_
      refine L_gno rfl rfl rfl ?_
      refine L_gyes rfl rfl ?_
      refine L_y (y_pk rfl rfl) rfl ?_
      refine L_y (y_pk rfl rfl) rfl ?_
      refine L_nil ?_
      refine hK25 _ _ ?_
      refine T_true rfl ?_
      refine T_drawn (fun w => Blk w b8 39 (enf y).toArray) [(0, true), (1, true), (2, true), (3, true), (4, false), (5, true), (6, false), (7, true), (8, false)] hmix (by kernel_rfl) (fun w l => (S30.like l).blk 4 rfl) fun w31 l31 => ?_
      have S31 := S30.like l31
      refine DL_y rfl (y_fieldA 0 Try.underlying39 rfl sz9 rfl rfl rfl) rfl ?_
      refine DL_y rfl (y_ldS Try.underlying9 rfl rfl (fun w h => (h.cell _).trans (by rfl))) rfl ?_
      refine DL_y rfl (y_of fun w hw => y_ldW Try.underlying39 rfl sz39 rfl hw ⟨take_enf y, enf_len y⟩) rfl ?_
      refine DL_y rfl (y_fieldA 0 Try.underlying47 rfl sz9 rfl rfl rfl) rfl ?_
      refine DL_o rfl (o_st1 S31 5 rfl rfl rfl rfl sz9 (by rw [bvf_sz]; decide) fun w32 S32 => ?_)
      have S33 := S32.blkc 5 rfl (cs' := (bvf _).toArray) (bv_nm _ _ _ _ _ _)
      have S34 : Zx.St w0 (Y s0).dom [Y s, pullR p4 p5 Ap cp (srt ltN la) ka, pullR q6 q7 Aq cq (srt ltN lb) kb, Zx.blk b5 39 (enf (hdE (srt ltN la) ka)).toArray, Zx.blk b8 39 (enf y).toArray, Zx.blk b28 47 (bvf ⟨y.nm, zE, zE, false, false⟩).toArray] w32 := S33.cast (by kernel_rfl)
      refine ⟨S34.blk 4 rfl, ?_⟩
      refine DL_y rfl (y_fieldA 35 Try.underlying47 rfl sz39 rfl rfl rfl) rfl ?_
      refine DL_o rfl (o_stR S34 5 rfl rfl rfl (by rw [enf_sz]; exact sz39) (by rw [enf_sz, bvf_sz]; decide) (enf_one _) fun w35 S35 => ?_)
      have S36 := S35.blkc 5 rfl (cs' := (bvf _).toArray) (bv_B _ _ _ _ _ _)
      have S37 : Zx.St w0 (Y s0).dom [Y s, pullR p4 p5 Ap cp (srt ltN la) ka, pullR q6 q7 Aq cq (srt ltN lb) kb, Zx.blk b5 39 (enf (hdE (srt ltN la) ka)).toArray, Zx.blk b8 39 (enf y).toArray, Zx.blk b28 47 (bvf ⟨y.nm, zE, y, false, false⟩).toArray] w35 := S36.cast (by kernel_rfl)
      refine ⟨S37.blk 4 rfl, ?_⟩
      refine DL_y rfl (y_fieldA 70 Try.underlying47 rfl sz4 rfl rfl rfl) rfl ?_
      refine DL_o rfl (o_st1 S37 5 rfl rfl rfl rfl sz4 (by rw [bvf_sz]; decide) fun w38 S38 => ?_)
      have S39 := S38.blkc 5 rfl (cs' := (bvf _).toArray) (bv_hb _ _ _ _ _ _)
      have S40 : Zx.St w0 (Y s0).dom [Y s, pullR p4 p5 Ap cp (srt ltN la) ka, pullR q6 q7 Aq cq (srt ltN lb) kb, Zx.blk b5 39 (enf (hdE (srt ltN la) ka)).toArray, Zx.blk b8 39 (enf y).toArray, Zx.blk b28 47 (bvf ⟨y.nm, zE, y, false, true⟩).toArray] w38 := S39.cast (by kernel_rfl)
      refine ⟨S40.blk 4 rfl, ?_⟩
      refine DL_nil ?_
      refine hK24 _ _ ?_
      refine T_seq fun K26 hK26 => ?_
      refine T_seq fun K27 hK27 => ?_
      refine T_region ?_
      refine L_y (y_fieldA 69 Try.underlying47 rfl sz4 rfl rfl rfl) rfl ?_
      refine L_y (y_ldc Try.underlying4 rfl rfl (((S40.blk 5 rfl).cell _).trans (bv_getA _ _ _ _ _))) rfl ?_
      refine L_nil ?_
      refine hK27 _ _ ?_
      refine T_false rfl ?_
      refine T_skip ?_
      refine hK26 _ _ ?_
      refine T_seq fun K28 hK28 => ?_
      refine T_seq fun K29 hK29 => ?_
      refine T_region ?_
      refine L_y (y_fieldA 70 Try.underlying47 rfl sz4 rfl rfl rfl) rfl ?_
      refine L_y (y_ldc Try.underlying4 rfl rfl (((S40.blk 5 rfl).cell _).trans (bv_getB _ _ _ _ _))) rfl ?_
      refine L_nil ?_
      refine hK29 _ _ ?_
      refine T_true rfl ?_
      refine T_region ?_
      refine L_y (y_move rfl) rfl ?_
      refine L_o (o_callv rfl Try.func50 rfl rfl (over q6 q7 Aq cq (srt ltN lb) kb y w38 (S40.get 2 rfl) (S40.lt 2 rfl) hy (by rw [srt_len]; omega)) rfl rfl (fun d' hd => by cases hd <;> rfl) ?_)
      rintro e41 w41 ⟨v41, rfl, jB, hoB, hnB, T41⟩
      refine ⟨_, rfl, ?_⟩
      have S41 := S40.turn 2 rfl T41
      have hltB := over_lt hy hoB hnB
      refine L_nil ?_
      refine hK28 _ _ ?_
      refine T_seq fun K30 hK30 => ?_
      have S42 : Zx.St w0 (Y s0).dom [Y s, pullR p4 p5 Ap cp (srt ltN la) ka, pullR q6 q7 Aq cq (srt ltN lb) jB, Zx.blk b5 39 (enf (hdE (srt ltN la) ka)).toArray, Zx.blk b8 39 (enf y).toArray, Zx.blk b28 47 (bvf ⟨y.nm, zE, y, false, true⟩).toArray] w41 := S41.cast (by kernel_rfl)
      refine T_regionW ?_
      refine LW_y (y_move rfl) rfl ?_
      refine LW_y (y_ldW Try.underlying47 rfl sz47 rfl (S42.blk 5 rfl) ⟨bvf_take _, bvf_len _⟩) rfl ?_
      refine LW_yield rfl rfl (hY _ _ w41 (by rw [hzs, List.length_append]; rw [srt_len] at hal hbl; omega) (S42.get 0 rfl) (S42.lt 0 rfl)) rfl ?_
      rintro e43 w43 ⟨rfl, s9, hout9, T43⟩
      refine ⟨_, rfl, ?_⟩
      have S43 := S42.turn 0 rfl T43
      refine LW_y ((by first | exact y_notD rfl | exact y_not rfl)) rfl ?_
      refine LW_nil ?_
      refine hK30 _ _ ?_
      refine T_false rfl ?_
      refine T_skip ?_
      have hm9 := Mg.step (srt_sorted ordN la) (srt_sorted ordN lb) hm (adv_none h1) (adv_go hy hoB hnB) (by simp)
      have S99 := S43.drop (rs' := [_, _, _]) (.cons_cons _ (.cons_cons _ (.cons_cons _ (List.nil_sublist _))))
      refine ⟨ka, jB, s9, _, by omega, ⟨⟨hm9, by rw [hout9, hzs, List.append_assoc], by rw [List.length_append]; simp only [List.length_cons, List.length_nil]; omega⟩, S99⟩, ?_⟩
      exact (Sub.cons rfl rfl (Sub.cons rfl rfl (Sub.cons rfl rfl (Sub.cons rfl rfl (Sub.cons rfl rfl (Sub.nil _))))))
    ·
      have hkx := (List.getElem?_eq_some_iff.1 hx).1
      have S44 := S9
      rw [show hdE (srt ltN la) ka = x from by unfold hdE; rw [hx]; rfl] at S44
      rw [decide_eq_true (show ka < (srt ltN la).length by omega)]
      have hky := (List.getElem?_eq_some_iff.1 hy).1
      have S45 := S44
      rw [show hdE (srt ltN lb) kb = y from by unfold hdE; rw [hy]; rfl] at S45
      rw [decide_eq_true (show kb < (srt ltN lb).length by omega)]
      refine L_nil ?_
      refine hK4 _ _ ?_
      refine T_seq fun K31 hK31 => ?_
      refine T_seq fun K32 hK32 => ?_
      refine T_region ?_
      refine L_y (y_move rfl) rfl ?_
      refine L_y ((by first | exact y_notD rfl | exact y_not rfl)) rfl ?_
      refine L_y (y_move rfl) rfl ?_
      refine L_gno rfl rfl rfl ?_
      refine L_gno rfl rfl rfl ?_
      refine L_y (y_pk rfl rfl) rfl ?_
      refine L_nil ?_
      refine hK32 _ _ ?_
      refine T_false rfl ?_
      refine T_skip ?_
      refine hK31 _ _ ?_
      refine T_seq fun K33 hK33 => ?_
      refine T_region ?_
      refine L_o (o_alloc zz47 S45 rfl fun b46 w46 hb46 S46 => ?_)
      have S47 := S46.blkc 5 rfl (cs' := (bvf _).toArray) ((by kernel_rfl : _ = (bvf ⟨⟨#[]⟩, zE, zE, false, false⟩).toArray))
      have S48 : Zx.St w0 (Y s0).dom [Y s, pullR p4 p5 Ap cp (srt ltN la) ka, pullR q6 q7 Aq cq (srt ltN lb) kb, Zx.blk b5 39 (enf x).toArray, Zx.blk b8 39 (enf y).toArray, Zx.blk b46 47 (bvf ⟨⟨#[]⟩, zE, zE, false, false⟩).toArray] w46 := S47.cast (by kernel_rfl)
      refine L_nil ?_
      refine hK33 _ _ ?_
      refine T_seq fun K34 hK34 => ?_
      refine T_seq fun K35 hK35 => ?_
      refine T_region ?_
      refine L_y (y_move rfl) rfl ?_
      refine L_y (y_move rfl) rfl ?_
      refine L_gyes rfl rfl ?_
      refine L_y (y_move rfl) rfl ?_
      refine L_gyes rfl rfl ?_
      refine L_y ((by first | exact y_notD rfl | exact y_not rfl)) rfl ?_
      refine L_gyes rfl rfl ?_
      refine L_y (y_move rfl) rfl ?_
      refine L_gyes rfl rfl ?_
      refine L_y (y_fieldA 0 Try.underlying39 rfl sz9 rfl rfl rfl) rfl ?_
      refine L_gyes rfl rfl ?_
      refine L_y (y_ldc Try.underlying9 rfl rfl (((S48.blk 3 rfl).cell _).trans (by rfl))) rfl ?_
      refine L_gyes rfl rfl ?_
      refine L_y (y_fieldA 0 Try.underlying39 rfl sz9 rfl rfl rfl) rfl ?_
      refine L_gyes rfl rfl ?_
      refine L_y (y_ldc Try.underlying9 rfl rfl (((S48.blk 4 rfl).cell _).trans (by rfl))) rfl ?_
      refine L_gyes rfl rfl ?_
      refine L_y (y_sleq rfl rfl) rfl ?_
      rw [h, Bool.true_or]
      refine L_gyes rfl rfl ?_
      refine L_y (y_pk rfl rfl) rfl ?_
      refine L_y (y_pk rfl rfl) rfl ?_
      refine L_nil ?_
      refine hK35 _ _ ?_
      refine T_true rfl ?_
      refine T_drawn (fun w => Blk w b5 39 (enf x).toArray) [(0, true), (1, true), (2, true), (3, true), (4, false), (5, true), (6, false), (7, true), (8, false)] hmix (by kernel_rfl) (fun w l => (S48.like l).blk 3 rfl) fun w49 l49 => ?_
      have S49 := S48.like l49
      refine DL_y rfl (y_fieldA 0 Try.underlying39 rfl sz9 rfl rfl rfl) rfl ?_
      refine DL_y rfl (y_ldS Try.underlying9 rfl rfl (fun w h => (h.cell _).trans (by rfl))) rfl ?_
      refine DL_y rfl (y_of fun w hw => y_ldW Try.underlying39 rfl sz39 rfl hw ⟨take_enf x, enf_len x⟩) rfl ?_
      refine DL_y rfl (y_fieldA 0 Try.underlying47 rfl sz9 rfl rfl rfl) rfl ?_
      refine DL_o rfl (o_st1 S49 5 rfl rfl rfl rfl sz9 (by rw [bvf_sz]; decide) fun w50 S50 => ?_)
      have S51 := S50.blkc 5 rfl (cs' := (bvf _).toArray) (bv_nm _ _ _ _ _ _)
      have S52 : Zx.St w0 (Y s0).dom [Y s, pullR p4 p5 Ap cp (srt ltN la) ka, pullR q6 q7 Aq cq (srt ltN lb) kb, Zx.blk b5 39 (enf x).toArray, Zx.blk b8 39 (enf y).toArray, Zx.blk b46 47 (bvf ⟨x.nm, zE, zE, false, false⟩).toArray] w50 := S51.cast (by kernel_rfl)
      refine ⟨S52.blk 3 rfl, ?_⟩
      refine DL_y rfl (y_fieldA 1 Try.underlying47 rfl sz39 rfl rfl rfl) rfl ?_
      refine DL_o rfl (o_stR S52 5 rfl rfl rfl (by rw [enf_sz]; exact sz39) (by rw [enf_sz, bvf_sz]; decide) (enf_one _) fun w53 S53 => ?_)
      have S54 := S53.blkc 5 rfl (cs' := (bvf _).toArray) (bv_A _ _ _ _ _ _)
      have S55 : Zx.St w0 (Y s0).dom [Y s, pullR p4 p5 Ap cp (srt ltN la) ka, pullR q6 q7 Aq cq (srt ltN lb) kb, Zx.blk b5 39 (enf x).toArray, Zx.blk b8 39 (enf y).toArray, Zx.blk b46 47 (bvf ⟨x.nm, x, zE, false, false⟩).toArray] w53 := S54.cast (by kernel_rfl)
      refine ⟨S55.blk 3 rfl, ?_⟩
      refine DL_y rfl (y_fieldA 69 Try.underlying47 rfl sz4 rfl rfl rfl) rfl ?_
      refine DL_o rfl (o_st1 S55 5 rfl rfl rfl rfl sz4 (by rw [bvf_sz]; decide) fun w56 S56 => ?_)
      have S57 := S56.blkc 5 rfl (cs' := (bvf _).toArray) (bv_ha _ _ _ _ _ _)
      have S58 : Zx.St w0 (Y s0).dom [Y s, pullR p4 p5 Ap cp (srt ltN la) ka, pullR q6 q7 Aq cq (srt ltN lb) kb, Zx.blk b5 39 (enf x).toArray, Zx.blk b8 39 (enf y).toArray, Zx.blk b46 47 (bvf ⟨x.nm, x, zE, true, false⟩).toArray] w56 := S57.cast (by kernel_rfl)
      refine ⟨S58.blk 3 rfl, ?_⟩
      refine DL_nil ?_
      refine hK34 _ _ ?_
      refine T_seq fun K36 hK36 => ?_
      refine T_seq fun K37 hK37 => ?_
      refine T_region ?_
      refine L_y (y_move rfl) rfl ?_
      refine L_y (y_move rfl) rfl ?_
      refine L_gyes rfl rfl ?_
      refine L_y (y_move rfl) rfl ?_
      refine L_gyes rfl rfl ?_
      refine L_y ((by first | exact y_notD rfl | exact y_not rfl)) rfl ?_
      refine L_gyes rfl rfl ?_
      refine L_y (y_move rfl) rfl ?_
      refine L_gyes rfl rfl ?_
      refine L_y (y_fieldA 0 Try.underlying39 rfl sz9 rfl rfl rfl) rfl ?_
      refine L_gyes rfl rfl ?_
      refine L_y (y_ldc Try.underlying9 rfl rfl (((S58.blk 4 rfl).cell _).trans (by rfl))) rfl ?_
      refine L_gyes rfl rfl ?_
      refine L_y (y_fieldA 0 Try.underlying39 rfl sz9 rfl rfl rfl) rfl ?_
      refine L_gyes rfl rfl ?_
      refine L_y (y_ldc Try.underlying9 rfl rfl (((S58.blk 3 rfl).cell _).trans (by rfl))) rfl ?_
      refine L_gyes rfl rfl ?_
      refine L_y (y_sleq rfl rfl) rfl ?_
      rw [snlt h, decide_eq_false (sne h).symm, Bool.or_self]
      refine L_gyes rfl rfl ?_
      refine L_y (y_pk rfl rfl) rfl ?_
      refine L_y (y_pk rfl rfl) rfl ?_
      refine L_nil ?_
      refine hK37 _ _ ?_
      refine T_false rfl ?_
      refine T_skip ?_
      refine hK36 _ _ ?_
      refine T_seq fun K38 hK38 => ?_
      refine T_seq fun K39 hK39 => ?_
      refine T_region ?_
      refine L_y (y_fieldA 69 Try.underlying47 rfl sz4 rfl rfl rfl) rfl ?_
      refine L_y (y_ldc Try.underlying4 rfl rfl (((S58.blk 5 rfl).cell _).trans (bv_getA _ _ _ _ _))) rfl ?_
      refine L_nil ?_
      refine hK39 _ _ ?_
      refine T_true rfl ?_
      refine T_region ?_
      refine L_y (y_move rfl) rfl ?_
      refine L_o (o_callv rfl Try.func50 rfl rfl (over p4 p5 Ap cp (srt ltN la) ka x w56 (S58.get 1 rfl) (S58.lt 1 rfl) hx (by rw [srt_len]; omega)) rfl rfl (fun d' hd => by cases hd <;> rfl) ?_)
      rintro e59 w59 ⟨v59, rfl, jA, hoA, hnA, T59⟩
      refine ⟨_, rfl, ?_⟩
      have S59 := S58.turn 1 rfl T59
      have hltA := over_lt hx hoA hnA
      refine L_nil ?_
      refine hK38 _ _ ?_
      refine T_seq fun K40 hK40 => ?_
      refine T_seq fun K41 hK41 => ?_
      refine T_region ?_
      refine L_y (y_fieldA 70 Try.underlying47 rfl sz4 rfl rfl rfl) rfl ?_
      refine L_y (y_ldc Try.underlying4 rfl rfl (((S59.blk 5 rfl).cell _).trans (bv_getB _ _ _ _ _))) rfl ?_
      refine L_nil ?_
      refine hK41 _ _ ?_
      refine T_false rfl ?_
      refine T_skip ?_
      refine hK40 _ _ ?_
      refine T_seq fun K42 hK42 => ?_
      have S60 : Zx.St w0 (Y s0).dom [Y s, pullR p4 p5 Ap cp (srt ltN la) jA, pullR q6 q7 Aq cq (srt ltN lb) kb, Zx.blk b5 39 (enf x).toArray, Zx.blk b8 39 (enf y).toArray, Zx.blk b46 47 (bvf ⟨x.nm, x, zE, true, false⟩).toArray] w59 := S59.cast (by kernel_rfl)
      refine T_regionW ?_
      refine LW_y (y_move rfl) rfl ?_
      refine LW_y (y_ldW Try.underlying47 rfl sz47 rfl (S60.blk 5 rfl) ⟨bvf_take _, bvf_len _⟩) rfl ?_
      refine LW_yield rfl rfl (hY _ _ w59 (by rw [hzs, List.length_append]; rw [srt_len] at hal hbl; omega) (S60.get 0 rfl) (S60.lt 0 rfl)) rfl ?_
      rintro e61 w61 ⟨rfl, s9, hout9, T61⟩
      refine ⟨_, rfl, ?_⟩
      have S61 := S60.turn 0 rfl T61
      refine LW_y ((by first | exact y_notD rfl | exact y_not rfl)) rfl ?_
      refine LW_nil ?_
      refine hK42 _ _ ?_
      refine T_false rfl ?_
      refine T_skip ?_
      have hm9 := Mg.step (srt_sorted ordN la) (srt_sorted ordN lb) hm (adv_go hx hoA hnA) (adv_stay (srt_sorted ordN lb) hy h) (by simp)
      have S99 := S61.drop (rs' := [_, _, _]) (.cons_cons _ (.cons_cons _ (.cons_cons _ (List.nil_sublist _))))
      refine ⟨jA, kb, s9, _, by omega, ⟨⟨hm9, by rw [hout9, hzs, List.append_assoc], by rw [List.length_append]; simp only [List.length_cons, List.length_nil]; omega⟩, S99⟩, ?_⟩
      exact (Sub.cons rfl rfl (Sub.cons rfl rfl (Sub.cons rfl rfl (Sub.cons rfl rfl (Sub.cons rfl rfl (Sub.nil _))))))
    ·
      have hkx := (List.getElem?_eq_some_iff.1 hx).1
      have S62 := S9
      rw [show hdE (srt ltN la) ka = x from by unfold hdE; rw [hx]; rfl] at S62
      rw [decide_eq_true (show ka < (srt ltN la).length by omega)]
      have hky := (List.getElem?_eq_some_iff.1 hy).1
      have S63 := S62
      rw [show hdE (srt ltN lb) kb = y from by unfold hdE; rw [hy]; rfl] at S63
      rw [decide_eq_true (show kb < (srt ltN lb).length by omega)]
      refine L_nil ?_
      refine hK4 _ _ ?_
      refine T_seq fun K43 hK43 => ?_
      refine T_seq fun K44 hK44 => ?_
      refine T_region ?_
      refine L_y (y_move rfl) rfl ?_
      refine L_y ((by first | exact y_notD rfl | exact y_not rfl)) rfl ?_
      refine L_y (y_move rfl) rfl ?_
      refine L_gno rfl rfl rfl ?_
      refine L_gno rfl rfl rfl ?_
      refine L_y (y_pk rfl rfl) rfl ?_
      refine L_nil ?_
      refine hK44 _ _ ?_
      refine T_false rfl ?_
      refine T_skip ?_
      refine hK43 _ _ ?_
      refine T_seq fun K45 hK45 => ?_
      refine T_region ?_
      refine L_o (o_alloc zz47 S63 rfl fun b64 w64 hb64 S64 => ?_)
      have S65 := S64.blkc 5 rfl (cs' := (bvf _).toArray) ((by kernel_rfl : _ = (bvf ⟨⟨#[]⟩, zE, zE, false, false⟩).toArray))
      have S66 : Zx.St w0 (Y s0).dom [Y s, pullR p4 p5 Ap cp (srt ltN la) ka, pullR q6 q7 Aq cq (srt ltN lb) kb, Zx.blk b5 39 (enf x).toArray, Zx.blk b8 39 (enf y).toArray, Zx.blk b64 47 (bvf ⟨⟨#[]⟩, zE, zE, false, false⟩).toArray] w64 := S65.cast (by kernel_rfl)
      refine L_nil ?_
      refine hK45 _ _ ?_
      refine T_seq fun K46 hK46 => ?_
      refine T_seq fun K47 hK47 => ?_
      refine T_region ?_
      refine L_y (y_move rfl) rfl ?_
      refine L_y (y_move rfl) rfl ?_
      refine L_gyes rfl rfl ?_
      refine L_y (y_move rfl) rfl ?_
      refine L_gyes rfl rfl ?_
      refine L_y ((by first | exact y_notD rfl | exact y_not rfl)) rfl ?_
      refine L_gyes rfl rfl ?_
      refine L_y (y_move rfl) rfl ?_
      refine L_gyes rfl rfl ?_
      refine L_y (y_fieldA 0 Try.underlying39 rfl sz9 rfl rfl rfl) rfl ?_
      refine L_gyes rfl rfl ?_
      refine L_y (y_ldc Try.underlying9 rfl rfl (((S66.blk 3 rfl).cell _).trans (by rfl))) rfl ?_
      refine L_gyes rfl rfl ?_
      refine L_y (y_fieldA 0 Try.underlying39 rfl sz9 rfl rfl rfl) rfl ?_
      refine L_gyes rfl rfl ?_
      refine L_y (y_ldc Try.underlying9 rfl rfl (((S66.blk 4 rfl).cell _).trans (by rfl))) rfl ?_
      refine L_gyes rfl rfl ?_
      refine L_y (y_sleq rfl rfl) rfl ?_
      rw [decide_eq_true hxy, Bool.or_true]
      refine L_gyes rfl rfl ?_
      refine L_y (y_pk rfl rfl) rfl ?_
      refine L_y (y_pk rfl rfl) rfl ?_
      refine L_nil ?_
      refine hK47 _ _ ?_
      refine T_true rfl ?_
      refine T_drawn (fun w => Blk w b5 39 (enf x).toArray) [(0, true), (1, true), (2, true), (3, true), (4, false), (5, true), (6, false), (7, true), (8, false)] hmix (by kernel_rfl) (fun w l => (S66.like l).blk 3 rfl) fun w67 l67 => ?_
      have S67 := S66.like l67
      refine DL_y rfl (y_fieldA 0 Try.underlying39 rfl sz9 rfl rfl rfl) rfl ?_
      refine DL_y rfl (y_ldS Try.underlying9 rfl rfl (fun w h => (h.cell _).trans (by rfl))) rfl ?_
      refine DL_y rfl (y_of fun w hw => y_ldW Try.underlying39 rfl sz39 rfl hw ⟨take_enf x, enf_len x⟩) rfl ?_
      refine DL_y rfl (y_fieldA 0 Try.underlying47 rfl sz9 rfl rfl rfl) rfl ?_
      refine DL_o rfl (o_st1 S67 5 rfl rfl rfl rfl sz9 (by rw [bvf_sz]; decide) fun w68 S68 => ?_)
      have S69 := S68.blkc 5 rfl (cs' := (bvf _).toArray) (bv_nm _ _ _ _ _ _)
      have S70 : Zx.St w0 (Y s0).dom [Y s, pullR p4 p5 Ap cp (srt ltN la) ka, pullR q6 q7 Aq cq (srt ltN lb) kb, Zx.blk b5 39 (enf x).toArray, Zx.blk b8 39 (enf y).toArray, Zx.blk b64 47 (bvf ⟨x.nm, zE, zE, false, false⟩).toArray] w68 := S69.cast (by kernel_rfl)
      refine ⟨S70.blk 3 rfl, ?_⟩
      refine DL_y rfl (y_fieldA 1 Try.underlying47 rfl sz39 rfl rfl rfl) rfl ?_
      refine DL_o rfl (o_stR S70 5 rfl rfl rfl (by rw [enf_sz]; exact sz39) (by rw [enf_sz, bvf_sz]; decide) (enf_one _) fun w71 S71 => ?_)
      have S72 := S71.blkc 5 rfl (cs' := (bvf _).toArray) (bv_A _ _ _ _ _ _)
      have S73 : Zx.St w0 (Y s0).dom [Y s, pullR p4 p5 Ap cp (srt ltN la) ka, pullR q6 q7 Aq cq (srt ltN lb) kb, Zx.blk b5 39 (enf x).toArray, Zx.blk b8 39 (enf y).toArray, Zx.blk b64 47 (bvf ⟨x.nm, x, zE, false, false⟩).toArray] w71 := S72.cast (by kernel_rfl)
      refine ⟨S73.blk 3 rfl, ?_⟩
      refine DL_y rfl (y_fieldA 69 Try.underlying47 rfl sz4 rfl rfl rfl) rfl ?_
      refine DL_o rfl (o_st1 S73 5 rfl rfl rfl rfl sz4 (by rw [bvf_sz]; decide) fun w74 S74 => ?_)
      have S75 := S74.blkc 5 rfl (cs' := (bvf _).toArray) (bv_ha _ _ _ _ _ _)
      have S76 : Zx.St w0 (Y s0).dom [Y s, pullR p4 p5 Ap cp (srt ltN la) ka, pullR q6 q7 Aq cq (srt ltN lb) kb, Zx.blk b5 39 (enf x).toArray, Zx.blk b8 39 (enf y).toArray, Zx.blk b64 47 (bvf ⟨x.nm, x, zE, true, false⟩).toArray] w74 := S75.cast (by kernel_rfl)
      refine ⟨S76.blk 3 rfl, ?_⟩
      refine DL_nil ?_
      refine hK46 _ _ ?_
      refine T_seq fun K48 hK48 => ?_
      refine T_seq fun K49 hK49 => ?_
      refine T_region ?_
      refine L_y (y_move rfl) rfl ?_
      refine L_y (y_move rfl) rfl ?_
      refine L_gyes rfl rfl ?_
      refine L_y (y_move rfl) rfl ?_
      refine L_gyes rfl rfl ?_
      refine L_y ((by first | exact y_notD rfl | exact y_not rfl)) rfl ?_
      refine L_gyes rfl rfl ?_
      refine L_y (y_move rfl) rfl ?_
      refine L_gyes rfl rfl ?_
      refine L_y (y_fieldA 0 Try.underlying39 rfl sz9 rfl rfl rfl) rfl ?_
      refine L_gyes rfl rfl ?_
      refine L_y (y_ldc Try.underlying9 rfl rfl (((S76.blk 4 rfl).cell _).trans (by rfl))) rfl ?_
      refine L_gyes rfl rfl ?_
      refine L_y (y_fieldA 0 Try.underlying39 rfl sz9 rfl rfl rfl) rfl ?_
      refine L_gyes rfl rfl ?_
      refine L_y (y_ldc Try.underlying9 rfl rfl (((S76.blk 3 rfl).cell _).trans (by rfl))) rfl ?_
      refine L_gyes rfl rfl ?_
      refine L_y (y_sleq rfl rfl) rfl ?_
      rw [decide_eq_true hxy.symm, Bool.or_true]
      refine L_gyes rfl rfl ?_
      refine L_y (y_pk rfl rfl) rfl ?_
      refine L_y (y_pk rfl rfl) rfl ?_
      refine L_nil ?_
      refine hK49 _ _ ?_
      refine T_true rfl ?_
      refine T_drawn (fun w => Blk w b8 39 (enf y).toArray) [(0, true), (1, true), (2, true), (3, true), (4, false), (5, true), (6, false), (7, true), (8, false)] hmix (by kernel_rfl) (fun w l => (S76.like l).blk 4 rfl) fun w77 l77 => ?_
      have S77 := S76.like l77
      refine DL_y rfl (y_fieldA 0 Try.underlying39 rfl sz9 rfl rfl rfl) rfl ?_
      refine DL_y rfl (y_ldS Try.underlying9 rfl rfl (fun w h => (h.cell _).trans (by rfl))) rfl ?_
      refine DL_y rfl (y_of fun w hw => y_ldW Try.underlying39 rfl sz39 rfl hw ⟨take_enf y, enf_len y⟩) rfl ?_
      refine DL_y rfl (y_fieldA 0 Try.underlying47 rfl sz9 rfl rfl rfl) rfl ?_
      refine DL_o rfl (o_st1 S77 5 rfl rfl rfl rfl sz9 (by rw [bvf_sz]; decide) fun w78 S78 => ?_)
      have S79 := S78.blkc 5 rfl (cs' := (bvf _).toArray) (bv_nm _ _ _ _ _ _)
      have S80 : Zx.St w0 (Y s0).dom [Y s, pullR p4 p5 Ap cp (srt ltN la) ka, pullR q6 q7 Aq cq (srt ltN lb) kb, Zx.blk b5 39 (enf x).toArray, Zx.blk b8 39 (enf y).toArray, Zx.blk b64 47 (bvf ⟨y.nm, x, zE, true, false⟩).toArray] w78 := S79.cast (by kernel_rfl)
      refine ⟨S80.blk 4 rfl, ?_⟩
      refine DL_y rfl (y_fieldA 35 Try.underlying47 rfl sz39 rfl rfl rfl) rfl ?_
      refine DL_o rfl (o_stR S80 5 rfl rfl rfl (by rw [enf_sz]; exact sz39) (by rw [enf_sz, bvf_sz]; decide) (enf_one _) fun w81 S81 => ?_)
      have S82 := S81.blkc 5 rfl (cs' := (bvf _).toArray) (bv_B _ _ _ _ _ _)
      have S83 : Zx.St w0 (Y s0).dom [Y s, pullR p4 p5 Ap cp (srt ltN la) ka, pullR q6 q7 Aq cq (srt ltN lb) kb, Zx.blk b5 39 (enf x).toArray, Zx.blk b8 39 (enf y).toArray, Zx.blk b64 47 (bvf ⟨y.nm, x, y, true, false⟩).toArray] w81 := S82.cast (by kernel_rfl)
      refine ⟨S83.blk 4 rfl, ?_⟩
      refine DL_y rfl (y_fieldA 70 Try.underlying47 rfl sz4 rfl rfl rfl) rfl ?_
      refine DL_o rfl (o_st1 S83 5 rfl rfl rfl rfl sz4 (by rw [bvf_sz]; decide) fun w84 S84 => ?_)
      have S85 := S84.blkc 5 rfl (cs' := (bvf _).toArray) (bv_hb _ _ _ _ _ _)
      have S86 : Zx.St w0 (Y s0).dom [Y s, pullR p4 p5 Ap cp (srt ltN la) ka, pullR q6 q7 Aq cq (srt ltN lb) kb, Zx.blk b5 39 (enf x).toArray, Zx.blk b8 39 (enf y).toArray, Zx.blk b64 47 (bvf ⟨y.nm, x, y, true, true⟩).toArray] w84 := S85.cast (by kernel_rfl)
      refine ⟨S86.blk 4 rfl, ?_⟩
      refine DL_nil ?_
      refine hK48 _ _ ?_
      refine T_seq fun K50 hK50 => ?_
      refine T_seq fun K51 hK51 => ?_
      refine T_region ?_
      refine L_y (y_fieldA 69 Try.underlying47 rfl sz4 rfl rfl rfl) rfl ?_
      refine L_y (y_ldc Try.underlying4 rfl rfl (((S86.blk 5 rfl).cell _).trans (bv_getA _ _ _ _ _))) rfl ?_
      refine L_nil ?_
      refine hK51 _ _ ?_
      refine T_true rfl ?_
      refine T_region ?_
      refine L_y (y_move rfl) rfl ?_
      refine L_o (o_callv rfl Try.func50 rfl rfl (over p4 p5 Ap cp (srt ltN la) ka x w84 (S86.get 1 rfl) (S86.lt 1 rfl) hx (by rw [srt_len]; omega)) rfl rfl (fun d' hd => by cases hd <;> rfl) ?_)
      rintro e87 w87 ⟨v87, rfl, jA, hoA, hnA, T87⟩
      refine ⟨_, rfl, ?_⟩
      have S87 := S86.turn 1 rfl T87
      have hltA := over_lt hx hoA hnA
      refine L_nil ?_
      refine hK50 _ _ ?_
      refine T_seq fun K52 hK52 => ?_
      refine T_seq fun K53 hK53 => ?_
      refine T_region ?_
      refine L_y (y_fieldA 70 Try.underlying47 rfl sz4 rfl rfl rfl) rfl ?_
      refine L_y (y_ldc Try.underlying4 rfl rfl (((S87.blk 5 rfl).cell _).trans (bv_getB _ _ _ _ _))) rfl ?_
      refine L_nil ?_
      refine hK53 _ _ ?_
      refine T_true rfl ?_
      refine T_region ?_
      refine L_y (y_move rfl) rfl ?_
      refine L_o (o_callv rfl Try.func50 rfl rfl (over q6 q7 Aq cq (srt ltN lb) kb y w87 (S87.get 2 rfl) (S87.lt 2 rfl) hy (by rw [srt_len]; omega)) rfl rfl (fun d' hd => by cases hd <;> rfl) ?_)
      rintro e88 w88 ⟨v88, rfl, jB, hoB, hnB, T88⟩
      refine ⟨_, rfl, ?_⟩
      have S88 := S87.turn 2 rfl T88
      have hltB := over_lt hy hoB hnB
      refine L_nil ?_
      refine hK52 _ _ ?_
      refine T_seq fun K54 hK54 => ?_
      have S89 : Zx.St w0 (Y s0).dom [Y s, pullR p4 p5 Ap cp (srt ltN la) jA, pullR q6 q7 Aq cq (srt ltN lb) jB, Zx.blk b5 39 (enf x).toArray, Zx.blk b8 39 (enf y).toArray, Zx.blk b64 47 (bvf ⟨y.nm, x, y, true, true⟩).toArray] w88 := S88.cast (by kernel_rfl)
      refine T_regionW ?_
      refine LW_y (y_move rfl) rfl ?_
      refine LW_y (y_ldW Try.underlying47 rfl sz47 rfl (S89.blk 5 rfl) ⟨bvf_take _, bvf_len _⟩) rfl ?_
      refine LW_yield rfl rfl (hY _ _ w88 (by rw [hzs, List.length_append]; rw [srt_len] at hal hbl; omega) (S89.get 0 rfl) (S89.lt 0 rfl)) rfl ?_
      rintro e90 w90 ⟨rfl, s9, hout9, T90⟩
      refine ⟨_, rfl, ?_⟩
      have S90 := S89.turn 0 rfl T90
      refine LW_y ((by first | exact y_notD rfl | exact y_not rfl)) rfl ?_
      refine LW_nil ?_
      refine hK54 _ _ ?_
      refine T_false rfl ?_
      refine T_skip ?_
      have hm9 := Mg.step (srt_sorted ordN la) (srt_sorted ordN lb) hm ((hxy ▸ adv_go hx hoA hnA)) (adv_go hy hoB hnB) (by simp)
      have S99 := S90.drop (rs' := [_, _, _]) (.cons_cons _ (.cons_cons _ (.cons_cons _ (List.nil_sublist _))))
      refine ⟨jA, jB, s9, _, by omega, ⟨⟨hm9, by rw [hout9, hzs, List.append_assoc], by rw [List.length_append]; simp only [List.length_cons, List.length_nil]; omega⟩, S99⟩, ?_⟩
      exact (Sub.cons rfl rfl (Sub.cons rfl rfl (Sub.cons rfl rfl (Sub.cons rfl rfl (Sub.cons rfl rfl (Sub.nil _))))))
    ·
      have hkx := (List.getElem?_eq_some_iff.1 hx).1
      have S91 := S9
      rw [show hdE (srt ltN la) ka = x from by unfold hdE; rw [hx]; rfl] at S91
      rw [decide_eq_true (show ka < (srt ltN la).length by omega)]
      have hky := (List.getElem?_eq_some_iff.1 hy).1
      have S92 := S91
      rw [show hdE (srt ltN lb) kb = y from by unfold hdE; rw [hy]; rfl] at S92
      rw [decide_eq_true (show kb < (srt ltN lb).length by omega)]
      refine L_nil ?_
      refine hK4 _ _ ?_
      refine T_seq fun K55 hK55 => ?_
      refine T_seq fun K56 hK56 => ?_
      refine T_region ?_
      refine L_y (y_move rfl) rfl ?_
      refine L_y ((by first | exact y_notD rfl | exact y_not rfl)) rfl ?_
      refine L_y (y_move rfl) rfl ?_
      refine L_gno rfl rfl rfl ?_
      refine L_gno rfl rfl rfl ?_
      refine L_y (y_pk rfl rfl) rfl ?_
      refine L_nil ?_
      refine hK56 _ _ ?_
      refine T_false rfl ?_
      refine T_skip ?_
      refine hK55 _ _ ?_
      refine T_seq fun K57 hK57 => ?_
      refine T_region ?_
      refine L_o (o_alloc zz47 S92 rfl fun b93 w93 hb93 S93 => ?_)
      have S94 := S93.blkc 5 rfl (cs' := (bvf _).toArray) ((by kernel_rfl : _ = (bvf ⟨⟨#[]⟩, zE, zE, false, false⟩).toArray))
      have S95 : Zx.St w0 (Y s0).dom [Y s, pullR p4 p5 Ap cp (srt ltN la) ka, pullR q6 q7 Aq cq (srt ltN lb) kb, Zx.blk b5 39 (enf x).toArray, Zx.blk b8 39 (enf y).toArray, Zx.blk b93 47 (bvf ⟨⟨#[]⟩, zE, zE, false, false⟩).toArray] w93 := S94.cast (by kernel_rfl)
      refine L_nil ?_
      refine hK57 _ _ ?_
      refine T_seq fun K58 hK58 => ?_
      refine T_seq fun K59 hK59 => ?_
      refine T_region ?_
      refine L_y (y_move rfl) rfl ?_
      refine L_y (y_move rfl) rfl ?_
      refine L_gyes rfl rfl ?_
      refine L_y (y_move rfl) rfl ?_
      refine L_gyes rfl rfl ?_
      refine L_y ((by first | exact y_notD rfl | exact y_not rfl)) rfl ?_
      refine L_gyes rfl rfl ?_
      refine L_y (y_move rfl) rfl ?_
      refine L_gyes rfl rfl ?_
      refine L_y (y_fieldA 0 Try.underlying39 rfl sz9 rfl rfl rfl) rfl ?_
      refine L_gyes rfl rfl ?_
      refine L_y (y_ldc Try.underlying9 rfl rfl (((S95.blk 3 rfl).cell _).trans (by rfl))) rfl ?_
      refine L_gyes rfl rfl ?_
      refine L_y (y_fieldA 0 Try.underlying39 rfl sz9 rfl rfl rfl) rfl ?_
      refine L_gyes rfl rfl ?_
      refine L_y (y_ldc Try.underlying9 rfl rfl (((S95.blk 4 rfl).cell _).trans (by rfl))) rfl ?_
      refine L_gyes rfl rfl ?_
      refine L_y (y_sleq rfl rfl) rfl ?_
      rw [snlt h, decide_eq_false (sne h).symm, Bool.or_self]
      refine L_gyes rfl rfl ?_
      refine L_y (y_pk rfl rfl) rfl ?_
      refine L_y (y_pk rfl rfl) rfl ?_
      refine L_nil ?_
      refine hK59 _ _ ?_
      refine T_false rfl ?_
      refine T_skip ?_
      refine hK58 _ _ ?_
      refine T_seq fun K60 hK60 => ?_
      refine T_seq fun K61 hK61 => ?_
      refine T_region ?_
      refine L_y (y_move rfl) rfl ?_
      refine L_y (y_move rfl) rfl ?_
      refine L_gyes rfl rfl ?_
      refine L_y (y_move rfl) rfl ?_
      refine L_gyes rfl rfl ?_
      refine L_y ((by first | exact y_notD rfl | exact y_not rfl)) rfl ?_
      refine L_gyes rfl rfl ?_
      refine L_y (y_move rfl) rfl ?_
      refine L_gyes rfl rfl ?_
      refine L_y (y_fieldA 0 Try.underlying39 rfl sz9 rfl rfl rfl) rfl ?_
      refine L_gyes rfl rfl ?_
      refine L_y (y_ldc Try.underlying9 rfl rfl (((S95.blk 4 rfl).cell _).trans (by rfl))) rfl ?_
      refine L_gyes rfl rfl ?_
      refine L_y (y_fieldA 0 Try.underlying39 rfl sz9 rfl rfl rfl) rfl ?_
      refine L_gyes rfl rfl ?_
      refine L_y (y_ldc Try.underlying9 rfl rfl (((S95.blk 3 rfl).cell _).trans (by rfl))) rfl ?_
      refine L_gyes rfl rfl ?_
      refine L_y (y_sleq rfl rfl) rfl ?_
      rw [h, Bool.true_or]
      refine L_gyes rfl rfl ?_
      refine L_y (y_pk rfl rfl) rfl ?_
      refine L_y (y_pk rfl rfl) rfl ?_
      refine L_nil ?_
      refine hK61 _ _ ?_
      refine T_true rfl ?_
      refine T_drawn (fun w => Blk w b8 39 (enf y).toArray) [(0, true), (1, true), (2, true), (3, true), (4, false), (5, true), (6, false), (7, true), (8, false)] hmix (by kernel_rfl) (fun w l => (S95.like l).blk 4 rfl) fun w96 l96 => ?_
      have S96 := S95.like l96
      refine DL_y rfl (y_fieldA 0 Try.underlying39 rfl sz9 rfl rfl rfl) rfl ?_
      refine DL_y rfl (y_ldS Try.underlying9 rfl rfl (fun w h => (h.cell _).trans (by rfl))) rfl ?_
      refine DL_y rfl (y_of fun w hw => y_ldW Try.underlying39 rfl sz39 rfl hw ⟨take_enf y, enf_len y⟩) rfl ?_
      refine DL_y rfl (y_fieldA 0 Try.underlying47 rfl sz9 rfl rfl rfl) rfl ?_
      refine DL_o rfl (o_st1 S96 5 rfl rfl rfl rfl sz9 (by rw [bvf_sz]; decide) fun w97 S97 => ?_)
      have S98 := S97.blkc 5 rfl (cs' := (bvf _).toArray) (bv_nm _ _ _ _ _ _)
      have S99 : Zx.St w0 (Y s0).dom [Y s, pullR p4 p5 Ap cp (srt ltN la) ka, pullR q6 q7 Aq cq (srt ltN lb) kb, Zx.blk b5 39 (enf x).toArray, Zx.blk b8 39 (enf y).toArray, Zx.blk b93 47 (bvf ⟨y.nm, zE, zE, false, false⟩).toArray] w97 := S98.cast (by kernel_rfl)
      refine ⟨S99.blk 4 rfl, ?_⟩
      refine DL_y rfl (y_fieldA 35 Try.underlying47 rfl sz39 rfl rfl rfl) rfl ?_
      refine DL_o rfl (o_stR S99 5 rfl rfl rfl (by rw [enf_sz]; exact sz39) (by rw [enf_sz, bvf_sz]; decide) (enf_one _) fun w100 S100 => ?_)
      have S101 := S100.blkc 5 rfl (cs' := (bvf _).toArray) (bv_B _ _ _ _ _ _)
      have S102 : Zx.St w0 (Y s0).dom [Y s, pullR p4 p5 Ap cp (srt ltN la) ka, pullR q6 q7 Aq cq (srt ltN lb) kb, Zx.blk b5 39 (enf x).toArray, Zx.blk b8 39 (enf y).toArray, Zx.blk b93 47 (bvf ⟨y.nm, zE, y, false, false⟩).toArray] w100 := S101.cast (by kernel_rfl)
      refine ⟨S102.blk 4 rfl, ?_⟩
      refine DL_y rfl (y_fieldA 70 Try.underlying47 rfl sz4 rfl rfl rfl) rfl ?_
      refine DL_o rfl (o_st1 S102 5 rfl rfl rfl rfl sz4 (by rw [bvf_sz]; decide) fun w103 S103 => ?_)
      have S104 := S103.blkc 5 rfl (cs' := (bvf _).toArray) (bv_hb _ _ _ _ _ _)
      have S105 : Zx.St w0 (Y s0).dom [Y s, pullR p4 p5 Ap cp (srt ltN la) ka, pullR q6 q7 Aq cq (srt ltN lb) kb, Zx.blk b5 39 (enf x).toArray, Zx.blk b8 39 (enf y).toArray, Zx.blk b93 47 (bvf ⟨y.nm, zE, y, false, true⟩).toArray] w103 := S104.cast (by kernel_rfl)
      refine ⟨S105.blk 4 rfl, ?_⟩
      refine DL_nil ?_
      refine hK60 _ _ ?_
      refine T_seq fun K62 hK62 => ?_
      refine T_seq fun K63 hK63 => ?_
      refine T_region ?_
      refine L_y (y_fieldA 69 Try.underlying47 rfl sz4 rfl rfl rfl) rfl ?_
      refine L_y (y_ldc Try.underlying4 rfl rfl (((S105.blk 5 rfl).cell _).trans (bv_getA _ _ _ _ _))) rfl ?_
      refine L_nil ?_
      refine hK63 _ _ ?_
      refine T_false rfl ?_
      refine T_skip ?_
      refine hK62 _ _ ?_
      refine T_seq fun K64 hK64 => ?_
      refine T_seq fun K65 hK65 => ?_
      refine T_region ?_
      refine L_y (y_fieldA 70 Try.underlying47 rfl sz4 rfl rfl rfl) rfl ?_
      refine L_y (y_ldc Try.underlying4 rfl rfl (((S105.blk 5 rfl).cell _).trans (bv_getB _ _ _ _ _))) rfl ?_
      refine L_nil ?_
      refine hK65 _ _ ?_
      refine T_true rfl ?_
      refine T_region ?_
      refine L_y (y_move rfl) rfl ?_
      refine L_o (o_callv rfl Try.func50 rfl rfl (over q6 q7 Aq cq (srt ltN lb) kb y w103 (S105.get 2 rfl) (S105.lt 2 rfl) hy (by rw [srt_len]; omega)) rfl rfl (fun d' hd => by cases hd <;> rfl) ?_)
      rintro e106 w106 ⟨v106, rfl, jB, hoB, hnB, T106⟩
      refine ⟨_, rfl, ?_⟩
      have S106 := S105.turn 2 rfl T106
      have hltB := over_lt hy hoB hnB
      refine L_nil ?_
      refine hK64 _ _ ?_
      refine T_seq fun K66 hK66 => ?_
      have S107 : Zx.St w0 (Y s0).dom [Y s, pullR p4 p5 Ap cp (srt ltN la) ka, pullR q6 q7 Aq cq (srt ltN lb) jB, Zx.blk b5 39 (enf x).toArray, Zx.blk b8 39 (enf y).toArray, Zx.blk b93 47 (bvf ⟨y.nm, zE, y, false, true⟩).toArray] w106 := S106.cast (by kernel_rfl)
      refine T_regionW ?_
      refine LW_y (y_move rfl) rfl ?_
      refine LW_y (y_ldW Try.underlying47 rfl sz47 rfl (S107.blk 5 rfl) ⟨bvf_take _, bvf_len _⟩) rfl ?_
      refine LW_yield rfl rfl (hY _ _ w106 (by rw [hzs, List.length_append]; rw [srt_len] at hal hbl; omega) (S107.get 0 rfl) (S107.lt 0 rfl)) rfl ?_
      rintro e108 w108 ⟨rfl, s9, hout9, T108⟩
      refine ⟨_, rfl, ?_⟩
      have S108 := S107.turn 0 rfl T108
      refine LW_y ((by first | exact y_notD rfl | exact y_not rfl)) rfl ?_
      refine LW_nil ?_
      refine hK66 _ _ ?_
      refine T_false rfl ?_
      refine T_skip ?_
      have hm9 := Mg.step (srt_sorted ordN la) (srt_sorted ordN lb) hm (adv_stay (srt_sorted ordN la) hx h) (adv_go hy hoB hnB) (by simp)
      have S99 := S108.drop (rs' := [_, _, _]) (.cons_cons _ (.cons_cons _ (.cons_cons _ (List.nil_sublist _))))
      refine ⟨ka, jB, s9, _, by omega, ⟨⟨hm9, by rw [hout9, hzs, List.append_assoc], by rw [List.length_append]; simp only [List.length_cons, List.length_nil]; omega⟩, S99⟩, ?_⟩
      exact (Sub.cons rfl rfl (Sub.cons rfl rfl (Sub.cons rfl rfl (Sub.cons rfl rfl (Sub.cons rfl rfl (Sub.nil _))))))
end Go.Proofs.Ytmgimcdkeelnpaa.Mrg


/-
  Merge.
-/
namespace Go.Proofs.Ytmgimcdkeelnpaa.Mrg
open Go.RowKit Zk Zx
set_option linter.unusedVariables false
set_option linter.unusedSimpArgs false

set_option maxRecDepth 100000 in
theorem rows (A : Option Addr) (n c : Nat) (B : Option Addr) (m d : Nat) (w0 : World)  :
    Calls Try.prog 32 #[.slice A n c, .slice B m d] w0 fun e w' => ∃ u, e = .returned u ∧ Like w0 w' ∧ ∃ g1 g2, u = .func (.func 41) #[] #[.pointer (some ⟨g1, 0, none⟩), .pointer (some ⟨g2, 0, none⟩)] ∧ (apR (Zx.blk g1 22 #[.slice A n c]) (Zx.blk g2 22 #[.slice B m d])).holds w' ∧ ∀ i, (apR (Zx.blk g1 22 #[.slice A n c]) (Zx.blk g2 22 #[.slice B m d])).dom i → w0.heap.size ≤ i ∧ i < w'.heap.size := by
  refine enter1 (env := [(0, .slice A n c), (1, .slice B m d)]) [.slice A n c, .slice B m d] Try.func32 rfl Try.ntmps32 rfl rfl ?_
  have S0 := St.start w0 noM
  refine T_seq fun K1 hK1 => ?_
  refine T_region ?_
  refine L_o (o_box1 rfl rfl S0 rfl fun b1 w1 hb1 S1 => ?_)
  refine L_o (o_box1 rfl rfl S1 rfl fun b2 w2 hb2 S2 => ?_)
  refine L_y (y_assign rfl) rfl ?_
  refine L_nil ?_
  refine hK1 _ _ ?_
  refine T_seq fun K2 hK2 => ?_
  refine T_region ?_
  refine L_y (y_makeFunc rfl rfl) rfl ?_
  refine L_y (y_assign rfl) rfl ?_
  refine L_nil ?_
  refine hK2 _ _ ?_
  refine T_ret ?_
  refine ur ?_
  refine ret1 rfl rfl ?_
  have S9 := St.joinA (ps := []) S2
  exact ⟨_, rfl, S2.like0, _, _, rfl, S9.get 0 rfl, fun i hi => ⟨((S9.res _ (List.mem_singleton.2 rfl)).2 i hi).2.elim id (fun h => h.elim), ((S9.res _ (List.mem_singleton.2 rfl)).2 i hi).1⟩⟩


/-- What Merge has between two rounds. -/
def outR (b : Nat) (s : Option Addr × Nat × List BV) : Res := apR (Zx.blk b 42 #[.slice s.1 s.2.2.length s.2.1]) (Zx.row 47 71 s.1 s.2.2.length s.2.1 (s.2.2.flatMap bvf))
set_option maxRecDepth 100000 in
theorem merge (A : Option Addr) (c : Nat) (la : List EV) (B : Option Addr) (d : Nat) (lb : List EV) (w0 : World) (ha : Rs w0 34 A la.length c (la.flatMap enf)) (hb : Rs w0 34 B lb.length d (lb.flatMap enf)) (hna : la.length ≤ 1000) (hnb : lb.length ≤ 1000) :
    Calls Try.prog 19 #[.slice A la.length c, .slice B lb.length d] w0 fun e w' => ∃ u, e = .returned u ∧ Like w0 w' ∧ ∃ A' c', u = .slice A' ((nms (la ++ lb)).map (mkB la lb)).length c' ∧
      w'.ownsRow w0.heap.size 47 71 (.slice A' ((nms (la ++ lb)).map (mkB la lb)).length c') ((nms (la ++ lb)).map (mkB la lb)).length (((nms (la ++ lb)).map (mkB la lb)).flatMap bvf) := by
  refine enterM1 (env := [(0, .slice A la.length c), (1, .slice B lb.length d)]) [.slice A la.length c, .slice B lb.length d] Try.func19 rfl Try.ntmps19 rfl rfl ?_
  have S0 := St.start w0 noM
  refine T_seq fun K1 hK1 => ?_
  refine T_region ?_
  refine L_y (y_assign rfl) rfl ?_
  refine L_nil ?_
  refine hK1 _ _ ?_
  refine T_seq fun K2 hK2 => ?_
  refine T_region ?_
  refine L_o (o_alloc zz42 S0 rfl fun b1 w1 hb1 S1 => ?_)
  refine L_nil ?_
  refine hK2 _ _ ?_
  refine T_seq fun K3 hK3 => ?_
  refine T_seq fun K4 hK4 => ?_
  refine T_region ?_
  refine L_y (y_move rfl) rfl ?_
  refine L_y (y_move rfl) rfl ?_
  refine L_o (o_call Try.func32 rfl rfl (rows A la.length c B lb.length d w1) rfl rfl ?_)
  rintro e2 w2 ⟨v2, rfl, l2, g1, g2, rfl, hg, hgd⟩
  refine ⟨_, rfl, ?_⟩
  have S2 := S1.new l2 _ hg hgd
  refine L_nil ?_
  refine hK4 _ _ ?_
  refine T_block ?_
  have S3 : Zx.St w0 noM [apR (Zx.blk g1 22 #[.slice A la.length c]) (Zx.blk g2 22 #[.slice B lb.length d]), Zx.blk b1 42 #[.slice none 0 0], Zx.row 47 71 none 0 0 []] w2 := ((S2.sel [1, 0] (by decide)).nilrow 47 71).cast (by kernel_rfl)
  have S4 : Zx.St w0 noM ([apR (Zx.blk g1 22 #[.slice A la.length c]) (Zx.blk g2 22 #[.slice B lb.length d])] ++ [outR b1 (none, 0, [])]) w2 := St.joinA (ps := [_]) S3
  refine T_rangeFunc (gf := 41) (lb := [.pointer (some ⟨g1, 0, none⟩), .pointer (some ⟨g2, 0, none⟩)]) rfl Try.func41 rfl rfl rfl rfl (outR b1) (none, 0, []) S4 (fun v => .agg (bvf v).toArray) (fun s => s.2.2) (fun s => s.2.2.length ≤ 2000) (fun s => s.2.2 = (nms (la ++ lb)).map (mkB la lb)) ?it ?round ?done
  case it =>
    intro l Y w3 l3 hY0 hYd _ hY
    have hg2 := S4.get 0 rfl
    refine Calls.mono (show Calls Try.prog 41 #[.func (.yield l) #[] #[], .pointer (some ⟨g1, 0, none⟩), .pointer (some ⟨g2, 0, none⟩)] w3 _ from rowsI Y (fun s => s.2.2) (none, 0, []) l g1 g2 A c la B d lb w3 (hg2.1.below l3 hg2.1.lt) (hg2.2.1.below l3 hg2.2.1.lt) ((S4.rd ha).like l3) ((S4.rd hb).like l3) (by omega) (by omega) hY0 hYd (fun s x W hlen => hY s x W (by simp at hlen; omega))) ?_
    rintro e W' ⟨u, rfl, s', hs', hT⟩
    exact ⟨⟨_, rfl⟩, s', by simpa using hs', hT⟩
  case round =>
    rintro l D o o2 ⟨A5, c5, zs⟩ x W0 M W hok S5
    have hlen : zs.length ≤ 2000 := hok
    refine TW_region ?_
    refine LW_o (o_alloc zz47 S5 rfl fun b6 w6 hb6 S6 => ?_)
    refine LW_o (o_stW S6 3 rfl rfl rfl (by rw [bvf_sz]; exact sz47) (by rw [bvf_sz]; rfl) (bvf_one _) fun w7 S7 => ?_)
    refine LW_nil ?_
    refine ⟨[Zx.blk b6 47 (bvf x).toArray], S7.cast (by kernel_rfl), fun w8 S8 => ?_⟩
    refine TW_block ?_
    refine TW_region ?_
    have S9 : Zx.St W0 M ([objR D (.deferred (some [])), objR l (.loop o2), Zx.blk b6 47 (bvf x).toArray] ++ [apR (Zx.blk b1 42 #[.slice A5 zs.length c5]) (Zx.row 47 71 A5 zs.length c5 (zs.flatMap bvf))]) w8 := (S8.sel [1, 2, 3, 0] (by decide)).cast (by kernel_rfl)
    have S10 := S9.splitA
    refine LW_y (y_ldc Try.underlying42 rfl rfl (((S10.blk 3 rfl).cell _).trans (by rfl))) rfl ?_
    refine LW_y (y_ldW Try.underlying47 rfl sz47 rfl (S10.blk 2 rfl) ⟨bvf_take _, bvf_len _⟩) rfl ?_
    refine LW_o (o_bsl (bvf x) te42 zz47 S10 rfl rfl rfl (by simp [Value.cells, bvf_len]) (by simp [Value.cells]) rfl rfl rfl fun b13 w13 S13 => ?_)
    refine LW_o (o_app te42 S13 4 rfl rfl rfl (S13.row 5 rfl) (bvf_one _) rfl (by omega) (by omega) fun A14 c14 w14 S14 => ?_)
    refine LW_o (o_st1 S14 3 rfl rfl rfl rfl sz42 Nat.zero_lt_one fun w15 S15 => ?_)
    refine LW_nil ?_
    have S16 := S15.sel [0, 1, 3, 4] (by decide)
    have S17 := S16.rowc 3 rfl (n' := (zs ++ [x]).length) (xs' := (zs ++ [x]).flatMap bvf) (by simp) (by simp)
    have S18 := S17.blkc 2 rfl (cs' := #[.slice A14 (zs ++ [x]).length c14]) (by simp)
    have S19 : Zx.St W0 M ([objR D (.deferred (some [])), objR l (.loop o2)] ++ [outR b1 (A14, c14, zs ++ [x])]) w15 := St.joinA (ps := [_, _]) (S18.cast (by kernel_rfl))
    exact ⟨(A14, c14, zs ++ [x]), [], rfl, (S19.sel [2, 0, 1] (by decide)).cast (by kernel_rfl)⟩
  case done =>
    rintro D ⟨A5, c5, zs⟩ w9 hG S9
    have hG : zs = (nms (la ++ lb)).map (mkB la lb) := hG
    subst hG
    refine hK3 _ _ ?_
    refine T_seq fun K5 hK5 => ?_
    refine T_region ?_
    have hC := S9.get 1 rfl
    refine L_y (y_ldc Try.underlying42 rfl rfl ((hC.1.cell _).trans (by rfl))) rfl ?_
    refine L_y (y_assign rfl) rfl ?_
    refine L_nil ?_
    refine hK5 _ _ ?_
    refine T_ret ?_
    refine retM1 rfl rfl rfl (S9.get 2 rfl) ?_
    have S10 := S9.putO 2 (.deferred none) rfl
    have S11 := St.splitA (ps := []) ((S10.sel [1] (by decide)).cast (by kernel_rfl) : Zx.St w0 noM ([] ++ [outR b1 (A5, c5, (nms (la ++ lb)).map (mkB la lb))]) _)
    exact ⟨_, rfl, S10.like0, _, _, rfl, S11.own 1 rfl⟩
end Go.Proofs.Ytmgimcdkeelnpaa.Mrg


/-
  The law TreeMerges.
-/
namespace Go.Proofs.Ytmgimcdkeelnpaa.Mrg
open Go.RowKit Zk Zx
set_option linter.unusedVariables false
set_option linter.unusedSimpArgs false
theorem list32 {α : Type} (l : List α) (h : l.length = 32) : ∃ a0 a1 a2 a3 a4 a5 a6 a7 a8 a9 a10 a11 a12 a13 a14 a15 a16 a17 a18 a19 a20 a21 a22 a23 a24 a25 a26 a27 a28 a29 a30 a31, l = [a0, a1, a2, a3, a4, a5, a6, a7, a8, a9, a10, a11, a12, a13, a14, a15, a16, a17, a18, a19, a20, a21, a22, a23, a24, a25, a26, a27, a28, a29, a30, a31] := by
  match l, h with
  | [a0, a1, a2, a3, a4, a5, a6, a7, a8, a9, a10, a11, a12, a13, a14, a15, a16, a17, a18, a19, a20, a21, a22, a23, a24, a25, a26, a27, a28, a29, a30, a31], _ => exact ⟨a0, a1, a2, a3, a4, a5, a6, a7, a8, a9, a10, a11, a12, a13, a14, a15, a16, a17, a18, a19, a20, a21, a22, a23, a24, a25, a26, a27, a28, a29, a30, a31, rfl⟩

theorem built47 (s : ByteArray) (x y : EV) (a b : Bool) : Try.prog.built 47 [(0, .string s), (1, .agg (enf x).toArray), (2, .agg (enf y).toArray), (3, .bool a), (4, .bool b)] = some (bvf ⟨s, x, y, a, b⟩).toArray := by
  obtain ⟨n, m, l, h⟩ := x
  obtain ⟨n2, m2, l2, h2⟩ := y
  obtain ⟨a0, a1, a2, a3, a4, a5, a6, a7, a8, a9, a10, a11, a12, a13, a14, a15, a16, a17, a18, a19, a20, a21, a22, a23, a24, a25, a26, a27, a28, a29, a30, a31, rfl⟩ := list32 l h.1
  obtain ⟨b0, b1, b2, b3, b4, b5, b6, b7, b8, b9, b10, b11, b12, b13, b14, b15, b16, b17, b18, b19, b20, b21, b22, b23, b24, b25, b26, b27, b28, b29, b30, b31, rfl⟩ := list32 l2 h2.1
  kernel_rfl
theorem en_same (d : Nat) (x : EV) {fs : Array Field} (hfs : Try.prog.underlying 39 = some (.struct fs)) : EqFs Try.prog (d + 2) (enf x).toArray (enf x).toArray fs.toList true := by
  have h2 := Try.underlying39
  rw [hfs] at h2
  injection h2 with h2
  injection h2 with h2
  subst h2
  have e : true = (decide (x.nm = x.nm) && (decide (x.md = x.md) && (decide (x.id = x.id) && true))) := by simp
  rw [e]
  exact .cons (FE_str (by decide) Try.underlying9 rfl rfl) (.cons (FE_int (by decide) Try.underlying3 rfl rfl) (.cons (FE_bytes (by decide) Try.underlying37 Try.underlying5 sz5 Try.sizeOf37 x.h.1 x.h.1 (en_id x) (en_id x)) .nil))
theorem bv_exA (x : BV) : (bvf x).toArray.extract 1 (1 + 34) = (enf x.A).toArray := by
  apply Array.ext'
  rw [Array.toList_extract, List.extract_eq_take_drop]
  simp [bvf, enf_len, List.take_append, List.take_of_length_le]
theorem bv_exB (x : BV) : (bvf x).toArray.extract 35 (35 + 34) = (enf x.B).toArray := by
  apply Array.ext'
  rw [Array.toList_extract, List.extract_eq_take_drop]
  simp [bvf, enf_len, List.drop_append, List.take_append, List.take_of_length_le]
theorem bv_same (x : BV) {fs : Array Field} (hfs : Try.prog.underlying 47 = some (.struct fs)) : EqFs Try.prog 9999 (bvf x).toArray (bvf x).toArray fs.toList true := by
  have h2 := Try.underlying47
  rw [hfs] at h2
  injection h2 with h2
  injection h2 with h2
  subst h2
  have e : true = (decide (x.nm = x.nm) && (true && (true && (decide (x.ha = x.ha) && (decide (x.hb = x.hb) && true))))) := by simp
  rw [e]
  have ga : (bvf x).toArray[69]? = some (.bool x.ha) := bv_getA x.nm x.A x.B x.ha x.hb
  have gb : (bvf x).toArray[70]? = some (.bool x.hb) := bv_getB x.nm x.A x.B x.ha x.hb
  exact .cons (FE_str (by decide) Try.underlying9 rfl rfl) (.cons (FE_struct (by decide) Try.underlying39 (by kernel_rfl) Try.sizeOf39 (bv_exA x) (bv_exA x) (en_same 9996 x.A Try.underlying39)) (.cons (FE_struct (by decide) Try.underlying39 (by kernel_rfl) Try.sizeOf39 (bv_exB x) (bv_exB x) (en_same 9996 x.B Try.underlying39)) (.cons (FE_bool (by decide) Try.underlying4 ga ga) (.cons (FE_bool (by decide) Try.underlying4 gb gb) .nil))))


set_option maxRecDepth 100000 in
theorem lmerges (A : Option Addr) (c : Nat) (l : List EV) (B : Option Addr) (d : Nat) (l2 : List EV) (s : ByteArray) (w0 : World) (ha : Rs w0 34 A l.length c (l.flatMap enf)) (hb : Rs w0 34 B l2.length d (l2.flatMap enf)) :
    Calls Try.prog 5 #[.slice A l.length c, .slice B l2.length d, .string s] w0 fun e w' => ∃ u, e = .returned u ∧ Like w0 w' ∧ u = .bool true := by
  refine enter1 (env := [(0, .slice A l.length c), (1, .slice B l2.length d), (2, .string s)]) [.slice A l.length c, .slice B l2.length d, .string s] Try.func5 rfl Try.ntmps5 rfl rfl ?_
  have hcap := ha.cap; have hmax := ha.max; have hcap2 := hb.cap; have hmax2 := hb.max; have S0 := St.start w0 noM
  refine T_seq fun K1 hK1 => ?_
  refine T_region ?_
  refine L_y (y_assign rfl) rfl ?_
  refine L_nil ?_
  refine hK1 _ _ ?_
  refine T_seq fun K2 hK2 => ?_
  refine T_seq fun K3 hK3 => ?_
  refine T_region ?_
  refine L_y (y_move rfl) rfl ?_
  refine L_y (y_len Try.underlying22 rfl) rfl ?_
  refine L_y (y_gtr rfl rfl) rfl ?_
  refine L_y (y_move rfl) rfl ?_
  refine L_split 21 rfl (fun h21 => ?_) (fun h21 => ?_)
  ·
    refine L_gno rfl rfl rfl ?_
    refine L_gno rfl rfl rfl ?_
    refine L_gno rfl rfl rfl ?_
    refine L_y (y_pk rfl rfl) rfl ?_
    refine L_nil ?_
    refine hK3 _ _ ?_
    refine T_true rfl ?_
    refine T_seq fun K4 hK4 => ?_
    refine T_region ?_
    refine L_o (o_call Try.func8 rfl rfl (works w0) rfl rfl ?_)
    rintro e2 w2 ⟨v2, rfl, l2, rfl⟩
    refine ⟨_, rfl, ?_⟩
    have S2 := S0.like l2
    refine L_y (y_assign rfl) rfl ?_
    refine L_nil ?_
    refine hK4 _ _ ?_
    refine T_ret ?_
    refine ur ?_
    refine ret1 rfl rfl ?_
    exact ⟨_, rfl, S2.like0, rfl⟩
  ·
    refine L_gyes rfl rfl ?_
    refine L_y (y_move rfl) rfl ?_
    refine L_gyes rfl rfl ?_
    refine L_y (y_len Try.underlying22 rfl) rfl ?_
    refine L_gyes rfl rfl ?_
    refine L_y (y_gtr rfl rfl) rfl ?_
    refine L_y (y_pk rfl rfl) rfl ?_
    refine L_nil ?_
    refine hK3 _ _ ?_
    refine T_cond rfl (fun h25 => ?_) (fun h25 => ?_)
    ·
      refine T_seq fun K5 hK5 => ?_
      refine T_region ?_
      refine L_o (o_call Try.func8 rfl rfl (works w0) rfl rfl ?_)
      rintro e3 w3 ⟨v3, rfl, l3, rfl⟩
      refine ⟨_, rfl, ?_⟩
      have S3 := S0.like l3
      refine L_y (y_assign rfl) rfl ?_
      refine L_nil ?_
      refine hK5 _ _ ?_
      refine T_ret ?_
      refine ur ?_
      refine ret1 rfl rfl ?_
      exact ⟨_, rfl, S3.like0, rfl⟩
    ·
      refine T_skip ?_
      refine hK2 _ _ ?_
      refine T_seq fun K6 hK6 => ?_
      refine T_region ?_
      refine L_y (y_move rfl) rfl ?_
      refine L_y (y_move rfl) rfl ?_
      refine L_o (o_call Try.func17 rfl rfl (find A l.length c l s w0 (S0.rd ha)) rfl rfl ?_)
      rintro e4 w4 ⟨v4, rfl, l4, rfl⟩
      refine ⟨_, rfl, ?_⟩
      have S4 := S0.like l4
      refine L_y (y_move rfl) rfl ?_
      refine L_y (y_extract rfl rfl) rfl ?_
      refine L_y (y_extract rfl rfl) rfl ?_
      refine L_o (o_alloc zz39 S4 rfl fun b5 w5 hb5 S5 => ?_)
      refine L_o (o_stW S5 0 rfl rfl rfl (by rw [enf_sz]; exact sz39) (by first | (rw [enf_sz]; done) | (rw [enf_sz]; rfl) | (rw [enf_sz, enf_sz]; done)) (enf_one _) fun w6 S6 => ?_)
      refine L_y (y_assign rfl) rfl ?_
      refine L_nil ?_
      refine hK6 _ _ ?_
      refine T_seq fun K7 hK7 => ?_
      refine T_region ?_
      refine L_y (y_move rfl) rfl ?_
      refine L_y (y_move rfl) rfl ?_
      refine L_o (o_call Try.func18 rfl rfl (rfind A l.length c l s w6 (S6.rd ha)) rfl rfl ?_)
      rintro e7 w7 ⟨v7, rfl, l7, rfl⟩
      refine ⟨_, rfl, ?_⟩
      have S7 := S6.like l7
      refine L_y (y_move rfl) rfl ?_
      refine L_y (y_extract rfl rfl) rfl ?_
      refine L_y (y_extract rfl rfl) rfl ?_
      refine L_o (o_alloc zz39 S7 rfl fun b8 w8 hb8 S8 => ?_)
      refine L_o (o_stW S8 1 rfl rfl rfl (by rw [enf_sz]; exact sz39) (by first | (rw [enf_sz]; done) | (rw [enf_sz]; rfl) | (rw [enf_sz, enf_sz]; done)) (enf_one _) fun w9 S9 => ?_)
      refine L_y (y_assign rfl) rfl ?_
      refine L_nil ?_
      refine hK7 _ _ ?_
      refine T_seq fun K8 hK8 => ?_
      refine T_seq fun K9 hK9 => ?_
      refine T_region ?_
      refine L_y (y_ldW Try.underlying39 rfl sz39 rfl (S9.blk 0 rfl) ⟨take_enf _, enf_len _⟩) rfl ?_
      refine L_y (y_ldW Try.underlying39 rfl sz39 rfl (S9.blk 1 rfl) ⟨take_enf _, enf_len _⟩) rfl ?_
      refine L_y (y_neS Try.underlying39 (by kernel_rfl) (by kernel_rfl) (en_same 9997 _ Try.underlying39) rfl rfl) rfl ?_
      refine L_y (y_move rfl) rfl ?_
      refine L_gyes rfl rfl ?_
      refine L_y (y_move rfl) rfl ?_
      refine L_gyes rfl rfl ?_
      refine L_y (y_move rfl) rfl ?_
      refine L_gyes rfl rfl ?_
      refine L_y (y_neBool Try.underlying4 rfl rfl) rfl ?_
      refine L_y (y_pk rfl rfl) rfl ?_
      refine L_nil ?_
      refine hK9 _ _ ?_
      refine T_condB rfl (fun h46 => ?_) (fun h46 => ?_)
      ·
        simp at h46
      ·
        refine T_skip ?_
        refine hK8 _ _ ?_
        refine T_seq fun K10 hK10 => ?_
        refine T_region ?_
        refine L_y (y_move rfl) rfl ?_
        refine L_y (y_move rfl) rfl ?_
        refine L_o (o_call Try.func19 rfl rfl (merge A c l B d l2 w9 (S9.rd ha) (S9.rd hb) (by omega) (by omega)) rfl rfl ?_)
        rintro e10 w10 ⟨v10, rfl, l10, A49, c49, rfl, O10⟩
        refine ⟨_, rfl, ?_⟩
        have S10 := S9.adopt l10 O10
        refine L_y (y_assign rfl) rfl ?_
        refine L_nil ?_
        refine hK10 _ _ ?_
        refine T_seq fun K11 hK11 => ?_
        refine T_region ?_
        refine L_y (y_move rfl) rfl ?_
        refine L_y (y_move rfl) rfl ?_
        refine L_o (o_call Try.func20 rfl rfl (names A l.length c l B l2.length d l2 w10 (S10.rd ha) (S10.rd hb) (by omega) (by omega)) rfl rfl ?_)
        rintro e11 w11 ⟨v11, rfl, l11, A52, c52, rfl, O11⟩
        refine ⟨_, rfl, ?_⟩
        have S11 := S10.adopt l11 O11
        refine L_y (y_assign rfl) rfl ?_
        refine L_nil ?_
        refine hK11 _ _ ?_
        refine T_seq fun K12 hK12 => ?_
        refine T_seq fun K13 hK13 => ?_
        obtain ⟨N, hN⟩ : ∃ N, nms (l ++ l2) = N := ⟨_, rfl⟩
        have S12 := S11
        rw [hN] at S12 ⊢
        refine T_region ?_
        refine L_y (y_move rfl) rfl ?_
        refine L_y (y_len Try.underlying42 rfl) rfl ?_
        refine L_y (y_move rfl) rfl ?_
        refine L_y (y_len Try.underlying44 rfl) rfl ?_
        refine L_y (y_neq rfl rfl) rfl ?_
        refine L_nil ?_
        refine hK13 _ _ ?_
        refine T_cond rfl (fun h57 => ?_) (fun h57 => ?_)
        ·
          exact absurd (by rw [List.length_map]) h57
        ·
          refine T_skip ?_
          refine hK12 _ _ ?_
          refine T_seq fun K14 hK14 => ?_
          refine T_seq fun K15 hK15 => ?_
          refine T_region ?_
          refine L_y (y_assign rfl) rfl ?_
          refine L_nil ?_
          refine hK15 _ _ ?_
          refine T_block ?_
          refine T_loop1 [(0, _), (1, _), (11, _), (12, _)] (fun (k : Nat) => [(13, .int .i64 (k : Int))]) (fun (k : Nat) => N.length - k) (fun (k : Nat) (w : World) => k ≤ N.length ∧ St w0 noM [Zx.row 47 71 A49 (N.map (mkB l l2)).length c49 ((N.map (mkB l l2)).flatMap bvf), Zx.row 9 1 A52 N.length c52 (sL N)] w) 0 (Sub.cons rfl (by first | rfl | exact congrArg (Value.int _) (by omega)) (Sub.nil _)) (Sub.cons rfl rfl (Sub.cons rfl rfl (Sub.cons rfl rfl (Sub.cons rfl rfl (Sub.nil _))))) ?_ ?_
          ·
            exact ⟨Nat.zero_le _, S12.drop (.cons _ (.cons _ (.refl _)))⟩
          ·
            intro k w13 hrel
            obtain ⟨hk, S13⟩ := hrel
            have hcp := (S13.row 0 rfl).cap
            have hmx := (S13.row 0 rfl).max
            have hcp2 := (S13.row 1 rfl).cap
            have hmx2 := (S13.row 1 rfl).max
            rw [List.length_map] at hcp
            refine T_seq fun K16 hK16 => ?_
            refine T_seq fun K17 hK17 => ?_
            refine T_region ?_
            refine L_y (y_move rfl) rfl ?_
            refine L_y (y_move rfl) rfl ?_
            refine L_y (y_len Try.underlying42 rfl) rfl ?_
            refine L_y (y_lss rfl rfl) rfl ?_
            refine L_nil ?_
            refine hK17 _ _ ?_
            refine T_cond rfl (fun h61 => ?_) (fun h61 => ?_)
            ·
              have hkN : k < N.length := by rw [List.length_map] at h61; omega
              obtain ⟨s2, hs2⟩ : ∃ s2, N[k]? = some s2 := ⟨_, List.getElem?_eq_getElem (by omega)⟩
              have hbv : (N.map (mkB l l2))[k]? = some (mkB l l2 s2) := by rw [List.getElem?_map, hs2]; rfl
              refine T_skip ?_
              refine hK16 _ _ ?_
              refine T_seq fun K18 hK18 => ?_
              refine T_block ?_
              refine T_seq fun K19 hK19 => ?_
              refine T_region ?_
              refine L_y (y_move rfl) rfl ?_
              refine L_y (y_move rfl) rfl ?_
              refine L_y (y_move rfl) rfl ?_
              refine L_y (y_idx Try.underlying44 sz9 rfl rfl (S13.row 1 rfl) (Nt.mk (by omega) : Nt _ (k)) (by omega)) rfl ?_
              refine L_y (y_ldr Try.underlying9 rfl rfl (S13.row 1 rfl) (sL_get hs2)) rfl ?_
              refine L_o (o_call Try.func18 rfl rfl (rfind A l.length c l s2 w13 (S13.rd ha)) rfl rfl ?_)
              rintro e14 w14 ⟨v14, rfl, l14, rfl⟩
              refine ⟨_, rfl, ?_⟩
              have S14 := S13.like l14
              refine L_y (y_move rfl) rfl ?_
              refine L_y (y_extract rfl rfl) rfl ?_
              refine L_y (y_extract rfl rfl) rfl ?_
              refine L_o (o_alloc zz39 S14 rfl fun b15 w15 hb15 S15 => ?_)
              refine L_o (o_stW S15 2 rfl rfl rfl (by rw [enf_sz]; exact sz39) (by first | (rw [enf_sz]; done) | (rw [enf_sz]; rfl) | (rw [enf_sz, enf_sz]; done)) (enf_one _) fun w16 S16 => ?_)
              refine L_y (y_assign rfl) rfl ?_
              refine L_nil ?_
              refine hK19 _ _ ?_
              refine T_seq fun K20 hK20 => ?_
              refine T_region ?_
              refine L_y (y_move rfl) rfl ?_
              refine L_y (y_move rfl) rfl ?_
              refine L_y (y_move rfl) rfl ?_
              refine L_y (y_idx Try.underlying44 sz9 rfl rfl (S16.row 1 rfl) (Nt.mk (by omega) : Nt _ (k)) (by omega)) rfl ?_
              refine L_y (y_ldr Try.underlying9 rfl rfl (S16.row 1 rfl) (sL_get hs2)) rfl ?_
              refine L_o (o_call Try.func18 rfl rfl (rfind B l2.length d l2 s2 w16 (S16.rd hb)) rfl rfl ?_)
              rintro e17 w17 ⟨v17, rfl, l17, rfl⟩
              refine ⟨_, rfl, ?_⟩
              have S17 := S16.like l17
              refine L_y (y_move rfl) rfl ?_
              refine L_y (y_extract rfl rfl) rfl ?_
              refine L_y (y_extract rfl rfl) rfl ?_
              refine L_o (o_alloc zz39 S17 rfl fun b18 w18 hb18 S18 => ?_)
              refine L_o (o_stW S18 3 rfl rfl rfl (by rw [enf_sz]; exact sz39) (by first | (rw [enf_sz]; done) | (rw [enf_sz]; rfl) | (rw [enf_sz, enf_sz]; done)) (enf_one _) fun w19 S19 => ?_)
              refine L_y (y_assign rfl) rfl ?_
              refine L_nil ?_
              refine hK20 _ _ ?_
              refine T_seq fun K21 hK21 => ?_
              refine T_drawnL [(0, true), (1, true), (2, true), (3, true), (4, true), (5, true), (6, true), (7, true), (8, true), (9, true), (10, true), (11, true), (12, true), (13, true)] hmix (by kernel_rfl) fun w20 l20 => ?_
              have S20 := S19.like l20
              refine DL_y rfl (y_move rfl) rfl ?_
              refine DL_y rfl (y_move rfl) rfl ?_
              refine DL_y rfl (y_idx Try.underlying42 sz47 rfl rfl (S20.row 0 rfl) (Nt.mk (by omega) : Nt _ (k)) (by rw [List.length_map]; exact hkN)) rfl ?_
              refine DL_y rfl (y_ldp (f := bvf) bvf_len Try.underlying47 rfl sz47 rfl (S20.row 0 rfl) (by rw [List.length_map]; exact hkN) hbv) rfl ?_
              refine DL_y rfl (y_move rfl) rfl ?_
              refine DL_y rfl (y_move rfl) rfl ?_
              refine DL_y rfl (y_idx Try.underlying44 sz9 rfl rfl (S20.row 1 rfl) (Nt.mk (by omega) : Nt _ (k)) (by omega)) rfl ?_
              refine DL_y rfl (y_ldr Try.underlying9 rfl rfl (S20.row 1 rfl) (sL_get hs2)) rfl ?_
              refine DL_y rfl (y_ldW Try.underlying39 rfl sz39 rfl (S20.blk 2 rfl) ⟨take_enf _, enf_len _⟩) rfl ?_
              refine DL_y rfl (y_ldW Try.underlying39 rfl sz39 rfl (S20.blk 3 rfl) ⟨take_enf _, enf_len _⟩) rfl ?_
              refine DL_y rfl (y_move rfl) rfl ?_
              refine DL_y rfl (y_move rfl) rfl ?_
              refine DL_y rfl (y_build rfl (built47 _ _ _ _ _)) rfl ?_
              refine DL_y rfl (y_neS Try.underlying47 (by kernel_rfl) (by kernel_rfl) (bv_same (mkB l l2 s2) Try.underlying47) rfl rfl) rfl ?_
              refine DL_nil ?_
              refine hK21 _ _ ?_
              refine T_false rfl ?_
              refine T_skip ?_
              refine hK18 _ _ ?_
              refine T_region ?_
              refine L_y (y_move rfl) rfl ?_
              refine L_y (y_add rfl rfl (i64w (by omega))) rfl ?_
              refine L_y (y_assign rfl) rfl ?_
              refine L_nil ?_
              refine ⟨k + 1, by omega, ⟨by omega, S20.drop (.cons_cons _ (.cons_cons _ (List.nil_sublist _)))⟩, ?_⟩
              exact (Sub.cons rfl (by first | rfl | exact congrArg (Value.int _) (by omega)) (Sub.cons rfl rfl (Sub.cons rfl rfl (Sub.cons rfl rfl (Sub.cons rfl rfl (Sub.nil _))))))
            ·
              refine T_exit ?_
              refine hK14 _ _ ?_
              refine T_seq fun K22 hK22 => ?_
              refine T_region ?_
              refine L_o (o_call Try.func8 rfl rfl (works w13) rfl rfl ?_)
              rintro e21 w21 ⟨v21, rfl, l21, rfl⟩
              refine ⟨_, rfl, ?_⟩
              have S21 := S13.like l21
              refine L_y (y_assign rfl) rfl ?_
              refine L_nil ?_
              refine hK22 _ _ ?_
              refine T_ret ?_
              refine ur ?_
              refine ret1 rfl rfl ?_
              exact ⟨_, rfl, S21.like0, rfl⟩
end Go.Proofs.Ytmgimcdkeelnpaa.Mrg


/-
  The law TreeMerges, for entries as they are read.
-/
namespace Go.Proofs.Ytmgimcdkeelnpaa.Mrg
open Go.RowKit Zk Zx
set_option linter.unusedVariables false
set_option linter.unusedSimpArgs false
theorem ew_ev : ∀ (l : List EW), ∃ l2 : List EV, l.flatMap ewf = l2.flatMap enf
  | [] => ⟨[], rfl⟩
  | e :: l => by
    obtain ⟨l2, h1⟩ := ew_ev l
    refine ⟨⟨e.nm, e.md, e.id, e.h, Nat.zero_le _⟩ :: l2, ?_⟩
    rw [List.flatMap_cons, List.flatMap_cons, h1]
    rfl
theorem merges_law (A : Option Addr) (n c : Nat) (l : List EW) (B : Option Addr) (m d : Nat) (k : List EW) (s : ByteArray) (w0 : World) (ha : Rs w0 34 A n c (l.flatMap ewf)) (hb : Rs w0 34 B m d (k.flatMap ewf)) :
    Calls Try.prog 5 #[.slice A n c, .slice B m d, .string s] w0 fun e w' => e = .returned (.bool true) ∧ Below w0.heap.size w0 w' := by
  obtain ⟨l2, h1⟩ := ew_ev l
  obtain ⟨k2, h2⟩ := ew_ev k
  rw [h1] at ha
  rw [h2] at hb
  have hn := ens_n ha
  have hm := ens_n hb
  subst hn
  subst hm
  exact (lmerges A c l2 B d k2 s w0 ha hb).mono fun e w' ⟨u, h1, h2, h3⟩ => by subst h3; exact ⟨h1, h2⟩
end Go.Proofs.Ytmgimcdkeelnpaa.Mrg
