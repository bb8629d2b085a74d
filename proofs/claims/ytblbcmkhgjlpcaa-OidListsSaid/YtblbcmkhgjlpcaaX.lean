/-
  Sorted: the library's parts.
-/
import Derived.Test.YtblbcmkhgjlpcaaW
import Derived.Test.YtblbcmkhgjlpcaaZc
import Derived.Shelf.SlSortCmp.NoneTotal
namespace Go.Proofs
open Go.Shelf Go.RowKit Go.Lib Go.Sort
def Ytblbcmkhgjlpcaa.sortL_ren : Go.Shelf.Ren := ⟨fun | 6 => 42 | 15 => 47 | 14 => 46 | 28 => 57 | 29 => 58 | 20 => 49 | 21 => 50 | 22 => 51 | 23 => 52 | 24 => 53 | 25 => 54 | 26 => 55 | 27 => 56 | 46 => 59 | 47 => 60 | 48 => 61 | 49 => 62 | 50 => 63 | 57 => 64 | n => n, fun | 22 => 44 | 24 => 23 | 25 => 42 | 3 => 3 | 39 => 60 | 0 => 0 | 53 => 81 | 55 => 83 | 4 => 4 | 46 => 75 | 45 => 74 | 50 => 54 | 5 => 5 | 9 => 9 | 66 => 84 | 70 => 88 | 76 => 90 | 77 => 47 | n => n, fun | n => n⟩
theorem Ytblbcmkhgjlpcaa.sortL : Go.Proofs.SlLaysF0.n6 Try.prog Ytblbcmkhgjlpcaa.sortL_ren := {
  mixed := by kernel_rfl,
  f6 := ⟨Try.f42.name, by decide, Try.func42.trans (congrArg some (by kernel_rfl))⟩,
  f14 := ⟨Try.f46.name, by decide, Try.func46.trans (congrArg some (by kernel_rfl))⟩,
  f15 := Try.func47.trans (congrArg some (by kernel_rfl)),
  f20 := ⟨Try.f49.name, by decide, Try.func49.trans (congrArg some (by kernel_rfl))⟩,
  f21 := ⟨Try.f50.name, by decide, Try.func50.trans (congrArg some (by kernel_rfl))⟩,
  f22 := ⟨Try.f51.name, by decide, Try.func51.trans (congrArg some (by kernel_rfl))⟩,
  f23 := ⟨Try.f52.name, by decide, Try.func52.trans (congrArg some (by kernel_rfl))⟩,
  f24 := ⟨Try.f53.name, by decide, Try.func53.trans (congrArg some (by kernel_rfl))⟩,
  f25 := ⟨Try.f54.name, by decide, Try.func54.trans (congrArg some (by kernel_rfl))⟩,
  f26 := ⟨Try.f55.name, by decide, Try.func55.trans (congrArg some (by kernel_rfl))⟩,
  f27 := ⟨Try.f56.name, by decide, Try.func56.trans (congrArg some (by kernel_rfl))⟩,
  f28 := Try.func57.trans (congrArg some (by kernel_rfl)),
  f29 := Try.func58.trans (congrArg some (by kernel_rfl)),
  f46 := ⟨Try.f59.name, by decide, Try.func59.trans (congrArg some (by kernel_rfl))⟩,
  f47 := Try.func60.trans (congrArg some (by kernel_rfl)),
  f48 := Try.func61.trans (congrArg some (by kernel_rfl)),
  f49 := ⟨Try.f62.name, by decide, Try.func62.trans (congrArg some (by kernel_rfl))⟩,
  f50 := ⟨Try.f63.name, by decide, Try.func63.trans (congrArg some (by kernel_rfl))⟩,
  f57 := ⟨Try.f64.name, by decide, Try.func64.trans (congrArg some (by kernel_rfl))⟩,
  t0 := Try.underlying0,
  a0 := Try.isAgg0,
  z0 := Try.sizeOf0,
  v0 := Try.zeroValue0,
  t3 := Try.underlying3,
  a3 := Try.isAgg3,
  z3 := Try.sizeOf3,
  v3 := Try.zeroValue3,
  t4 := Try.underlying4,
  a4 := Try.isAgg4,
  z4 := Try.sizeOf4,
  v4 := Try.zeroValue4,
  t5 := Try.underlying5,
  a5 := Try.isAgg5,
  z5 := Try.sizeOf5,
  v5 := Try.zeroValue5,
  t9 := Try.underlying9,
  a9 := Try.isAgg9,
  z9 := Try.sizeOf9,
  v9 := Try.zeroValue9,
  t22 := Try.underlying44,
  a22 := Try.isAgg44,
  z22 := Try.sizeOf44,
  v22 := Try.zeroValue44,
  t25 := Try.underlying42,
  a25 := Try.isAgg42,
  z25 := Try.sizeOf42,
  v25 := Try.zeroValue42,
  t39 := Try.underlying60,
  a39 := Try.isAgg60,
  z39 := Try.sizeOf60,
  v39 := Try.zeroValue60,
  t45 := Try.underlying74,
  a45 := Try.isAgg74,
  z45 := Try.sizeOf74,
  v45 := Try.zeroValue74,
  t46 := Try.underlying75,
  a46 := Try.isAgg75,
  z46 := Try.sizeOf75,
  v46 := Try.zeroValue75,
  t50 := Try.underlying54,
  a50 := Try.isAgg54,
  z50 := Try.sizeOf54,
  v50 := Try.zeroValue54,
  t53 := Try.underlying81,
  a53 := Try.isAgg81,
  z53 := Try.sizeOf81,
  v53 := Try.zeroValue81,
  t55 := Try.underlying83,
  a55 := Try.isAgg83,
  z55 := Try.sizeOf83,
  v55 := Try.zeroValue83,
  t66 := Try.underlying84,
  a66 := Try.isAgg84,
  z66 := Try.sizeOf84,
  v66 := Try.zeroValue84,
  t70 := Try.underlying88,
  a70 := Try.isAgg88,
  z70 := Try.sizeOf88,
  v70 := Try.zeroValue88,
  t76 := Try.underlying90,
  a76 := Try.isAgg90,
  z76 := Try.sizeOf90,
  v76 := Try.zeroValue90,
  t77 := Try.underlying47,
  a77 := Try.isAgg47,
  z77 := Try.sizeOf47,
  v77 := Try.zeroValue47 }
end Go.Proofs
namespace Go.Proofs.Ytblbcmkhgjlpcaa
open Go.Sort
open Go.RowKit Zk Zx
set_option linter.unusedVariables false
set_option linter.unusedSimpArgs false

instance : Inhabited Id := ⟨⟨List.replicate 32 0, rfl⟩⟩
theorem cmpLaysI (blk off size : Nat) (w : World) : CmpLays Try.prog 20 #[] idf 32 (fun x y => cmpL x.l y.l) blk off size w :=
  fun _ _ _ _ x y => compare_exact x.l y.l _ x.h y.h
theorem ltOf_lt (x y : Id) : ltOf (fun x y : Id => cmpL x.l y.l) x y = lt x y := by
  unfold ltOf
  cases h : lt x y with
  | true => exact decide_eq_true ((cmp_lt x y).2 h)
  | false => exact decide_eq_false (Int.not_lt.2 ((cmp_ge x y).2 h))
theorem lt_ntrans (x y z : Id) (h1 : lt x y = false) (h2 : lt y z = false) : lt x z = false := by
  cases h : lt x z with
  | false => rfl
  | true =>
    exfalso
    by_cases e : x = y
    · subst e; rw [h] at h2; cases h2
    · have h3 := lt_trans _ _ _ (lt_total x y h1 e) h
      rw [h3] at h2; cases h2
theorem swoI : SWO (ltOf fun x y : Id => cmpL x.l y.l) where
  irrefl x := by rw [ltOf_lt, lt_irr]
  trans x y z h1 h2 := by rw [ltOf_lt] at *; exact lt_trans _ _ _ h1 h2
  ntrans x y z h1 h2 := by rw [ltOf_lt] at *; exact lt_ntrans _ _ _ h1 h2
theorem sortI0 (b n c : Nat) (ys : List Id) (w0 : World) (hn : ys.length = n) (h : w0.ownsRow 0 23 32 (.slice (some ⟨b, 0, none⟩) n c) n (ys.flatMap idf)) (hsz : n < 4611686018427387904) :
    Calls Try.prog 42 #[.slice (some ⟨b, 0, none⟩) n c, .func (.func 20) #[] #[]] w0 fun e w' => ∃ u, e = .returned u ∧ ∃ zs : List Id, zs.Perm ys ∧ (∀ i j (hi : i < zs.length) (hj : j < zs.length), i < j → lt zs[j] zs[i] = false) ∧
      Turned w0 w' (row 23 32 (some ⟨b, 0, none⟩) n c (ys.flatMap idf)) (row 23 32 (some ⟨b, 0, none⟩) n c (zs.flatMap idf)) := by
  have eg : ∀ args w, (callFunc 20 args).run Try.prog w = .ok (.enter 20 args) w := enters_of Try.func20 (by kernel_rfl) rfl
  obtain ⟨hH, hb⟩ := own_holds (enc := idf) (k := 32) (d := ys.toArray) idf_len (by decide) (by simpa using hn) h
  have hcon := AnyQ.slices_SortFunc Ytblbcmkhgjlpcaa.sortL 32 Try.isAgg23 Try.sizeOf23 idf idf_len (fun x => bL_one x.l) (fun x y => cmpL x.l y.l) swoI 20 #[] b 0 c ys.toArray w0 eg (cmpLaysI b 0 _ w0) hH hb (by simpa using (by omega : ys.length < 4611686018427387904))
  have e1 : ys.toArray.size = n := by simpa using hn
  rw [e1] at hcon
  refine hcon.mono fun e w' ⟨he, d', m, os, hp, hs, hw⟩ => ⟨_, he, d'.toList, ?_, fun i j hi hj hij => ?_, ?_⟩
  · have h3 := hp.2.2
    have h4 : d'.size = n := by rw [hp.1]; exact e1
    rw [show (d'.extract 0 n) = d' by rw [← h4]; simp, show ys.toArray.extract 0 n = ys.toArray by rw [← e1]; simp] at h3
    exact h3
  · have h4 : d'.size = n := by rw [hp.1]; exact e1
    have h5 := hs i j (Nat.zero_le _) hij (by simpa [h4] using hj)
    rw [ltOf_lt] at h5
    rw [getElem!_pos d' i (by simpa using hi), getElem!_pos d' j (by simpa using hj)] at h5
    exact h5
  · subst hw
    obtain ⟨hg, ho⟩ := own_sorted (enc := idf) (k := 32) idf_len (by decide) h (d' := d') (by rw [hp.1]; exact e1) m os
    exact ⟨hg.os, hg.tape, hg.output, hg.size, fun i hi hne => hg.block i hi (fun e => hne (by injection e with e; rw [e]; rfl)), ho, fun i hi => .inl hi⟩
theorem sortIA (A : Option Addr) (n c : Nat) (ys : List Id) (w0 : World) (hn : ys.length = n) (h : w0.ownsRow 0 23 32 (.slice A n c) n (ys.flatMap idf)) (hsz : n < 4611686018427387904) :
    Calls Try.prog 42 #[.slice A n c, .func (.func 20) #[] #[]] w0 fun e w' => ∃ u, e = .returned u ∧ ∃ zs : List Id, zs.Perm ys ∧ (∀ i j (hi : i < zs.length) (hj : j < zs.length), i < j → lt zs[j] zs[i] = false) ∧
      Turned w0 w' (row 23 32 A n c (ys.flatMap idf)) (row 23 32 A n c (zs.flatMap idf)) := by
  rcases h.2 with ⟨h1, h2⟩ | ⟨b, cap, cur, h1, _⟩
  · cases h1
    have e0 : ys = [] := List.eq_nil_of_length_eq_zero (by omega)
    subst e0
    exact (AnyF.slices_SortFunc_none Ytblbcmkhgjlpcaa.sortL none 0 (.func (.func 20) #[] #[]) w0).mono fun e w' ⟨he, hw⟩ => ⟨_, he, [], .refl _, (fun i j hi => by cases hi), by subst hw; exact Turned.refl h⟩
  · cases h1
    exact sortI0 b n c ys w0 hn h hsz


/-- Sorted, equal ones side by side. -/
def WS (xs : List Id) : Prop := ∀ (i j : Nat) (x y : Id), xs[i]? = some x → xs[j]? = some y → i < j → lt y x = false
theorem ris_of {xs : List Id} (h : ∀ (i j : Nat) (x y : Id), xs[i]? = some x → xs[j]? = some y → i < j → lt x y = true) : ris xs = true := by
  apply pair_ris
  rw [List.pairwise_iff_getElem]
  exact fun i j hi hj hij => h i j _ _ (List.getElem?_eq_getElem hi) (List.getElem?_eq_getElem hj) hij
theorem ris_snoc {xs : List Id} {a : Id} (h : ris xs = true) (h2 : ∀ z ∈ xs, lt z a = true) : ris (xs ++ [a]) = true := by
  apply pair_ris
  rw [List.pairwise_append]
  exact ⟨ris_pair _ h, List.pairwise_singleton _ _, fun z hz b hb => by rw [List.mem_singleton.1 hb]; exact h2 z hz⟩
theorem take1 {α : Type} {l : List α} {k : Nat} {x : α} (hx : l[k]? = some x) : l.take (k + 1) = l.take k ++ [x] := by rw [List.take_add_one, hx]; rfl
theorem mem_take1 {α : Type} {l : List α} {k : Nat} {x z : α} (hx : l[k]? = some x) : z ∈ l.take (k + 1) ↔ z ∈ l.take k ∨ z = x := by rw [take1 hx]; simp
theorem WS.step {xs : List Id} (h : WS xs) {k : Nat} {a b : Id} (ha : xs[k + 1]? = some a) (hb : xs[k]? = some b) (hne : a ≠ b) (z : Id) (hz : z ∈ xs.take (k + 1)) : lt z a = true := by
  obtain ⟨i, hi, rfl⟩ := List.getElem_of_mem hz
  have h1 : i < k + 1 ∧ i < xs.length := by rw [List.length_take] at hi; omega
  rw [List.getElem_take]
  have hz' : xs[i]? = some xs[i] := List.getElem?_eq_getElem h1.2
  have h2 := h i (k + 1) _ _ hz' ha h1.1
  by_cases e : a = xs[i]
  · exfalso
    rw [← e] at hz'
    rcases Nat.lt_or_ge i k with q | q
    · have h3 := h i k _ _ hz' hb q
      have h4 := h k (k + 1) _ _ hb ha (by omega)
      have := lt_total _ _ h4 hne
      rw [this] at h3; cases h3
    · have e2 : i = k := by omega
      subst e2
      rw [hb] at hz'
      exact hne (Option.some.inj hz').symm
  · exact lt_total _ _ h2 e
structure CI (xs ys : List Id) (k j q : Nat) : Prop where
  j1 : 1 ≤ j
  q1 : 1 ≤ q
  kq : k + q ≤ xs.length
  jq : j + 1 ≤ k + q
  len : ys.length = xs.length
  ri : ris (ys.take j) = true
  mem : ∀ z, z ∈ ys.take j ↔ z ∈ xs.take (k + q)
  tail : ∀ i, k + q ≤ i + 1 → ys[i]? = xs[i]?
theorem CI.start {xs : List Id} {k : Nat} {x p : Id} (h1 : 1 ≤ k) (hri : ris (xs.take k) = true) (hx : xs[k]? = some x) (hp : xs[k - 1]? = some p) (e : x.l = p.l) : CI xs xs k k 1 where
  j1 := h1
  q1 := Nat.le_refl _
  kq := by have := (List.getElem?_eq_some_iff.1 hx).1; omega
  jq := Nat.le_refl _
  len := rfl
  ri := hri
  mem z := by
    rw [mem_take1 hx]
    refine ⟨.inl, fun h => h.elim id fun h => ?_⟩
    subst h
    have e2 : z = p := Id.ext e
    subst e2
    exact List.mem_iff_getElem?.2 ⟨k - 1, by rw [List.getElem?_take, if_pos (by omega)]; exact hp⟩
  tail i _ := rfl
theorem CI.same {xs ys : List Id} {k j q : Nat} (C : CI xs ys k j q) {a b : Id} (ha : xs[k + q]? = some a) (hb : xs[k + (q - 1)]? = some b) (e : a.l = b.l) : CI xs ys k j (q + 1) where
  j1 := C.j1
  q1 := by omega
  kq := by have := (List.getElem?_eq_some_iff.1 ha).1; omega
  jq := by have := C.jq; omega
  len := C.len
  ri := C.ri
  mem z := by
    rw [C.mem z, show k + (q + 1) = k + q + 1 by omega, mem_take1 ha]
    refine ⟨.inl, fun h => h.elim id fun h => ?_⟩
    subst h
    have e2 : z = b := Id.ext e
    subst e2
    exact List.mem_iff_getElem?.2 ⟨k + (q - 1), by rw [List.getElem?_take, if_pos (by have := C.q1; omega)]; exact hb⟩
  tail i h := C.tail i (by omega)
theorem CI.next {xs ys : List Id} {k j q : Nat} (hs : WS xs) (C : CI xs ys k j q) {a b : Id} (ha : xs[k + q]? = some a) (hb : xs[k + (q - 1)]? = some b) (hne : a.l ≠ b.l) : CI xs (ys.set j a) k (j + 1) (q + 1) := by
  have hq := C.q1
  have hjq := C.jq
  have hkq := (List.getElem?_eq_some_iff.1 ha).1
  have hjl : j < ys.length := by rw [C.len]; omega
  have htk : (ys.set j a).take (j + 1) = ys.take j ++ [a] := by
    rw [take1 (x := a) (by rw [List.getElem?_set, if_pos rfl, if_pos hjl]), List.take_set_of_le (Nat.le_refl _)]
  have e1 : k + q = k + (q - 1) + 1 := by omega
  have hstep : ∀ z ∈ xs.take (k + q), lt z a = true := fun z hz => by
    rw [e1] at ha hz
    exact hs.step ha hb (fun e => hne (by rw [e])) z hz
  exact {
    j1 := by omega
    q1 := by omega
    kq := by omega
    jq := by omega
    len := by rw [List.length_set]; exact C.len
    ri := by rw [htk]; exact ris_snoc C.ri fun z hz => hstep z ((C.mem z).1 hz)
    mem := fun z => by
      rw [htk, show k + (q + 1) = k + q + 1 by omega, mem_take1 ha, List.mem_append, C.mem z, List.mem_singleton]
    tail := fun i hi => by
      rw [List.getElem?_set, if_neg (by omega)]
      exact C.tail i (by omega) }
theorem ris_take1 {xs : List Id} (hs : WS xs) {k : Nat} {x p : Id} (h1 : 1 ≤ k) (hri : ris (xs.take k) = true) (hx : xs[k]? = some x) (hp : xs[k - 1]? = some p) (hne : x.l ≠ p.l) : ris (xs.take (k + 1)) = true := by
  rw [take1 hx]
  refine ris_snoc hri fun z hz => ?_
  have e : k = k - 1 + 1 := by omega
  rw [e] at hx hz
  exact hs.step hx hp (fun e => hne (by rw [e])) z hz
theorem ids_tail {w : World} {A : Option Addr} {c k : Nat} {ys : List Id} {n : Nat} (h : Rs w 32 A n c (ys.flatMap idf)) (hk : k ≤ n) : Rs w 32 (cutA A c k 32) (n - k) (c - k) ((ys.drop k).flatMap idf) := by
  have hn := ids_n h
  have h2 := h.cut (l := k) (u := n) hk (Nat.le_refl _)
  rwa [idf_drop, idf_take, List.take_of_length_le (by rw [List.length_drop]; omega)] at h2
theorem cutA_z (A : Option Addr) (c size : Nat) : cutA A c 0 size = A := by
  unfold cutA
  split
  · rfl
  · cases A with
    | none => rfl
    | some a => simp [Addr.add]
theorem drop_at' {α : Type} {ys : List α} {k q : Nat} {a : α} (h : ys[k + q]? = some a) : (ys.drop k)[q]? = some a := by rw [List.getElem?_drop]; exact h


set_option maxRecDepth 100000 in
theorem pcompact (A : Option Addr) (c : Nat) (xs : List Id) (w0 : World) (hw : (row 23 32 A xs.length c (xs.flatMap idf)).holds w0) (hs : WS xs) :
    Calls Try.prog 44 #[.slice A xs.length c] w0 fun e w' => ∃ u, e = .returned u ∧ ∃ zs : List Id, u = .slice A zs.length c ∧ ris zs = true ∧ (∀ z, z ∈ zs ↔ z ∈ xs) ∧ Turned w0 w' (row 23 32 A xs.length c (xs.flatMap idf)) (row 23 32 A zs.length c (zs.flatMap idf)) := by
  refine enter1 (env := [(0, .slice A xs.length c)]) [.slice A xs.length c] Try.func44 rfl Try.ntmps44 rfl rfl ?_
  have S0 := St.borrow1 (row 23 32 A xs.length c (xs.flatMap idf)) hw (fun i hi => (World.ownsRow.lt hw i hi).2); have hcp := (S0.row 0 rfl).cap; have hmx := (S0.row 0 rfl).max
  refine T_seq fun K1 hK1 => ?_
  refine T_region ?_
  refine L_y (y_assign rfl) rfl ?_
  refine L_nil ?_
  refine hK1 _ _ ?_
  refine T_seq fun K2 hK2 => ?_
  refine T_seq fun K3 hK3 => ?_
  refine T_region ?_
  refine L_y (y_move rfl) rfl ?_
  refine L_y (y_len Try.underlying44 rfl) rfl ?_
  refine L_y (y_lss rfl rfl) rfl ?_
  refine L_nil ?_
  refine hK3 _ _ ?_
  refine T_cond rfl (fun h8 => ?_) (fun h8 => ?_)
  ·
    refine T_seq fun K4 hK4 => ?_
    refine T_region ?_
    refine L_y (y_move rfl) rfl ?_
    refine L_y (y_assign rfl) rfl ?_
    refine L_nil ?_
    refine hK4 _ _ ?_
    refine T_ret ?_
    repeat (first | with_reducible refine up_then ?_ | with_reducible refine up_in ?_)
    refine ret1 rfl rfl ?_
    first | exact ⟨_, rfl, xs, rfl, by have h9 := hri; rwa [List.take_of_length_le (by omega)] at h9, fun z => Iff.rfl, S0.turned1 0 rfl⟩ | exact ⟨_, rfl, xs, rfl, by have h9 := ris_short (l := xs) (k := 0) (by omega); rwa [List.drop_zero] at h9, fun z => Iff.rfl, S0.turned1 0 rfl⟩ | exact ⟨_, rfl, ys.take j, by rw [cutA_z, List.length_take, Nat.min_eq_left (by have := C.jq; have := C.kq; have := C.len; omega)]; rfl, C.ri, fun z => by rw [C.mem z, List.take_of_length_le (by have := C.kq; omega)], S93.turned1 0 rfl⟩
  ·
    refine T_skip ?_
    refine hK2 _ _ ?_
    refine T_seq fun K5 hK5 => ?_
    refine T_seq fun K6 hK6 => ?_
    refine T_region ?_
    refine L_y (y_assign rfl) rfl ?_
    refine L_nil ?_
    refine hK6 _ _ ?_
    refine T_block ?_
    refine T_loop1 [(0, _)] (fun (k : Nat) => [(3, .int .i64 (k : Int))]) (fun (k : Nat) => xs.length - k) (fun (k : Nat) (w : World) => (1 ≤ k ∧ k ≤ xs.length ∧ ris (xs.take k) = true) ∧ St w0 (row 23 32 A xs.length c (xs.flatMap idf)).dom [row 23 32 A xs.length c (xs.flatMap idf)] w) 1 (Sub.cons rfl (by first | rfl | exact congrArg (Value.int _) (by omega)) (Sub.nil _)) (Sub.cons rfl rfl (Sub.nil _)) ?_ ?_
    ·
      exact ⟨⟨Nat.le_refl _, by omega, by have h9 := ris_short (l := xs.take 1) (k := 0) (by rw [List.length_take]; omega); rwa [List.drop_zero] at h9⟩, S0⟩
    ·
      intro k w1 hrel
      obtain ⟨⟨hk1, hk, hri⟩, S1⟩ := hrel
      refine T_seq fun K7 hK7 => ?_
      refine T_seq fun K8 hK8 => ?_
      refine T_region ?_
      refine L_y (y_move rfl) rfl ?_
      refine L_y (y_move rfl) rfl ?_
      refine L_y (y_len Try.underlying44 rfl) rfl ?_
      refine L_y (y_lss rfl rfl) rfl ?_
      refine L_nil ?_
      refine hK8 _ _ ?_
      refine T_cond rfl (fun h13 => ?_) (fun h13 => ?_)
      ·
        obtain ⟨x, hx⟩ : ∃ x, xs[k]? = some x := ⟨_, List.getElem?_eq_getElem (by omega)⟩
        obtain ⟨p, hp⟩ : ∃ p, xs[k - 1]? = some p := ⟨_, List.getElem?_eq_getElem (by omega)⟩
        refine T_skip ?_
        refine hK7 _ _ ?_
        refine T_seq fun K9 hK9 => ?_
        refine T_block ?_
        refine T_seq fun K10 hK10 => ?_
        refine T_drawnL [(0, true), (1, true), (2, true), (3, true), (4, true), (5, true), (6, true), (7, true), (8, true), (9, true)] hmix (by kernel_rfl) fun w2 l2 => ?_
        have S2 := S1.like l2
        refine DL_y rfl (y_move rfl) rfl ?_
        refine DL_y rfl (y_move rfl) rfl ?_
        refine DL_y rfl (y_idx Try.underlying44 sz23 rfl rfl (S2.row 0 rfl) (Nt.mk (by omega) : Nt _ (k)) (by omega)) rfl ?_
        refine DL_y rfl (y_ldp (f := idf) idf_len Try.underlying23 rfl sz23 rfl (S2.row 0 rfl) (by omega) hx) rfl ?_
        refine DL_y rfl (y_move rfl) rfl ?_
        refine DL_y rfl (y_move rfl) rfl ?_
        refine DL_y rfl (y_sub rfl rfl (i64w (by omega))) rfl ?_
        refine DL_y rfl (y_idx Try.underlying44 sz23 rfl rfl (S2.row 0 rfl) (Nt.mk (by omega) : Nt _ (k - 1)) (by omega)) rfl ?_
        refine DL_y rfl (y_ldp (f := idf) idf_len Try.underlying23 rfl sz23 rfl (S2.row 0 rfl) (by omega) hp) rfl ?_
        refine DL_y rfl (y_eqB Try.underlying23 Try.underlying5 sz5 (by kernel_rfl) rfl rfl x.h p.h) rfl ?_
        refine DL_nil ?_
        refine hK10 _ _ ?_
        refine T_cond rfl (fun h25 => ?_) (fun h25 => ?_)
        ·
          refine T_seq fun K11 hK11 => ?_
          refine T_region ?_
          refine L_y (y_move rfl) rfl ?_
          refine L_y (y_move rfl) rfl ?_
          refine L_y (y_sliceL Try.underlying44 sz23 rfl rfl inferInstance (by omega)) rfl ?_
          refine L_y (y_assign rfl) rfl ?_
          refine L_nil ?_
          refine hK11 _ _ ?_
          refine T_seq fun K12 hK12 => ?_
          refine T_seq fun K13 hK13 => ?_
          refine T_region ?_
          refine L_y (y_assign rfl) rfl ?_
          refine L_nil ?_
          refine hK13 _ _ ?_
          refine T_block ?_
          refine T_loop3 [(0, _), (4, _)] (fun (ys : List Id) (j : Nat) (q : Nat) => [(3, .int .i64 (j : Int)), (5, .int .i64 (q : Int))]) (fun (ys : List Id) (j : Nat) (q : Nat) => xs.length - (k + q)) (fun (ys : List Id) (j : Nat) (q : Nat) (w : World) => CI xs ys k j q ∧ St w0 (row 23 32 A xs.length c (xs.flatMap idf)).dom [row 23 32 A xs.length c (ys.flatMap idf)] w) xs k 1 (Sub.cons rfl (by first | rfl | exact congrArg (Value.int _) (by omega)) (Sub.cons rfl (by first | rfl | exact congrArg (Value.int _) (by omega)) (Sub.nil _))) (Sub.cons rfl rfl (Sub.cons rfl rfl (Sub.nil _))) ?_ ?_
          ·
            exact ⟨CI.start hk1 hri hx hp h25, S2⟩
          ·
            intro ys j q w3 hrel
            obtain ⟨C, S3⟩ := hrel
            have hjq := C.jq
            have hkq := C.kq
            have hlen := C.len
            have hj1 := C.j1
            have hq1 := C.q1
            refine T_seq fun K14 hK14 => ?_
            refine T_seq fun K15 hK15 => ?_
            refine T_region ?_
            refine L_y (y_move rfl) rfl ?_
            refine L_y (y_move rfl) rfl ?_
            refine L_y (y_len Try.underlying44 rfl) rfl ?_
            refine L_y (y_lss rfl rfl) rfl ?_
            refine L_nil ?_
            refine hK15 _ _ ?_
            refine T_cond rfl (fun h32 => ?_) (fun h32 => ?_)
            ·
              obtain ⟨a, ha⟩ : ∃ a, xs[k + q]? = some a := ⟨_, List.getElem?_eq_getElem (by omega)⟩
              obtain ⟨b, hb⟩ : ∃ b, xs[k + (q - 1)]? = some b := ⟨_, List.getElem?_eq_getElem (by omega)⟩
              refine T_skip ?_
              refine hK14 _ _ ?_
              refine T_seq fun K16 hK16 => ?_
              refine T_block ?_
              refine T_seq fun K17 hK17 => ?_
              refine T_drawnL [(0, true), (1, true), (2, true), (3, true), (4, true), (5, true), (6, true), (7, true), (8, true), (9, true)] hmix (by kernel_rfl) fun w4 l4 => ?_
              have S4 := S3.like l4
              refine DL_y rfl (y_move rfl) rfl ?_
              refine DL_y rfl (y_move rfl) rfl ?_
              refine DL_y rfl (y_idx Try.underlying44 sz23 rfl rfl (ids_tail (S4.row 0 rfl) (k := k) (by omega)) (Nt.mk (by omega) : Nt _ (q)) (by omega)) rfl ?_
              refine DL_y rfl (y_ldp (f := idf) idf_len Try.underlying23 rfl sz23 rfl (ids_tail (S4.row 0 rfl) (k := k) (by omega)) (by omega) (drop_at' ((C.tail (k + q) (by omega)).trans ha))) rfl ?_
              refine DL_y rfl (y_move rfl) rfl ?_
              refine DL_y rfl (y_move rfl) rfl ?_
              refine DL_y rfl (y_sub rfl rfl (i64w (by omega))) rfl ?_
              refine DL_y rfl (y_idx Try.underlying44 sz23 rfl rfl (ids_tail (S4.row 0 rfl) (k := k) (by omega)) (Nt.mk (by omega) : Nt _ (q - 1)) (by omega)) rfl ?_
              refine DL_y rfl (y_ldp (f := idf) idf_len Try.underlying23 rfl sz23 rfl (ids_tail (S4.row 0 rfl) (k := k) (by omega)) (by omega) (drop_at' ((C.tail (k + (q - 1)) (by have := C.q1; omega)).trans hb))) rfl ?_
              refine DL_y rfl (y_neB Try.underlying23 Try.underlying5 sz5 (by kernel_rfl) rfl rfl a.h b.h) rfl ?_
              refine DL_nil ?_
              refine hK17 _ _ ?_
              refine T_cond rfl (fun h44 => ?_) (fun h44 => ?_)
              ·
                refine T_seq fun K18 hK18 => ?_
                refine T_region ?_
                refine L_y (y_move rfl) rfl ?_
                refine L_y (y_move rfl) rfl ?_
                refine L_y (y_move rfl) rfl ?_
                refine L_y (y_move rfl) rfl ?_
                refine L_y (y_idx Try.underlying44 sz23 rfl rfl (ids_tail (S4.row 0 rfl) (k := k) (by omega)) (Nt.mk (by omega) : Nt _ (q)) (by omega)) rfl ?_
                refine L_y (y_ldp (f := idf) idf_len Try.underlying23 rfl sz23 rfl (ids_tail (S4.row 0 rfl) (k := k) (by omega)) (by omega) (drop_at' ((C.tail (k + q) (by omega)).trans ha))) rfl ?_
                refine L_y (y_idx Try.underlying44 sz23 rfl rfl (S4.row 0 rfl) (Nt.mk (by omega) : Nt _ (j)) (by omega)) rfl ?_
                refine L_o (o_strowE S4 0 rfl rfl rfl (bL_one _) (by simp [idf, a.h]) sz23 (by omega) fun w5 S5 => ?_)
                have S91 := S5.rowc 0 rfl rfl (flat_set idf idf_len ys j a (by omega))
                refine L_nil ?_
                refine hK18 _ _ ?_
                refine T_region ?_
                refine L_y (y_move rfl) rfl ?_
                refine L_y (y_add rfl rfl (i64w (by omega))) rfl ?_
                refine L_y (y_assign rfl) rfl ?_
                refine L_nil ?_
                refine hK16 _ _ ?_
                refine T_region ?_
                refine L_y (y_move rfl) rfl ?_
                refine L_y (y_add rfl rfl (i64w (by omega))) rfl ?_
                refine L_y (y_assign rfl) rfl ?_
                refine L_nil ?_
                refine ⟨ys.set j a, j + 1, q + 1, by omega, ⟨C.next hs ha hb h44, S91⟩, ?_⟩
                exact (Sub.cons rfl (by first | rfl | exact congrArg (Value.int _) (by omega)) (Sub.cons rfl (by first | rfl | exact congrArg (Value.int _) (by omega)) (Sub.cons rfl rfl (Sub.cons rfl rfl (Sub.nil _)))))
              ·
                refine T_skip ?_
                refine hK16 _ _ ?_
                refine T_region ?_
                refine L_y (y_move rfl) rfl ?_
                refine L_y (y_add rfl rfl (i64w (by omega))) rfl ?_
                refine L_y (y_assign rfl) rfl ?_
                refine L_nil ?_
                refine ⟨ys, j, q + 1, by omega, ⟨C.same ha hb (Decidable.byContradiction h44), S4⟩, ?_⟩
                exact (Sub.cons rfl (by first | rfl | exact congrArg (Value.int _) (by omega)) (Sub.cons rfl (by first | rfl | exact congrArg (Value.int _) (by omega)) (Sub.cons rfl rfl (Sub.cons rfl rfl (Sub.nil _)))))
            ·
              refine T_exit ?_
              refine hK12 _ _ ?_
              refine T_seq fun K19 hK19 => ?_
              refine T_region ?_
              refine L_y (y_move rfl) rfl ?_
              refine L_y (y_move rfl) rfl ?_
              refine L_y (y_sliceL Try.underlying44 sz23 rfl rfl inferInstance (by omega)) rfl ?_
              refine L_o (o_clearR (z := .agg (Array.replicate 32 (.int .u8 0))) S3 0 rfl Try.underlying44 zz23 (by simp [Value.cells]) (fun u hu => by simp [Value.cells] at hu; subst hu; rfl) rfl (by omega) fun w6 ys2 hy1 hy2 S6 => ?_)
              refine L_nil ?_
              refine hK19 _ _ ?_
              refine T_seq fun K20 hK20 => ?_
              refine T_region ?_
              refine L_y (y_move rfl) rfl ?_
              refine L_y (y_move rfl) rfl ?_
              refine L_y (y_sliceH Try.underlying44 sz23 rfl rfl inferInstance (by omega)) rfl ?_
              have S92 := S6.rowcut 0 rfl (m := j) (by omega)
              have S93 := S92.rowc 0 rfl (n' := (ys.take j).length) (xs' := (ys.take j).flatMap idf) (by rw [List.length_take]; omega) (by rw [hy1, flat_take idf idf_len])
              refine L_y (y_assign rfl) rfl ?_
              refine L_nil ?_
              refine hK20 _ _ ?_
              refine T_ret ?_
              repeat (first | with_reducible refine up_then ?_ | with_reducible refine up_in ?_)
              refine ret1 rfl rfl ?_
              first | exact ⟨_, rfl, xs, rfl, by have h9 := hri; rwa [List.take_of_length_le (by omega)] at h9, fun z => Iff.rfl, S6.turned1 0 rfl⟩ | exact ⟨_, rfl, xs, rfl, by have h9 := ris_short (l := xs) (k := 0) (by omega); rwa [List.drop_zero] at h9, fun z => Iff.rfl, S6.turned1 0 rfl⟩ | exact ⟨_, rfl, ys.take j, by rw [cutA_z, List.length_take, Nat.min_eq_left (by have := C.jq; have := C.kq; have := C.len; omega)]; rfl, C.ri, fun z => by rw [C.mem z, List.take_of_length_le (by have := C.kq; omega)], S93.turned1 0 rfl⟩
        ·
          refine T_skip ?_
          refine hK9 _ _ ?_
          refine T_region ?_
          refine L_y (y_move rfl) rfl ?_
          refine L_y (y_add rfl rfl (i64w (by omega))) rfl ?_
          refine L_y (y_assign rfl) rfl ?_
          refine L_nil ?_
          refine ⟨k + 1, by omega, ⟨⟨by omega, by omega, ris_take1 hs hk1 hri hx hp h25⟩, S2⟩, ?_⟩
          exact (Sub.cons rfl (by first | rfl | exact congrArg (Value.int _) (by omega)) (Sub.cons rfl rfl (Sub.nil _)))
      ·
        refine T_exit ?_
        refine hK5 _ _ ?_
        refine T_seq fun K21 hK21 => ?_
        refine T_region ?_
        refine L_y (y_move rfl) rfl ?_
        refine L_y (y_assign rfl) rfl ?_
        refine L_nil ?_
        refine hK21 _ _ ?_
        refine T_ret ?_
        repeat (first | with_reducible refine up_then ?_ | with_reducible refine up_in ?_)
        refine ret1 rfl rfl ?_
        first | exact ⟨_, rfl, xs, rfl, by have h9 := hri; rwa [List.take_of_length_le (by omega)] at h9, fun z => Iff.rfl, S1.turned1 0 rfl⟩ | exact ⟨_, rfl, xs, rfl, by have h9 := ris_short (l := xs) (k := 0) (by omega); rwa [List.drop_zero] at h9, fun z => Iff.rfl, S1.turned1 0 rfl⟩ | exact ⟨_, rfl, ys.take j, by rw [cutA_z, List.length_take, Nat.min_eq_left (by have := C.jq; have := C.kq; have := C.len; omega)]; rfl, C.ri, fun z => by rw [C.mem z, List.take_of_length_le (by have := C.kq; omega)], S93.turned1 0 rfl⟩
end Go.Proofs.Ytblbcmkhgjlpcaa
