import Derived.Test.YtgaklngnfecdaaaGreatMgPReads2
import Derived.Shelf.SlSortCmp.NoneTotal
import Derived.Lib.Builder
import Derived.Laws.Externs
import Derived.Test.YtgaklngnfecdaaaGreatMgPReads1
import Derived.Lib.AppendStr
import Derived.Shelf.Strings.Builder1
import Derived.Shelf.Strings.Search1
import Derived.Recover
set_option linter.unusedSimpArgs false
set_option linter.unusedVariables false
set_option maxRecDepth 100000
namespace Go.Proofs
open Go.Shelf Go.RowKit Go.Lib Go.Sort
def YtgaklngnfecdaaaGreat.sortL_ren : Go.Shelf.Ren := ⟨fun | 6 => 179 | 15 => 196 | 14 => 195 | 28 => 209 | 29 => 210 | 20 => 201 | 21 => 202 | 22 => 203 | 23 => 204 | 24 => 205 | 25 => 206 | 26 => 207 | 27 => 208 | 46 => 212 | 47 => 213 | 48 => 214 | 49 => 215 | 50 => 216 | 57 => 218 | n => n, fun | 22 => 81 | 24 => 41 | 25 => 261 | 3 => 3 | 39 => 68 | 0 => 0 | 53 => 63 | 55 => 102 | 4 => 4 | 46 => 276 | 45 => 275 | 50 => 280 | 5 => 5 | 9 => 9 | 66 => 285 | 70 => 288 | 76 => 291 | 77 => 98 | n => n, fun | n => n⟩
theorem YtgaklngnfecdaaaGreat.sortL : Go.Proofs.SlLaysF0.n6 Tryz.prog YtgaklngnfecdaaaGreat.sortL_ren := {
  mixed := by kernel_rfl,
  f6 := ⟨Tryz.f179.name, by decide, Tryz.func179.trans (congrArg some (by kernel_rfl))⟩,
  f14 := ⟨Tryz.f195.name, by decide, Tryz.func195.trans (congrArg some (by kernel_rfl))⟩,
  f15 := Tryz.func196.trans (congrArg some (by kernel_rfl)),
  f20 := ⟨Tryz.f201.name, by decide, Tryz.func201.trans (congrArg some (by kernel_rfl))⟩,
  f21 := ⟨Tryz.f202.name, by decide, Tryz.func202.trans (congrArg some (by kernel_rfl))⟩,
  f22 := ⟨Tryz.f203.name, by decide, Tryz.func203.trans (congrArg some (by kernel_rfl))⟩,
  f23 := ⟨Tryz.f204.name, by decide, Tryz.func204.trans (congrArg some (by kernel_rfl))⟩,
  f24 := ⟨Tryz.f205.name, by decide, Tryz.func205.trans (congrArg some (by kernel_rfl))⟩,
  f25 := ⟨Tryz.f206.name, by decide, Tryz.func206.trans (congrArg some (by kernel_rfl))⟩,
  f26 := ⟨Tryz.f207.name, by decide, Tryz.func207.trans (congrArg some (by kernel_rfl))⟩,
  f27 := ⟨Tryz.f208.name, by decide, Tryz.func208.trans (congrArg some (by kernel_rfl))⟩,
  f28 := Tryz.func209.trans (congrArg some (by kernel_rfl)),
  f29 := Tryz.func210.trans (congrArg some (by kernel_rfl)),
  f46 := ⟨Tryz.f212.name, by decide, Tryz.func212.trans (congrArg some (by kernel_rfl))⟩,
  f47 := Tryz.func213.trans (congrArg some (by kernel_rfl)),
  f48 := Tryz.func214.trans (congrArg some (by kernel_rfl)),
  f49 := ⟨Tryz.f215.name, by decide, Tryz.func215.trans (congrArg some (by kernel_rfl))⟩,
  f50 := ⟨Tryz.f216.name, by decide, Tryz.func216.trans (congrArg some (by kernel_rfl))⟩,
  f57 := ⟨Tryz.f218.name, by decide, Tryz.func218.trans (congrArg some (by kernel_rfl))⟩,
  t0 := Tryz.underlying0,
  a0 := Tryz.isAgg0,
  z0 := Tryz.sizeOf0,
  v0 := Tryz.zeroValue0,
  t3 := Tryz.underlying3,
  a3 := Tryz.isAgg3,
  z3 := Tryz.sizeOf3,
  v3 := Tryz.zeroValue3,
  t4 := Tryz.underlying4,
  a4 := Tryz.isAgg4,
  z4 := Tryz.sizeOf4,
  v4 := Tryz.zeroValue4,
  t5 := Tryz.underlying5,
  a5 := Tryz.isAgg5,
  z5 := Tryz.sizeOf5,
  v5 := Tryz.zeroValue5,
  t9 := Tryz.underlying9,
  a9 := Tryz.isAgg9,
  z9 := Tryz.sizeOf9,
  v9 := Tryz.zeroValue9,
  t22 := Tryz.underlying81,
  a22 := Tryz.isAgg81,
  z22 := Tryz.sizeOf81,
  v22 := Tryz.zeroValue81,
  t25 := Tryz.underlying261,
  a25 := Tryz.isAgg261,
  z25 := Tryz.sizeOf261,
  v25 := Tryz.zeroValue261,
  t39 := Tryz.underlying68,
  a39 := Tryz.isAgg68,
  z39 := Tryz.sizeOf68,
  v39 := Tryz.zeroValue68,
  t45 := Tryz.underlying275,
  a45 := Tryz.isAgg275,
  z45 := Tryz.sizeOf275,
  v45 := Tryz.zeroValue275,
  t46 := Tryz.underlying276,
  a46 := Tryz.isAgg276,
  z46 := Tryz.sizeOf276,
  v46 := Tryz.zeroValue276,
  t50 := Tryz.underlying280,
  a50 := Tryz.isAgg280,
  z50 := Tryz.sizeOf280,
  v50 := Tryz.zeroValue280,
  t53 := Tryz.underlying63,
  a53 := Tryz.isAgg63,
  z53 := Tryz.sizeOf63,
  v53 := Tryz.zeroValue63,
  t55 := Tryz.underlying102,
  a55 := Tryz.isAgg102,
  z55 := Tryz.sizeOf102,
  v55 := Tryz.zeroValue102,
  t66 := Tryz.underlying285,
  a66 := Tryz.isAgg285,
  z66 := Tryz.sizeOf285,
  v66 := Tryz.zeroValue285,
  t70 := Tryz.underlying288,
  a70 := Tryz.isAgg288,
  z70 := Tryz.sizeOf288,
  v70 := Tryz.zeroValue288,
  t76 := Tryz.underlying291,
  a76 := Tryz.isAgg291,
  z76 := Tryz.sizeOf291,
  v76 := Tryz.zeroValue291,
  t77 := Tryz.underlying98,
  a77 := Tryz.isAgg98,
  z77 := Tryz.sizeOf98,
  v77 := Tryz.zeroValue98 }
end Go.Proofs
namespace Go.Proofs.YtgaklngnfecdaaaGreat.Oid
open Go.Sort
open Go.RowKit Zk Zx
instance : Inhabited Id := ⟨⟨List.replicate 32 0, rfl⟩⟩
theorem cmpLaysI (blk off size : Nat) (w : World) : CmpLays Tryz.prog 180 #[] idf 32 (fun x y => cmpL x.l y.l) blk off size w :=
  fun _ _ _ _ x y => compare_exact x.l y.l _ x.h y.h
theorem ltOf_lt (x y : Id) : ltOf (fun x y : Id => cmpL x.l y.l) x y = lt x y := by
  unfold ltOf
  cases h : lt x y with
  | true => exact decide_eq_true ((cmp_lt x y).2 h)
  | false => exact decide_eq_false (Int.not_lt.2 ((cmp_ge x y).2 h))
theorem lt_ntrans (x y z : Id) (h1 : lt x y = false) (h2 : lt y z = false) : lt x z = false := by
  cases h : lt x z with
  | false => rfl
  | true =>
    exfalso
    by_cases e : x = y
    · subst e; rw [h] at h2; cases h2
    · have h3 := lt_trans _ _ _ (lt_total x y h1 e) h
      rw [h3] at h2; cases h2
theorem swoI : SWO (ltOf fun x y : Id => cmpL x.l y.l) where
  irrefl x := by rw [ltOf_lt, lt_irr]
  trans x y z h1 h2 := by rw [ltOf_lt] at *; exact lt_trans _ _ _ h1 h2
  ntrans x y z h1 h2 := by rw [ltOf_lt] at *; exact lt_ntrans _ _ _ h1 h2
theorem sortI0 (b n c : Nat) (ys : List Id) (w0 : World) (hn : ys.length = n) (h : w0.ownsRow 0 41 32 (.slice (some ⟨b, 0, none⟩) n c) n (ys.flatMap idf)) (hsz : n < 4611686018427387904) :
    Calls Tryz.prog 179 #[.slice (some ⟨b, 0, none⟩) n c, .func (.func 180) #[] #[]] w0 fun e w' => ∃ u, e = .returned u ∧ ∃ zs : List Id, zs.Perm ys ∧ (∀ i j (hi : i < zs.length) (hj : j < zs.length), i < j → lt zs[j] zs[i] = false) ∧
      Turned w0 w' (row 41 32 (some ⟨b, 0, none⟩) n c (ys.flatMap idf)) (row 41 32 (some ⟨b, 0, none⟩) n c (zs.flatMap idf)) := by
  have eg : ∀ args w, (callFunc 180 args).run Tryz.prog w = .ok (.enter 180 args) w := enters_of Tryz.func180 (by kernel_rfl) rfl
  obtain ⟨hH, hb⟩ := own_holds (enc := idf) (k := 32) (d := ys.toArray) idf_len (by decide) (by simpa using hn) h
  have hcon := AnyQ.slices_SortFunc YtgaklngnfecdaaaGreat.sortL 32 Tryz.isAgg41 Tryz.sizeOf41 idf idf_len (fun x => bL_one x.l) (fun x y => cmpL x.l y.l) swoI 180 #[] b 0 c ys.toArray w0 eg (cmpLaysI b 0 _ w0) hH hb (by simpa using (by omega : ys.length < 4611686018427387904))
  have e1 : ys.toArray.size = n := by simpa using hn
  rw [e1] at hcon
  refine hcon.mono fun e w' ⟨he, d', m, os, hp, hs, hw⟩ => ⟨_, he, d'.toList, ?_, fun i j hi hj hij => ?_, ?_⟩
  · have h3 := hp.2.2
    have h4 : d'.size = n := by rw [hp.1]; exact e1
    rw [show (d'.extract 0 n) = d' by rw [← h4]; simp, show ys.toArray.extract 0 n = ys.toArray by rw [← e1]; simp] at h3
    exact h3
  · have h4 : d'.size = n := by rw [hp.1]; exact e1
    have h5 := hs i j (Nat.zero_le _) hij (by simpa [h4] using hj)
    rw [ltOf_lt] at h5
    rw [getElem!_pos d' i (by simpa using hi), getElem!_pos d' j (by simpa using hj)] at h5
    exact h5
  · subst hw
    obtain ⟨hg, ho⟩ := own_sorted (enc := idf) (k := 32) idf_len (by decide) h (d' := d') (by rw [hp.1]; exact e1) m os
    exact ⟨hg.os, hg.tape, hg.output, hg.size, fun i hi hne => hg.block i hi (fun e => hne (by injection e with e; rw [e]; rfl)), ho, fun i hi => .inl hi⟩
theorem sortIA (A : Option Addr) (n c : Nat) (ys : List Id) (w0 : World) (hn : ys.length = n) (h : w0.ownsRow 0 41 32 (.slice A n c) n (ys.flatMap idf)) (hsz : n < 4611686018427387904) :
    Calls Tryz.prog 179 #[.slice A n c, .func (.func 180) #[] #[]] w0 fun e w' => ∃ u, e = .returned u ∧ ∃ zs : List Id, zs.Perm ys ∧ (∀ i j (hi : i < zs.length) (hj : j < zs.length), i < j → lt zs[j] zs[i] = false) ∧
      Turned w0 w' (row 41 32 A n c (ys.flatMap idf)) (row 41 32 A n c (zs.flatMap idf)) := by
  rcases h.2 with ⟨h1, h2⟩ | ⟨b, cap, cur, h1, _⟩
  · cases h1
    have e0 : ys = [] := List.eq_nil_of_length_eq_zero (by omega)
    subst e0
    exact (AnyF.slices_SortFunc_none YtgaklngnfecdaaaGreat.sortL none 0 (.func (.func 180) #[] #[]) w0).mono fun e w' ⟨he, hw⟩ => ⟨_, he, [], .refl _, (fun i j hi => by cases hi), by subst hw; exact Turned.refl h⟩
  · cases h1
    exact sortI0 b n c ys w0 hn h hsz
def WS (xs : List Id) : Prop := ∀ (i j : Nat) (x y : Id), xs[i]? = some x → xs[j]? = some y → i < j → lt y x = false
theorem ris_snoc {xs : List Id} {a : Id} (h : ris xs = true) (h2 : ∀ z ∈ xs, lt z a = true) : ris (xs ++ [a]) = true := by
  apply pair_ris
  rw [List.pairwise_append]
  exact ⟨ris_pair _ h, List.pairwise_singleton _ _, fun z hz b hb => by rw [List.mem_singleton.1 hb]; exact h2 z hz⟩
theorem take1 {α : Type} {l : List α} {k : Nat} {x : α} (hx : l[k]? = some x) : l.take (k + 1) = l.take k ++ [x] := by rw [List.take_add_one, hx]; rfl
theorem mem_take1 {α : Type} {l : List α} {k : Nat} {x z : α} (hx : l[k]? = some x) : z ∈ l.take (k + 1) ↔ z ∈ l.take k ∨ z = x := by rw [take1 hx]; simp
theorem WS.step {xs : List Id} (h : WS xs) {k : Nat} {a b : Id} (ha : xs[k + 1]? = some a) (hb : xs[k]? = some b) (hne : a ≠ b) (z : Id) (hz : z ∈ xs.take (k + 1)) : lt z a = true := by
  obtain ⟨i, hi, rfl⟩ := List.getElem_of_mem hz
  have h1 : i < k + 1 ∧ i < xs.length := by rw [List.length_take] at hi; omega
  rw [List.getElem_take]
  have hz' : xs[i]? = some xs[i] := List.getElem?_eq_getElem h1.2
  have h2 := h i (k + 1) _ _ hz' ha h1.1
  by_cases e : a = xs[i]
  · exfalso
    rw [← e] at hz'
    rcases Nat.lt_or_ge i k with q | q
    · have h3 := h i k _ _ hz' hb q
      have h4 := h k (k + 1) _ _ hb ha (by omega)
      have := lt_total _ _ h4 hne
      rw [this] at h3; cases h3
    · have e2 : i = k := by omega
      subst e2
      rw [hb] at hz'
      exact hne (Option.some.inj hz').symm
  · exact lt_total _ _ h2 e
structure CI (xs ys : List Id) (k j q : Nat) : Prop where
  j1 : 1 ≤ j
  q1 : 1 ≤ q
  kq : k + q ≤ xs.length
  jq : j + 1 ≤ k + q
  len : ys.length = xs.length
  ri : ris (ys.take j) = true
  mem : ∀ z, z ∈ ys.take j ↔ z ∈ xs.take (k + q)
  tail : ∀ i, k + q ≤ i + 1 → ys[i]? = xs[i]?
theorem CI.start {xs : List Id} {k : Nat} {x p : Id} (h1 : 1 ≤ k) (hri : ris (xs.take k) = true) (hx : xs[k]? = some x) (hp : xs[k - 1]? = some p) (e : x.l = p.l) : CI xs xs k k 1 where
  j1 := h1
  q1 := Nat.le_refl _
  kq := by have := (List.getElem?_eq_some_iff.1 hx).1; omega
  jq := Nat.le_refl _
  len := rfl
  ri := hri
  mem z := by
    rw [mem_take1 hx]
    refine ⟨.inl, fun h => h.elim id fun h => ?_⟩
    subst h
    have e2 : z = p := Id.ext e
    subst e2
    exact List.mem_iff_getElem?.2 ⟨k - 1, by rw [List.getElem?_take, if_pos (by omega)]; exact hp⟩
  tail i _ := rfl
theorem CI.same {xs ys : List Id} {k j q : Nat} (C : CI xs ys k j q) {a b : Id} (ha : xs[k + q]? = some a) (hb : xs[k + (q - 1)]? = some b) (e : a.l = b.l) : CI xs ys k j (q + 1) where
  j1 := C.j1
  q1 := by omega
  kq := by have := (List.getElem?_eq_some_iff.1 ha).1; omega
  jq := by have := C.jq; omega
  len := C.len
  ri := C.ri
  mem z := by
    rw [C.mem z, show k + (q + 1) = k + q + 1 by omega, mem_take1 ha]
    refine ⟨.inl, fun h => h.elim id fun h => ?_⟩
    subst h
    have e2 : z = b := Id.ext e
    subst e2
    exact List.mem_iff_getElem?.2 ⟨k + (q - 1), by rw [List.getElem?_take, if_pos (by have := C.q1; omega)]; exact hb⟩
  tail i h := C.tail i (by omega)
theorem CI.next {xs ys : List Id} {k j q : Nat} (hs : WS xs) (C : CI xs ys k j q) {a b : Id} (ha : xs[k + q]? = some a) (hb : xs[k + (q - 1)]? = some b) (hne : a.l ≠ b.l) : CI xs (ys.set j a) k (j + 1) (q + 1) := by
  have hq := C.q1
  have hjq := C.jq
  have hkq := (List.getElem?_eq_some_iff.1 ha).1
  have hjl : j < ys.length := by rw [C.len]; omega
  have htk : (ys.set j a).take (j + 1) = ys.take j ++ [a] := by
    rw [take1 (x := a) (by rw [List.getElem?_set, if_pos rfl, if_pos hjl]), List.take_set_of_le (Nat.le_refl _)]
  have e1 : k + q = k + (q - 1) + 1 := by omega
  have hstep : ∀ z ∈ xs.take (k + q), lt z a = true := fun z hz => by
    rw [e1] at ha hz
    exact hs.step ha hb (fun e => hne (by rw [e])) z hz
  exact {
    j1 := by omega
    q1 := by omega
    kq := by omega
    jq := by omega
    len := by rw [List.length_set]; exact C.len
    ri := by rw [htk]; exact ris_snoc C.ri fun z hz => hstep z ((C.mem z).1 hz)
    mem := fun z => by
      rw [htk, show k + (q + 1) = k + q + 1 by omega, mem_take1 ha, List.mem_append, C.mem z, List.mem_singleton]
    tail := fun i hi => by
      rw [List.getElem?_set, if_neg (by omega)]
      exact C.tail i (by omega) }
theorem ris_take1 {xs : List Id} (hs : WS xs) {k : Nat} {x p : Id} (h1 : 1 ≤ k) (hri : ris (xs.take k) = true) (hx : xs[k]? = some x) (hp : xs[k - 1]? = some p) (hne : x.l ≠ p.l) : ris (xs.take (k + 1)) = true := by
  rw [take1 hx]
  refine ris_snoc hri fun z hz => ?_
  have e : k = k - 1 + 1 := by omega
  rw [e] at hx hz
  exact hs.step hx hp (fun e => hne (by rw [e])) z hz
theorem ids_tail {w : World} {A : Option Addr} {c k : Nat} {ys : List Id} {n : Nat} (h : Rs w 32 A n c (ys.flatMap idf)) (hk : k ≤ n) : Rs w 32 (cutA A c k 32) (n - k) (c - k) ((ys.drop k).flatMap idf) := by
  have hn := ids_n h
  have h2 := h.cut (l := k) (u := n) hk (Nat.le_refl _)
  rwa [idf_drop, idf_take, List.take_of_length_le (by rw [List.length_drop]; omega)] at h2
theorem cutA_z (A : Option Addr) (c size : Nat) : cutA A c 0 size = A := by
  unfold cutA
  split
  · rfl
  · cases A with
    | none => rfl
    | some a => simp [Addr.add]
theorem drop_at' {α : Type} {ys : List α} {k q : Nat} {a : α} (h : ys[k + q]? = some a) : (ys.drop k)[q]? = some a := by rw [List.getElem?_drop]; exact h
theorem pcompact (A : Option Addr) (c : Nat) (xs : List Id) (w0 : World) (hw : (row 41 32 A xs.length c (xs.flatMap idf)).holds w0) (hs : WS xs) :
    Calls Tryz.prog 182 #[.slice A xs.length c] w0 fun e w' => ∃ u, e = .returned u ∧ ∃ zs : List Id, u = .slice A zs.length c ∧ ris zs = true ∧ (∀ z, z ∈ zs ↔ z ∈ xs) ∧ Turned w0 w' (row 41 32 A xs.length c (xs.flatMap idf)) (row 41 32 A zs.length c (zs.flatMap idf)) := by
 refine enter1 (env := [(0, .slice A xs.length c)]) [.slice A xs.length c] Tryz.func182 rfl Tryz.ntmps182 rfl rfl ?_; have S0 := St.borrow1 (row 41 32 A xs.length c (xs.flatMap idf)) hw (fun i hi => (World.ownsRow.lt hw i hi).2); have hcp := (S0.row 0 rfl).cap; have hmx := (S0.row 0 rfl).max; refine T_seq fun K1 hK1 => T_region (L_y (y_assign rfl) rfl (L_nil (hK1 _ _ (T_seq fun K2 hK2 => T_seq fun K3 hK3 => T_region (L_y (y_move rfl) rfl (L_y (y_len Tryz.underlying81 rfl) rfl (L_y (y_lss rfl rfl) rfl (L_nil (hK3 _ _ ?_))))))))); refine T_cond rfl (fun h8 => ?_) (fun h8 => ?_)
 ·
  refine T_seq fun K4 hK4 => T_region (L_y (y_move rfl) rfl (L_y (y_assign rfl) rfl (L_nil (hK4 _ _ (T_ret (ur (ret1 rfl rfl ?_))))))); first | exact ⟨_, rfl, xs, rfl, by have h9 := hri; rwa [List.take_of_length_le (by omega)] at h9, fun z => Iff.rfl, S0.turned1 0 rfl⟩ | exact ⟨_, rfl, xs, rfl, by have h9 := ris_short (l := xs) (k := 0) (by omega); rwa [List.drop_zero] at h9, fun z => Iff.rfl, S0.turned1 0 rfl⟩ | exact ⟨_, rfl, ys.take j, by rw [cutA_z, List.length_take, Nat.min_eq_left (by have := C.jq; have := C.kq; have := C.len; omega)]; rfl, C.ri, fun z => by rw [C.mem z, List.take_of_length_le (by have := C.kq; omega)], S93.turned1 0 rfl⟩
 ·
  refine T_skip (hK2 _ _ (T_seq fun K5 hK5 => T_seq fun K6 hK6 => T_region (L_y (y_assign rfl) rfl (L_nil (hK6 _ _ (T_block ?_)))))); refine T_loop1 [(0, _)] (fun (k : Nat) => [(3, .int .i64 (k : Int))]) (fun (k : Nat) => xs.length - k) (fun (k : Nat) (w : World) => (1 ≤ k ∧ k ≤ xs.length ∧ ris (xs.take k) = true) ∧ St w0 (row 41 32 A xs.length c (xs.flatMap idf)).dom [row 41 32 A xs.length c (xs.flatMap idf)] w) 1 (Sub.cons rfl (by first | rfl | exact congrArg (Value.int _) (by omega)) (Sub.nil _)) (Sub.cons rfl rfl (Sub.nil _)) ?_ ?_
  ·
   exact ⟨⟨Nat.le_refl _, by omega, by have h9 := ris_short (l := xs.take 1) (k := 0) (by rw [List.length_take]; omega); rwa [List.drop_zero] at h9⟩, S0⟩
  ·
   intro k w1 hrel; obtain ⟨⟨hk1, hk, hri⟩, S1⟩ := hrel; refine T_seq fun K7 hK7 => T_seq fun K8 hK8 => T_region (L_y (y_move rfl) rfl (L_y (y_move rfl) rfl (L_y (y_len Tryz.underlying81 rfl) rfl (L_y (y_lss rfl rfl) rfl (L_nil (hK8 _ _ ?_)))))); refine T_cond rfl (fun h13 => ?_) (fun h13 => ?_)
   ·
    obtain ⟨x, hx⟩ : ∃ x, xs[k]? = some x := ⟨_, List.getElem?_eq_getElem (by omega)⟩; obtain ⟨p, hp⟩ : ∃ p, xs[k - 1]? = some p := ⟨_, List.getElem?_eq_getElem (by omega)⟩; refine T_skip (hK7 _ _ (T_seq fun K9 hK9 => T_block (T_seq fun K10 hK10 => T_drawnL [(0, true), (1, true), (2, true), (3, true), (4, true), (5, true), (6, true), (7, true), (8, true), (9, true)] hmix (by kernel_rfl) fun w2 l2 => have S2 := S1.like l2; DL_y rfl (y_move rfl) rfl (DL_y rfl (y_move rfl) rfl (DL_y rfl (y_idx Tryz.underlying81 sz41 rfl rfl (S2.row 0 rfl) (Nt.mk (by omega) : Nt _ (k)) (by omega)) rfl (DL_y rfl (y_ldp (f := idf) idf_len Tryz.underlying41 rfl sz41 rfl (S2.row 0 rfl) (by omega) hx) rfl (DL_y rfl (y_move rfl) rfl (DL_y rfl (y_move rfl) rfl (DL_y rfl (y_sub rfl rfl (i64w (by omega))) rfl ?_))))))))); refine DL_y rfl (y_idx Tryz.underlying81 sz41 rfl rfl (S2.row 0 rfl) (Nt.mk (by omega) : Nt _ (k - 1)) (by omega)) rfl (DL_y rfl (y_ldp (f := idf) idf_len Tryz.underlying41 rfl sz41 rfl (S2.row 0 rfl) (by omega) hp) rfl (DL_y rfl (y_eqB Tryz.underlying41 Tryz.underlying5 sz5 (by kernel_rfl) rfl rfl x.h p.h) rfl (DL_nil (hK10 _ _ ?_)))); refine T_cond rfl (fun h25 => ?_) (fun h25 => ?_)
    ·
     refine T_seq fun K11 hK11 => T_region (L_y (y_move rfl) rfl (L_y (y_move rfl) rfl (L_y (y_sliceL Tryz.underlying81 sz41 rfl rfl inferInstance (by omega)) rfl (L_y (y_assign rfl) rfl (L_nil (hK11 _ _ (T_seq fun K12 hK12 => T_seq fun K13 hK13 => T_region (L_y (y_assign rfl) rfl (L_nil (hK13 _ _ ?_)))))))))); refine T_block ?_; refine T_loop3 [(0, _), (4, _)] (fun (ys : List Id) (j : Nat) (q : Nat) => [(3, .int .i64 (j : Int)), (5, .int .i64 (q : Int))]) (fun (ys : List Id) (j : Nat) (q : Nat) => xs.length - (k + q)) (fun (ys : List Id) (j : Nat) (q : Nat) (w : World) => CI xs ys k j q ∧ St w0 (row 41 32 A xs.length c (xs.flatMap idf)).dom [row 41 32 A xs.length c (ys.flatMap idf)] w) xs k 1 (Sub.cons rfl (by first | rfl | exact congrArg (Value.int _) (by omega)) (Sub.cons rfl (by first | rfl | exact congrArg (Value.int _) (by omega)) (Sub.nil _))) (Sub.cons rfl rfl (Sub.cons rfl rfl (Sub.nil _))) ?_ ?_
     ·
      exact ⟨CI.start hk1 hri hx hp h25, S2⟩
     ·
      intro ys j q w3 hrel; obtain ⟨C, S3⟩ := hrel; have hjq := C.jq; have hkq := C.kq; have hlen := C.len; have hj1 := C.j1; have hq1 := C.q1; refine T_seq fun K14 hK14 => T_seq fun K15 hK15 => T_region (L_y (y_move rfl) rfl (L_y (y_move rfl) rfl (L_y (y_len Tryz.underlying81 rfl) rfl (L_y (y_lss rfl rfl) rfl (L_nil (hK15 _ _ ?_)))))); refine T_cond rfl (fun h32 => ?_) (fun h32 => ?_)
      ·
       obtain ⟨a, ha⟩ : ∃ a, xs[k + q]? = some a := ⟨_, List.getElem?_eq_getElem (by omega)⟩; obtain ⟨b, hb⟩ : ∃ b, xs[k + (q - 1)]? = some b := ⟨_, List.getElem?_eq_getElem (by omega)⟩; refine T_skip (hK14 _ _ (T_seq fun K16 hK16 => T_block (T_seq fun K17 hK17 => T_drawnL [(0, true), (1, true), (2, true), (3, true), (4, true), (5, true), (6, true), (7, true), (8, true), (9, true)] hmix (by kernel_rfl) fun w4 l4 => have S4 := S3.like l4; DL_y rfl (y_move rfl) rfl (DL_y rfl (y_move rfl) rfl (DL_y rfl (y_idx Tryz.underlying81 sz41 rfl rfl (ids_tail (S4.row 0 rfl) (k := k) (by omega)) (Nt.mk (by omega) : Nt _ (q)) (by omega)) rfl (DL_y rfl (y_ldp (f := idf) idf_len Tryz.underlying41 rfl sz41 rfl (ids_tail (S4.row 0 rfl) (k := k) (by omega)) (by omega) (drop_at' ((C.tail (k + q) (by omega)).trans ha))) rfl (DL_y rfl (y_move rfl) rfl (DL_y rfl (y_move rfl) rfl (DL_y rfl (y_sub rfl rfl (i64w (by omega))) rfl ?_))))))))); refine DL_y rfl (y_idx Tryz.underlying81 sz41 rfl rfl (ids_tail (S4.row 0 rfl) (k := k) (by omega)) (Nt.mk (by omega) : Nt _ (q - 1)) (by omega)) rfl (DL_y rfl (y_ldp (f := idf) idf_len Tryz.underlying41 rfl sz41 rfl (ids_tail (S4.row 0 rfl) (k := k) (by omega)) (by omega) (drop_at' ((C.tail (k + (q - 1)) (by have := C.q1; omega)).trans hb))) rfl ?_); refine DL_y rfl (y_neB Tryz.underlying41 Tryz.underlying5 sz5 (by kernel_rfl) rfl rfl a.h b.h) rfl (DL_nil (hK17 _ _ ?_)); refine T_cond rfl (fun h44 => ?_) (fun h44 => ?_)
       ·
        refine T_seq fun K18 hK18 => T_region (L_y (y_move rfl) rfl (L_y (y_move rfl) rfl (L_y (y_move rfl) rfl (L_y (y_move rfl) rfl (L_y (y_idx Tryz.underlying81 sz41 rfl rfl (ids_tail (S4.row 0 rfl) (k := k) (by omega)) (Nt.mk (by omega) : Nt _ (q)) (by omega)) rfl (L_y (y_ldp (f := idf) idf_len Tryz.underlying41 rfl sz41 rfl (ids_tail (S4.row 0 rfl) (k := k) (by omega)) (by omega) (drop_at' ((C.tail (k + q) (by omega)).trans ha))) rfl (L_y (y_idx Tryz.underlying81 sz41 rfl rfl (S4.row 0 rfl) (Nt.mk (by omega) : Nt _ (j)) (by omega)) rfl (L_o (o_strowE S4 0 rfl rfl rfl (bL_one _) (by simp [idf, a.h]) sz41 (by omega) fun w5 S5 => ?_))))))))); have S91 := S5.rowc 0 rfl rfl (flat_set idf idf_len ys j a (by omega)); refine L_nil (hK18 _ _ (T_region (L_y (y_move rfl) rfl (L_y (y_add rfl rfl (i64w (by omega))) rfl (L_y (y_assign rfl) rfl (L_nil (hK16 _ _ (T_region (L_y (y_move rfl) rfl (L_y (y_add rfl rfl (i64w (by omega))) rfl (L_y (y_assign rfl) rfl (L_nil (⟨ys.set j a, j + 1, q + 1, by omega, ⟨C.next hs ha hb h44, S91⟩, ?_⟩))))))))))))); exact (Sub.cons rfl (by first | rfl | exact congrArg (Value.int _) (by omega)) (Sub.cons rfl (by first | rfl | exact congrArg (Value.int _) (by omega)) (Sub.cons rfl rfl (Sub.cons rfl rfl (Sub.nil _)))))
       ·
        refine T_skip (hK16 _ _ (T_region (L_y (y_move rfl) rfl (L_y (y_add rfl rfl (i64w (by omega))) rfl (L_y (y_assign rfl) rfl (L_nil (⟨ys, j, q + 1, by omega, ⟨C.same ha hb (Decidable.byContradiction h44), S4⟩, ?_⟩))))))); exact (Sub.cons rfl (by first | rfl | exact congrArg (Value.int _) (by omega)) (Sub.cons rfl (by first | rfl | exact congrArg (Value.int _) (by omega)) (Sub.cons rfl rfl (Sub.cons rfl rfl (Sub.nil _)))))
      ·
       refine T_exit (hK12 _ _ (T_seq fun K19 hK19 => T_region (L_y (y_move rfl) rfl (L_y (y_move rfl) rfl (L_y (y_sliceL Tryz.underlying81 sz41 rfl rfl inferInstance (by omega)) rfl (L_o (o_clearR (z := .agg (Array.replicate 32 (.int .u8 0))) S3 0 rfl Tryz.underlying81 zz41 (by simp [Value.cells]) (fun u hu => by simp [Value.cells] at hu; subst hu; rfl) rfl (by omega) fun w6 ys2 hy1 hy2 S6 => ?_))))))); refine L_nil (hK19 _ _ (T_seq fun K20 hK20 => T_region (L_y (y_move rfl) rfl (L_y (y_move rfl) rfl (L_y (y_sliceH Tryz.underlying81 sz41 rfl rfl inferInstance (by omega)) rfl ?_))))); have S92 := S6.rowcut 0 rfl (m := j) (by omega); have S93 := S92.rowc 0 rfl (n' := (ys.take j).length) (xs' := (ys.take j).flatMap idf) (by rw [List.length_take]; omega) (by rw [hy1, flat_take idf idf_len]); refine L_y (y_assign rfl) rfl (L_nil (hK20 _ _ (T_ret (ur (ret1 rfl rfl ?_))))); first | exact ⟨_, rfl, xs, rfl, by have h9 := hri; rwa [List.take_of_length_le (by omega)] at h9, fun z => Iff.rfl, S6.turned1 0 rfl⟩ | exact ⟨_, rfl, xs, rfl, by have h9 := ris_short (l := xs) (k := 0) (by omega); rwa [List.drop_zero] at h9, fun z => Iff.rfl, S6.turned1 0 rfl⟩ | exact ⟨_, rfl, ys.take j, by rw [cutA_z, List.length_take, Nat.min_eq_left (by have := C.jq; have := C.kq; have := C.len; omega)]; rfl, C.ri, fun z => by rw [C.mem z, List.take_of_length_le (by have := C.kq; omega)], S93.turned1 0 rfl⟩
    ·
     refine T_skip (hK9 _ _ (T_region (L_y (y_move rfl) rfl (L_y (y_add rfl rfl (i64w (by omega))) rfl (L_y (y_assign rfl) rfl (L_nil (⟨k + 1, by omega, ⟨⟨by omega, by omega, ris_take1 hs hk1 hri hx hp h25⟩, S2⟩, ?_⟩))))))); exact (Sub.cons rfl (by first | rfl | exact congrArg (Value.int _) (by omega)) (Sub.cons rfl rfl (Sub.nil _)))
   ·
    refine T_exit (hK5 _ _ (T_seq fun K21 hK21 => T_region (L_y (y_move rfl) rfl (L_y (y_assign rfl) rfl (L_nil (hK21 _ _ (T_ret (ur (ret1 rfl rfl ?_))))))))); first | exact ⟨_, rfl, xs, rfl, by have h9 := hri; rwa [List.take_of_length_le (by omega)] at h9, fun z => Iff.rfl, S1.turned1 0 rfl⟩ | exact ⟨_, rfl, xs, rfl, by have h9 := ris_short (l := xs) (k := 0) (by omega); rwa [List.drop_zero] at h9, fun z => Iff.rfl, S1.turned1 0 rfl⟩ | exact ⟨_, rfl, ys.take j, by rw [cutA_z, List.length_take, Nat.min_eq_left (by have := C.jq; have := C.kq; have := C.len; omega)]; rfl, C.ri, fun z => by rw [C.mem z, List.take_of_length_le (by have := C.kq; omega)], S93.turned1 0 rfl⟩
end Go.Proofs.YtgaklngnfecdaaaGreat.Oid
namespace Go.Proofs.YtgaklngnfecdaaaGreat.Oid
open Go.RowKit Zk Zx
theorem y_sliceHM {P : Program} {S : World → Prop} {env : Env} {dst : Option Tmp} {ty : TypeId} {pos : String} {after : Array Edge} {g : Option (Nat × Bool)} {x : Operand} {t e : TypeId} {A : Option Addr} {n c u m size : Nat} {kh km : IntKind} {jh jm : Int} {j k : Operand} (ht : P.underlying t = some (.slice e)) (hsz : (P.info? e).map (·.size) = some size) (hx : ev env x = some (.slice A n c))
    (hj : ev env j = some (.int kh jh)) (hm : ev env k = some (.int km jm)) (eu : jh = (u : Int)) (em : jm = (m : Int)) (h2 : u ≤ m) (h3 : m ≤ c) :
    Y P S env ⟨dst, .slice t x none (some j) (some k), ty, pos, after, g⟩ (.slice (cutA A m 0 size) (u - 0) (m - 0)) := fun N a w' ha _ => by
  subst eu; subst em
  have he : P.elem t = e := by simp [Program.elem, ht]
  have h4 := run_slice_hm (P := P) (w := w') (t := t) (a := A) (len := n) (cap := c) (by rw [he]; exact ht) kh km (u : Int) (m : Int) (by omega) (by omega) (by omega)
  rw [he] at h4
  simp only [execOp, ha.eval hx, Option.map_some, Option.map_none, ha.eval hj, ha.eval hm, Instr.sliceAt, Sem.run_bind, run_underlying ht, Result.andThen_ok, h4, sizeOf_run hsz, Sem.run_pure, Int.toNat_natCast]
  rfl
theorem WS.of {zs : List Id} (h : ∀ i j (hi : i < zs.length) (hj : j < zs.length), i < j → lt zs[j] zs[i] = false) : WS zs := fun i j x y hx hy hij => by
  obtain ⟨hi, rfl⟩ := List.getElem?_eq_some_iff.1 hx
  obtain ⟨hj, rfl⟩ := List.getElem?_eq_some_iff.1 hy
  exact h i j hi hj hij
theorem rs_nil {w : World} {A : Option Addr} {n c : Nat} {l : List Id} (hl : Rs w 32 A n c (l.flatMap idf)) (h : A = none) : n = 0 := by
  subst h
  rcases Nat.eq_zero_or_pos n with q | q
  · exact q
  · obtain ⟨_, h2, _⟩ := hl.rd.2 q
    cases h2
theorem rs_nil2 {w : World} {A : Option Addr} {n c : Nat} {l : List Id} (hl : Rs w 32 A n c (l.flatMap idf)) (h : A = none) : l = [] := by
  have h1 := rs_nil hl h
  have h2 := ids_n hl
  exact List.eq_nil_of_length_eq_zero (by omega)
theorem pclone (A : Option Addr) (n c : Nat) (l : List Id) (w0 : World) (hl : Rs w0 32 A n c (l.flatMap idf)) (hmx : n ≤ 4096) :
    Calls Tryz.prog 178 #[.slice A n c] w0 fun e w' => ∃ u, e = .returned u ∧ Like w0 w' ∧ ∃ A' c', u = .slice A' n c' ∧ w'.ownsRow w0.heap.size 41 32 (.slice A' n c') n (l.flatMap idf) := by
 refine enter1 (env := [(0, .slice A n c)]) [.slice A n c] Tryz.func178 rfl Tryz.ntmps178 rfl rfl ?_; have hzero := rs_nil hl; have hl0 := rs_nil2 hl; have hn := ids_n hl; have hcap := hl.cap; have hmax := hl.max; have S0 := St.start w0 noM; refine T_seq fun K1 hK1 => T_region (L_y (y_assign rfl) rfl (L_nil (hK1 _ _ (T_seq fun K2 hK2 => T_seq fun K3 hK3 => T_region (L_y (y_move rfl) rfl (L_y (y_seqn Tryz.underlying81 rfl) rfl (L_nil (hK3 _ _ ?_)))))))); refine T_condB rfl (fun h4 => ?_) (fun h4 => ?_)
 ·
  refine T_seq fun K4 hK4 => T_region (L_y (y_assign rfl) rfl (L_nil (hK4 _ _ (T_ret (ur (ret1 rfl rfl ?_)))))); first | exact ⟨_, rfl, S0.like0, _, _, by rw [Nat.zero_add], by have h9 := S0.own 0 rfl; rw [Nat.zero_add] at h9; exact h9⟩ | exact ⟨_, rfl, S0.like0, none, 0, by rw [hzero (by simpa using h4)], by rw [hzero (by simpa using h4), hl0 (by simpa using h4)]; exact World.ownsRow_nil _ _ _ _⟩
 ·
  refine T_skip (hK2 _ _ (T_seq fun K5 hK5 => T_region (L_o (o_bsl0 te81 S0 rfl fun b1 w1 l1 S1 => L_y (y_move rfl) rfl (L_o (o_app te81 S1 0 rfl rfl rfl (S1.rd hl) (ids_one _) rfl (by omega) (by omega) fun A2 c2 w2 S2 => L_y (y_assign rfl) rfl (L_nil (hK5 _ _ (T_ret (ur (ret1 rfl rfl ?_))))))))))); first | exact ⟨_, rfl, S2.like0, _, _, by rw [Nat.zero_add], by have h9 := S2.own 0 rfl; rw [Nat.zero_add] at h9; exact h9⟩ | exact ⟨_, rfl, S2.like0, none, 0, by rw [hzero (by simpa using h4)], by rw [hzero (by simpa using h4), hl0 (by simpa using h4)]; exact World.ownsRow_nil _ _ _ _⟩
theorem pclip (A : Option Addr) (n c : Nat) (l : List Id) (w0 : World) (hl : Rs w0 32 A n c (l.flatMap idf)) :
    Calls Tryz.prog 181 #[.slice A n c] w0 fun e w' => ∃ u, e = .returned u ∧ Like w0 w' ∧ u = .slice A n n := by
 refine enter1 (env := [(0, .slice A n c)]) [.slice A n c] Tryz.func181 rfl Tryz.ntmps181 rfl rfl ?_; have hn := ids_n hl; have hcap := hl.cap; have hmax := hl.max; have S0 := St.start w0 noM; refine T_seq fun K1 hK1 => T_region (L_y (y_assign rfl) rfl (L_nil (hK1 _ _ (T_seq fun K2 hK2 => T_region (L_y (y_move rfl) rfl (L_y (y_move rfl) rfl (L_y (y_len Tryz.underlying81 rfl) rfl (L_y (y_move rfl) rfl (L_y (y_len Tryz.underlying81 rfl) rfl (L_y (y_sliceHM Tryz.underlying81 sz41 rfl rfl rfl rfl rfl (Nat.le_refl _) (by omega)) rfl (L_y (y_assign rfl) rfl ?_))))))))))); refine L_nil (hK2 _ _ (T_ret (ur (ret1 rfl rfl ?_)))); exact ⟨_, rfl, S0.like0, by rw [cutA_z]; rfl⟩
theorem psorted (A : Option Addr) (n c : Nat) (l : List Id) (w0 : World) (hl : Rs w0 32 A n c (l.flatMap idf)) (h60 : n ≤ 4096) :
    Calls Tryz.prog 150 #[.slice A n c] w0 fun e w' => ∃ u, e = .returned u ∧ Like w0 w' ∧ ∃ A' m c' s, u = .slice A' m c' ∧ Rs w' 32 A' m c' (s.flatMap idf) ∧ ris s = true ∧ ∀ z, z ∈ s ↔ z ∈ l := by
 refine enter1 (env := [(0, .slice A n c)]) [.slice A n c] Tryz.func150 rfl Tryz.ntmps150 rfl rfl ?_; have hn := ids_n hl; have hcap := hl.cap; have hmax := hl.max; have S0 := St.start w0 noM; refine T_seq fun K1 hK1 => T_region (L_y (y_assign rfl) rfl (L_nil (hK1 _ _ (T_seq fun K2 hK2 => T_region (L_y (y_move rfl) rfl (L_o (o_call Tryz.func178 rfl rfl (pclone A n c l w0 (S0.rd hl) h60) rfl rfl ?_))))))); rintro e1 w1 ⟨v1, rfl, l1, A5, c5, rfl, O1⟩; refine ⟨_, rfl, (have S1 := S0.adopt l1 O1; L_y (y_assign rfl) rfl (L_nil (hK2 _ _ (T_seq fun K3 hK3 => T_region (L_y (y_move rfl) rfl (L_o (o_call Tryz.func179 rfl rfl (sortIA A5 n c5 l w1 hn.symm (S1.get 0 rfl) (by omega)) rfl rfl ?_)))))))⟩; rintro e2 w2 ⟨v2, rfl, zs, hp, hso, T2⟩; refine ⟨_, rfl, ?_⟩; have S2 := S1.turn 0 rfl T2; have hzl : zs.length = n := hp.length_eq.trans hn.symm; subst hzl; refine L_nil (hK3 _ _ (T_seq fun K4 hK4 => T_region (L_y (y_move rfl) rfl (L_o (o_call Tryz.func182 rfl rfl (pcompact A5 c5 zs w2 (S2.get 0 rfl) (WS.of hso)) rfl rfl ?_))))); rintro e3 w3 ⟨v3, rfl, ys, rfl, hys, hym, T3⟩; refine ⟨_, rfl, (have S3 := S2.turn 0 rfl T3; L_o (o_call Tryz.func181 rfl rfl (pclip A5 ys.length c5 ys w3 (S3.row 0 rfl)) rfl rfl ?_))⟩; rintro e4 w4 ⟨v4, rfl, l4, rfl⟩; refine ⟨_, rfl, (have S4 := S3.like l4; L_y (y_assign rfl) rfl (L_nil (hK4 _ _ (T_ret (ur (ret1 rfl rfl ?_))))))⟩; have hr9 := S4.row 0 rfl; exact ⟨_, rfl, S4.like0, _, _, _, ys, rfl, ⟨hr9.rd, Nat.le_refl _, Nat.le_trans hr9.cap hr9.max⟩, hys, fun z => by rw [hym z, hp.mem_iff]⟩
end Go.Proofs.YtgaklngnfecdaaaGreat.Oid
namespace Go.Proofs.YtgaklngnfecdaaaGreat.Oid
open Go.RowKit Zk Zx
abbrev FE (l : List Id) (x : Id) (a : Nat) (b : Bool) : Prop := ∀ u : Value, ((ris l = false ∧ u = .tuple #[.int .i64 0, .bool false]) ∨ (ris l = true ∧ ∃ k, posOk l x k ∧ u = .tuple #[.int .i64 (k : Int), .bool (decide (l[k]? = some x))])) → u = .tuple #[.int .i64 (a : Int), .bool b]
end Go.Proofs.YtgaklngnfecdaaaGreat.Oid
namespace Go.Proofs.YtgaklngnfecdaaaGreat.Oct
open Go.RowKit Zk Zx
def wt (g : Nat) (A : Option Addr) (n c : Nat) (l : List UInt8) : Res := both (blk g 110 #[.slice A n c]) (row 5 1 A n c (bL l))
theorem wt_apart {w : World} {g n c : Nat} {A : Option Addr} {l : List UInt8} (h : (wt g A n c l).holds w) : ∀ i, (blk g 110 #[.slice A n c]).dom i → ¬ (row 5 1 A n c (bL l)).dom i := fun i hi hr => by
  have hi' : i = g := hi
  subst hi'
  exact own_blk_ne (e := 5) h.2 h.1 (by decide) hr
theorem wt_lt {w : World} {g n c : Nat} {A : Option Addr} {l : List UInt8} (h : (wt g A n c l).holds w) : ∀ i, (wt g A n c l).dom i → i < w.heap.size := fun i hi => by
  rcases hi with hi | hi
  · have hi' : i = g := hi
    subst hi'
    exact Blk.lt h.1
  · exact (World.ownsRow.lt h.2 i hi).2
theorem wt_len {w : World} {g n c : Nat} {A : Option Addr} {l : List UInt8} (h : (wt g A n c l).holds w) : l.length = n := by
  have := h.2.1
  simpa using this
def Laid (w w' : World) (g : Nat) (A : Option Addr) (n c : Nat) (l m : List UInt8) : Prop := ∃ A' n' c', Turned w w' (wt g A n c l) (wt g A' n' c' m)
theorem Laid.of {w w' : World} {g n c n' c' : Nat} {A A' : Option Addr} {l m : List UInt8} {X : Array Value} {ys : List Value} (h : Turned w w' (wt g A n c l) (both (blk g 110 X) (row 5 1 A' n' c' ys))) (hX : X = #[.slice A' n' c']) (hy : ys = bL m) : Laid w w' g A n c l m := by
  subst hX
  subst hy
  exact ⟨A', n', c', h⟩
theorem Laid.refl {w : World} {g n c : Nat} {A : Option Addr} {l : List UInt8} (h : (wt g A n c l).holds w) : Laid w w g A n c l l := ⟨A, n, c, Turned.refl h⟩
theorem Laid.same {w w' : World} {g n c : Nat} {A : Option Addr} {l m : List UInt8} (h : Laid w w' g A n c l m) : ∃ A' c', Turned w w' (wt g A n c l) (wt g A' m.length c' m) := by
  obtain ⟨A', n', c', h⟩ := h
  have := wt_len h.holds
  subst this
  exact ⟨A', c', h⟩
theorem wbyte (g : Nat) (A : Option Addr) (n c : Nat) (l : List UInt8) (x : UInt8) (w0 : World) (hw : (wt g A n c l).holds w0) (hn : l.length ≤ 70368744177664) :
    Calls Tryz.prog 89 #[.pointer (some ⟨g, 0, none⟩), .int .u8 (x.toNat : Int)] w0 fun e w' => ∃ u, e = .returned u ∧ Laid w0 w' g A n c l (l ++ [x]) := by
 refine enter1 (env := [(0, .pointer (some ⟨g, 0, none⟩)), (1, .int .u8 (x.toNat : Int))]) [.pointer (some ⟨g, 0, none⟩), .int .u8 (x.toNat : Int)] Tryz.func89 rfl Tryz.ntmps89 rfl rfl ?_; have hln := wt_len hw; have S0 := St.borrow2 (blk g 110 #[.slice A n c]) (row 5 1 A n c (bL l)) hw.1 hw.2 (wt_lt hw) (wt_apart hw); refine T_seq fun K1 hK1 => T_region (L_y (y_move rfl) rfl (L_y (y_pneqn Tryz.underlying163 rfl) rfl (L_nil (hK1 _ _ (T_true rfl (T_region (L_y (y_move rfl) rfl (L_y (y_move rfl) rfl (L_y (y_nilp rfl) rfl (L_y (y_fieldA 0 Tryz.underlying110 rfl sz22 rfl rfl rfl) rfl (L_y (y_ldc Tryz.underlying22 rfl rfl (((S0.blk 0 rfl).cell _).trans (show (#[Value.slice A n c] : Array Value)[0]? = some (Value.slice A n c) from rfl))) rfl (L_y (y_move rfl) rfl ?_)))))))))))); refine L_o (o_bsl [_] te22 zz5 S0 rfl rfl rfl rfl rfl rfl rfl rfl fun b1 w1 S1 => L_o (o_app te22 S1 1 rfl rfl rfl (by first | exact S1.row 1 rfl | exact S1.row 2 rfl) (by first | exact bL_one _ | exact iL_one _ | (intro u hu; simp at hu; subst hu; rfl) | (simp; done) | (simp [Value.oneCell']; done)) rfl (by omega) (by omega) fun A2 c2 w2 S2 => ?_)); have S2d := S2.drop (rs' := [_, _]) (.cons_cons _ (.cons_cons _ (.cons _ (.refl _)))); refine L_y (y_nilp rfl) rfl (L_y (y_fieldA 0 Tryz.underlying110 rfl sz22 rfl rfl rfl) rfl (L_o (o_st1 S2d 0 rfl rfl rfl rfl sz22 (by simp; done) fun w3 S3 => ?_))); refine L_nil ?_; first | refine end0 (fn := Tryz.f89) rfl ?_ | (simp only [thenQ, inB, if_true]; refine end0 (fn := Tryz.f89) rfl ?_)
 exact ⟨_, rfl, Laid.of (S3.turned2 0 1 rfl rfl) rfl (by simp [bL, bV])⟩
theorem wraw (g : Nat) (A : Option Addr) (n c : Nat) (l : List UInt8) (B : Option Addr) (m d : Nat) (q : List UInt8) (w0 : World) (hw : (wt g A n c l).holds w0) (hp : Rs w0 1 B m d (bL q)) (hn : l.length + m ≤ 70368744177664) :
    Calls Tryz.prog 55 #[.pointer (some ⟨g, 0, none⟩), .slice B m d] w0 fun e w' => ∃ u, e = .returned u ∧ Laid w0 w' g A n c l (l ++ q) := by
 refine enter1 (env := [(0, .pointer (some ⟨g, 0, none⟩)), (1, .slice B m d)]) [.pointer (some ⟨g, 0, none⟩), .slice B m d] Tryz.func55 rfl Tryz.ntmps55 rfl rfl ?_; have hln := wt_len hw; have S0 := St.borrow2 (blk g 110 #[.slice A n c]) (row 5 1 A n c (bL l)) hw.1 hw.2 (wt_lt hw) (wt_apart hw); refine T_seq fun K1 hK1 => T_region (L_y (y_move rfl) rfl (L_y (y_pneqn Tryz.underlying163 rfl) rfl (L_nil (hK1 _ _ (T_true rfl (T_region (L_y (y_move rfl) rfl (L_y (y_move rfl) rfl (L_y (y_nilp rfl) rfl (L_y (y_fieldA 0 Tryz.underlying110 rfl sz22 rfl rfl rfl) rfl (L_y (y_ldc Tryz.underlying22 rfl rfl (((S0.blk 0 rfl).cell _).trans (show (#[Value.slice A n c] : Array Value)[0]? = some (Value.slice A n c) from rfl))) rfl (L_y (y_move rfl) rfl ?_)))))))))))); refine L_o (o_app te22 S0 1 rfl rfl rfl (hp) (bL_one _) rfl (by omega) (by omega) fun A1 c1 w1 S1 => L_y (y_nilp rfl) rfl (L_y (y_fieldA 0 Tryz.underlying110 rfl sz22 rfl rfl rfl) rfl (L_o (o_st1 S1 0 rfl rfl rfl rfl sz22 (by simp; done) fun w2 S2 => ?_)))); refine L_nil ?_; first | refine end0 (fn := Tryz.f55) rfl ?_ | (simp only [thenQ, inB, if_true]; refine end0 (fn := Tryz.f55) rfl ?_)
 have hE := S2.turned2 0 1 rfl rfl; exact ⟨_, rfl, Laid.of hE rfl (by simp [bL])⟩
theorem wnew  (w0 : World)  :
    Calls Tryz.prog 164 #[] w0 fun e w' => ∃ u, e = .returned u ∧ Like w0 w' ∧ ∃ b, u = .pointer (some ⟨b, 0, none⟩) ∧ w0.heap.size ≤ b ∧ (wt b none 0 0 []).holds w' := by
 refine enter1 (env := []) [] Tryz.func164 rfl Tryz.ntmps164 rfl rfl ?_; have S0 := St.start w0 noM; refine T_seq fun K1 hK1 => T_region (L_y (y_assign rfl) rfl (L_nil (hK1 _ _ (T_seq fun K2 hK2 => T_region (L_y (y_build rfl (show _ = some #[Value.slice none 0 0] by kernel_rfl)) rfl (L_o (o_box rfl S0 rfl fun b1 w1 hb1 S1 => L_y (y_assign rfl) rfl (L_nil (hK2 _ _ (T_ret (ur ?_))))))))))); refine ret1 rfl rfl ?_; exact ⟨_, rfl, S1.like0, b1, rfl, hb1, (S1.get 0 rfl), ⟨by simp [bL], .inl ⟨rfl, rfl⟩⟩⟩
end Go.Proofs.YtgaklngnfecdaaaGreat.Oct
namespace Go.Proofs.YtgaklngnfecdaaaGreat.Oct
open Go.RowKit Zk Zx
def tl (v : Nat) : Nat → List UInt8
  | 0 => []
  | j + 1 => UInt8.ofNat (v / 256 ^ j % 256) :: tl v j
theorem length_tl (v : Nat) : ∀ j, (tl v j).length = j
  | 0 => rfl
  | j + 1 => by simp [tl, length_tl v j]
theorem tl_get (v : Nat) : ∀ (j i : Nat), i < j → (tl v j)[i]? = some (UInt8.ofNat (v / 256 ^ (j - 1 - i) % 256))
  | j + 1, 0, _ => by simp [tl]
  | j + 1, i + 1, h => by
    simp only [tl, List.getElem?_cons_succ]
    rw [tl_get v j i (by omega), show j + 1 - 1 - (i + 1) = j - 1 - i by omega]
theorem tl_take (v j i : Nat) (h : i < j) : (tl v j).take (i + 1) = (tl v j).take i ++ [UInt8.ofNat (v / 256 ^ (j - 1 - i) % 256)] := by
  rw [List.take_add_one, tl_get v j i h]
  rfl
theorem shr24 (x k : Nat) (h : k < 4) : Int.fdiv (x : Int) (2 ^ (min ((24 : Int) - 8 * (k : Int)).toNat IntKind.u32.bits)) = ((x / 256 ^ (4 - 1 - k) : Nat) : Int) := by
  have e1 : min ((24 : Int) - 8 * (k : Int)).toNat IntKind.u32.bits = 8 * (4 - 1 - k) := by simp only [IntKind.bits]; omega
  rw [e1, Int.fdiv_eq_ediv_of_nonneg _ (Int.pow_nonneg (by omega)), Int.natCast_ediv, Int.natCast_pow, Int.pow_mul]
  rfl
theorem byteOf (y : Nat) : IntKind.u8.wrap (y : Int) = ((UInt8.ofNat (y % 256)).toNat : Int) := by
  rw [IntKind.wrap_u8, UInt8.toNat_ofNat']
  omega
theorem w32 (y : Nat) : IntKind.u32.wrap (y : Int) = ((y % 4294967296 : Nat) : Int) := by
  rw [IntKind.wrap_u32]
  omega
def vr (x : Nat) : List UInt8 := if h : 128 ≤ x then UInt8.ofNat (x % 128 + 128) :: vr (x / 128) else [UInt8.ofNat x]
termination_by x
decreasing_by omega
theorem vr_big (x : Nat) (h : 128 ≤ x) : vr x = UInt8.ofNat (x % 128 + 128) :: vr (x / 128) := by rw [vr, dif_pos h]
theorem vr_low (x : Nat) (h : x < 128) : vr x = [UInt8.ofNat x] := by rw [vr, dif_neg (by omega)]
theorem orBits : ∀ m : Fin 256, bits .or .u8 (m.val : Int) 128 = ((UInt8.ofNat (m.val % 128 + 128)).toNat : Int) := by decide
theorem shr7 (x : Nat) : Int.fdiv (x : Int) (2 ^ (min (7 : Int).toNat IntKind.u64.bits)) = ((x / 128 : Nat) : Int) := by
  have e1 : min (7 : Int).toNat IntKind.u64.bits = 7 := by decide
  rw [e1, Int.fdiv_eq_ediv_of_nonneg _ (Int.pow_nonneg (by omega)), Int.natCast_ediv]
  rfl
theorem orB (x : Nat) : bits .or .u8 ((x % 256 : Nat) : Int) 128 = ((UInt8.ofNat (x % 128 + 128)).toNat : Int) := by
  have h := orBits ⟨x % 256, by omega⟩
  rw [show (⟨x % 256, by omega⟩ : Fin 256).val = x % 256 from rfl] at h
  rw [h, show x % 256 % 128 = x % 128 by omega]
theorem w8 (y : Nat) : IntKind.u8.wrap (y : Int) = ((y % 256 : Nat) : Int) := by
  rw [IntKind.wrap_u8]
  omega
theorem w8low (y : Nat) (h : y < 128) : IntKind.u8.wrap (y : Int) = ((UInt8.ofNat y).toNat : Int) := by
  rw [IntKind.wrap_u8, UInt8.toNat_ofNat']
  omega
theorem vr_len (x : Nat) : ∀ k, x < 128 ^ (k + 1) → (vr x).length ≤ k + 1 := by
  intro k
  induction k generalizing x with
  | zero => intro h; rw [vr_low x (by simpa using h)]; simp
  | succ k ih =>
    intro h
    by_cases hb : 128 ≤ x
    · rw [vr_big x hb, List.length_cons]
      have := ih (x / 128) (by rw [Nat.pow_succ] at h; omega)
      omega
    · rw [vr_low x (by omega)]; simp
theorem vr_len10 (x : Nat) (h : x ≤ 18446744073709551615) : (vr x).length ≤ 10 := vr_len x 9 (by omega)
theorem wvar (g : Nat) (A : Option Addr) (n c : Nat) (l : List UInt8) (x : Nat) (w0 : World) (hw : (wt g A n c l).holds w0) (hx : x ≤ 18446744073709551615) (hn : l.length ≤ 70368744176000) :
    Calls Tryz.prog 91 #[.pointer (some ⟨g, 0, none⟩), .int .u64 (x : Int)] w0 fun e w' => ∃ u, e = .returned u ∧ Laid w0 w' g A n c l (l ++ vr x) := by
 refine enter1 (env := [(0, .pointer (some ⟨g, 0, none⟩)), (1, .int .u64 (x : Int))]) [.pointer (some ⟨g, 0, none⟩), .int .u64 (x : Int)] Tryz.func91 rfl Tryz.ntmps91 rfl rfl ?_; have hln := wt_len hw; have S0 := St.borrow1 (wt g A n c l) hw (wt_lt hw); refine T_seq fun K1 hK1 => T_region (L_y (y_move rfl) rfl (L_y (y_makeFunc rfl rfl) rfl (L_y (y_assign rfl) rfl (L_nil (hK1 _ _ (T_seq fun K2 hK2 => T_block ?_)))))); refine T_loop2 [(4, _)] (fun (y : Nat) (m : List UInt8) => [(1, .int .u64 (y : Int))]) (fun (y : Nat) (m : List UInt8) => y) (fun (y : Nat) (m : List UInt8) (w : World) => (m ++ vr y = l ++ vr x ∧ y ≤ x ∧ m.length + (vr y).length ≤ 70368744177000) ∧ ∃ A1 n1 c1, St w0 (wt g A n c l).dom [wt g A1 n1 c1 m] w) x l (Sub.cons rfl (by first | rfl | exact congrArg (Value.int _) (by omega)) (Sub.nil _)) (Sub.cons rfl rfl (Sub.nil _)) ?_ ?_
 ·
  have := vr_len10 x hx; exact ⟨⟨rfl, Nat.le_refl _, by omega⟩, _, _, _, S0⟩
 ·
  intro y m w1 hrel; obtain ⟨⟨hm, hy, hml⟩, A1, n1, c1, S1⟩ := hrel; have hg : m.length ≤ 70368744177000 := by omega
  refine T_seq fun K3 hK3 => T_seq fun K4 hK4 => T_region (L_y (y_move rfl) rfl (L_y (y_geq rfl rfl) rfl (L_nil (hK4 _ _ ?_)))); refine T_cond rfl (fun h8 => ?_) (fun h8 => ?_)
  ·
   refine T_skip (hK3 _ _ (T_block (T_seq fun K5 hK5 => T_region (L_y (y_move rfl) rfl (L_y (y_move rfl) rfl (L_y (y_conv is102 Tryz.underlying5 rfl (w8 _)) rfl (L_y (y_bits rfl rfl rfl (orB _)) rfl (L_o (o_callv rfl Tryz.func89 rfl rfl (wbyte g _ _ _ _ (UInt8.ofNat (y % 128 + 128)) w1 (S1.get 0 rfl) (by omega)) rfl rfl (fun d' hd => by cases hd <;> rfl) ?_))))))))); rintro e2 w2 ⟨v2, rfl, ⟨A2, n2, c2, T2⟩⟩; refine ⟨_, rfl, (have S2 := S1.turn 0 rfl T2; L_nil (hK5 _ _ (T_region (L_y (y_move rfl) rfl (L_y (y_shr rfl rfl (by omega) (shr7 _)) rfl (L_y (y_assign rfl) rfl (L_nil (⟨y / 128, m ++ [UInt8.ofNat (y % 128 + 128)], by omega, ⟨⟨by rw [← hm, vr_big y (by omega)]; simp, by omega, by rw [vr_big y (by omega)] at hml; simp at hml ⊢; omega⟩, _, _, _, S2⟩, ?_⟩))))))))⟩; exact (Sub.cons rfl (by first | rfl | exact congrArg (Value.int _) (by omega)) (Sub.cons rfl rfl (Sub.nil _)))
  ·
   refine T_exit (hK2 _ _ (T_region (L_y (y_move rfl) rfl (L_y (y_move rfl) rfl (L_y (y_conv is102 Tryz.underlying5 rfl (w8low _ (by omega))) rfl (L_o (o_callv rfl Tryz.func89 rfl rfl (wbyte g _ _ _ _ (UInt8.ofNat y) w1 (S1.get 0 rfl) (by omega)) rfl rfl (fun d' hd => by cases hd <;> rfl) ?_))))))); rintro e3 w3 ⟨v3, rfl, ⟨A3, n3, c3, T3⟩⟩; refine ⟨_, rfl, (have S3 := S1.turn 0 rfl T3; L_nil ?_)⟩; first | refine end0 (fn := Tryz.f91) rfl ?_ | (simp only [thenQ, inB, if_true]; refine end0 (fn := Tryz.f91) rfl ?_)
   exact ⟨_, rfl, _, _, _, by rw [← hm, vr_low y (by omega)]; exact S3.turned1 0 rfl⟩
theorem wtext (g : Nat) (A : Option Addr) (n c : Nat) (l : List UInt8) (s : ByteArray) (w0 : World) (hw : (wt g A n c l).holds w0) (hn : l.length + s.size ≤ 70368744170000) :
    Calls Tryz.prog 165 #[.pointer (some ⟨g, 0, none⟩), .string s] w0 fun e w' => ∃ u, e = .returned u ∧ Laid w0 w' g A n c l (l ++ (vr s.size ++ s.data.toList)) := by
 refine enter1 (env := [(0, .pointer (some ⟨g, 0, none⟩)), (1, .string s)]) [.pointer (some ⟨g, 0, none⟩), .string s] Tryz.func165 rfl Tryz.ntmps165 rfl rfl ?_; have hln := wt_len hw; have S0 := St.borrow1 (wt g A n c l) hw (wt_lt hw); refine T_seq fun K1 hK1 => T_region (L_y (y_move rfl) rfl (L_y (y_move rfl) rfl (L_y (y_lens Tryz.underlying9 rfl) rfl (L_y (y_conv is3 Tryz.underlying102 rfl (u64w (by omega))) rfl (L_o (o_call Tryz.func91 rfl rfl (wvar g _ _ _ _ s.size w0 (S0.get 0 rfl) (by omega) (by omega)) rfl rfl ?_)))))); rintro e1 w1 ⟨v1, rfl, ⟨A1, n1, c1, T1⟩⟩; refine ⟨_, rfl, (have S1 := S0.turn 0 rfl T1; L_nil (hK1 _ _ (T_region (L_y (y_move rfl) rfl (L_y (y_move rfl) rfl (L_o (o_sbytes Tryz.underlying9 Tryz.underlying22 Tryz.underlying5 rfl (by omega) S1 rfl fun b2 c2 w2 l2 S2 => L_o (o_call Tryz.func55 rfl rfl (wraw g _ _ _ _ _ _ _ _ w2 (S2.get 0 rfl) (S2.get 1 rfl) (by have := vr_len10 s.size (by omega); simp; omega)) rfl rfl ?_))))))))⟩; rintro e3 w3 ⟨v3, rfl, ⟨A3, n3, c3, T3⟩⟩; refine ⟨_, rfl, (have S3 := S2.turn 0 rfl T3; L_nil ?_)⟩; first | refine end0 (fn := Tryz.f165) rfl ?_ | (simp only [thenQ, inB, if_true]; refine end0 (fn := Tryz.f165) rfl ?_)
 exact ⟨_, rfl, _, _, _, by have h := S3.turned1 0 rfl; rwa [List.append_assoc] at h⟩
theorem wbytes (g : Nat) (A : Option Addr) (n c : Nat) (l : List UInt8) (w0 : World) (hw : (wt g A n c l).holds w0) (hn : l.length ≤ 70368744177000) :
    Calls Tryz.prog 59 #[.pointer (some ⟨g, 0, none⟩)] w0 fun e w' => ∃ u, e = .returned u ∧ Like w0 w' ∧ ∃ A' m c', u = .slice A' m c' ∧ w'.ownsRow w0.heap.size 5 1 (.slice A' m c') m (bL l) := by
 refine enter1 (env := [(0, .pointer (some ⟨g, 0, none⟩))]) [.pointer (some ⟨g, 0, none⟩)] Tryz.func59 rfl Tryz.ntmps59 rfl rfl ?_; have hln := wt_len hw; have S0 := St.start w0 noM; refine T_seq fun K1 hK1 => T_region (L_y (y_assign rfl) rfl (L_nil (hK1 _ _ (T_seq fun K2 hK2 => T_seq fun K3 hK3 => T_region (L_y (y_move rfl) rfl (L_y (y_peqn Tryz.underlying163 rfl) rfl (L_y (y_move rfl) rfl (L_gyes rfl rfl (L_y (y_move rfl) rfl (L_gyes rfl rfl ?_)))))))))); refine L_y (y_nilp rfl) rfl (L_gyes rfl rfl (L_y (y_fieldA 0 Tryz.underlying110 rfl sz22 rfl rfl rfl) rfl (L_gyes rfl rfl (L_y (y_ldc Tryz.underlying22 rfl rfl (((S0.rdB hw.1).cell _).trans (show (#[Value.slice A n c] : Array Value)[0]? = some (Value.slice A n c) from rfl))) rfl (L_gyes rfl rfl (L_y (y_len Tryz.underlying22 rfl) rfl (L_gyes rfl rfl (L_y (y_eql rfl rfl) rfl (L_y (y_pk rfl rfl) rfl (L_nil (hK3 _ _ ?_))))))))))); refine T_cond rfl (fun h12 => ?_) (fun h12 => ?_)
 ·
  refine T_seq fun K4 hK4 => T_region (L_y (y_assign rfl) rfl (L_nil (hK4 _ _ (T_ret (ur (ret1 rfl rfl ?_)))))); first | exact ⟨_, rfl, S0.like0, none, 0, 0, rfl, by have hn0 : n = 0 := (by omega); subst hn0; have hl0 := List.length_eq_zero_iff.1 hln; subst hl0; exact ⟨by simp [bL], .inl ⟨rfl, rfl⟩⟩⟩ | exact ⟨_, rfl, S0.like0, _, _, _, rfl, by have := S0.own 0 rfl; simpa using this⟩
 ·
  refine T_skip (hK2 _ _ (T_seq fun K5 hK5 => T_zed [0, 1, 2, 3, 4, 6, 7, 8, 9, 5] 10 [(0, 1), (1, 1), (2, 1), (3, 1), (4, 1), (6, 1), (7, 1), (8, 1), (9, 1), (5, 2), (10, 3), (11, 3)] hmix (by kernel_rfl) fun w1 l1 => have S1 := S0.like l1; ZA_B (Like w1) (Like.refl _) (ZB_y rfl (y_move rfl) rfl (ZB_y rfl (y_nilp rfl) rfl (ZB_y rfl (y_fieldA 0 Tryz.underlying110 rfl sz22 rfl rfl rfl) rfl (ZB_y rfl (y_ldc Tryz.underlying22 rfl rfl (((S1.rdB hw.1).cell _).trans (show (#[Value.slice A n c] : Array Value)[0]? = some (Value.slice A n c) from rfl))) rfl (ZB_y rfl (y_len Tryz.underlying22 rfl) rfl (ZB_y rfl (y_move rfl) rfl (ZB_y rfl (y_nilp rfl) rfl (ZB_y rfl (y_fieldA 0 Tryz.underlying110 rfl sz22 rfl rfl rfl) rfl ?_)))))))))); refine ZB_y rfl (y_ldc Tryz.underlying22 rfl rfl (((S1.rdB hw.1).cell _).trans (show (#[Value.slice A n c] : Array Value)[0]? = some (Value.slice A n c) from rfl))) rfl (ZB_o rfl (o_makeL te22 rfl S1 rfl rfl inferInstance inferInstance rfl (by omega) (by omega) (by omega) fun b2 w2 l2 S2 => have q2 := l2; ⟨q2, (ZB_c rfl (o_app te22 S2 0 rfl rfl rfl (S2.rd (rs_of_row hw.2)) (bL_one _) rfl (by omega) (by omega) fun A3 c3 w3 S3 => ZA_oy rfl (y_assign rfl) rfl (ZA_nil (hK5 _ _ (T_ret (ur (ret1 rfl rfl ?_)))))))⟩)); first | exact ⟨_, rfl, S3.like0, none, 0, 0, rfl, by have hn0 : n = 0 := (by omega); subst hn0; have hl0 := List.length_eq_zero_iff.1 hln; subst hl0; exact ⟨by simp [bL], .inl ⟨rfl, rfl⟩⟩⟩ | exact ⟨_, rfl, S3.like0, _, _, _, rfl, by have := S3.own 0 rfl; simpa using this⟩
end Go.Proofs.YtgaklngnfecdaaaGreat.Oct
namespace Go.Proofs.YtgaklngnfecdaaaGreat.Oct
open Go.RowKit Zk Zx
theorem byt_inj (l k : List UInt8) : decide ((⟨l.toArray⟩ : ByteArray) = ⟨k.toArray⟩) = decide (l = k) := by
  by_cases h : l = k
  · subst h; simp
  · have : (⟨l.toArray⟩ : ByteArray) ≠ ⟨k.toArray⟩ := fun e => h (by simpa using e)
    simp [h]
theorem same (A B : Option Addr) (n c m d : Nat) (a b : List UInt8) (w0 : World) (ha : Rs w0 1 A n c (bL a)) (hb : Rs w0 1 B m d (bL b)) :
    Calls Tryz.prog 14 #[.slice A n c, .slice B m d] w0 fun e w' => ∃ u, e = .returned u ∧ Like w0 w' ∧ u = .bool (decide (a = b)) := by
 refine enter1 (env := [(0, .slice A n c), (1, .slice B m d)]) [.slice A n c, .slice B m d] Tryz.func14 rfl Tryz.ntmps14 rfl rfl ?_; have S0 := St.start w0 noM; refine T_seq fun K1 hK1 => T_region (L_y (y_assign rfl) rfl (L_nil (hK1 _ _ (T_seq fun K2 hK2 => T_region (L_y (y_move rfl) rfl (L_y (y_bstr Tryz.underlying22 Tryz.underlying5 Tryz.underlying9 rfl (S0.rd ha)) rfl (L_y (y_move rfl) rfl (L_y (y_bstr Tryz.underlying22 Tryz.underlying5 Tryz.underlying9 rfl (S0.rd hb)) rfl (L_y (y_seql rfl rfl) rfl (L_y (y_assign rfl) rfl (L_nil ?_))))))))))); refine hK2 _ _ (T_ret (ur (ret1 rfl rfl ?_))); exact ⟨_, rfl, S0.like0, by rw [byt_inj]⟩
end Go.Proofs.YtgaklngnfecdaaaGreat.Oct
namespace Go.Proofs.YtgaklngnfecdaaaGreat.Rev
open Go.RowKit Zk Zx
open Oid (idf hexL)
open Tre (nmOk)
def dig (n : Nat) : UInt8 := UInt8.ofNat (48 + n % 10)
theorem dig_nat (n : Nat) : (dig n).toNat = 48 + n % 10 := by
  unfold dig
  rw [UInt8.toNat_ofNat']
  omega
def dgt (n : Nat) : List UInt8 := if h : n < 10 then [dig n] else dgt (n / 10) ++ [dig n]
termination_by n
def dg0 (n : Nat) : List UInt8 := if n = 0 then [] else dgt n
theorem dgt_eq (n : Nat) : dgt n = dg0 (n / 10) ++ [dig n] := by
  rw [dgt]
  split
  · rename_i h
    have : n / 10 = 0 := by omega
    rw [dg0, if_pos this]
    rfl
  · rename_i h
    rw [dg0, if_neg (by omega)]
theorem dg0_step (n : Nat) (h : 0 < n) : dg0 n = dg0 (n / 10) ++ [dig n] := by
  rw [dg0, if_neg (by omega), dgt_eq]
theorem dg0_zero : dg0 0 = [] := by rw [dg0, if_pos rfl]
theorem dg0_len : ∀ (k n : Nat), n < 10 ^ k → (dg0 n).length ≤ k
  | 0, n, h => by
    have : n = 0 := by simpa using h
    rw [this, dg0_zero]
    exact Nat.le_refl 0
  | k + 1, n, h => by
    by_cases h0 : n = 0
    · rw [h0, dg0_zero]; exact Nat.zero_le _
    · rw [dg0_step n (by omega), List.length_append]
      have := dg0_len k (n / 10) (by rw [Nat.pow_succ] at h; omega)
      simp only [List.length_cons, List.length_nil]
      omega
theorem dgt_len (k n : Nat) (h : n < 10 ^ (k + 1)) : (dgt n).length ≤ k + 1 := by
  rw [dgt_eq, List.length_append]
  have := dg0_len k (n / 10) (by rw [Nat.pow_succ] at h; omega)
  simp only [List.length_cons, List.length_nil]
  omega
def digS (n : Int) : List UInt8 := if n < 0 then [] else dgt n.toNat
theorem digS_nat (n : Nat) : digS (n : Int) = dgt n := by
  rw [digS, if_neg (by omega), Int.toNat_natCast]
theorem digS_len {n : Int} (h : n ≤ 9223372036854775807) : (digS n).length ≤ 19 := by
  unfold digS
  split
  · exact Nat.zero_le _
  · exact dgt_len 18 _ (by omega)
def isD (c : UInt8) : Bool := decide (48 ≤ c.toNat) && decide (c.toNat ≤ 57)
def numV (l : List UInt8) : Nat := l.foldl (fun n c => n * 10 + (c.toNat - 48)) 0
theorem numV_snoc (l : List UInt8) (c : UInt8) : numV (l ++ [c]) = numV l * 10 + (c.toNat - 48) := by
  unfold numV
  rw [List.foldl_append]
  rfl
theorem isD_lo {c : UInt8} (h : isD c = true) : 48 ≤ c.toNat ∧ c.toNat ≤ 57 := by
  unfold isD at h
  rwa [Bool.and_eq_true, decide_eq_true_eq, decide_eq_true_eq] at h
theorem fold_lt : ∀ (l : List UInt8) (n : Nat), l.all isD = true → l.foldl (fun n c => n * 10 + (c.toNat - 48)) n < (n + 1) * 10 ^ l.length
  | [], n, _ => by simp
  | c :: l, n, h => by
    rw [List.all_cons, Bool.and_eq_true] at h
    have h1 := isD_lo h.1
    have h2 := fold_lt l (n * 10 + (c.toNat - 48)) h.2
    rw [List.foldl_cons, List.length_cons, Nat.pow_succ]
    have h3 : (n * 10 + (c.toNat - 48) + 1) * 10 ^ l.length ≤ (n + 1) * 10 * 10 ^ l.length := Nat.mul_le_mul_right _ (by omega)
    have h4 : (n + 1) * (10 ^ l.length * 10) = (n + 1) * 10 * 10 ^ l.length := by rw [Nat.mul_comm (10 ^ l.length) 10, Nat.mul_assoc]
    omega
theorem numV_lt (l : List UInt8) (h : l.all isD = true) : numV l < 10 ^ l.length := by
  have := fold_lt l 0 h
  unfold numV
  omega
def numOk (l : List UInt8) : Bool := decide (1 ≤ l.length ∧ l.length ≤ 15 ∧ ¬ (l.getD 0 0 = 48 ∧ 1 < l.length)) && l.all isD
end Go.Proofs.YtgaklngnfecdaaaGreat.Rev
namespace Go.Proofs.YtgaklngnfecdaaaGreat.Zx
open Go.RowKit Zk
section
variable {P : Program} {S : World → Prop} {env : Env} {w w0 : World} {dst : Option Tmp} {ty : TypeId} {pos : String} {after : Array Edge} {g : Option (Nat × Bool)}
end
end Go.Proofs.YtgaklngnfecdaaaGreat.Zx
namespace Go.Proofs.YtgaklngnfecdaaaGreat.Zx
open Go.RowKit Zk
section
variable {P : Program} {N : Nat} {Q : Post} {env : Env} {w w0 : World} {M : Nat → Prop} {rs : List Res} {K : Env → World → Prop} {d : Tmp} {ty : TypeId} {pos : String} {after : Array Edge} {g : Option (Nat × Bool)}
end
end Go.Proofs.YtgaklngnfecdaaaGreat.Zx
namespace Go.Proofs.YtgaklngnfecdaaaGreat.Rev
open Go.RowKit Zk Zx
open Oid (idf hexL)
open Tre (nmOk)
end Go.Proofs.YtgaklngnfecdaaaGreat.Rev
namespace Go.Proofs
open Go.Shelf Go.RowKit
end Go.Proofs
namespace Go.Proofs.YtgaklngnfecdaaaGreat.Rev
open Go.Shelf Go.RowKit Zk Zx
open Oid (idf hexL)
open Tre (nmOk)
theorem strs_app (a b : List UInt8) : (⟨a.toArray⟩ : ByteArray) ++ ⟨b.toArray⟩ = ⟨(a ++ b).toArray⟩ := by
  symm
  apply ByteArray.ext
  simp
theorem bsz (l : List UInt8) : (⟨l.toArray⟩ : ByteArray).size = l.length := by simp [ByteArray.size]
theorem cat32 (l : List UInt8) : (⟨l.toArray⟩ : ByteArray) ++ ⟨#[32]⟩ = ⟨(l ++ [32]).toArray⟩ := strs_app l [32]
theorem bsz32 : (⟨#[32]⟩ : ByteArray).size = 1 := rfl
end Go.Proofs.YtgaklngnfecdaaaGreat.Rev
namespace Go.Proofs.YtgaklngnfecdaaaGreat.Rev
open Go.RowKit Zk Zx
open Oid (idf hexL)
open Tre (nmOk)
def RV (l : List UInt8) (k : Nat) (cur : List UInt8) : Prop := cur.length = l.length ∧ ∀ j, j < l.length → cur[j]? = if j < k ∨ l.length ≤ j + k then l[l.length - 1 - j]? else l[j]?
theorem RV.start (l : List UInt8) : RV l 0 l := ⟨rfl, fun j hj => by rw [if_neg (by omega)]⟩
theorem getD_q {l : List UInt8} {k : Nat} (h : k < l.length) : l[k]? = some (l.getD k 0) := by rw [List.getD_eq_getElem?_getD, List.getElem?_eq_getElem h]; rfl
theorem RV.step {l cur : List UInt8} {k : Nat} (h : RV l k cur) (hk : 2 * k + 1 < l.length) : RV l (k + 1) ((cur.set k (cur.getD (l.length - 1 - k) 0)).set (l.length - 1 - k) (cur.getD k 0)) := by
  obtain ⟨h1, h2⟩ := h
  refine ⟨by rw [List.length_set, List.length_set, h1], fun j hj => ?_⟩
  have ha := h2 k (by omega)
  have hb := h2 (l.length - 1 - k) (by omega)
  rw [if_neg (by omega), getD_q (by omega)] at ha
  rw [if_neg (by omega), getD_q (by omega)] at hb
  rw [List.getElem?_set, List.length_set]
  by_cases e1 : l.length - 1 - k = j
  · rw [if_pos e1, if_pos (by omega), if_pos (by omega), ha]
    congr 1
    omega
  · rw [if_neg e1, List.getElem?_set]
    by_cases e2 : k = j
    · rw [if_pos e2, if_pos (by omega), if_pos (by omega), hb]
      congr 1
      omega
    · rw [if_neg e2, h2 j hj]
      by_cases e3 : j < k ∨ l.length ≤ j + k
      · rw [if_pos e3, if_pos (by omega)]
      · rw [if_neg e3, if_neg (by omega)]
theorem RV.done {l cur : List UInt8} {k : Nat} (h : RV l k cur) (hk : l.length ≤ 2 * k + 1) : cur = l.reverse := by
  apply List.ext_getElem?
  intro j
  by_cases hj : j < l.length
  · rw [h.2 j hj, List.getElem?_reverse hj]
    split
    · rfl
    · congr 1
      omega
  · rw [List.getElem?_eq_none (by rw [h.1]; omega), List.getElem?_eq_none (by rw [List.length_reverse]; omega)]
theorem set_bL2 (l m : List UInt8) (k j : Nat) : (bL l).set k (.int .u8 (g8 m j)) = bL (l.set k (m.getD j 0)) := by
  unfold bL g8
  rw [List.map_set]
  rfl
theorem revers (A : Option Addr) (c : Nat) (l : List UInt8) (w0 : World) (hw : (row 5 1 A l.length c (bL l)).holds w0) :
    Calls Tryz.prog 72 #[.slice A l.length c] w0 fun e w' => ∃ u, e = .returned u ∧ Turned w0 w' (row 5 1 A l.length c (bL l)) (row 5 1 A l.length c (bL l.reverse)) := by
 refine enter1 (env := [(0, .slice A l.length c)]) [.slice A l.length c] Tryz.func72 rfl Tryz.ntmps72 rfl rfl ?_; have hcap := ownsRow_cap hw; have S0 := St.borrow1 (row 5 1 A l.length c (bL l)) hw (fun i hi => (World.ownsRow.lt hw i hi).2); refine T_seq fun K1 hK1 => T_region (L_y (y_move rfl) rfl (L_y (y_len Tryz.underlying22 rfl) rfl (L_y (y_sub rfl rfl (i64w (by omega))) rfl (L_y (y_assign rfl) rfl (L_y (y_assign rfl) rfl (L_nil (hK1 _ _ (T_block ?_)))))))); refine T_loop2 [(0, _)] (fun (k : Nat) (cur : List UInt8) => [(2, .int .i64 (k : Int)), (3, .int .i64 ((l.length : Int) - 1 - (k : Int)))]) (fun (k : Nat) (cur : List UInt8) => l.length - k) (fun (k : Nat) (cur : List UInt8) (w : World) => (k ≤ l.length ∧ RV l k cur) ∧ St w0 (row 5 1 A l.length c (bL l)).dom [row 5 1 A l.length c (bL cur)] w) 0 l (Sub.cons rfl (by first | rfl | exact congrArg (Value.int _) (by omega)) (Sub.cons rfl (by first | rfl | exact congrArg (Value.int _) (by omega)) (Sub.nil _))) (Sub.cons rfl rfl (Sub.nil _)) ?_ ?_
 ·
  exact ⟨⟨by omega, RV.start l⟩, S0⟩
 ·
  intro k cur w1 hrel; obtain ⟨⟨hk, hrv⟩, S1⟩ := hrel; refine T_seq fun K2 hK2 => T_seq fun K3 hK3 => T_region (L_y (y_move rfl) rfl (L_y (y_move rfl) rfl (L_y (y_lss rfl rfl) rfl (L_nil (hK3 _ _ ?_))))); refine T_cond rfl (fun h9 => ?_) (fun h9 => ?_)
  ·
   have hcl := hrv.1; refine T_skip (hK2 _ _ (T_seq fun K4 hK4 => T_block (T_zed [0, 1, 4, 5, 6, 7, 8, 9, 10, 11, 12] 13 [(2, 0), (3, 0), (0, 1), (1, 1), (4, 1), (5, 1), (6, 1), (7, 1), (8, 1), (9, 1), (10, 1), (11, 1), (12, 1), (13, 3), (14, 3), (15, 3)] hmix (by kernel_rfl) fun w2 l2 => have S2 := S1.like l2; ZA_y rfl (y_move rfl) rfl (ZA_y rfl (y_move rfl) rfl (ZA_B (Like w2) (Like.refl _) (ZB_y rfl (y_move rfl) rfl (ZB_y rfl (y_move rfl) rfl (ZB_y rfl (y_move rfl) rfl (ZB_y rfl (y_move rfl) rfl (ZB_y rfl (y_idx Tryz.underlying22 sz5 rfl rfl (by first | exact S2.row 0 rfl) (Nt.mk (by omega) : Nt _ (l.length - 1 - k)) (by omega)) rfl ?_)))))))))); refine ZB_yb rfl (y_ldb Tryz.underlying5 rfl rfl (by first | exact S2.row 0 rfl) (by omega)) rfl fun _ _ => ?_; refine ZB_y rfl (y_move rfl) rfl (ZB_y rfl (y_move rfl) rfl (ZB_y rfl (y_idx Tryz.underlying22 sz5 rfl rfl (by first | exact S2.row 0 rfl) inferInstance (by omega)) rfl ?_)); refine ZB_yb rfl (y_ldb Tryz.underlying5 rfl rfl (by first | exact S2.row 0 rfl) (by omega)) rfl fun _ _ => ?_; refine ZB_y rfl (y_idx Tryz.underlying22 sz5 rfl rfl (by first | exact S2.row 0 rfl) inferInstance (by omega)) rfl ?_; refine ZB_c rfl (o_strow S2 0 rfl rfl rfl rfl sz5 (by omega) fun w3 S3 => ZA_oy rfl (y_idx Tryz.underlying22 sz5 rfl rfl (by first | exact S3.row 0 rfl) (Nt.mk (by omega) : Nt _ (l.length - 1 - k)) (by omega)) rfl ?_); refine ZA_o rfl (o_strow S3 0 rfl rfl rfl rfl sz5 (by omega) fun w4 S4 => ZA_nil (hK4 _ _ (T_region (L_y (y_move rfl) rfl (L_y (y_add rfl rfl (i64w (by omega))) rfl (L_y (y_move rfl) rfl (L_y (y_sub rfl rfl (i64w (by omega))) rfl (L_y (y_assign rfl) rfl (L_y (y_assign rfl) rfl (L_nil ?_)))))))))); have S9 := S4.rowc 0 rfl (n' := l.length) (xs' := bL ((cur.set k (cur.getD (l.length - 1 - k) 0)).set (l.length - 1 - k) (cur.getD k 0))) rfl (by rw [set_bL2, set_bL2]); refine ⟨k + 1, _, by omega, ⟨⟨by omega, hrv.step (by omega)⟩, S9⟩, ?_⟩; exact (Sub.cons rfl (by first | rfl | exact congrArg (Value.int _) (by omega)) (Sub.cons rfl (by first | rfl | exact congrArg (Value.int _) (by omega)) (Sub.cons rfl rfl (Sub.nil _))))
  ·
   have hcl := hrv.done (by omega); refine T_exit ?_; first | refine end0 (fn := Tryz.f72) rfl ?_ | (simp only [thenQ, inB, if_true]; refine end0 (fn := Tryz.f72) rfl ?_)
   rw [hcl] at S1; exact ⟨_, rfl, S1.turned1 0 rfl⟩
end Go.Proofs.YtgaklngnfecdaaaGreat.Rev
namespace Go.Proofs.YtgaklngnfecdaaaGreat.Rev
open Go.RowKit Zk Zx
open Oid (idf hexL)
open Tre (nmOk)
theorem digits (n : Int) (w0 : World) (hn : n ≤ 9223372036854775807) :
    Calls Tryz.prog 38 #[.int .i64 n] w0 fun e w' => ∃ u, e = .returned u ∧ Like w0 w' ∧ u = .string ⟨(digS n).toArray⟩ := by
 refine enter1 (env := [(0, .int .i64 n)]) [.int .i64 n] Tryz.func38 rfl Tryz.ntmps38 rfl rfl ?_; have S0 := St.start w0 noM; refine T_seq fun K1 hK1 => T_region (L_y (y_assign rfl) rfl (L_nil (hK1 _ _ (T_seq fun K2 hK2 => T_seq fun K3 hK3 => T_region (L_y (y_move rfl) rfl (L_y (y_lss rfl rfl) rfl (L_nil (hK3 _ _ ?_)))))))); refine T_cond rfl (fun h5 => ?_) (fun h5 => ?_)
 ·
  refine T_seq fun K4 hK4 => T_region (L_y (y_assign rfl) rfl (L_nil (hK4 _ _ (T_ret (ur (ret1 rfl rfl ?_)))))); exact ⟨_, rfl, S0.like0, by rw [digS, if_pos (by omega)]⟩
 ·
  obtain ⟨N, rfl⟩ : ∃ N : Nat, n = (N : Int) := ⟨n.toNat, by omega⟩; refine T_skip (hK2 _ _ (T_seq fun K5 hK5 => T_region (L_y (y_move rfl) rfl (L_y (y_rem rfl rfl (by omega) (remI (by omega))) rfl (L_y (y_add rfl rfl (i64w (by omega))) rfl (L_y (y_conv is3 Tryz.underlying5 rfl (show IntKind.u8.wrap (48 + (N : Int) % 10) = ((dig N).toNat : Int) by rw [u8w (by omega), dig_nat]; omega)) rfl ?_)))))); refine L_o (o_bsl [_] te22 zz5 S0 rfl rfl rfl rfl rfl rfl rfl rfl fun b1 w1 S1 => L_y (y_assign rfl) rfl (L_nil (hK5 _ _ (T_seq fun K6 hK6 => T_seq fun K7 hK7 => T_region (L_y (y_move rfl) rfl (L_y (y_quo rfl rfl (by omega) (quoI (by omega) (by omega))) rfl (L_y (y_assign rfl) rfl (L_nil (hK7 _ _ (T_block ?_)))))))))); refine T_loop4 [] (fun (m : Nat) (A1 : Option Addr) (c1 : Nat) (bs : List UInt8) => [(0, .int .i64 (m : Int)), (3, .slice A1 bs.length c1)]) (fun (m : Nat) (A1 : Option Addr) (c1 : Nat) (bs : List UInt8) => m) (fun (m : Nat) (A1 : Option Addr) (c1 : Nat) (bs : List UInt8) (w : World) => (m ≤ N ∧ dgt N = dg0 m ++ bs.reverse ∧ bs.length + (dg0 m).length ≤ 20) ∧ St w0 noM [row 5 1 A1 bs.length c1 (bL bs)] w) (N / 10) _ _ [dig N] (Sub.cons rfl (by first | rfl | exact congrArg (Value.int _) (by omega)) (Sub.cons rfl (by first | rfl | exact congrArg (Value.int _) (by omega)) (Sub.nil _))) (Sub.nil _) ?_ ?_
  ·
   exact ⟨⟨by omega, by rw [dgt_eq]; rfl, by have h1 := dgt_len 18 N (by omega); rw [dgt_eq, List.length_append] at h1; simp only [List.length_cons, List.length_nil] at h1 ⊢; omega⟩, S1⟩
  ·
   intro m A1 c1 bs w2 hrel; obtain ⟨⟨hm, hdg, hbl⟩, S2⟩ := hrel; refine T_seq fun K8 hK8 => T_seq fun K9 hK9 => T_region (L_y (y_move rfl) rfl (L_y (y_gtr rfl rfl) rfl (L_nil (hK9 _ _ ?_)))); refine T_cond rfl (fun h14 => ?_) (fun h14 => ?_)
   ·
    refine T_skip (hK8 _ _ (T_seq fun K10 hK10 => T_block (T_region (L_y (y_move rfl) rfl (L_y (y_move rfl) rfl (L_y (y_rem rfl rfl (by omega) (remI (by omega))) rfl (L_y (y_add rfl rfl (i64w (by omega))) rfl (L_y (y_conv is3 Tryz.underlying5 rfl (show IntKind.u8.wrap (48 + (m : Int) % 10) = ((dig m).toNat : Int) by rw [u8w (by omega), dig_nat]; omega)) rfl ?_)))))))); refine L_o (o_bsl [_] te22 zz5 S2 rfl rfl rfl rfl rfl rfl rfl rfl fun b3 w3 S3 => L_o (o_app te22 S3 0 rfl rfl rfl (by first | exact S3.row 0 rfl | exact S3.row 1 rfl) (by first | exact bL_one _ | exact iL_one _ | (intro u hu; simp at hu; subst hu; rfl) | (simp; done) | (simp [Value.oneCell']; done)) rfl (by omega) (by omega) fun A4 c4 w4 S4 => ?_)); have S4d := S4.drop (rs' := [_]) (.cons_cons _ (.cons _ (.refl _))); refine L_y (y_assign rfl) rfl (L_nil (hK10 _ _ (T_region (L_y (y_move rfl) rfl (L_y (y_quo rfl rfl (by omega) (quoI (by omega) (by omega))) rfl (L_y (y_assign rfl) rfl (L_nil ?_))))))); have hst := dg0_step m (by omega); have S9 := S4d.rowc 0 rfl (n' := (bs ++ [dig m]).length) (xs' := bL (bs ++ [dig m])) (by simp) (by rw [bL_app]; rfl); refine ⟨m / 10, _, _, bs ++ [dig m], by omega, ⟨⟨by omega, by rw [hdg, hst, List.reverse_append]; simp, by rw [hst, List.length_append] at hbl; rw [List.length_append]; simp only [List.length_cons, List.length_nil] at hbl ⊢; omega⟩, S9⟩, ?_⟩; exact (Sub.cons rfl (by first | rfl | exact congrArg (Value.int _) (by omega)) (Sub.cons rfl (by first | rfl | (rw [List.length_append]; rfl)) (Sub.nil _)))
   ·
    have hm0 : m = 0 := by omega
    subst hm0; refine T_exit (hK6 _ _ (T_seq fun K11 hK11 => T_region (L_y (y_move rfl) rfl (L_o (o_call Tryz.func72 rfl rfl (revers A1 c1 bs w2 (S2.get 0 rfl)) rfl rfl ?_))))); rintro e5 w5 ⟨v5, rfl, T5⟩; refine ⟨_, rfl, (have S5 := S2.turn 0 rfl T5; L_nil (hK11 _ _ (T_seq fun K12 hK12 => T_region (L_y (y_move rfl) rfl (L_y (y_bstr Tryz.underlying22 Tryz.underlying5 Tryz.underlying9 rfl (by first | exact S5.row 0 rfl)) rfl ?_)))))⟩; refine L_y (y_assign rfl) rfl (L_nil (hK12 _ _ (T_ret (ur (ret1 rfl rfl ?_))))); exact ⟨_, rfl, S5.like0, by rw [digS_nat, hdg, dg0_zero, List.nil_append]⟩
end Go.Proofs.YtgaklngnfecdaaaGreat.Rev
namespace Go.Proofs.YtgaklngnfecdaaaGreat.Rev
open Go.RowKit Zk Zx
open Oid (idf hexL)
open Tre (nmOk)
def numR (l : List UInt8) : Value := if numOk l then .tuple #[.int .i64 (numV l : Int), .int .i64 0] else .tuple #[.int .i64 0, .int .i64 12]
theorem g8_48 (l : List UInt8) : g8 l 0 = 48 ↔ l.getD 0 0 = 48 := by
  unfold g8
  constructor
  · intro h
    have h1 : (l.getD 0 0).toNat = 48 := by omega
    exact UInt8.toNat_inj.1 h1
  · intro h
    rw [h]
    rfl
theorem numR_no {l : List UInt8} (h : l.length < 1 ∨ 15 < l.length ∨ (g8 l 0 = 48 ∧ 1 < l.length)) : numR l = .tuple #[.int .i64 0, .int .i64 12] := by
  rw [g8_48] at h
  have : numOk l = false := by
    unfold numOk
    rw [decide_eq_false (fun ⟨h1, h2, h3⟩ => by rcases h with h | h | h; omega; omega; exact h3 h), Bool.false_and]
  rw [numR, this]
  rfl
theorem numR_bad {l : List UInt8} {k : Nat} (hk : k < l.length) (h : g8 l k < 48 ∨ 57 < g8 l k) : numR l = .tuple #[.int .i64 0, .int .i64 12] := by
  have h1 : isD l[k] = false := by
    have e : g8 l k = ((l[k]).toNat : Int) := by simp [g8, List.getD_eq_getElem?_getD, List.getElem?_eq_getElem hk]
    rw [e] at h
    cases hd : isD l[k] with
    | false => rfl
    | true => have := isD_lo hd; omega
  have h2 : l.all isD = false := by
    cases ha : l.all isD with
    | false => rfl
    | true => rw [List.all_eq_true] at ha; rw [ha _ (List.getElem_mem hk)] at h1; cases h1
  have : numOk l = false := by
    unfold numOk
    rw [h2, Bool.and_false]
  rw [numR, this]
  rfl
theorem numR_yes {l : List UInt8} (h1 : 1 ≤ l.length) (h2 : l.length ≤ 15) (h3 : ¬ (g8 l 0 = 48 ∧ 1 < l.length)) (h4 : l.all isD = true) : numR l = .tuple #[.int .i64 (numV l : Int), .int .i64 0] := by
  rw [g8_48] at h3
  have : numOk l = true := by
    unfold numOk
    rw [decide_eq_true ⟨h1, h2, h3⟩, h4]
    rfl
  rw [numR, this]
  rfl
theorem num_step {l : List UInt8} {k : Nat} (hk : k < l.length) (h1 : 48 ≤ g8 l k) (h2 : g8 l k ≤ 57) (ha : (l.take k).all isD = true) : (l.take (k + 1)).all isD = true ∧ (numV (l.take (k + 1)) : Int) = (numV (l.take k) : Int) * 10 + (g8 l k - 48) := by
  have e : g8 l k = ((l[k]).toNat : Int) := by simp [g8, List.getD_eq_getElem?_getD, List.getElem?_eq_getElem hk]
  have e2 : l.take (k + 1) = l.take k ++ [l[k]] := by rw [List.take_add_one, List.getElem?_eq_getElem hk]; rfl
  rw [e] at h1 h2 ⊢
  rw [e2, numV_snoc]
  refine ⟨?_, by omega⟩
  rw [List.all_append, ha]
  have : isD l[k] = true := by
    unfold isD
    rw [decide_eq_true (by omega), decide_eq_true (by omega)]
    rfl
  simp [this]
theorem num_lt {l : List UInt8} {k : Nat} (hl : l.length ≤ 15) (ha : (l.take k).all isD = true) : numV (l.take k) < 1000000000000000 := by
  have h1 := numV_lt _ ha
  have h2 : 10 ^ (l.take k).length ≤ 10 ^ 15 := Nat.pow_le_pow_right (by omega) (by rw [List.length_take]; omega)
  have h3 : (10 : Nat) ^ 15 = 1000000000000000 := by decide
  omega
theorem number (s : ByteArray) (w0 : World)  :
    Calls Tryz.prog 47 #[.string s] w0 fun e w' => ∃ u, e = .returned u ∧ Like w0 w' ∧ u = numR s.data.toList := by
 refine enter1 (env := [(0, .string s)]) [.string s] Tryz.func47 rfl Tryz.ntmps47 rfl rfl ?_; have hsz : s.data.toList.length = s.size := by simp
 have S0 := St.start w0 noM; refine T_seq fun K1 hK1 => T_region (L_y (y_assign rfl) rfl (L_y (y_assign rfl) rfl (L_nil (hK1 _ _ (T_seq fun K2 hK2 => T_seq fun K3 hK3 => T_region (L_y (y_move rfl) rfl (L_y (y_lens Tryz.underlying9 rfl) rfl (L_y (y_eql rfl rfl) rfl (L_y (y_move rfl) rfl ?_))))))))); refine L_split 9 rfl (fun h9 => ?_) (fun h9 => ?_)
 ·
  refine L_gno rfl rfl rfl (L_gno rfl rfl rfl (L_gno rfl rfl rfl (L_y (y_pk rfl rfl) rfl (L_y (y_move rfl) rfl (L_gno rfl rfl rfl (L_gno rfl rfl rfl (L_gno rfl rfl rfl (L_gno rfl rfl rfl (L_gnu rfl rfl rfl (L_gnu rfl rfl rfl (L_gnu rfl rfl rfl (L_gno rfl rfl rfl (L_y (y_pk rfl rfl) rfl ?_))))))))))))); refine L_nil (hK3 _ _ (T_true rfl (T_seq fun K4 hK4 => T_region (L_y (y_assign rfl) rfl (L_y (y_assign rfl) rfl (L_nil (hK4 _ _ (T_ret (ur (ret2 rfl rfl rfl ?_)))))))))); exact ⟨_, rfl, S0.like0, (numR_no (by omega)).symm⟩
 ·
  refine L_gyes rfl rfl (L_y (y_move rfl) rfl (L_gyes rfl rfl (L_y (y_lens Tryz.underlying9 rfl) rfl (L_gyes rfl rfl (L_y (y_gtr rfl rfl) rfl (L_y (y_pk rfl rfl) rfl (L_y (y_move rfl) rfl ?_))))))); refine L_split 14 rfl (fun h14 => ?_) (fun h14 => ?_)
  ·
   refine L_gno rfl rfl rfl (L_gno rfl rfl rfl (L_gno rfl rfl rfl (L_gno rfl rfl rfl (L_gnu rfl rfl rfl (L_gnu rfl rfl rfl (L_gnu rfl rfl rfl (L_gno rfl rfl rfl (L_y (y_pk rfl rfl) rfl (L_nil (hK3 _ _ (T_true rfl (T_seq fun K5 hK5 => T_region ?_)))))))))))); refine L_y (y_assign rfl) rfl (L_y (y_assign rfl) rfl (L_nil (hK5 _ _ (T_ret (ur (ret2 rfl rfl rfl ?_)))))); exact ⟨_, rfl, S0.like0, (numR_no (by omega)).symm⟩
  ·
   refine L_gyes rfl rfl (L_y (y_move rfl) rfl (L_gyes rfl rfl (L_y (y_idxS Tryz.underlying9 rfl rfl inferInstance (by omega)) rfl (L_gyes rfl rfl (L_y (y_eql rfl rfl) rfl (L_gyes rfl rfl (L_y (y_move rfl) rfl ?_))))))); refine L_split 18 rfl (fun h18 => ?_) (fun h18 => ?_)
   ·
    refine L_gyes rfl rfl (L_y (y_move rfl) rfl (L_gyes rfl rfl (L_y (y_lens Tryz.underlying9 rfl) rfl (L_gyes rfl rfl (L_y (y_gtr rfl rfl) rfl (L_gyes rfl rfl (L_y (y_pk rfl rfl) rfl (L_y (y_pk rfl rfl) rfl (L_nil (hK3 _ _ ?_)))))))))); refine T_cond rfl (fun h23 => ?_) (fun h23 => ?_)
    ·
     refine T_seq fun K6 hK6 => T_region (L_y (y_assign rfl) rfl (L_y (y_assign rfl) rfl (L_nil (hK6 _ _ (T_ret (ur (ret2 rfl rfl rfl ?_))))))); exact ⟨_, rfl, S0.like0, (numR_no (by omega)).symm⟩
    ·
     refine T_skip (hK2 _ _ (T_seq fun K7 hK7 => T_region (L_y (y_assign rfl) rfl (L_nil (hK7 _ _ (T_seq fun K8 hK8 => T_seq fun K9 hK9 => T_region (L_y (y_move rfl) rfl (L_y (y_lens Tryz.underlying9 rfl) rfl (L_y (y_move rfl) rfl (L_nil ?_)))))))))); refine hK9 _ _ (T_block ?_); refine T_loop1 [(0, _), (25, _)] (fun (k : Nat) => [(4, .int .i64 (numV (s.data.toList.take k) : Int)), (26, .int .i64 (k : Int))]) (fun (k : Nat) => s.size - k) (fun (k : Nat) (w : World) => (k ≤ s.size ∧ (s.data.toList.take k).all isD = true) ∧ St w0 noM [] w) 0 (Sub.cons rfl (by first | rfl | exact congrArg (Value.int _) (by omega)) (Sub.cons rfl (by first | rfl | exact congrArg (Value.int _) (by omega)) (Sub.nil _))) (Sub.cons rfl rfl (Sub.cons rfl rfl (Sub.nil _))) ?_ ?_
     ·
      exact ⟨⟨by omega, by simp⟩, S0⟩
     ·
      intro k w4 hrel; obtain ⟨⟨hk, hall⟩, S4⟩ := hrel; have hnv := num_lt (k := k) (by omega) hall; refine T_seq fun K10 hK10 => T_region (L_y (y_lss rfl rfl) rfl (L_nil (hK10 _ _ (T_seq fun K11 hK11 => ?_)))); refine T_cond rfl (fun h27 => ?_) (fun h27 => ?_)
      ·
       refine T_skip (hK11 _ _ (T_seq fun K12 hK12 => T_block (T_seq fun K13 hK13 => T_region (L_y (y_move rfl) rfl (L_y (y_assign rfl) rfl (L_nil (hK13 _ _ (T_seq fun K14 hK14 => T_seq fun K15 hK15 => T_region (L_y (y_move rfl) rfl ?_))))))))); refine L_y (y_move rfl) rfl (L_y (y_idxS Tryz.underlying9 rfl rfl inferInstance (by omega)) rfl (L_y (y_lss rfl rfl) rfl (L_y (y_move rfl) rfl ?_))); refine L_split 33 rfl (fun h33 => ?_) (fun h33 => ?_)
       ·
        refine L_gno rfl rfl rfl (L_gno rfl rfl rfl (L_gno rfl rfl rfl (L_gno rfl rfl rfl (L_y (y_pk rfl rfl) rfl (L_nil (hK15 _ _ (T_true rfl (T_seq fun K16 hK16 => T_region (L_y (y_assign rfl) rfl (L_y (y_assign rfl) rfl (L_nil (hK16 _ _ ?_)))))))))))); refine T_ret (ur (ret2 rfl rfl rfl ?_)); exact ⟨_, rfl, S4.like0, (numR_bad (k := k) (by omega) (by omega)).symm⟩
       ·
        refine L_gyes rfl rfl (L_y (y_move rfl) rfl (L_gyes rfl rfl (L_y (y_move rfl) rfl (L_gyes rfl rfl (L_y (y_idxS Tryz.underlying9 rfl rfl inferInstance (by omega)) rfl (L_gyes rfl rfl (L_y (y_gtr rfl rfl) rfl (L_y (y_pk rfl rfl) rfl (L_nil (hK15 _ _ ?_)))))))))); refine T_cond rfl (fun h38 => ?_) (fun h38 => ?_)
        ·
         refine T_seq fun K17 hK17 => T_region (L_y (y_assign rfl) rfl (L_y (y_assign rfl) rfl (L_nil (hK17 _ _ (T_ret (ur (ret2 rfl rfl rfl ?_))))))); exact ⟨_, rfl, S4.like0, (numR_bad (k := k) (by omega) (by omega)).symm⟩
        ·
         refine T_skip (hK14 _ _ (T_region (L_y (y_move rfl) rfl (L_y (y_mul rfl rfl (i64w (by omega))) rfl (L_y (y_move rfl) rfl (L_y (y_move rfl) rfl (L_y (y_idxS Tryz.underlying9 rfl rfl inferInstance (by omega)) rfl (L_y (y_sub rfl rfl (u8w (by omega))) rfl (L_y (y_conv is5 Tryz.underlying3 rfl (i64w (by omega))) rfl (L_y (y_add rfl rfl (i64w (by omega))) rfl (L_y (y_assign rfl) rfl (L_nil (hK12 _ _ ?_))))))))))))); refine T_region (L_y (y_add rfl rfl (i64w (by omega))) rfl (L_y (y_move rfl) rfl (L_nil (have hst := num_step (l := s.data.toList) (k := k) (by omega) (by omega) (by omega) hall; ⟨k + 1, by omega, ⟨⟨by omega, hst.1⟩, S4⟩, ?_⟩)))); exact (Sub.cons rfl (congrArg (Value.int _) (by first | (rw [hst.2]; done) | (rw [hst.2]; omega))) (Sub.cons rfl (by first | rfl | exact congrArg (Value.int _) (by omega)) (Sub.cons rfl rfl (Sub.cons rfl rfl (Sub.nil _)))))
      ·
       refine T_exit (hK8 _ _ (T_seq fun K18 hK18 => T_region (L_y (y_move rfl) rfl (L_y (y_assign rfl) rfl (L_y (y_assign rfl) rfl (L_nil (hK18 _ _ (T_ret (ur (ret2 rfl rfl rfl ?_)))))))))); have hke : k = s.data.toList.length := by omega
       rw [hke, List.take_length] at hall hnv; exact ⟨_, rfl, S4.like0, by rw [numR_yes (by omega) (by omega) (by omega) hall, hke, List.take_length]⟩
   ·
    refine L_gno rfl rfl rfl (L_gno rfl rfl rfl (L_gno rfl rfl rfl (L_gyes rfl rfl (L_y (y_pk rfl rfl) rfl (L_y (y_pk rfl rfl) rfl (L_nil (hK3 _ _ (T_false rfl (T_skip (hK2 _ _ (T_seq fun K19 hK19 => T_region (L_y (y_assign rfl) rfl ?_)))))))))))); refine L_nil (hK19 _ _ (T_seq fun K20 hK20 => T_seq fun K21 hK21 => T_region (L_y (y_move rfl) rfl (L_y (y_lens Tryz.underlying9 rfl) rfl (L_y (y_move rfl) rfl (L_nil (hK21 _ _ (T_block ?_)))))))); refine T_loop1 [(0, _), (25, _)] (fun (k : Nat) => [(4, .int .i64 (numV (s.data.toList.take k) : Int)), (26, .int .i64 (k : Int))]) (fun (k : Nat) => s.size - k) (fun (k : Nat) (w : World) => (k ≤ s.size ∧ (s.data.toList.take k).all isD = true) ∧ St w0 noM [] w) 0 (Sub.cons rfl (by first | rfl | exact congrArg (Value.int _) (by omega)) (Sub.cons rfl (by first | rfl | exact congrArg (Value.int _) (by omega)) (Sub.nil _))) (Sub.cons rfl rfl (Sub.cons rfl rfl (Sub.nil _))) ?_ ?_
    ·
     exact ⟨⟨by omega, by simp⟩, S0⟩
    ·
     intro k w6 hrel; obtain ⟨⟨hk, hall⟩, S6⟩ := hrel; have hnv := num_lt (k := k) (by omega) hall; refine T_seq fun K22 hK22 => T_region (L_y (y_lss rfl rfl) rfl (L_nil (hK22 _ _ (T_seq fun K23 hK23 => ?_)))); refine T_cond rfl (fun h27 => ?_) (fun h27 => ?_)
     ·
      refine T_skip (hK23 _ _ (T_seq fun K24 hK24 => T_block (T_seq fun K25 hK25 => T_region (L_y (y_move rfl) rfl (L_y (y_assign rfl) rfl (L_nil (hK25 _ _ (T_seq fun K26 hK26 => T_seq fun K27 hK27 => T_region (L_y (y_move rfl) rfl ?_))))))))); refine L_y (y_move rfl) rfl (L_y (y_idxS Tryz.underlying9 rfl rfl inferInstance (by omega)) rfl (L_y (y_lss rfl rfl) rfl (L_y (y_move rfl) rfl ?_))); refine L_split 33 rfl (fun h33 => ?_) (fun h33 => ?_)
      ·
       refine L_gno rfl rfl rfl (L_gno rfl rfl rfl (L_gno rfl rfl rfl (L_gno rfl rfl rfl (L_y (y_pk rfl rfl) rfl (L_nil (hK27 _ _ (T_true rfl (T_seq fun K28 hK28 => T_region (L_y (y_assign rfl) rfl (L_y (y_assign rfl) rfl (L_nil (hK28 _ _ ?_)))))))))))); refine T_ret (ur (ret2 rfl rfl rfl ?_)); exact ⟨_, rfl, S6.like0, (numR_bad (k := k) (by omega) (by omega)).symm⟩
      ·
       refine L_gyes rfl rfl (L_y (y_move rfl) rfl (L_gyes rfl rfl (L_y (y_move rfl) rfl (L_gyes rfl rfl (L_y (y_idxS Tryz.underlying9 rfl rfl inferInstance (by omega)) rfl (L_gyes rfl rfl (L_y (y_gtr rfl rfl) rfl (L_y (y_pk rfl rfl) rfl (L_nil (hK27 _ _ ?_)))))))))); refine T_cond rfl (fun h38 => ?_) (fun h38 => ?_)
       ·
        refine T_seq fun K29 hK29 => T_region (L_y (y_assign rfl) rfl (L_y (y_assign rfl) rfl (L_nil (hK29 _ _ (T_ret (ur (ret2 rfl rfl rfl ?_))))))); exact ⟨_, rfl, S6.like0, (numR_bad (k := k) (by omega) (by omega)).symm⟩
       ·
        refine T_skip (hK26 _ _ (T_region (L_y (y_move rfl) rfl (L_y (y_mul rfl rfl (i64w (by omega))) rfl (L_y (y_move rfl) rfl (L_y (y_move rfl) rfl (L_y (y_idxS Tryz.underlying9 rfl rfl inferInstance (by omega)) rfl (L_y (y_sub rfl rfl (u8w (by omega))) rfl (L_y (y_conv is5 Tryz.underlying3 rfl (i64w (by omega))) rfl (L_y (y_add rfl rfl (i64w (by omega))) rfl (L_y (y_assign rfl) rfl (L_nil (hK24 _ _ ?_))))))))))))); refine T_region (L_y (y_add rfl rfl (i64w (by omega))) rfl (L_y (y_move rfl) rfl (L_nil (have hst := num_step (l := s.data.toList) (k := k) (by omega) (by omega) (by omega) hall; ⟨k + 1, by omega, ⟨⟨by omega, hst.1⟩, S6⟩, ?_⟩)))); exact (Sub.cons rfl (congrArg (Value.int _) (by first | (rw [hst.2]; done) | (rw [hst.2]; omega))) (Sub.cons rfl (by first | rfl | exact congrArg (Value.int _) (by omega)) (Sub.cons rfl rfl (Sub.cons rfl rfl (Sub.nil _)))))
     ·
      refine T_exit (hK20 _ _ (T_seq fun K30 hK30 => T_region (L_y (y_move rfl) rfl (L_y (y_assign rfl) rfl (L_y (y_assign rfl) rfl (L_nil (hK30 _ _ (T_ret (ur (ret2 rfl rfl rfl ?_)))))))))); have hke : k = s.data.toList.length := by omega
      rw [hke, List.take_length] at hall hnv; exact ⟨_, rfl, S6.like0, by rw [numR_yes (by omega) (by omega) (by omega) hall, hke, List.take_length]⟩
theorem time_ (n : Int) (w0 : World)  :
    Calls Tryz.prog 151 #[.int .i64 n] w0 fun e w' => ∃ u, e = .returned u ∧ Like w0 w' ∧ u = .bool (decide (0 ≤ n ∧ n ≤ 1099511627776)) := by
 refine enter1 (env := [(0, .int .i64 n)]) [.int .i64 n] Tryz.func151 rfl Tryz.ntmps151 rfl rfl ?_; have S0 := St.start w0 noM; refine T_seq fun K1 hK1 => T_region (L_y (y_assign rfl) rfl (L_nil (hK1 _ _ (T_seq fun K2 hK2 => T_region (L_y (y_move rfl) rfl (L_y (y_geq rfl rfl) rfl (L_y (y_move rfl) rfl ?_))))))); refine L_split 5 rfl (fun h5 => ?_) (fun h5 => ?_)
 ·
  refine L_gyes rfl rfl (L_y (y_move rfl) rfl (L_gyes rfl rfl (L_y (y_leq rfl rfl) rfl (L_y (y_pk rfl rfl) rfl (L_y (y_assign rfl) rfl (L_nil (hK2 _ _ (T_ret (ur (ret1 rfl rfl ?_)))))))))); exact ⟨_, rfl, S0.like0, by first | exact congrArg Value.bool (decide_eq_decide.2 (by omega)) | exact congrArg Value.bool (decide_eq_false (by omega)).symm⟩
 ·
  refine L_gno rfl rfl rfl (L_gno rfl rfl rfl (L_y (y_pk rfl rfl) rfl (L_y (y_assign rfl) rfl (L_nil (hK2 _ _ (T_ret (ur (ret1 rfl rfl ?_)))))))); exact ⟨_, rfl, S0.like0, by first | exact congrArg Value.bool (decide_eq_decide.2 (by omega)) | exact congrArg Value.bool (decide_eq_false (by omega)).symm⟩
end Go.Proofs.YtgaklngnfecdaaaGreat.Rev
namespace Go.Proofs.YtgaklngnfecdaaaGreat.Rev
open Go.RowKit Zk Zx
open Oid (idf hexL ris ris_ne idf_len)
open Tre (nmOk)
structure Cm where
  tr : Oid.Id
  A : Option Addr
  n : Nat
  c : Nat
  ps : List Oid.Id
  au : ByteArray
  tm : Int
  tx : ByteArray
def cmf (x : Cm) : List Value := idf x.tr ++ [.slice x.A x.n x.c, .string x.au, .int .i64 x.tm, .string x.tx]
theorem cmf_len (x : Cm) : (cmf x).length = 36 := by simp [cmf, idf_len]
theorem cmf_one (x : Cm) : ∀ u ∈ cmf x, u.oneCell' = true := fun u hu => by
  rcases List.mem_append.1 hu with h | h
  · exact bL_one _ u h
  · simp at h
    rcases h with rfl | rfl | rfl | rfl <;> rfl
theorem cm_at (x : Cm) (k : Nat) : (cmf x).toArray[32 + k]? = [Value.slice x.A x.n x.c, .string x.au, .int .i64 x.tm, .string x.tx][k]? := by
  rw [List.getElem?_toArray, cmf, List.getElem?_append_right (by rw [idf_len]; omega), idf_len]
  congr 1
  omega
theorem cm32 (x : Cm) : (cmf x).toArray[32]? = some (.slice x.A x.n x.c) := cm_at x 0
theorem cm33 (x : Cm) : (cmf x).toArray[33]? = some (.string x.au) := cm_at x 1
theorem cm34 (x : Cm) : (cmf x).toArray[34]? = some (.int .i64 x.tm) := cm_at x 2
theorem cm35 (x : Cm) : (cmf x).toArray[35]? = some (.string x.tx) := cm_at x 3
theorem cm_whole (x : Cm) : ((cmf x).toArray.toList.drop 0).take 36 = cmf x ∧ (cmf x).length = 36 := ⟨by rw [List.drop_zero]; exact List.take_of_length_le (by have := cmf_len x; simp only [] at this ⊢; omega), cmf_len x⟩
def chk (x : Cm) : Int := if 6 < x.n ∨ 400 < x.tx.size then 3 else if ¬ x.ps.Nodup then 17 else if nmOk x.au = false then 15 else if x.tm < 0 ∨ 1099511627776 < x.tm then 2 else 0
theorem nodup_le {α : Type} [DecidableEq α] : ∀ (a b : List α), a.Nodup → (∀ x ∈ a, x ∈ b) → a.length ≤ b.length
  | [], b, _, _ => Nat.zero_le _
  | x :: a, b, hn, h => by
    rw [List.nodup_cons] at hn
    have hx := h x List.mem_cons_self
    have ih := nodup_le a (b.erase x) hn.2 fun y hy => (List.mem_erase_of_ne (fun e => by subst e; exact hn.1 hy)).2 (h y (List.mem_cons_of_mem _ hy))
    rw [List.length_erase_of_mem hx] at ih
    have := List.length_pos_of_mem hx
    rw [List.length_cons]
    omega
theorem shorter {α : Type} [DecidableEq α] : ∀ (l : List α), ¬ l.Nodup → ∃ m : List α, m.length < l.length ∧ ∀ z ∈ l, z ∈ m
  | [], h => absurd List.nodup_nil h
  | x :: l, h => by
    by_cases hx : x ∈ l
    · exact ⟨l, by simp, fun z hz => by rcases List.mem_cons.1 hz with rfl | hz; exact hx; exact hz⟩
    · obtain ⟨m, h1, h2⟩ := shorter l (fun hn => h (List.nodup_cons.2 ⟨hx, hn⟩))
      exact ⟨x :: m, by simp; exact h1, fun z hz => by rcases List.mem_cons.1 hz with rfl | hz; exact List.mem_cons_self; exact List.mem_cons_of_mem _ (h2 z hz)⟩
theorem ris_nodup {s : List Oid.Id} (h : ris s = true) : s.Nodup := by
  unfold List.Nodup
  rw [List.pairwise_iff_getElem]
  exact fun i j hi hj hij => ris_ne h (List.getElem?_eq_getElem hi) (List.getElem?_eq_getElem hj) (by omega)
theorem twice_iff {s l : List Oid.Id} (hr : ris s = true) (hm : ∀ z, z ∈ s ↔ z ∈ l) : s.length < l.length ↔ ¬ l.Nodup := by
  have hs := ris_nodup hr
  constructor
  · intro h hn
    have := nodup_le l s hn fun z hz => (hm z).2 hz
    omega
  · intro h
    obtain ⟨m, h1, h2⟩ := shorter l h
    have := nodup_le s m hs fun z hz => h2 z ((hm z).1 hz)
    omega
theorem check (x : Cm) (w0 : World) (hps : Rs w0 32 x.A x.n x.c (x.ps.flatMap idf)) :
    Calls Tryz.prog 109 #[.agg (cmf x).toArray] w0 fun e w' => ∃ u, e = .returned u ∧ Like w0 w' ∧ u = .int .i64 (chk x) := by
 refine enter1 (env := [(0, .agg (cmf x).toArray)]) [.agg (cmf x).toArray] Tryz.func109 rfl Tryz.ntmps109 rfl rfl ?_; have hpn : x.n = x.ps.length := Oid.ids_n hps; have S0 := St.start w0 noM; refine T_seq fun K1 hK1 => T_region (L_o (o_box rfl S0 rfl fun b1 w1 hb1 S1 => L_y (y_assign rfl) rfl (L_nil (hK1 _ _ (T_seq fun K2 hK2 => T_block (T_seq fun K3 hK3 => T_region (L_y (y_fieldA 32 Tryz.underlying83 rfl sz81 rfl rfl rfl) rfl (L_y (y_ldc Tryz.underlying81 rfl rfl (((S1.blk 0 rfl).cell _).trans (cm32 x))) rfl (L_y (y_len Tryz.underlying81 rfl) rfl (L_y (y_gtr rfl rfl) rfl ?_)))))))))); refine L_y (y_move rfl) rfl ?_; refine L_split 8 rfl (fun h8 => ?_) (fun h8 => ?_)
 ·
  refine L_gno rfl rfl rfl (L_gno rfl rfl rfl (L_gno rfl rfl rfl (L_gno rfl rfl rfl (L_y (y_pk rfl rfl) rfl (L_y (y_assign rfl) rfl (L_nil (hK3 _ _ (T_true rfl (T_seq fun K4 hK4 => T_region (L_y (y_assign rfl) rfl (L_nil (hK4 _ _ ?_)))))))))))); refine T_ret (ur (ret1 rfl rfl ?_)); exact ⟨_, rfl, S1.like0, by unfold chk; first | rw [if_pos (by omega)] | rw [if_neg (by omega), if_pos (by assumption)] | rw [if_neg (by omega), if_neg hnd, if_pos hnm] | rw [if_neg (by omega), if_neg hnd, if_neg hnm, if_pos htm] | rw [if_neg (by omega), if_neg hnd, if_neg hnm, if_neg htm]⟩
 ·
  refine L_gyes rfl rfl (L_y (y_fieldA 35 Tryz.underlying83 rfl sz9 rfl rfl rfl) rfl (L_gyes rfl rfl (L_y (y_ldc Tryz.underlying9 rfl rfl (((S1.blk 0 rfl).cell _).trans (cm35 x))) rfl (L_gyes rfl rfl (L_y (y_lens Tryz.underlying9 rfl) rfl (L_gyes rfl rfl (L_y (y_gtr rfl rfl) rfl (L_y (y_pk rfl rfl) rfl (L_y (y_assign rfl) rfl (L_nil (hK3 _ _ ?_))))))))))); refine T_cond rfl (fun h3 => ?_) (fun h3 => ?_)
  ·
   refine T_seq fun K5 hK5 => T_region (L_y (y_assign rfl) rfl (L_nil (hK5 _ _ (T_ret (ur (ret1 rfl rfl ?_)))))); exact ⟨_, rfl, S1.like0, by unfold chk; first | rw [if_pos (by omega)] | rw [if_neg (by omega), if_pos (by assumption)] | rw [if_neg (by omega), if_neg hnd, if_pos hnm] | rw [if_neg (by omega), if_neg hnd, if_neg hnm, if_pos htm] | rw [if_neg (by omega), if_neg hnd, if_neg hnm, if_neg htm]⟩
  ·
   refine T_seq fun K6 hK6 => T_drawnL [(0, true), (1, true), (4, true), (5, true), (6, true), (2, false), (3, true), (7, true), (8, true)] hmix (by kernel_rfl) fun w3 l3 => have S3 := S1.like l3; DL_y rfl (y_fieldA 32 Tryz.underlying83 rfl sz81 rfl rfl rfl) rfl (DL_y rfl (y_ldc Tryz.underlying81 rfl rfl (((S3.blk 0 rfl).cell _).trans (cm32 x))) rfl (DL_y rfl (y_fieldA 32 Tryz.underlying83 rfl sz81 rfl rfl rfl) rfl (DL_y rfl (y_ldc Tryz.underlying81 rfl rfl (((S3.blk 0 rfl).cell _).trans (cm32 x))) rfl (DL_y rfl (y_len Tryz.underlying81 rfl) rfl (DL_o rfl (o_call Tryz.func150 rfl rfl (Oid.psorted x.A x.n x.c x.ps w3 (S3.rd hps) (by omega)) rfl rfl ?_)))))); rintro e4 w4 ⟨v4, rfl, l4, A', m', c', s, rfl, hs, hri, hmem⟩; refine ⟨_, rfl, l4, (have S4 := S3.like l4; have hti := twice_iff hri hmem; have hsn : m' = s.length := Oid.ids_n hs; have q4 := l4; DL_y rfl (y_len Tryz.underlying81 rfl) rfl (DL_y rfl (y_lss rfl rfl) rfl (DL_y rfl (y_assign rfl) rfl (DL_nil (hK6 _ _ ?_)))))⟩; refine T_cond rfl (fun h14 => ?_) (fun h14 => ?_)
   ·
    have hnd : ¬ x.ps.Nodup := hti.1 (by omega); refine T_seq fun K7 hK7 => T_region (L_y (y_assign rfl) rfl (L_nil (hK7 _ _ (T_ret (ur (ret1 rfl rfl ?_)))))); exact ⟨_, rfl, S4.like0, by unfold chk; first | rw [if_pos (by omega)] | rw [if_neg (by omega), if_pos (by assumption)] | rw [if_neg (by omega), if_neg hnd, if_pos hnm] | rw [if_neg (by omega), if_neg hnd, if_neg hnm, if_pos htm] | rw [if_neg (by omega), if_neg hnd, if_neg hnm, if_neg htm]⟩
   ·
    have hnd : ¬ ¬ x.ps.Nodup := fun h => by have := hti.2 h; omega
    refine T_seq fun K8 hK8 => T_region (L_y (y_fieldA 33 Tryz.underlying83 rfl sz9 rfl rfl rfl) rfl (L_y (y_ldc Tryz.underlying9 rfl rfl (((S4.blk 0 rfl).cell _).trans (cm33 x))) rfl (L_o (o_call Tryz.func142 rfl rfl (Tre.pname x.au w4) rfl rfl ?_)))); rintro e5 w5 ⟨v5, rfl, l5, rfl⟩; refine ⟨_, rfl, (have S5 := S4.like l5; L_y ((by first | exact y_notD rfl | exact y_not rfl)) rfl ?_)⟩; refine L_y (y_assign rfl) rfl (L_nil (hK8 _ _ ?_)); refine T_condB rfl (fun h23 => ?_) (fun h23 => ?_)
    ·
     have hnm : nmOk x.au = false := by simpa using h23
     refine T_seq fun K9 hK9 => T_region (L_y (y_assign rfl) rfl (L_nil (hK9 _ _ (T_ret (ur (ret1 rfl rfl ?_)))))); exact ⟨_, rfl, S5.like0, by unfold chk; first | rw [if_pos (by omega)] | rw [if_neg (by omega), if_pos (by assumption)] | rw [if_neg (by omega), if_neg hnd, if_pos hnm] | rw [if_neg (by omega), if_neg hnd, if_neg hnm, if_pos htm] | rw [if_neg (by omega), if_neg hnd, if_neg hnm, if_neg htm]⟩
    ·
     have hnm : ¬ nmOk x.au = false := by simpa using h23
     refine T_seq fun K10 hK10 => T_region (L_y (y_fieldA 34 Tryz.underlying83 rfl sz3 rfl rfl rfl) rfl (L_y (y_ldc Tryz.underlying3 rfl rfl (((S5.blk 0 rfl).cell _).trans (cm34 x))) rfl (L_o (o_call Tryz.func151 rfl rfl (time_ x.tm w5) rfl rfl ?_)))); rintro e6 w6 ⟨v6, rfl, l6, rfl⟩; refine ⟨_, rfl, (have S6 := S5.like l6; L_y ((by first | exact y_notD rfl | exact y_not rfl)) rfl ?_)⟩; refine L_y (y_assign rfl) rfl (L_nil (hK10 _ _ ?_)); refine T_condB rfl (fun h28 => ?_) (fun h28 => ?_)
     ·
      have htm : x.tm < 0 ∨ 1099511627776 < x.tm := by simpa using h28
      refine T_seq fun K11 hK11 => T_region (L_y (y_assign rfl) rfl (L_nil (hK11 _ _ (T_ret (ur (ret1 rfl rfl ?_)))))); exact ⟨_, rfl, S6.like0, by unfold chk; first | rw [if_pos (by omega)] | rw [if_neg (by omega), if_pos (by assumption)] | rw [if_neg (by omega), if_neg hnd, if_pos hnm] | rw [if_neg (by omega), if_neg hnd, if_neg hnm, if_pos htm] | rw [if_neg (by omega), if_neg hnd, if_neg hnm, if_neg htm]⟩
     ·
      have htm : ¬ (x.tm < 0 ∨ 1099511627776 < x.tm) := by simpa using h28
      refine T_skip (hK2 _ _ (T_seq fun K12 hK12 => T_region (L_y (y_assign rfl) rfl (L_nil (hK12 _ _ (T_ret (ur (ret1 rfl rfl ?_)))))))); exact ⟨_, rfl, S6.like0, by unfold chk; first | rw [if_pos (by omega)] | rw [if_neg (by omega), if_pos (by assumption)] | rw [if_neg (by omega), if_neg hnd, if_pos hnm] | rw [if_neg (by omega), if_neg hnd, if_neg hnm, if_pos htm] | rw [if_neg (by omega), if_neg hnd, if_neg hnm, if_neg htm]⟩
end Go.Proofs.YtgaklngnfecdaaaGreat.Rev
namespace Go.Proofs.YtgaklngnfecdaaaGreat.Rev
open Go.RowKit Zk Zx
open Oid (idf hexL ris ris_ne idf_len)
open Tre (nmOk)
end Go.Proofs.YtgaklngnfecdaaaGreat.Rev
namespace Go.Proofs.YtgaklngnfecdaaaGreat.Rev
open Go.RowKit Zk Zx
open Oid (idf hexL ris ris_ne idf_len length_hexL)
open Tre (nmOk)
def wTree : List UInt8 := [116, 114, 101, 101]
def wParent : List UInt8 := [112, 97, 114, 101, 110, 116]
def wAuthor : List UInt8 := [97, 117, 116, 104, 111, 114]
def wTime : List UInt8 := [116, 105, 109, 101]
end Go.Proofs.YtgaklngnfecdaaaGreat.Rev
namespace Go.Proofs.YtgaklngnfecdaaaGreat.Rev
open Go.RowKit Zk Zx
open Oid (idf hexL ris ris_ne idf_len length_hexL)
open Tre (nmOk)
end Go.Proofs.YtgaklngnfecdaaaGreat.Rev
namespace Go.Proofs.YtgaklngnfecdaaaGreat.Rev
open Go.RowKit Zk Zx
open Oid (idf hexL ris ris_ne idf_len length_hexL)
open Tre (nmOk)
end Go.Proofs.YtgaklngnfecdaaaGreat.Rev
namespace Go.Proofs.YtgaklngnfecdaaaGreat.Rev
open Go.ChangeShapes Go.WideShapes Go.ChangeAt Go.RowKit Go.Deep Zk Zx
open Oid (idf idf_len)
section
variable {H : Type} {enc : TypeId × Value → H} {w : World} {base : Nat} {spare : Nat → Bool} {held : Bool}
theorem c9 : Tryz.prog.cellsOf 9 = 1 := by kernel_rfl
theorem c3 : Tryz.prog.cellsOf 3 = 1 := by kernel_rfl
theorem c23 : Tryz.prog.cellsOf 41 = 32 := by kernel_rfl
end
end Go.Proofs.YtgaklngnfecdaaaGreat.Rev
namespace Go.Proofs.YtgaklngnfecdaaaGreat.Rev
open Go.RowKit Zk Zx
open Oid (idf hexL)
open Tre (nmOk)
def cutF (c : UInt8) : List UInt8 → Option (List UInt8 × List UInt8)
  | [] => none
  | x :: r => if x = c then some ([], r) else (cutF c r).map fun p => (x :: p.1, p.2)
theorem cutF_some {c : UInt8} : ∀ {s a b : List UInt8}, cutF c s = some (a, b) → s = a ++ c :: b ∧ c ∉ a
  | [], a, b, h => by cases h
  | x :: r, a, b, h => by
    unfold cutF at h
    split at h
    · rename_i hx
      cases h
      exact ⟨by rw [hx]; rfl, by simp⟩
    · rename_i hx
      cases hr : cutF c r with
      | none => rw [hr] at h; cases h
      | some p =>
        rw [hr] at h
        cases h
        obtain ⟨h1, h2⟩ := cutF_some hr
        refine ⟨by rw [h1]; rfl, fun hm => ?_⟩
        rcases List.mem_cons.1 hm with e | hm
        · exact hx e.symm
        · exact h2 hm
theorem cutF_none {c : UInt8} : ∀ {s : List UInt8}, cutF c s = none → c ∉ s
  | [], _ => by simp
  | x :: r, h => by
    unfold cutF at h
    split at h
    · cases h
    · rename_i hx
      intro hm
      rcases List.mem_cons.1 hm with e | hm
      · exact hx e.symm
      · cases hr : cutF c r with
        | none => exact cutF_none hr hm
        | some p => rw [hr] at h; cases h
theorem cutF_of {c : UInt8} : ∀ {a b : List UInt8}, c ∉ a → cutF c (a ++ c :: b) = some (a, b)
  | [], b, _ => by rw [List.nil_append, cutF, if_pos rfl]
  | x :: a, b, h => by
    rw [List.cons_append, cutF, if_neg (fun e => h (by rw [e]; exact List.mem_cons_self)), cutF_of (fun hm => h (List.mem_cons_of_mem _ hm))]
    rfl
theorem idx_cut (c : UInt8) : ∀ s : List UInt8, Lib.indexByte s c = match cutF c s with
    | some (a, _) => (a.length : Int)
    | none => -1
  | [] => rfl
  | x :: r => by
    have ih := idx_cut c r
    unfold Lib.indexByte cutF
    by_cases h : x = c
    · subst h
      simp
    · have hb : (x == c) = false := by simp [h]
      rw [hb, if_neg h, if_neg (by decide), ih]
      cases cutF c r with
      | none => rfl
      | some p =>
        obtain ⟨a, b⟩ := p
        have : ((a.length : Int) == -1) = false := by simp
        simp only [this, Bool.false_eq_true, if_false, Option.map_some]
        simp
def cutV (c : UInt8) (s : List UInt8) : Value := match cutF c s with
  | some (a, b) => .tuple #[.string ⟨a.toArray⟩, .string ⟨b.toArray⟩, .bool true]
  | none => .tuple #[.string ⟨s.toArray⟩, .string ⟨#[]⟩, .bool false]
theorem strIdx (s : ByteArray) (c : UInt8) (w0 : World) : Calls Tryz.prog 154 #[.string s, .int .u8 (c.toNat : Int)] w0 fun e w' => ∃ u, e = .returned u ∧ Like w0 w' ∧ u = .int .i64 (Lib.indexByte s.data.toList c) := by
  have h := Any.stringslite_IndexByte Tre.idxS s (c.toNat : Int) w0
  rw [Int.toNat_natCast, show (c.toNat).toUInt8 = c from UInt8.ofNat_toNat] at h
  refine (show Calls Tryz.prog 154 _ _ _ from h).mono fun e w' ⟨h1, h2⟩ => ?_
  subst h2
  exact ⟨_, h1, Like.refl _, rfl⟩
theorem idx_self (c : UInt8) : Lib.indexByte [c] c = 0 := by unfold Lib.indexByte; simp
theorem ext_list (l : List UInt8) (i j : Nat) : (⟨l.toArray⟩ : ByteArray).extract i j = ⟨((l.drop i).take (j - i)).toArray⟩ := by
  apply ByteArray.ext
  simp
theorem ext_a (a b : List UInt8) : (⟨(a ++ b).toArray⟩ : ByteArray).extract 0 a.length = ⟨a.toArray⟩ := by rw [ext_list]; simp
theorem ext_b (a b : List UInt8) (n k : Nat) (h : n = (a ++ b).length) (hk : k = a.length) : (⟨(a ++ b).toArray⟩ : ByteArray).extract k n = ⟨b.toArray⟩ := by
  rw [ext_list, h, hk, List.drop_left, List.take_of_length_le (by simp)]
theorem cut_b {a b s : List UInt8} {c : UInt8} (hs : s = a ++ c :: b) : (⟨s.toArray⟩ : ByteArray).extract (a.length + 1) (⟨s.toArray⟩ : ByteArray).size = ⟨b.toArray⟩ := by
  subst hs
  have h := ext_b (a ++ [c]) b (⟨(a ++ c :: b).toArray⟩ : ByteArray).size (a.length + 1) (by rw [bsz]; simp) (by simp)
  rw [show a ++ [c] ++ b = a ++ c :: b by simp] at h
  exact h
theorem cut_a {a b s : List UInt8} {c : UInt8} (hs : s = a ++ c :: b) : (⟨s.toArray⟩ : ByteArray).extract 0 a.length = ⟨a.toArray⟩ := by
  subst hs
  exact ext_a a (c :: b)
theorem g8_one (c : UInt8) : g8 [c] 0 = (c.toNat : Int) := rfl
theorem sidx (c : UInt8) (s : List UInt8) (w0 : World)  :
    Calls Tryz.prog 116 #[.string ⟨s.toArray⟩, .string ⟨[c].toArray⟩] w0 fun e w' => ∃ u, e = .returned u ∧ Like w0 w' ∧ u = .int .i64 (Lib.indexByte s c) := by
 refine enter1 (env := [(0, .string ⟨s.toArray⟩), (1, .string ⟨[c].toArray⟩)]) [.string ⟨s.toArray⟩, .string ⟨[c].toArray⟩] Tryz.func116 rfl Tryz.ntmps116 rfl rfl ?_; have h1z : (⟨[c].toArray⟩ : ByteArray).size = 1 := rfl; have S0 := St.start w0 noM; refine T_seq fun K1 hK1 => T_region (L_y (y_assign rfl) rfl (L_nil (hK1 _ _ (T_seq fun K2 hK2 => T_region (L_y (y_move rfl) rfl (L_y (y_lens Tryz.underlying9 rfl) rfl (L_y (y_assign rfl) rfl (L_nil (hK2 _ _ (T_seq fun K3 hK3 => T_block ?_)))))))))); refine T_seq fun K4 hK4 => T_region (L_y (y_move rfl) rfl (L_y (y_eql rfl rfl) rfl (L_y (y_move rfl) rfl ?_))); refine L_split 19 rfl (fun h19 => ?_) (fun h19 => ?_)
 ·
  omega
 ·
  refine L_gyes rfl rfl (L_y (y_move rfl) rfl (L_gyes rfl rfl (L_y (y_move rfl) rfl (L_gyes rfl rfl (L_y (y_seql rfl rfl) rfl (L_y (y_pk rfl rfl) rfl (L_y (y_assign rfl) rfl (L_nil (hK4 _ _ ?_))))))))); refine T_cond rfl (fun h16 => ?_) (fun h16 => ?_)
  ·
   refine T_seq fun K5 hK5 => T_region (L_y (y_assign rfl) rfl (L_nil (hK5 _ _ (T_ret (ur (ret1 rfl rfl ?_)))))); have e1 : s = [c] := by have e2 := congrArg (fun b : ByteArray => b.data.toList) h16; exact e2.symm
   exact ⟨_, rfl, S0.like0, by rw [e1, idx_self]⟩
  ·
   refine T_seq fun K6 hK6 => T_region (L_y (y_move rfl) rfl (L_y (y_eql rfl rfl) rfl (L_y (y_assign rfl) rfl (L_nil (hK6 _ _ ?_))))); refine T_cond rfl (fun h24 => ?_) (fun h24 => ?_)
   ·
    refine T_seq fun K7 hK7 => T_region (L_y (y_move rfl) rfl (L_y (y_move rfl) rfl (L_y (y_idxS Tryz.underlying9 rfl rfl inferInstance (by omega)) rfl ?_))); rw [g8_one]; refine L_o (o_call Tryz.func154 rfl rfl (strIdx ⟨s.toArray⟩ c w0) rfl rfl ?_); rintro e2 w2 ⟨v2, rfl, l2, rfl⟩; refine ⟨_, rfl, (have S2 := S0.like l2; L_y (y_assign rfl) rfl (L_nil (hK7 _ _ (T_ret (ur (ret1 rfl rfl ?_))))))⟩; exact ⟨_, rfl, S2.like0, rfl⟩
   ·
    omega
theorem scut0 (c : UInt8) (s : List UInt8) (w0 : World) (hl : s.length ≤ 1000000000) :
    Calls Tryz.prog 83 #[.string ⟨s.toArray⟩, .string ⟨[c].toArray⟩] w0 fun e w' => ∃ u, e = .returned u ∧ Like w0 w' ∧ u = cutV c s := by
 refine enter1 (env := [(0, .string ⟨s.toArray⟩), (1, .string ⟨[c].toArray⟩)]) [.string ⟨s.toArray⟩, .string ⟨[c].toArray⟩] Tryz.func83 rfl Tryz.ntmps83 rfl rfl ?_; have hix := idx_cut c s; have h1z : (⟨[c].toArray⟩ : ByteArray).size = 1 := rfl; have S0 := St.start w0 noM; refine T_seq fun K1 hK1 => T_region (L_y (y_assign rfl) rfl (L_y (y_assign rfl) rfl (L_y (y_assign rfl) rfl (L_nil (hK1 _ _ (T_seq fun K2 hK2 => T_seq fun K3 hK3 => T_region (L_y (y_move rfl) rfl (L_y (y_move rfl) rfl (L_o (o_call Tryz.func116 rfl rfl (sidx c s w0) rfl rfl ?_)))))))))); rintro e1 w1 ⟨v1, rfl, l1, rfl⟩; refine ⟨_, rfl, (have S1 := S0.like l1; L_y (y_assign rfl) rfl (L_nil (hK3 _ _ (T_seq fun K4 hK4 => T_region (L_y (y_move rfl) rfl (L_y (y_geq rfl rfl) rfl (L_nil (hK4 _ _ ?_))))))))⟩; refine T_cond rfl (fun h12 => ?_) (fun h12 => ?_)
 ·
  obtain ⟨a, b, hcf⟩ : ∃ a b, cutF c s = some (a, b) := by cases hc : cutF c s with | none => rw [hc] at hix; simp only [] at hix; omega | some p => exact ⟨p.1, p.2, rfl⟩
  rw [hcf] at hix; have hix2 : Lib.indexByte s c = (a.length : Int) := hix; obtain ⟨hs, hca⟩ := cutF_some hcf; have hsz := bsz s; have hsl : s.length = a.length + 1 + b.length := by rw [hs, List.length_append, List.length_cons]; omega
  rw [hix2]; refine T_seq fun K5 hK5 => T_drawnL [(0, true), (1, true), (2, true), (3, true), (4, true), (5, true), (6, true), (7, true), (8, true), (9, true), (10, true), (11, true)] hmix (by kernel_rfl) fun w2 l2 => have S2 := S1.like l2; DL_y rfl (y_move rfl) rfl (DL_y rfl (y_move rfl) rfl (DL_y rfl (y_ssliceH Tryz.underlying9 rfl rfl inferInstance (by omega)) rfl (DL_y rfl (y_move rfl) rfl (DL_y rfl (y_move rfl) rfl (DL_y rfl (y_move rfl) rfl (DL_y rfl (y_lens Tryz.underlying9 rfl) rfl (DL_y rfl (y_add rfl rfl (i64w (by omega))) rfl (DL_y rfl (y_ssliceL Tryz.underlying9 rfl rfl inferInstance (by omega)) rfl (DL_y rfl (y_assign rfl) rfl (DL_y rfl (y_assign rfl) rfl ?_)))))))))); refine DL_y rfl (y_assign rfl) rfl (DL_nil (hK5 _ _ (T_ret (ur (ret3 rfl rfl rfl rfl ?_))))); exact ⟨_, rfl, S2.like0, by unfold cutV; rw [hcf, cut_a hs, h1z, cut_b hs]⟩
 ·
  have hcf : cutF c s = none := by cases hc : cutF c s with | none => rfl | some p => rw [hc] at hix; have hix2 : Lib.indexByte s c = (p.1.length : Int) := hix; omega
  refine T_skip (hK2 _ _ (T_seq fun K6 hK6 => T_region (L_y (y_move rfl) rfl (L_y (y_assign rfl) rfl (L_y (y_assign rfl) rfl (L_y (y_assign rfl) rfl (L_nil (hK6 _ _ (T_ret (ur (ret3 rfl rfl rfl rfl ?_))))))))))); exact ⟨_, rfl, S1.like0, by unfold cutV; rw [hcf]⟩
theorem cutV_form (c : UInt8) (s : List UInt8) : ∃ a b f : Value, cutV c s = .tuple #[a, b, f] := by
  unfold cutV
  split
  · exact ⟨_, _, _, rfl⟩
  · exact ⟨_, _, _, rfl⟩
def preP (s p : List UInt8) : Prop := s.take p.length = p
instance (s p : List UInt8) : Decidable (preP s p) := inferInstanceAs (Decidable (s.take p.length = p))
theorem pre_iff (s p : List UInt8) : ((⟨s.toArray⟩ : ByteArray).extract 0 p.length = ⟨p.toArray⟩) ↔ preP s p := by
  rw [ext_list, List.drop_zero, Nat.sub_zero]
  constructor
  · intro h
    have := congrArg (fun b : ByteArray => b.data.toList) h
    exact this
  · intro h
    rw [show s.take p.length = p from h]
theorem pre_len {s p : List UInt8} (h : preP s p) : p.length ≤ s.length := by
  have := congrArg List.length h
  rw [List.length_take] at this
  omega
def cutP (s p : List UInt8) : Value := if preP s p then .tuple #[.string ⟨(s.drop p.length).toArray⟩, .bool true] else .tuple #[.string ⟨s.toArray⟩, .bool false]
theorem cutP_form (s p : List UInt8) : ∃ a b : Value, cutP s p = .tuple #[a, b] := by
  unfold cutP
  split
  · exact ⟨_, _, rfl⟩
  · exact ⟨_, _, rfl⟩
theorem ext_drop (s : List UInt8) (k : Nat) : (⟨s.toArray⟩ : ByteArray).extract k (⟨s.toArray⟩ : ByteArray).size = ⟨(s.drop k).toArray⟩ := by
  rw [ext_list, bsz, List.take_of_length_le (by rw [List.length_drop]; omega)]
theorem scut (c : UInt8) (s : List UInt8) (w0 : World) (hl : s.length ≤ 1000000000) :
    Calls Tryz.prog 46 #[.string ⟨s.toArray⟩, .string ⟨[c].toArray⟩] w0 fun e w' => ∃ u, e = .returned u ∧ Like w0 w' ∧ u = cutV c s := by
 refine enter1 (env := [(0, .string ⟨s.toArray⟩), (1, .string ⟨[c].toArray⟩)]) [.string ⟨s.toArray⟩, .string ⟨[c].toArray⟩] Tryz.func46 rfl Tryz.ntmps46 rfl rfl ?_; have S0 := St.start w0 noM; refine T_seq fun K1 hK1 => T_region (L_y (y_assign rfl) rfl (L_y (y_assign rfl) rfl (L_y (y_assign rfl) rfl (L_nil (hK1 _ _ (T_seq fun K2 hK2 => T_region (L_y (y_move rfl) rfl (L_y (y_move rfl) rfl (L_o (o_call Tryz.func83 rfl rfl (scut0 c s w0 hl) rfl rfl ?_)))))))))); rintro e1 w1 ⟨v1, rfl, l1, hu1⟩; refine ⟨_, rfl, ?_⟩; have S1 := S0.like l1; obtain ⟨va, vb, vf, hcv⟩ := cutV_form c s; rw [hcv] at hu1; subst hu1; refine L_y (y_extract rfl rfl) rfl (L_y (y_extract rfl rfl) rfl (L_y (y_extract rfl rfl) rfl (L_y (y_assign rfl) rfl (L_y (y_assign rfl) rfl (L_y (y_assign rfl) rfl (L_nil (hK2 _ _ (T_ret (ur (ret3 rfl rfl rfl rfl ?_)))))))))); exact ⟨_, rfl, S1.like0, by rw [hcv]; rfl⟩
theorem pref0 (s p : List UInt8) (w0 : World)  :
    Calls Tryz.prog 193 #[.string ⟨s.toArray⟩, .string ⟨p.toArray⟩] w0 fun e w' => ∃ u, e = .returned u ∧ Like w0 w' ∧ u = .bool (decide (preP s p)) := by
 refine enter1 (env := [(0, .string ⟨s.toArray⟩), (1, .string ⟨p.toArray⟩)]) [.string ⟨s.toArray⟩, .string ⟨p.toArray⟩] Tryz.func193 rfl Tryz.ntmps193 rfl rfl ?_; have hs := bsz s; have hp := bsz p; have S0 := St.start w0 noM; refine T_seq fun K1 hK1 => T_region (L_y (y_assign rfl) rfl (L_nil (hK1 _ _ (T_seq fun K2 hK2 => T_region (L_y (y_move rfl) rfl (L_y (y_lens Tryz.underlying9 rfl) rfl (L_y (y_move rfl) rfl (L_y (y_lens Tryz.underlying9 rfl) rfl (L_y (y_geq rfl rfl) rfl (L_y (y_move rfl) rfl ?_)))))))))); refine L_split 10 rfl (fun h10 => ?_) (fun h10 => ?_)
 ·
  refine L_gyes rfl rfl (L_y (y_move rfl) rfl (L_gyes rfl rfl (L_y (y_move rfl) rfl (L_gyes rfl rfl (L_y (y_lens Tryz.underlying9 rfl) rfl (L_gyes rfl rfl (L_y (y_ssliceH (u := p.length) Tryz.underlying9 rfl rfl (Nt.mk (by omega)) (by omega)) rfl (L_gyes rfl rfl (L_y (y_move rfl) rfl (L_gyes rfl rfl (L_y (y_seql rfl rfl) rfl (L_y (y_pk rfl rfl) rfl (L_y (y_assign rfl) rfl ?_))))))))))))); refine L_nil (hK2 _ _ (T_ret (ur (ret1 rfl rfl ?_)))); first | exact ⟨_, rfl, S0.like0, congrArg Value.bool (decide_eq_decide.2 (pre_iff s p))⟩ | exact ⟨_, rfl, S0.like0, congrArg Value.bool (decide_eq_false (fun h => by have := pre_len h; omega)).symm⟩
 ·
  refine L_gno rfl rfl rfl (L_gno rfl rfl rfl (L_gno rfl rfl rfl (L_gno rfl rfl rfl (L_gno rfl rfl rfl (L_gno rfl rfl rfl (L_y (y_pk rfl rfl) rfl (L_y (y_assign rfl) rfl (L_nil (hK2 _ _ (T_ret (ur (ret1 rfl rfl ?_)))))))))))); first | exact ⟨_, rfl, S0.like0, congrArg Value.bool (decide_eq_decide.2 (pre_iff s p))⟩ | exact ⟨_, rfl, S0.like0, congrArg Value.bool (decide_eq_false (fun h => by have := pre_len h; omega)).symm⟩
theorem pref (s p : List UInt8) (w0 : World)  :
    Calls Tryz.prog 176 #[.string ⟨s.toArray⟩, .string ⟨p.toArray⟩] w0 fun e w' => ∃ u, e = .returned u ∧ Like w0 w' ∧ u = .bool (decide (preP s p)) := by
 refine enter1 (env := [(0, .string ⟨s.toArray⟩), (1, .string ⟨p.toArray⟩)]) [.string ⟨s.toArray⟩, .string ⟨p.toArray⟩] Tryz.func176 rfl Tryz.ntmps176 rfl rfl ?_; have S0 := St.start w0 noM; refine T_seq fun K1 hK1 => T_region (L_y (y_assign rfl) rfl (L_nil (hK1 _ _ (T_seq fun K2 hK2 => T_region (L_y (y_move rfl) rfl (L_y (y_move rfl) rfl (L_o (o_call Tryz.func193 rfl rfl (pref0 s p w0) rfl rfl ?_)))))))); rintro e1 w1 ⟨v1, rfl, l1, rfl⟩; refine ⟨_, rfl, (have S1 := S0.like l1; L_y (y_assign rfl) rfl (L_nil (hK2 _ _ (T_ret (ur (ret1 rfl rfl ?_))))))⟩; exact ⟨_, rfl, S1.like0, rfl⟩
theorem cutp0 (s p : List UInt8) (w0 : World)  :
    Calls Tryz.prog 194 #[.string ⟨s.toArray⟩, .string ⟨p.toArray⟩] w0 fun e w' => ∃ u, e = .returned u ∧ Like w0 w' ∧ u = cutP s p := by
 refine enter1 (env := [(0, .string ⟨s.toArray⟩), (1, .string ⟨p.toArray⟩)]) [.string ⟨s.toArray⟩, .string ⟨p.toArray⟩] Tryz.func194 rfl Tryz.ntmps194 rfl rfl ?_; have hs := bsz s; have hp := bsz p; have S0 := St.start w0 noM; refine T_seq fun K1 hK1 => T_region (L_y (y_assign rfl) rfl (L_y (y_assign rfl) rfl (L_nil (hK1 _ _ (T_seq fun K2 hK2 => T_seq fun K3 hK3 => T_region (L_y (y_move rfl) rfl (L_y (y_move rfl) rfl (L_o (o_call Tryz.func193 rfl rfl (pref0 s p w0) rfl rfl ?_))))))))); rintro e1 w1 ⟨v1, rfl, l1, rfl⟩; refine ⟨_, rfl, (have S1 := S0.like l1; L_y ((by first | exact y_notD rfl | exact y_not rfl)) rfl ?_)⟩; refine L_nil (hK3 _ _ ?_); refine T_cond rfl (fun h9 => ?_) (fun h9 => ?_)
 ·
  have hn : ¬ preP s p := h9; refine T_seq fun K4 hK4 => T_region (L_y (y_move rfl) rfl (L_y (y_assign rfl) rfl (L_y (y_assign rfl) rfl (L_nil (hK4 _ _ (T_ret (ur (ret2 rfl rfl rfl ?_)))))))); exact ⟨_, rfl, S1.like0, by rw [cutP, if_neg hn]⟩
 ·
  have hy : preP s p := Classical.not_not.1 h9; have hpl := pre_len hy; refine T_skip (hK2 _ _ (T_seq fun K5 hK5 => T_region (L_y (y_move rfl) rfl (L_y (y_move rfl) rfl (L_y (y_lens Tryz.underlying9 rfl) rfl (L_y (y_ssliceL (l := p.length) Tryz.underlying9 rfl rfl (Nt.mk (by omega)) (by omega)) rfl (L_y (y_assign rfl) rfl (L_y (y_assign rfl) rfl (L_nil (hK5 _ _ (T_ret (ur ?_)))))))))))); refine ret2 rfl rfl rfl ?_; exact ⟨_, rfl, S1.like0, by rw [cutP, if_pos hy, ext_drop]⟩
theorem cutp (s p : List UInt8) (w0 : World)  :
    Calls Tryz.prog 177 #[.string ⟨s.toArray⟩, .string ⟨p.toArray⟩] w0 fun e w' => ∃ u, e = .returned u ∧ Like w0 w' ∧ u = cutP s p := by
 refine enter1 (env := [(0, .string ⟨s.toArray⟩), (1, .string ⟨p.toArray⟩)]) [.string ⟨s.toArray⟩, .string ⟨p.toArray⟩] Tryz.func177 rfl Tryz.ntmps177 rfl rfl ?_; have S0 := St.start w0 noM; refine T_seq fun K1 hK1 => T_region (L_y (y_assign rfl) rfl (L_y (y_assign rfl) rfl (L_nil (hK1 _ _ (T_seq fun K2 hK2 => T_region (L_y (y_move rfl) rfl (L_y (y_move rfl) rfl (L_o (o_call Tryz.func194 rfl rfl (cutp0 s p w0) rfl rfl ?_))))))))); rintro e1 w1 ⟨v1, rfl, l1, hu1⟩; refine ⟨_, rfl, ?_⟩; have S1 := S0.like l1; obtain ⟨va, vb, hcv⟩ := cutP_form s p; rw [hcv] at hu1; subst hu1; refine L_y (y_extract rfl rfl) rfl (L_y (y_extract rfl rfl) rfl (L_y (y_assign rfl) rfl (L_y (y_assign rfl) rfl (L_nil (hK2 _ _ (T_ret (ur (ret2 rfl rfl rfl ?_)))))))); exact ⟨_, rfl, S1.like0, by rw [hcv]; rfl⟩
end Go.Proofs.YtgaklngnfecdaaaGreat.Rev
namespace Go.Proofs.YtgaklngnfecdaaaGreat.Zx
open Go.RowKit Zk
section
variable {P : Program} {N : Nat} {Q : Post} {S : World → Prop} {env : Env} {w w0 : World} {K : Env → World → Prop} {dst : Option Tmp} {d : Tmp} {ty : TypeId} {pos : String} {after : Array Edge} {g : Option (Nat × Bool)}
theorem y_mkI {x : Operand} {t : TypeId} {v : Value} (hc : P.concrete t = true) (hx : ev env x = some v) : Y P S env ⟨dst, .makeInterface t x, ty, pos, after, g⟩ (.iface t v) := fun N a w ha _ => by
  simp only [execOp, ha.eval hx, Sem.run_bind, run_makeInterface w t v hc, Result.andThen_ok, Sem.run_pure]
theorem y_asHit {x : Operand} {t xt : TypeId} {v : Value} {td : TypeDesc} (ht : P.underlying t = some td) (hi : ∀ m, td ≠ .interface m) (hx : ev env x = some (.iface t v)) : Y P S env ⟨dst, .typeAssert x xt t true, ty, pos, after, g⟩ (.tuple #[v, .bool true]) := fun N a w ha _ => by
  have h1 : (Instr.typeAssert (.iface t v) xt t true).run P w = .ok (.tuple #[v, .bool true]) w := by
    simp only [Instr.typeAssert, Sem.run_bind, run_underlying ht, Result.andThen_ok]
    cases td <;> first | exact absurd rfl (hi _) | simp
  simp only [execOp, ha.eval hx, Sem.run_bind, h1, Result.andThen_ok, Sem.run_pure]
theorem y_asNil {x : Operand} {t xt : TypeId} {z : Value} {td : TypeDesc} (ht : P.underlying t = some td) (hi : ∀ m, td ≠ .interface m) (hz : ∀ W, (zeroValue t).run P W = .ok z W) (hx : ev env x = some .nilIface) : Y P S env ⟨dst, .typeAssert x xt t true, ty, pos, after, g⟩ (.tuple #[z, .bool false]) := fun N a w ha _ => by
  have h1 : (Instr.typeAssert .nilIface xt t true).run P w = .ok (.tuple #[z, .bool false]) w := by
    simp only [Instr.typeAssert, Sem.run_bind, run_underlying ht, Result.andThen_ok]
    cases td <;> first | exact absurd rfl (hi _) | simp [hz]
  simp only [execOp, ha.eval hx, Sem.run_bind, h1, Result.andThen_ok, Sem.run_pure]
theorem L_panic {ops : Array Oper} {rest : List Oper} {x : Operand} {t : TypeId} {v : Value} (hx : ev env x = some (.iface t v)) (h : Q (.panic [{ v := .iface t v, recovered := false }]) env w) :
    L P N ops Q (⟨none, .panic x, ty, pos, after, none⟩ :: rest) env w := L_o fun a ha => by
  have hr : (execOp a.eval ⟨none, .panic x, ty, pos, after, none⟩).run P w = .halt (.panic (.iface t v)) w := by
    simp only [execOp, ha.eval hx, Instr.panic]
    rfl
  unfold Oper.wp
  rw [hr]
  exact ⟨env, ha, h⟩
theorem o_callP {f : FuncId} {fn : Func} {xs : Array Operand} {ts : Array TypeId} {args : List Value} {R : Ending → World → Prop} (hf : P.funcs[f]? = some fn) (hn : (fn.name == "runtime.NumGoroutine") = false) (hb : fn.body.isNone = false)
    (hc : Calls P f args.toArray w R) (hargs : evl env xs.toList = some args) (hd : Nat.blt d N = true)
    (h : ∀ e w', R e w' → (∃ v, e = .returned v ∧ K ((d, v) :: env) w') ∨ ∃ c, e = .panicked c ∧ Q (.panic c) env w') :
    O P N Q ⟨some d, .call { callee := .value (.func f), args := xs, argTypes := ts }, ty, pos, after, g⟩ env w K := fun a ha => by
  have hmap : xs.map a.eval = args.toArray := by
    rw [← evl_map ha xs.toList args hargs]
    apply Array.ext'
    simp
  unfold Oper.wp
  have hrun : (execOp a.eval ⟨some d, .call { callee := .value (.func f), args := xs, argTypes := ts }, ty, pos, after, g⟩).run P w = .ok (.enter f args.toArray) w := by
    simp only [execOp, resolve, hmap, Act.eval, Deferred.ofValue, invoke, callFunc, Sem.run_bind, Sem.run_pure, Result.andThen_ok, run_program, hf, hn, hb, Bool.false_eq_true, if_false, Array.append_empty, Array.empty_append]
  rw [hrun]
  refine hc.mono fun e w' hR => ?_
  rcases h e w' hR with ⟨v, rfl, hK⟩ | ⟨c, rfl, hK⟩
  · exact ⟨_, ha.put d v hd, hK⟩
  · exact ⟨env, ha, hK⟩
theorem L_deferV {ops : Array Oper} {rest : List Oper} {x : Operand} {f : FuncId} {cs : List Value} (hx : ev env x = some (.func (.func f) #[] cs.toArray))
    (h : L P N ops Q rest ((1000000, .agg #[.agg #[.int .i64 (f : Int), .agg #[], .agg cs.toArray]]) :: env) w) (hd0 : dfs env = [] := by rfl) :
    L P N ops Q (⟨none, .defer { callee := .value x, args := #[], argTypes := #[] }, ty, pos, after, none⟩ :: rest) env w :=
  L_o fun a ha => by
    unfold Oper.wp
    have hrun : (execOp a.eval ⟨none, .defer { callee := .value x, args := #[], argTypes := #[] }, ty, pos, after, none⟩).run P w = .ok (.defer ⟨.fn (.func f) cs.toArray, #[]⟩) w := by
      simp only [execOp, resolve, ha.eval hx, Deferred.ofValue, Sem.run_bind, Sem.run_pure, Result.andThen_ok, Array.append_empty, Array.empty_append, Array.map_empty]
    rw [hrun]
    refine ⟨_, ⟨?_, ha.small, ha.size, fun i v hv => ?_⟩, h⟩
    · show _ :: a.defers = _
      rw [ha.defers, hd0]
      rfl
    · simp only [look] at hv
      cases hb : Nat.beq 1000000 i with
      | false =>
        rw [hb] at hv
        exact ha.vals i v hv
      | true =>
        rw [hb] at hv
        cases hv
end
def lookD : Env → Option Value
  | [] => none
  | (i, v) :: r => bif Nat.beq i 1000000 then some v else lookD r
theorem dfs_lookD : ∀ {e : Env} {D : Value}, lookD e = some D → dfs e = decL D
  | [], _, h => by cases h
  | (i, v) :: r, D, h => by
    simp only [lookD] at h
    simp only [dfs]
    cases hb : Nat.beq i 1000000 with
    | true =>
      rw [hb] at h
      simp only [cond_true, Option.some.injEq] at h
      rw [h]
      rfl
    | false =>
      rw [hb] at h
      exact dfs_lookD h
theorem Sub.dfr {e : Env} {D : Value} (h : lookD e = some D) : Sub [(1000000, D)] e := by
  refine ⟨(dfs_lookD h).symm, fun i v hi => ?_⟩
  simp only [Zx.look] at hi
  cases hb : Nat.beq 1000000 i with
  | true => rw [hb] at hi; cases hi
  | false => rw [hb] at hi; cases hi
theorem wp_mono2 {P : Program} {o : Oper} {a : Act} {w : World} {K K' : Act → World → Prop} {Q Q' : Exit → Act → World → Prop} (hK : ∀ a w, K a w → K' a w) (hQ : ∀ e a w, Q e a w → Q' e a w) (h : o.wp P a w K Q) : o.wp P a w K' Q' := by
  unfold Oper.wp at *
  generalize (execOp a.eval o).run P w = r at *
  unfold Oper.upon at *
  split at h
  · exact hK _ _ h
  · exact hK _ _ h
  · exact hK _ _ h
  · refine h.mono fun e w' hh => ?_
    cases e with
    | returned v => exact hK _ _ hh
    | panicked c => exact hQ _ _ _ hh
    | outgrown => obtain ⟨a0, w0, h0⟩ := hh; exact ⟨a0, w0, hQ _ _ _ h0⟩
  · exact h.mono fun v w' hh => hK _ _ hh
  · exact hQ _ _ _ h
  · exact h.elim
theorem opsS {P : Program} {ops : Array Oper} {Q0 : Exit → Act → World → Prop} {Q : Exit → Act → List Frame → World → Prop} {cs : List Frame} (hno : ¬ LetsOut Q0) (hQ : ∀ e a w, Q0 e a w → Q e a cs w) : ∀ (l : List Nat) (a : Act) (w : World), wpOps P ops Q0 l a w → wpOpsS P ops Q l a cs w
  | [], a, w, h => hQ _ _ _ h
  | i :: l, a, w, h => by
    unfold wpOps at h
    unfold wpOpsS
    cases ho : ops[i]? with
    | none =>
      simp only [ho] at h ⊢
      exact opsS hno hQ l a w h
    | some o =>
      simp only [ho] at h ⊢
      by_cases hw : Region.wanted o (yielded ops a.tmps) = true
      · simp only [hw, if_true] at h ⊢
        have h1 := h.resolve_right (fun k => hno k.2)
        have h2 : o.wp P a w (fun a' w' => wpOpsS P ops Q l a' cs w') (fun e a w => Q e a cs w) := wp_mono2 (fun a w h => opsS hno hQ l a w h) hQ h1
        unfold Oper.wp at h2
        split
        · rename_i w' hr
          rw [hr] at h2
          exact h2.elim
        · exact h2
      · simp only [hw, if_false, Bool.false_eq_true] at h ⊢
        exact opsS hno hQ l _ w h
abbrev recOp : Op := .call { callee := .builtin .recover, args := #[], argTypes := #[] }
def Recov (u u2 : FrameMode) (v : Value) : Prop := (u = .returning ∧ u2 = .returning ∧ v = .nilIface) ∨ ∃ older, u = .panicking ({ v := v, recovered := false } :: older) ∧ u2 = .panicking ({ v := v, recovered := true } :: older)
theorem enterR {P : Program} {N : Nat} {env : Env} {w : World} {f : FuncId} {fn : Func} {id : Nat} {d : Tmp} {ty : TypeId} {pos : String} {after : Array Edge} {rest : List Oper} {y : Code} {R : Ending → World → Prop} {u u2 : FrameMode} {v : Value} (args : List Value)
    (hu : Recov u u2 v) (hf : P.funcs[f]? = some fn) (hb : fn.body = some (.seq (.region id ((⟨some d, recOp, ty, pos, after, none⟩ :: rest).toArray) false) y)) (hn : fn.ntmps = N) (hN : Nat.ble args.length N = true) (he : envOf args 0 = env) (hd : Nat.blt d N = true)
    (h : ∀ K : Env → World → Prop, (∀ e w, T P N y (bodyQ P fn R) e w → K e w) → L P N ((⟨some d, recOp, ty, pos, after, none⟩ :: rest).toArray) (thenQ K (bodyQ P fn R)) rest ((d, v) :: env) w) (hd0 : dfs env = [] := by rfl) (hsm : Nat.ble N 1000000 = true := by rfl) :
    CallsD P f args.toArray u w fun e u' w' => u' = u2 ∧ R e w' := by
  refine callsD_of_wpS hf hb fun c₀ cs hu0 => ?_
  have hsm' : N ≤ 1000000 := by simpa using hsm
  have hN' : args.length ≤ N := by simpa using hN
  have hfit : Fits N env { tmps := args.toArray ++ Array.replicate (fn.ntmps - args.toArray.size) undef, defers := [] } := by
    refine ⟨hd0.symm, hsm', by simp [hn]; omega, fun i v hv => ?_⟩
    have h1 : args[i]? = some v := by subst he; simpa using (look_envOf _ _ _ _ hv).2
    have h2 := (List.getElem?_eq_some_iff.1 h1).1
    rw [Array.getElem?_append_left (by simpa using h2)]
    simpa using h1
  generalize ({ tmps := args.toArray ++ Array.replicate (fn.ntmps - args.toArray.size) undef, defers := [] } : Act) = a at hfit
  have key : ∀ (Q' : Post) (e : Exit) (a' : Act) (w' : World), Q' = bodyQ P fn R → lift N Q' e a' w' → bodyPostS P fn c₀ cs (fun e u' w' => u' = u2 ∧ R e w') e a' ({ c₀ with mode := u2 } :: cs) w' := by
    rintro Q' e a' w' rfl hq
    cases e with
    | normal =>
      obtain ⟨e', h1, h0, v, h2, h3⟩ := hq
      exact ⟨h1.defers.trans h0, u2, rfl, v, h2 N a' h1, rfl, h3⟩
    | ret =>
      obtain ⟨e', h1, h0, v, h2, h3⟩ := hq
      exact ⟨h1.defers.trans h0, u2, rfl, v, h2 N a' h1, rfl, h3⟩
    | panic c =>
      obtain ⟨e', h1, h0, h2⟩ := hq
      exact ⟨h1.defers.trans h0, u2, rfl, rfl, h2⟩
    | outgrown => exact hq.elim
    | exit i => obtain ⟨_, _, h⟩ := hq; exact h.elim
    | goto i => obtain ⟨_, _, h⟩ := hq; exact h.elim
  have hrun : (execOp a.eval ⟨some d, recOp, ty, pos, after, none⟩).run P w = .ok .recover w := rfl
  have hrec : (match recoverD (c₀ :: cs) with
      | some (v', cs') => v' = v ∧ cs' = { c₀ with mode := u2 } :: cs
      | none => v = .nilIface ∧ (c₀ :: cs) = { c₀ with mode := u2 } :: cs) := by
    rcases hu with ⟨h1, h2, h3⟩ | ⟨older, h1, h2⟩
    · have e : recoverD (c₀ :: cs) = none := by simp [recoverD, hu0, h1]
      rw [e]
      refine ⟨h3, ?_⟩
      rw [h2, ← h1, ← hu0]
    · have e : recoverD (c₀ :: cs) = some (v, { c₀ with mode := u2 } :: cs) := by simp [recoverD, hu0, h1, h2]
      rw [e]
      exact ⟨rfl, rfl⟩
  refine wpS_seq (wpS_region ?_)
  have hrange : List.range ((⟨some d, recOp, ty, pos, after, none⟩ :: rest : List Oper).toArray).size = 0 :: List.range' 1 rest.length := by
    rw [List.size_toArray, List.length_cons, List.range_eq_range', List.range'_succ]
  rw [hrange]
  have hL := h (fun e w => T P N y (bodyQ P fn R) e w) (fun _ _ h => h) _ (hfit.put d v hd)
  rw [← wpOps_eq_wpList rest 1 (fun j => by simp [Nat.add_comm 1 j])] at hL
  have hgo : wpOpsS P ((⟨some d, recOp, ty, pos, after, none⟩ :: rest : List Oper).toArray) (Exit.thenS (y.wpS P (bodyPostS P fn c₀ cs (fun e u' w' => u' = u2 ∧ R e w'))) (bodyPostS P fn c₀ cs (fun e u' w' => u' = u2 ∧ R e w'))) (List.range' 1 rest.length) (a.put (some d) v) ({ c₀ with mode := u2 } :: cs) w := by
    refine opsS (fun ⟨_, _, h⟩ => h.elim) (fun e a' w' hq => ?_) _ _ _ hL
    cases e with
    | normal =>
      obtain ⟨e', h1, h2⟩ := hq
      exact wpS_of_wp (Code.wp_mono (fun e a w hh => key _ e a w rfl hh) (h2 a' h1))
    | exit i => obtain ⟨e', h1, h2⟩ := hq; exact key _ (.exit i) a' w' rfl ⟨e', h1, h2⟩
    | goto i => obtain ⟨e', h1, h2⟩ := hq; exact key _ (.goto i) a' w' rfl ⟨e', h1, h2⟩
    | ret => obtain ⟨e', h1, h2⟩ := hq; exact key _ .ret a' w' rfl ⟨e', h1, h2⟩
    | panic c => obtain ⟨e', h1, h2⟩ := hq; exact key _ (.panic c) a' w' rfl ⟨e', h1, h2⟩
    | outgrown => exact hq.elim
  unfold wpOpsS
  simp only [List.getElem?_toArray, List.getElem?_cons_zero, Region.wanted, if_true, hrun]
  split at hrec
  · rename_i v' cs' hr
    rw [hr]
    obtain ⟨rfl, rfl⟩ := hrec
    exact hgo
  · rename_i hr
    rw [hr]
    obtain ⟨rfl, hcs⟩ := hrec
    rw [hcs]
    exact hgo
end Go.Proofs.YtgaklngnfecdaaaGreat.Zx
namespace Go.Proofs.YtgaklngnfecdaaaGreat.Rev
open Go.RowKit Zk Zx
open Oid (idf hexL idf_len readR)
open Tre (nmOk)
def flt : List PanicEntry := [{ v := .iface 235 (.agg #[.int .i64 12]), recovered := false }]
def rdR (g : Nat) (s : List UInt8) : Res := blk g 198 #[.string ⟨s.toArray⟩]
theorem rd_lt {w : World} {g : Nat} {s : List UInt8} (h : (rdR g s).holds w) : ∀ i, (rdR g s).dom i → i < w.heap.size := fun i hi => by
  have hi2 : i = g := hi
  subst hi2
  exact Blk.lt h
def lineR (w s : List UInt8) : Option (List UInt8 × List UInt8) := match cutF 10 s with
  | none => none
  | some (a, b) => if preP s (w ++ [32]) ∧ w.length < a.length then some (a.drop (w.length + 1), b) else none
theorem lineR_cut {w s : List UInt8} (h : cutF 10 s = none) : lineR w s = none := by unfold lineR; rw [h]
theorem lineR_no {w s a b : List UInt8} (h : cutF 10 s = some (a, b)) (hn : ¬ (preP s (w ++ [32]) ∧ w.length < a.length)) : lineR w s = none := by unfold lineR; rw [h]; exact if_neg hn
theorem lineR_yes {w s a b : List UInt8} (h : cutF 10 s = some (a, b)) (hn : preP s (w ++ [32]) ∧ w.length < a.length) : lineR w s = some (a.drop (w.length + 1), b) := by unfold lineR; rw [h]; exact if_pos hn
theorem lineR_len {w s a b : List UInt8} (h : lineR w s = some (a, b)) : a.length + b.length < s.length := by
  unfold lineR at h
  split at h
  · cases h
  · rename_i a' b' hc
    split at h
    · cases h
      obtain ⟨h1, _⟩ := cutF_some hc
      rw [h1, List.length_append, List.length_cons, List.length_drop]
      omega
    · cases h
theorem cutV_b (c : UInt8) (s : List UInt8) : ∃ a b f, cutV c s = .tuple #[.string ⟨a.toArray⟩, .string ⟨b.toArray⟩, .bool f] ∧ (f = true → cutF c s = some (a, b)) ∧ (f = false → cutF c s = none) ∧ a.length ≤ s.length := by
  unfold cutV
  cases h : cutF c s with
  | none => exact ⟨s, [], false, rfl, (fun h => by cases h), fun _ => rfl, Nat.le_refl _⟩
  | some p =>
    obtain ⟨h1, _⟩ := cutF_some (a := p.1) (b := p.2) h
    exact ⟨p.1, p.2, true, rfl, fun _ => rfl, (fun h => by cases h), by rw [h1, List.length_append]; omega⟩
theorem numR_b (l : List UInt8) : ∃ a b : Int, numR l = .tuple #[.int .i64 a, .int .i64 b] ∧ ((b = 0 ∧ numOk l = true ∧ a = (numV l : Int)) ∨ (b = 12 ∧ numOk l = false)) := by
  unfold numR
  cases h : numOk l with
  | true => exact ⟨_, _, rfl, .inl ⟨rfl, rfl, rfl⟩⟩
  | false => exact ⟨_, _, rfl, .inr ⟨rfl, rfl⟩⟩
def numbR (w s : List UInt8) : Option (Nat × List UInt8) := match lineR w s with
  | none => none
  | some (a, b) => if numOk a then some (numV a, b) else none
def textR (s : List UInt8) : Option (List UInt8) := if preP s [10] then some (s.drop 1) else none
theorem cutP_b (s p : List UInt8) : ∃ a f, cutP s p = .tuple #[.string ⟨a.toArray⟩, .bool f] ∧ (f = true → preP s p ∧ a = s.drop p.length) ∧ (f = false → ¬ preP s p) := by
  unfold cutP
  by_cases h : preP s p
  · exact ⟨_, true, by rw [if_pos h], fun _ => ⟨h, rfl⟩, (fun h => by cases h)⟩
  · exact ⟨_, false, by rw [if_neg h], fun h => (by cases h), fun _ => h⟩
theorem next (g : Nat) (s w : List UInt8) (w0 : World) (hw : (rdR g s).holds w0) (hwl : w.length ≤ 10) :
    Calls Tryz.prog 146 #[.pointer (some ⟨g, 0, none⟩), .string ⟨w.toArray⟩] w0 fun e w' => ∃ u, e = .returned u ∧ Turned w0 w' (rdR g s) (rdR g s) ∧ u = .bool (decide (preP s (w ++ [32]))) := by
 refine enter1 (env := [(0, .pointer (some ⟨g, 0, none⟩)), (1, .string ⟨w.toArray⟩)]) [.pointer (some ⟨g, 0, none⟩), .string ⟨w.toArray⟩] Tryz.func146 rfl Tryz.ntmps146 rfl rfl ?_; have hbs := bsz s; have hbw := bsz w; have S0 := St.borrow1 (rdR g s) hw (rd_lt hw); refine T_seq fun K1 hK1 => T_region (L_y (y_assign rfl) rfl (L_nil (hK1 _ _ (T_seq fun K2 hK2 => T_region (L_y (y_move rfl) rfl (L_y (y_nilp rfl) rfl (L_y (y_fieldA 0 Tryz.underlying198 rfl sz9 rfl rfl rfl) rfl (L_y (y_ldc Tryz.underlying9 rfl rfl (((S0.blk 0 rfl).cell _).trans (by rfl))) rfl ?_)))))))); refine L_y (y_move rfl) rfl (L_y (y_cat rfl rfl (by rw [bsz, bsz32]; omega)) rfl ?_); rw [cat32]; refine L_o (o_call Tryz.func176 rfl rfl (pref s (w ++ [32]) w0) rfl rfl ?_); rintro e1 w1 ⟨v1, rfl, l1, rfl⟩; refine ⟨_, rfl, (have S1 := S0.like l1; L_y (y_assign rfl) rfl (L_nil (hK2 _ _ (T_ret (ur (ret1 rfl rfl ?_))))))⟩; exact ⟨_, rfl, S1.turned1 0 rfl, rfl⟩
theorem take (g : Nat) (s w : List UInt8) (w0 : World) (hw : (rdR g s).holds w0) (hwl : w.length ≤ 10) (hl : s.length ≤ 100000000) :
    Calls Tryz.prog 147 #[.pointer (some ⟨g, 0, none⟩), .string ⟨w.toArray⟩] w0 fun e w' => (e = .panicked flt ∧ Turned w0 w' (rdR g s) (rdR g s) ∧ lineR w s = none) ∨ ∃ u, e = .returned u ∧ ∃ a b, lineR w s = some (a, b) ∧ Turned w0 w' (rdR g s) (rdR g b) ∧ u = .string ⟨a.toArray⟩ := by
 refine enter1 (env := [(0, .pointer (some ⟨g, 0, none⟩)), (1, .string ⟨w.toArray⟩)]) [.pointer (some ⟨g, 0, none⟩), .string ⟨w.toArray⟩] Tryz.func147 rfl Tryz.ntmps147 rfl rfl ?_; have hbs := bsz s; have hbw := bsz w; have S0 := St.borrow1 (rdR g s) hw (rd_lt hw); refine T_seq fun K1 hK1 => T_region (L_y (y_assign rfl) rfl (L_nil (hK1 _ _ (T_seq fun K2 hK2 => T_region (L_y (y_move rfl) rfl (L_y (y_nilp rfl) rfl (L_y (y_fieldA 0 Tryz.underlying198 rfl sz9 rfl rfl rfl) rfl (L_y (y_ldc Tryz.underlying9 rfl rfl (((S0.blk 0 rfl).cell _).trans (by rfl))) rfl ?_)))))))); refine L_o (o_call Tryz.func46 rfl rfl (scut 10 s w0 (by omega)) rfl rfl ?_); rintro e1 w1 ⟨v1, rfl, l1, hu1⟩; refine ⟨_, rfl, ?_⟩; have S1 := S0.like l1; obtain ⟨a, b, f, hcv, hf1, hf2, hal⟩ := cutV_b 10 s; rw [hcv] at hu1; subst hu1; have hba := bsz a; have hbb := bsz b; refine L_y (y_move rfl) rfl (L_y (y_extract rfl rfl) rfl (L_y (y_extract rfl rfl) rfl (L_y (y_extract rfl rfl) rfl (L_y (y_assign rfl) rfl (L_y (y_assign rfl) rfl (L_y (y_assign rfl) rfl (L_nil (hK2 _ _ (T_seq fun K3 hK3 => T_seq fun K4 hK4 => T_region (L_y (y_move rfl) rfl (L_y ((by first | exact y_notD rfl | exact y_not rfl)) rfl ?_))))))))))); refine L_y (y_move rfl) rfl ?_; refine L_splitB 19 rfl (fun h19 => ?_) (fun h19 => ?_)
 ·
  refine L_gno rfl rfl rfl (L_gno rfl rfl rfl (L_gno rfl rfl rfl (L_gno rfl rfl rfl (L_y (y_pk rfl rfl) rfl (L_y (y_move rfl) rfl (L_gno rfl rfl rfl (L_gno rfl rfl rfl (L_gno rfl rfl rfl (L_gno rfl rfl rfl (L_gno rfl rfl rfl (L_y (y_pk rfl rfl) rfl (L_nil (hK4 _ _ ?_))))))))))))); refine T_true rfl (T_region (L_y (y_build rfl (show _ = some #[Value.int .i64 12] by kernel_rfl)) rfl (L_y (y_mkI (by kernel_rfl) rfl) rfl (L_panic rfl ?_)))); exact ⟨rfl, .inl ⟨rfl, S1.turned1 0 rfl, by first | exact lineR_cut (hf2 (by simpa using h19)) | exact lineR_no (hf1 (by simpa using h19)) (fun h => h25 h.1) | exact lineR_no (hf1 (by simpa using h19)) (fun h => by omega)⟩⟩
 ·
  refine L_gyes rfl rfl (L_y (y_move rfl) rfl (L_gyes rfl rfl (L_y (y_move rfl) rfl (L_gyes rfl rfl (L_o (o_call Tryz.func146 rfl rfl (next g s w w1 (S1.get 0 rfl) hwl) rfl rfl ?_)))))); rintro e3 w3 ⟨v3, rfl, T3, rfl⟩; refine ⟨_, rfl, (have S3 := S1.turn 0 rfl T3; L_gyes rfl rfl (L_y ((by first | exact y_notD rfl | exact y_not rfl)) rfl ?_))⟩; refine L_y (y_pk rfl rfl) rfl (L_y (y_move rfl) rfl ?_); refine L_split 25 rfl (fun h25 => ?_) (fun h25 => ?_)
  ·
   refine L_gno rfl rfl rfl (L_gno rfl rfl rfl (L_gno rfl rfl rfl (L_gno rfl rfl rfl (L_gno rfl rfl rfl (L_y (y_pk rfl rfl) rfl (L_nil (hK4 _ _ (T_true rfl (T_region (L_y (y_build rfl (show _ = some #[Value.int .i64 12] by kernel_rfl)) rfl (L_y (y_mkI (by kernel_rfl) rfl) rfl (L_panic rfl ?_)))))))))))); exact ⟨rfl, .inl ⟨rfl, S3.turned1 0 rfl, by first | exact lineR_cut (hf2 (by simpa using h19)) | exact lineR_no (hf1 (by simpa using h19)) (fun h => h25 h.1) | exact lineR_no (hf1 (by simpa using h19)) (fun h => by omega)⟩⟩
  ·
   refine L_gyes rfl rfl (L_y (y_move rfl) rfl (L_gyes rfl rfl (L_y (y_lens Tryz.underlying9 rfl) rfl (L_gyes rfl rfl (L_y (y_move rfl) rfl (L_gyes rfl rfl (L_y (y_lens Tryz.underlying9 rfl) rfl (L_gyes rfl rfl (L_y (y_leq rfl rfl) rfl (L_y (y_pk rfl rfl) rfl (L_nil (hK4 _ _ ?_)))))))))))); refine T_cond rfl (fun h31 => ?_) (fun h31 => ?_)
   ·
    refine T_region (L_y (y_build rfl (show _ = some #[Value.int .i64 12] by kernel_rfl)) rfl (L_y (y_mkI (by kernel_rfl) rfl) rfl (L_panic rfl ?_))); exact ⟨rfl, .inl ⟨rfl, S3.turned1 0 rfl, by first | exact lineR_cut (hf2 (by simpa using h19)) | exact lineR_no (hf1 (by simpa using h19)) (fun h => h25 h.1) | exact lineR_no (hf1 (by simpa using h19)) (fun h => by omega)⟩⟩
   ·
    refine T_skip (hK3 _ _ (T_seq fun K5 hK5 => T_region (L_y (y_move rfl) rfl (L_y (y_move rfl) rfl (L_y (y_nilp rfl) rfl (L_y (y_fieldA 0 Tryz.underlying198 rfl sz9 rfl rfl rfl) rfl (L_o (o_st1 S3 0 rfl rfl rfl rfl sz9 (by simp; done) fun w5 S5 => ?_)))))))); refine L_nil (hK5 _ _ (T_seq fun K6 hK6 => T_region (L_y (y_move rfl) rfl (L_y (y_move rfl) rfl (L_y (y_lens Tryz.underlying9 rfl) rfl (L_y (y_add rfl rfl (i64w (by omega))) rfl (L_y (y_ssliceL (l := w.length + 1) Tryz.underlying9 rfl rfl (Nt.mk (by omega)) (by omega)) rfl (L_y (y_assign rfl) rfl (L_nil (hK6 _ _ (T_ret (ur ?_)))))))))))); refine ret1 rfl rfl ?_; have hok : preP s (w ++ [32]) ∧ w.length < a.length := ⟨Classical.byContradiction (fun h => h25 h), by omega⟩; exact .inr ⟨_, rfl, _, b, lineR_yes (hf1 (by simpa using h19)) hok, S5.turned1 0 rfl, by rw [ext_drop]⟩
theorem text_ (g : Nat) (s : List UInt8) (w0 : World) (hw : (rdR g s).holds w0) :
    Calls Tryz.prog 149 #[.pointer (some ⟨g, 0, none⟩)] w0 fun e w' => (e = .panicked flt ∧ Turned w0 w' (rdR g s) (rdR g s) ∧ textR s = none) ∨ ∃ u, e = .returned u ∧ ∃ a, textR s = some a ∧ Turned w0 w' (rdR g s) (rdR g s) ∧ u = .string ⟨a.toArray⟩ := by
 refine enter1 (env := [(0, .pointer (some ⟨g, 0, none⟩))]) [.pointer (some ⟨g, 0, none⟩)] Tryz.func149 rfl Tryz.ntmps149 rfl rfl ?_; have hbs := bsz s; have S0 := St.borrow1 (rdR g s) hw (rd_lt hw); refine T_seq fun K1 hK1 => T_region (L_y (y_assign rfl) rfl (L_nil (hK1 _ _ (T_seq fun K2 hK2 => T_region (L_y (y_move rfl) rfl (L_y (y_nilp rfl) rfl (L_y (y_fieldA 0 Tryz.underlying198 rfl sz9 rfl rfl rfl) rfl (L_y (y_ldc Tryz.underlying9 rfl rfl (((S0.blk 0 rfl).cell _).trans (by rfl))) rfl ?_)))))))); refine L_o (o_call Tryz.func177 rfl rfl (cutp s [10] w0) rfl rfl ?_); rintro e1 w1 ⟨v1, rfl, l1, hu1⟩; refine ⟨_, rfl, ?_⟩; have S1 := S0.like l1; obtain ⟨a, f, hcv, hf1, hf2⟩ := cutP_b s [10]; rw [hcv] at hu1; subst hu1; refine L_y (y_move rfl) rfl (L_y (y_extract rfl rfl) rfl (L_y (y_extract rfl rfl) rfl (L_y (y_assign rfl) rfl (L_y (y_assign rfl) rfl (L_nil (hK2 _ _ (T_seq fun K3 hK3 => T_seq fun K4 hK4 => T_region (L_y (y_move rfl) rfl (L_y ((by first | exact y_notD rfl | exact y_not rfl)) rfl ?_))))))))); refine L_nil (hK4 _ _ ?_); refine T_condB rfl (fun h14 => ?_) (fun h14 => ?_)
 ·
  refine T_region (L_y (y_build rfl (show _ = some #[Value.int .i64 12] by kernel_rfl)) rfl (L_y (y_mkI (by kernel_rfl) rfl) rfl (L_panic rfl ?_))); exact ⟨rfl, .inl ⟨rfl, S1.turned1 0 rfl, by unfold textR; exact if_neg (hf2 (by simpa using h14))⟩⟩
 ·
  refine T_skip (hK3 _ _ (T_seq fun K5 hK5 => T_region (L_y (y_move rfl) rfl (L_y (y_assign rfl) rfl (L_nil (hK5 _ _ (T_ret (ur (ret1 rfl rfl ?_))))))))); obtain ⟨hp, ha⟩ := hf1 (by simpa using h14); exact .inr ⟨_, rfl, a, by unfold textR; rw [if_pos hp, ha]; rfl, S1.turned1 0 rfl, rfl⟩
theorem numb (g : Nat) (s w : List UInt8) (w0 : World) (hw : (rdR g s).holds w0) (hwl : w.length ≤ 10) (hl : s.length ≤ 100000000) :
    Calls Tryz.prog 148 #[.pointer (some ⟨g, 0, none⟩), .string ⟨w.toArray⟩] w0 fun e w' => (e = .panicked flt ∧ ∃ s', Turned w0 w' (rdR g s) (rdR g s') ∧ numbR w s = none) ∨ ∃ u, e = .returned u ∧ ∃ a b, numbR w s = some (a, b) ∧ Turned w0 w' (rdR g s) (rdR g b) ∧ u = .int .i64 (a : Int) := by
  refine enter1 (env := [(0, .pointer (some ⟨g, 0, none⟩)), (1, .string ⟨w.toArray⟩)]) [.pointer (some ⟨g, 0, none⟩), .string ⟨w.toArray⟩] Tryz.func148 rfl Tryz.ntmps148 rfl rfl ?_
  have hbs := bsz s
  have hbw := bsz w
  have S0 := St.borrow1 (rdR g s) hw (rd_lt hw)
  refine T_seq fun K1 hK1 => ?_
  refine T_region ?_
  refine L_y (y_assign rfl) rfl ?_
  refine L_nil ?_
  refine hK1 _ _ ?_
  refine T_seq fun K2 hK2 => ?_
  refine T_region ?_
  refine L_y (y_move rfl) rfl ?_
  refine L_y (y_move rfl) rfl ?_
  refine L_o (o_callP Tryz.func147 rfl rfl (take g s w w0 (S0.get 0 rfl) hwl hl) rfl rfl ?_)
  rintro e1 w1 (⟨rfl, T1, hno⟩ | ⟨v1, rfl, a, b, hli, T1, rfl⟩)
  · exact .inr ⟨_, rfl, ⟨rfl, .inl ⟨rfl, _, St.turned1 (S0.turn 0 rfl T1) 0 rfl, by unfold numbR; rw [hno]⟩⟩⟩
  refine .inl ⟨_, rfl, ?_⟩
  have S1 := S0.turn 0 rfl T1
  have hll := lineR_len hli
  refine L_o (o_call Tryz.func47 rfl rfl (number ⟨a.toArray⟩ w1) rfl rfl ?_)
  rintro e2 w2 ⟨v2, rfl, l2, hu2⟩
  refine ⟨_, rfl, ?_⟩
  have S2 := S1.like l2
  obtain ⟨va, vb, hnv, hnc⟩ := numR_b a
  have hnv2 : numR (⟨a.toArray⟩ : ByteArray).data.toList = .tuple #[.int .i64 va, .int .i64 vb] := hnv
  rw [hnv2] at hu2
  subst hu2
  refine L_y (y_move rfl) rfl ?_
  refine L_y (y_extract rfl rfl) rfl ?_
  refine L_y (y_extract rfl rfl) rfl ?_
  refine L_y (y_assign rfl) rfl ?_
  refine L_y (y_assign rfl) rfl ?_
  refine L_nil ?_
  refine hK2 _ _ ?_
  refine T_seq fun K3 hK3 => ?_
  refine T_seq fun K4 hK4 => ?_
  refine T_region ?_
  refine L_y (y_move rfl) rfl ?_
  refine L_y (y_neq rfl rfl) rfl ?_
  refine L_nil ?_
  refine hK4 _ _ ?_
  refine T_cond rfl (fun h15 => ?_) (fun h15 => ?_)
  ·
    have hbad : vb = 12 ∧ numOk a = false := hnc.resolve_left (fun h => h15 h.1)
    refine T_region ?_
    refine L_y (y_move rfl) rfl ?_
    refine L_y (y_build rfl (show _ = some #[Value.int .i64 vb] by kernel_rfl)) rfl ?_
    refine L_y (y_mkI (by kernel_rfl) rfl) rfl ?_
    refine L_panic rfl ?_
    rw [hbad.1]
    exact ⟨rfl, .inl ⟨rfl, _, S2.turned1 0 rfl, by unfold numbR; rw [hli]; simp [hbad.2]⟩⟩
  ·
    have hgood : vb = 0 ∧ numOk a = true ∧ va = (numV a : Int) := hnc.resolve_right (fun h => by have h9 : vb = 0 := Classical.byContradiction (fun e => h15 e); omega)
    refine T_skip ?_
    refine hK3 _ _ ?_
    refine T_seq fun K5 hK5 => ?_
    refine T_region ?_
    refine L_y (y_move rfl) rfl ?_
    refine L_y (y_assign rfl) rfl ?_
    refine L_nil ?_
    refine hK5 _ _ ?_
    refine T_ret ?_
    refine ur ?_
    refine ret1 rfl rfl ?_
    exact .inr ⟨_, rfl, numV a, b, by unfold numbR; rw [hli]; simp [hgood.2.1], S2.turned1 0 rfl, by rw [hgood.2.2]; rfl⟩
def idR (w s : List UInt8) : Option (Oid.Id × List UInt8) := match lineR w s with
  | none => none
  | some (a, b) => if (readR a).2 = 0 then some (⟨(readR a).1, Oid.length_readR a⟩, b) else none
theorem readN (a : List UInt8) (w : World) : Calls Tryz.prog 175 #[.string ⟨a.toArray⟩] w fun e w' => ∃ u, e = .returned u ∧ Like w w' ∧ u = .tuple #[.agg (bA (readR a).1), .int .i64 (readR a).2] := (Oid.read_any ⟨a.toArray⟩ w).mono fun e w' ⟨h1, h2⟩ => ⟨_, h1, h2, rfl⟩
theorem idr (g : Nat) (s w : List UInt8) (w0 : World) (hw : (rdR g s).holds w0) (hwl : w.length ≤ 10) (hl : s.length ≤ 100000000) :
    Calls Tryz.prog 145 #[.pointer (some ⟨g, 0, none⟩), .string ⟨w.toArray⟩] w0 fun e w' => (e = .panicked flt ∧ ∃ s', Turned w0 w' (rdR g s) (rdR g s') ∧ idR w s = none) ∨ ∃ u, e = .returned u ∧ ∃ a b, idR w s = some (a, b) ∧ Turned w0 w' (rdR g s) (rdR g b) ∧ u = .agg (idf a).toArray := by
  refine enter1 (env := [(0, .pointer (some ⟨g, 0, none⟩)), (1, .string ⟨w.toArray⟩)]) [.pointer (some ⟨g, 0, none⟩), .string ⟨w.toArray⟩] Tryz.func145 rfl Tryz.ntmps145 rfl rfl ?_
  have hbs := bsz s
  have hbw := bsz w
  have S0 := St.borrow1 (rdR g s) hw (rd_lt hw)
  refine T_seq fun K1 hK1 => ?_
  refine T_region ?_
  refine L_o (o_alloc zz41 S0 rfl fun b1 w1 hb1 S1 => ?_)
  refine L_nil ?_
  refine hK1 _ _ ?_
  refine T_seq fun K2 hK2 => ?_
  refine T_region ?_
  refine L_y (y_move rfl) rfl ?_
  refine L_y (y_move rfl) rfl ?_
  refine L_o (o_callP Tryz.func147 rfl rfl (take g s w w1 (S1.get 0 rfl) hwl hl) rfl rfl ?_)
  rintro e2 w2 (⟨rfl, T2, hno⟩ | ⟨v2, rfl, a, b, hli, T2, rfl⟩)
  · exact .inr ⟨_, rfl, ⟨rfl, .inl ⟨rfl, _, St.turned1 (S1.turn 0 rfl T2) 0 rfl, by unfold idR; rw [hno]⟩⟩⟩
  refine .inl ⟨_, rfl, ?_⟩
  have S2 := S1.turn 0 rfl T2
  have hll := lineR_len hli
  refine L_o (o_call Tryz.func175 rfl rfl (readN a w2) rfl rfl ?_)
  rintro e3 w3 ⟨v3, rfl, l3, rfl⟩
  refine ⟨_, rfl, ?_⟩
  have S3 := S2.like l3
  refine L_y (y_move rfl) rfl ?_
  refine L_y (y_extract rfl rfl) rfl ?_
  refine L_y (y_extract rfl rfl) rfl ?_
  refine L_o (o_alloc zz41 S3 rfl fun b4 w4 hb4 S4 => ?_)
  refine L_o (o_stW S4 2 rfl rfl rfl (by rw [size_bA, Oid.length_readR]; exact sz41) (by rw [size_bA, Oid.length_readR]; simp [Value.cells]) (fun u hu => bL_one _ u hu) fun w5 S5 => ?_)
  refine L_y (y_assign rfl) rfl ?_
  refine L_nil ?_
  refine hK2 _ _ ?_
  refine T_seq fun K3 hK3 => ?_
  refine T_seq fun K4 hK4 => ?_
  refine T_region ?_
  refine L_y (y_move rfl) rfl ?_
  refine L_y (y_neq rfl rfl) rfl ?_
  refine L_nil ?_
  refine hK4 _ _ ?_
  refine T_cond rfl (fun h15 => ?_) (fun h15 => ?_)
  ·
    refine T_region ?_
    refine L_y (y_build rfl (show _ = some #[Value.int .i64 12] by kernel_rfl)) rfl ?_
    refine L_y (y_mkI (by kernel_rfl) rfl) rfl ?_
    refine L_panic rfl ?_
    exact ⟨rfl, .inl ⟨rfl, _, S5.turned1 0 rfl, by unfold idR; rw [hli]; exact if_neg (fun e => h15 e)⟩⟩
  ·
    refine T_skip ?_
    refine hK3 _ _ ?_
    refine T_seq fun K5 hK5 => ?_
    refine T_region ?_
    refine L_y (y_ldW Tryz.underlying41 rfl sz41 rfl (S5.blk 2 rfl) (⟨by rw [List.drop_zero]; exact List.take_of_length_le (by simp [bA, Oid.length_readR]), by rw [length_bL, Oid.length_readR]⟩ : _ = bL (readR a).1 ∧ _)) rfl ?_
    refine L_o (o_stW S5 1 rfl rfl rfl (by rw [List.size_toArray, length_bL, Oid.length_readR]; exact sz41) (by rw [List.size_toArray, length_bL, Oid.length_readR]; simp [Value.cells]) (fun u hu => bL_one _ u (by rw [List.toList_toArray] at hu; exact hu)) fun w6 S6 => ?_)
    refine L_nil ?_
    refine hK5 _ _ ?_
    refine T_ret ?_
    refine ur ?_
    refine retc rfl rfl (S6.blk 1 rfl) Tryz.underlying41 rfl (by rw [List.size_toArray, length_bL, Oid.length_readR]; exact sz41) ?_
    exact .inr ⟨_, rfl, ⟨(readR a).1, Oid.length_readR a⟩, b, by unfold idR; rw [hli]; exact if_pos (Classical.byContradiction (fun e => h15 e)), S6.turned1 0 rfl, rfl⟩
end Go.Proofs.YtgaklngnfecdaaaGreat.Rev
namespace Go.Proofs.YtgaklngnfecdaaaGreat.Rev
open Go.RowKit Zk Zx
open Oid (idf hexL idf_len readR)
open Tre (nmOk)
section
variable {P : Program} {w : World}
theorem resB2 {fn : Func} {p q : Tmp} {ty tz : TypeId} (h : fn.results = #[.cell p ty, .cell q tz]) (tmps : Array Value) {g g2 : Nat} {t t2 : TypeId} {cs : Array Value} {v : Value}
    (hp : tmps.getD p undef = .pointer (some ⟨g, 0, none⟩)) (hq : tmps.getD q undef = .pointer (some ⟨g2, 0, none⟩)) (hb : Blk w g t cs) (hb2 : Blk w g2 t2 #[v]) (d d2 : TypeDesc) (hu : P.underlying ty = some d) (hd : d.isRow = true) (hi : (P.info? ty).map (·.size) = some cs.size) (hu2 : P.underlying tz = some d2) (hd2 : d2.isRow = false) :
    (results fn tmps).run P w = .ok (.tuple #[.agg cs, v]) w := by
  have hp' : tmps[p]?.getD undef = .pointer (some ⟨g, 0, none⟩) := by simpa using hp
  have hq' : tmps[q]?.getD undef = .pointer (some ⟨g2, 0, none⟩) := by simpa using hq
  have h2 : (loadVar tz ⟨g2, 0, none⟩).run P w = .ok v w := run_loadVar1 hu2 hd2 ((hb2.cell 0).trans (by rfl))
  simp [results, h, hp', hq', asAddr, run_loadB hb d hu hd hi, h2]
end
def fltR : List PanicEntry := [{ v := .iface 235 (.agg #[.int .i64 12]), recovered := true }]
theorem recov_pan : Recov (.panicking flt) (.panicking fltR) (.iface 235 (.agg #[.int .i64 12])) := .inr ⟨[], rfl, rfl⟩
theorem recov_ret : Recov .returning .returning .nilIface := .inl ⟨rfl, rfl, rfl⟩
def zCm : Cm := ⟨⟨List.replicate 32 0, rfl⟩, none, 0, 0, [], ⟨#[]⟩, 0, ⟨#[]⟩⟩
structure Mk where
  ob : Oid.Id
  kd : Int
  nm : ByteArray
  tm : Int
  tx : ByteArray
def mkf (x : Mk) : List Value := idf x.ob ++ [.int .i64 x.kd, .string x.nm, .int .i64 x.tm, .string x.tx]
def zMk : Mk := ⟨⟨List.replicate 32 0, rfl⟩, 0, ⟨#[]⟩, 0, ⟨#[]⟩⟩
theorem cloCR (b2 b3 : Nat) (w0 : World)  :
    CallsD Tryz.prog 144 #[.pointer (some ⟨b2, 0, none⟩), .pointer (some ⟨b3, 0, none⟩)] .returning w0 fun e u' w' => u' = .returning ∧ (e = .returned (.tuple #[]) ∧ Like w0 w') := by
  refine enterR (env := [(0, .pointer (some ⟨b2, 0, none⟩)), (1, .pointer (some ⟨b3, 0, none⟩))]) [.pointer (some ⟨b2, 0, none⟩), .pointer (some ⟨b3, 0, none⟩)] recov_ret Tryz.func144 rfl Tryz.ntmps144 rfl rfl rfl ?_
  have S0 := St.start w0 noM
  intro K0 hK0
  refine L_y (y_asNil Tryz.underlying235 (fun m h => by cases h) zz235 rfl) rfl ?_
  refine L_y (y_move rfl) rfl ?_
  refine L_y (y_extract rfl rfl) rfl ?_
  refine L_y (y_extract rfl rfl) rfl ?_
  refine L_o (o_alloc zz235 S0 rfl fun b1 w1 hb1 S1 => ?_)
  refine L_o (o_stW S1 0 rfl rfl rfl sz235 (by decide) (fun u hu => by simp at hu; subst hu; rfl) fun w2 S2 => ?_)
  refine L_y (y_assign rfl) rfl ?_
  refine L_nil ?_
  refine hK0 _ _ ?_
  refine T_seq fun K1 hK1 => ?_
  refine T_region ?_
  refine L_y (y_move rfl) rfl ?_
  refine L_nil ?_
  refine hK1 _ _ ?_
  refine T_condB rfl (fun h9 => ?_) (fun h9 => ?_)
  ·
    cases h9
  ·
    refine T_skip ?_
    first | refine end0 (fn := Tryz.f144) rfl ?_ | (simp only [thenQ, inB, if_true]; refine end0 (fn := Tryz.f144) rfl ?_)
    exact ⟨rfl, S2.like0⟩
theorem cloCP (b2 b3 : Nat) (cs : Array Value) (v : Value) (w0 : World) (hb2 : Blk w0 b2 83 cs) (hcs : cs.size = 36) (hb3 : Blk w0 b3 24 #[v]) (hne : b2 ≠ b3) :
    CallsD Tryz.prog 144 #[.pointer (some ⟨b2, 0, none⟩), .pointer (some ⟨b3, 0, none⟩)] (.panicking flt) w0 fun e u' w' => u' = .panicking fltR ∧ (e = .returned (.tuple #[]) ∧ Turned w0 w' (Zx.both (blk b2 83 cs) (blk b3 24 #[v])) (Zx.both (blk b2 83 (cmf zCm).toArray) (blk b3 24 #[.int .i64 12]))) := by
  refine enterR (env := [(0, .pointer (some ⟨b2, 0, none⟩)), (1, .pointer (some ⟨b3, 0, none⟩))]) [.pointer (some ⟨b2, 0, none⟩), .pointer (some ⟨b3, 0, none⟩)] recov_pan Tryz.func144 rfl Tryz.ntmps144 rfl rfl rfl ?_
  have S0 := St.borrow2 (blk b2 83 cs) (blk b3 24 #[v]) hb2 hb3 (fun i hi => by rcases hi with hi | hi; (have h2 : i = b2 := hi; subst h2; exact hb2.lt); (have h2 : i = b3 := hi; subst h2; exact hb3.lt)) (fun i hi hi2 => hne (Eq.trans (show i = b2 from hi).symm (show i = b3 from hi2)))
  intro K0 hK0
  refine L_y (y_asHit Tryz.underlying235 (fun m h => by cases h) rfl) rfl ?_
  refine L_y (y_move rfl) rfl ?_
  refine L_y (y_extract rfl rfl) rfl ?_
  refine L_y (y_extract rfl rfl) rfl ?_
  refine L_o (o_alloc zz235 S0 rfl fun b1 w1 hb1 S1 => ?_)
  refine L_o (o_stW S1 2 rfl rfl rfl sz235 (by decide) (fun u hu => by simp at hu; subst hu; rfl) fun w2 S2 => ?_)
  refine L_y (y_assign rfl) rfl ?_
  refine L_nil ?_
  refine hK0 _ _ ?_
  refine T_seq fun K1 hK1 => ?_
  refine T_region ?_
  refine L_y (y_move rfl) rfl ?_
  refine L_nil ?_
  refine hK1 _ _ ?_
  refine T_condB rfl (fun h9 => ?_) (fun h9 => ?_)
  ·
    refine T_drawnX (fun w => Blk w b1 235 #[Value.int .i64 12]) hmix (by kernel_rfl) (fun w l => ((S2.like l).blk 2 rfl)) fun w3 l3 => ?_
    have S3 := S2.like l3
    refine DX_y 0 (by kernel_rfl) rfl (y_build rfl (show _ = some (cmf zCm).toArray by kernel_rfl)) rfl ?_
    refine DX_y 1 (by kernel_rfl) rfl (y_fieldA 0 Tryz.underlying235 rfl sz24 rfl rfl rfl) rfl ?_
    refine DX_y 2 (by kernel_rfl) rfl (y_of fun w hw => y_ldc Tryz.underlying24 rfl rfl ((hw.cell _).trans (by rfl))) rfl ?_
    refine DX_o1 3 (by kernel_rfl) rfl ?_
    refine o_stW S3 0 rfl rfl rfl sz83 (by rw [hcs]; decide) (fun u hu => by revert u; decide +kernel) fun w4 S4 => ?_
    refine ⟨(S4.blk 2 rfl), ?_⟩
    refine DX_o1 4 (by kernel_rfl) rfl ?_
    refine o_st1 S4 1 rfl rfl rfl rfl sz24 (by simp; done) fun w5 S5 => ?_
    refine ⟨(S5.blk 2 rfl), ?_⟩
    refine DX_nil (by kernel_rfl) ?_
    first | refine end0 (fn := Tryz.f144) rfl ?_ | (simp only [thenQ, inB, if_true]; refine end0 (fn := Tryz.f144) rfl ?_)
    exact ⟨rfl, S5.turned2 0 1 rfl rfl⟩
  ·
    cases h9
theorem read_inv (b2 b3 : Nat) (w : World) : (invoke (.fn (.func 144) #[.pointer (some ⟨b2, 0, none⟩), .pointer (some ⟨b3, 0, none⟩)]) #[]).run Tryz.prog w = .ok (.enter 144 #[.pointer (some ⟨b2, 0, none⟩), .pointer (some ⟨b3, 0, none⟩)]) w := by
  have hb : (Tryz.f144.name == "runtime.NumGoroutine") = false := by rfl
  have hn : Tryz.f144.body.isNone = false := by rfl
  simp only [invoke, callFunc, Sem.run_bind, Sem.run_pure, Result.andThen_ok, run_program, Tryz.func144, hb, hn, Bool.false_eq_true, if_false, Array.append_empty, Array.empty_append]
theorem read_pan {R : Ending → World → Prop} {env : Env} {w : World} {b2 b3 : Nat} {cs : Array Value} {v : Value} (h2 : Zx.look env 2 = some (.pointer (some ⟨b2, 0, none⟩))) (h3 : Zx.look env 3 = some (.pointer (some ⟨b3, 0, none⟩))) (hd : dfs env = [⟨.fn (.func 144) #[.pointer (some ⟨b2, 0, none⟩), .pointer (some ⟨b3, 0, none⟩)], #[]⟩])
    (hb2 : Blk w b2 83 cs) (hcs : cs.size = 36) (hb3 : Blk w b3 24 #[v]) (hne : b2 ≠ b3) (h : ∀ w', Turned w w' (Zx.both (blk b2 83 cs) (blk b3 24 #[v])) (Zx.both (blk b2 83 (cmf zCm).toArray) (blk b3 24 #[.int .i64 12])) → R (.returned (.tuple #[.agg (cmf zCm).toArray, .int .i64 12])) w') : bodyQD Tryz.prog Tryz.f108 R (.panic flt) env w := by
  refine ⟨[(2, .pointer (some ⟨b2, 0, none⟩)), (3, .pointer (some ⟨b3, 0, none⟩)), (1000000, .agg #[.agg #[.int .i64 144, .agg #[], .agg #[.pointer (some ⟨b2, 0, none⟩), .pointer (some ⟨b3, 0, none⟩)]]])], fun i u hi => ?_, ⟨by rw [hd]; rfl, fun i u hi => ?_⟩, fun N a ha => ?_⟩
  · simp only [Zx.look] at hi
    cases e2 : Nat.beq 2 i with
    | true => have : 2 = i := by simpa using e2
              omega
    | false =>
      rw [e2] at hi
      simp only [cond_false] at hi
      cases e3 : Nat.beq 3 i with
      | true => have : 3 = i := by simpa using e3
                omega
      | false =>
        rw [e3] at hi
        simp only [cond_false] at hi
        cases e4 : Nat.beq 1000000 i with
        | true => rw [e4] at hi; cases hi
        | false => rw [e4] at hi; cases hi
  · simp only [Zx.look] at hi
    cases e2 : Nat.beq 2 i with
    | true =>
      have h5 : 2 = i := by simpa using e2
      subst h5
      exact h2.trans hi
    | false =>
      rw [e2] at hi
      simp only [cond_false] at hi
      cases e3 : Nat.beq 3 i with
      | true =>
        have h5 : 3 = i := by simpa using e3
        subst h5
        exact h3.trans hi
      | false =>
        rw [e3] at hi
        simp only [cond_false] at hi
        cases e4 : Nat.beq 1000000 i with
        | true => rw [e4] at hi; cases hi
        | false => rw [e4] at hi; cases hi
  · have d2 : a.tmps.getD 2 undef = .pointer (some ⟨b2, 0, none⟩) := ha.getD rfl
    have d3 : a.tmps.getD 3 undef = .pointer (some ⟨b3, 0, none⟩) := ha.getD rfl
    refine leaves_cons (by simp) (read_inv b2 b3 w) ((cloCP b2 b3 cs v w hb2 hcs hb3 hne).mono fun e u' w' hh => ?_)
    obtain ⟨rfl, rfl, T⟩ := hh
    refine ⟨_, resB2 rfl a.tmps d2 d3 T.holds.1 T.holds.2 _ _ Tryz.underlying83 rfl (by exact sz83) Tryz.underlying24 rfl, h w' T⟩
theorem read_ret {R : Ending → World → Prop} {env : Env} {w : World} {b2 b3 : Nat} {cs : Array Value} {v : Value} (h2 : Zx.look env 2 = some (.pointer (some ⟨b2, 0, none⟩))) (h3 : Zx.look env 3 = some (.pointer (some ⟨b3, 0, none⟩))) (hd : dfs env = [⟨.fn (.func 144) #[.pointer (some ⟨b2, 0, none⟩), .pointer (some ⟨b3, 0, none⟩)], #[]⟩])
    (hb2 : Blk w b2 83 cs) (hcs : cs.size = 36) (hb3 : Blk w b3 24 #[v]) (h : ∀ w', Like w w' → R (.returned (.tuple #[.agg cs, v])) w') : bodyQD Tryz.prog Tryz.f108 R .ret env w := fun N a ha => by
  have d2 : a.tmps.getD 2 undef = .pointer (some ⟨b2, 0, none⟩) := ha.getD h2
  have d3 : a.tmps.getD 3 undef = .pointer (some ⟨b3, 0, none⟩) := ha.getD h3
  rw [hd]
  refine leaves_cons (by simp) (read_inv b2 b3 w) ((cloCR b2 b3 w).mono fun e u' w' hh => ?_)
  obtain ⟨rfl, rfl, l⟩ := hh
  exact ⟨_, resB2 rfl a.tmps d2 d3 ((l.block _ hb2.lt).trans hb2) ((l.block _ hb3.lt).trans hb3) _ _ Tryz.underlying83 rfl (by rw [hcs]; exact sz83) Tryz.underlying24 rfl, h w' l⟩
theorem cloMR (b2 b3 : Nat) (w0 : World)  :
    CallsD Tryz.prog 152 #[.pointer (some ⟨b2, 0, none⟩), .pointer (some ⟨b3, 0, none⟩)] .returning w0 fun e u' w' => u' = .returning ∧ (e = .returned (.tuple #[]) ∧ Like w0 w') := by
  refine enterR (env := [(0, .pointer (some ⟨b2, 0, none⟩)), (1, .pointer (some ⟨b3, 0, none⟩))]) [.pointer (some ⟨b2, 0, none⟩), .pointer (some ⟨b3, 0, none⟩)] recov_ret Tryz.func152 rfl Tryz.ntmps152 rfl rfl rfl ?_
  have S0 := St.start w0 noM
  intro K0 hK0
  refine L_y (y_asNil Tryz.underlying235 (fun m h => by cases h) zz235 rfl) rfl ?_
  refine L_y (y_move rfl) rfl ?_
  refine L_y (y_extract rfl rfl) rfl ?_
  refine L_y (y_extract rfl rfl) rfl ?_
  refine L_o (o_alloc zz235 S0 rfl fun b1 w1 hb1 S1 => ?_)
  refine L_o (o_stW S1 0 rfl rfl rfl sz235 (by decide) (fun u hu => by simp at hu; subst hu; rfl) fun w2 S2 => ?_)
  refine L_y (y_assign rfl) rfl ?_
  refine L_nil ?_
  refine hK0 _ _ ?_
  refine T_seq fun K1 hK1 => ?_
  refine T_region ?_
  refine L_y (y_move rfl) rfl ?_
  refine L_nil ?_
  refine hK1 _ _ ?_
  refine T_condB rfl (fun h9 => ?_) (fun h9 => ?_)
  ·
    cases h9
  ·
    refine T_skip ?_
    first | refine end0 (fn := Tryz.f152) rfl ?_ | (simp only [thenQ, inB, if_true]; refine end0 (fn := Tryz.f152) rfl ?_)
    exact ⟨rfl, S2.like0⟩
theorem cloMP (b2 b3 : Nat) (cs : Array Value) (v : Value) (w0 : World) (hb2 : Blk w0 b2 87 cs) (hcs : cs.size = 36) (hb3 : Blk w0 b3 24 #[v]) (hne : b2 ≠ b3) :
    CallsD Tryz.prog 152 #[.pointer (some ⟨b2, 0, none⟩), .pointer (some ⟨b3, 0, none⟩)] (.panicking flt) w0 fun e u' w' => u' = .panicking fltR ∧ (e = .returned (.tuple #[]) ∧ Turned w0 w' (Zx.both (blk b2 87 cs) (blk b3 24 #[v])) (Zx.both (blk b2 87 (mkf zMk).toArray) (blk b3 24 #[.int .i64 12]))) := by
  refine enterR (env := [(0, .pointer (some ⟨b2, 0, none⟩)), (1, .pointer (some ⟨b3, 0, none⟩))]) [.pointer (some ⟨b2, 0, none⟩), .pointer (some ⟨b3, 0, none⟩)] recov_pan Tryz.func152 rfl Tryz.ntmps152 rfl rfl rfl ?_
  have S0 := St.borrow2 (blk b2 87 cs) (blk b3 24 #[v]) hb2 hb3 (fun i hi => by rcases hi with hi | hi; (have h2 : i = b2 := hi; subst h2; exact hb2.lt); (have h2 : i = b3 := hi; subst h2; exact hb3.lt)) (fun i hi hi2 => hne (Eq.trans (show i = b2 from hi).symm (show i = b3 from hi2)))
  intro K0 hK0
  refine L_y (y_asHit Tryz.underlying235 (fun m h => by cases h) rfl) rfl ?_
  refine L_y (y_move rfl) rfl ?_
  refine L_y (y_extract rfl rfl) rfl ?_
  refine L_y (y_extract rfl rfl) rfl ?_
  refine L_o (o_alloc zz235 S0 rfl fun b1 w1 hb1 S1 => ?_)
  refine L_o (o_stW S1 2 rfl rfl rfl sz235 (by decide) (fun u hu => by simp at hu; subst hu; rfl) fun w2 S2 => ?_)
  refine L_y (y_assign rfl) rfl ?_
  refine L_nil ?_
  refine hK0 _ _ ?_
  refine T_seq fun K1 hK1 => ?_
  refine T_region ?_
  refine L_y (y_move rfl) rfl ?_
  refine L_nil ?_
  refine hK1 _ _ ?_
  refine T_condB rfl (fun h9 => ?_) (fun h9 => ?_)
  ·
    refine T_drawnX (fun w => Blk w b1 235 #[Value.int .i64 12]) hmix (by kernel_rfl) (fun w l => ((S2.like l).blk 2 rfl)) fun w3 l3 => ?_
    have S3 := S2.like l3
    refine DX_y 0 (by kernel_rfl) rfl (y_build rfl (show _ = some (mkf zMk).toArray by kernel_rfl)) rfl ?_
    refine DX_y 1 (by kernel_rfl) rfl (y_fieldA 0 Tryz.underlying235 rfl sz24 rfl rfl rfl) rfl ?_
    refine DX_y 2 (by kernel_rfl) rfl (y_of fun w hw => y_ldc Tryz.underlying24 rfl rfl ((hw.cell _).trans (by rfl))) rfl ?_
    refine DX_o1 3 (by kernel_rfl) rfl ?_
    refine o_stW S3 0 rfl rfl rfl sz87 (by rw [hcs]; decide) (fun u hu => by revert u; decide +kernel) fun w4 S4 => ?_
    refine ⟨(S4.blk 2 rfl), ?_⟩
    refine DX_o1 4 (by kernel_rfl) rfl ?_
    refine o_st1 S4 1 rfl rfl rfl rfl sz24 (by simp; done) fun w5 S5 => ?_
    refine ⟨(S5.blk 2 rfl), ?_⟩
    refine DX_nil (by kernel_rfl) ?_
    first | refine end0 (fn := Tryz.f152) rfl ?_ | (simp only [thenQ, inB, if_true]; refine end0 (fn := Tryz.f152) rfl ?_)
    exact ⟨rfl, S5.turned2 0 1 rfl rfl⟩
  ·
    cases h9
theorem mark_inv (b2 b3 : Nat) (w : World) : (invoke (.fn (.func 152) #[.pointer (some ⟨b2, 0, none⟩), .pointer (some ⟨b3, 0, none⟩)]) #[]).run Tryz.prog w = .ok (.enter 152 #[.pointer (some ⟨b2, 0, none⟩), .pointer (some ⟨b3, 0, none⟩)]) w := by
  have hb : (Tryz.f152.name == "runtime.NumGoroutine") = false := by rfl
  have hn : Tryz.f152.body.isNone = false := by rfl
  simp only [invoke, callFunc, Sem.run_bind, Sem.run_pure, Result.andThen_ok, run_program, Tryz.func152, hb, hn, Bool.false_eq_true, if_false, Array.append_empty, Array.empty_append]
theorem mark_pan {R : Ending → World → Prop} {env : Env} {w : World} {b2 b3 : Nat} {cs : Array Value} {v : Value} (h2 : Zx.look env 2 = some (.pointer (some ⟨b2, 0, none⟩))) (h3 : Zx.look env 3 = some (.pointer (some ⟨b3, 0, none⟩))) (hd : dfs env = [⟨.fn (.func 152) #[.pointer (some ⟨b2, 0, none⟩), .pointer (some ⟨b3, 0, none⟩)], #[]⟩])
    (hb2 : Blk w b2 87 cs) (hcs : cs.size = 36) (hb3 : Blk w b3 24 #[v]) (hne : b2 ≠ b3) (h : ∀ w', Turned w w' (Zx.both (blk b2 87 cs) (blk b3 24 #[v])) (Zx.both (blk b2 87 (mkf zMk).toArray) (blk b3 24 #[.int .i64 12])) → R (.returned (.tuple #[.agg (mkf zMk).toArray, .int .i64 12])) w') : bodyQD Tryz.prog Tryz.f110 R (.panic flt) env w := by
  refine ⟨[(2, .pointer (some ⟨b2, 0, none⟩)), (3, .pointer (some ⟨b3, 0, none⟩)), (1000000, .agg #[.agg #[.int .i64 152, .agg #[], .agg #[.pointer (some ⟨b2, 0, none⟩), .pointer (some ⟨b3, 0, none⟩)]]])], fun i u hi => ?_, ⟨by rw [hd]; rfl, fun i u hi => ?_⟩, fun N a ha => ?_⟩
  · simp only [Zx.look] at hi
    cases e2 : Nat.beq 2 i with
    | true => have : 2 = i := by simpa using e2
              omega
    | false =>
      rw [e2] at hi
      simp only [cond_false] at hi
      cases e3 : Nat.beq 3 i with
      | true => have : 3 = i := by simpa using e3
                omega
      | false =>
        rw [e3] at hi
        simp only [cond_false] at hi
        cases e4 : Nat.beq 1000000 i with
        | true => rw [e4] at hi; cases hi
        | false => rw [e4] at hi; cases hi
  · simp only [Zx.look] at hi
    cases e2 : Nat.beq 2 i with
    | true =>
      have h5 : 2 = i := by simpa using e2
      subst h5
      exact h2.trans hi
    | false =>
      rw [e2] at hi
      simp only [cond_false] at hi
      cases e3 : Nat.beq 3 i with
      | true =>
        have h5 : 3 = i := by simpa using e3
        subst h5
        exact h3.trans hi
      | false =>
        rw [e3] at hi
        simp only [cond_false] at hi
        cases e4 : Nat.beq 1000000 i with
        | true => rw [e4] at hi; cases hi
        | false => rw [e4] at hi; cases hi
  · have d2 : a.tmps.getD 2 undef = .pointer (some ⟨b2, 0, none⟩) := ha.getD rfl
    have d3 : a.tmps.getD 3 undef = .pointer (some ⟨b3, 0, none⟩) := ha.getD rfl
    refine leaves_cons (by simp) (mark_inv b2 b3 w) ((cloMP b2 b3 cs v w hb2 hcs hb3 hne).mono fun e u' w' hh => ?_)
    obtain ⟨rfl, rfl, T⟩ := hh
    refine ⟨_, resB2 rfl a.tmps d2 d3 T.holds.1 T.holds.2 _ _ Tryz.underlying87 rfl (by exact sz87) Tryz.underlying24 rfl, h w' T⟩
theorem mark_ret {R : Ending → World → Prop} {env : Env} {w : World} {b2 b3 : Nat} {cs : Array Value} {v : Value} (h2 : Zx.look env 2 = some (.pointer (some ⟨b2, 0, none⟩))) (h3 : Zx.look env 3 = some (.pointer (some ⟨b3, 0, none⟩))) (hd : dfs env = [⟨.fn (.func 152) #[.pointer (some ⟨b2, 0, none⟩), .pointer (some ⟨b3, 0, none⟩)], #[]⟩])
    (hb2 : Blk w b2 87 cs) (hcs : cs.size = 36) (hb3 : Blk w b3 24 #[v]) (h : ∀ w', Like w w' → R (.returned (.tuple #[.agg cs, v])) w') : bodyQD Tryz.prog Tryz.f110 R .ret env w := fun N a ha => by
  have d2 : a.tmps.getD 2 undef = .pointer (some ⟨b2, 0, none⟩) := ha.getD h2
  have d3 : a.tmps.getD 3 undef = .pointer (some ⟨b3, 0, none⟩) := ha.getD h3
  rw [hd]
  refine leaves_cons (by simp) (mark_inv b2 b3 w) ((cloMR b2 b3 w).mono fun e u' w' hh => ?_)
  obtain ⟨rfl, rfl, l⟩ := hh
  exact ⟨_, resB2 rfl a.tmps d2 d3 ((l.block _ hb2.lt).trans hb2) ((l.block _ hb3.lt).trans hb3) _ _ Tryz.underlying87 rfl (by rw [hcs]; exact sz87) Tryz.underlying24 rfl, h w' l⟩
end Go.Proofs.YtgaklngnfecdaaaGreat.Rev
