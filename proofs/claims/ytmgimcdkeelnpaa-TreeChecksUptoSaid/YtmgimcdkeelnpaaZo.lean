/-
  Operations that make memory or write to it, and calls. General; nothing here names a program.
-/
import Derived.Test.YtmgimcdkeelnpaaZw
namespace Go.Proofs.Ytmgimcdkeelnpaa.Zx
open Go.RowKit Zk
set_option linter.unusedVariables false
set_option linter.unusedSimpArgs false

/-- A piece of memory of the call's own: its blocks, and what holds of it. -/
structure Res where
  dom : Nat → Prop
  holds : World → Prop
  stable : ∀ w w' : World, (∀ i, dom i → w'.heap[i]? = w.heap[i]?) → holds w → holds w'
/-- M: the old blocks that the call may write to. -/
structure St (w0 : World) (M : Nat → Prop) (rs : List Res) (w : World) : Prop where
  os : w.os = w0.os
  tape : w.tape = w0.tape
  output : w.output = w0.output
  size : w0.heap.size ≤ w.heap.size
  old : ∀ i, i < w0.heap.size → ¬ M i → w.heap[i]? = w0.heap[i]?
  res : ∀ r ∈ rs, r.holds w ∧ ∀ i, r.dom i → i < w.heap.size ∧ (w0.heap.size ≤ i ∨ M i)
  apart : rs.Pairwise fun r s => ∀ i, r.dom i → ¬ s.dom i
def noM : Nat → Prop := fun _ => False

section
variable {w0 w w' : World} {M : Nat → Prop} {rs : List Res}
theorem St.start (w : World) (M : Nat → Prop) : St w M [] w := ⟨rfl, rfl, rfl, Nat.le_refl _, fun _ _ _ => rfl, (fun r hr => by cases hr), List.Pairwise.nil⟩
theorem St.like0 (S : St w0 noM rs w) : Like w0 w := ⟨S.os, S.tape, S.output, S.size, fun k hk => S.old k hk (fun h => h)⟩
theorem St.rd (S : St w0 noM rs w) {size : Nat} {A : Option Addr} {n c : Nat} {xs : List Value} (h : Rs w0 size A n c xs) : Rs w size A n c xs := h.like S.like0
theorem St.rdM (S : St w0 M rs w) {size : Nat} {A : Option Addr} {n c : Nat} {xs : List Value} (h : Rs w0 size A n c xs) (hM : ∀ ad, 0 < n → A = some ad → ¬ M ad.block) : Rs w size A n c xs :=
  ⟨⟨h.rd.1, fun hn => by
    obtain ⟨ad, e, hb, hc⟩ := h.rd.2 hn
    exact ⟨ad, e, Nat.lt_of_lt_of_le hb S.size, fun j u hu => (World.cell?_of_block (a := ad.add j) (by rw [block_of_add]; exact S.old _ hb (hM ad hn e))).trans (hc j u hu)⟩⟩, h.cap, h.max⟩
/-- What a call did that may write to block g. -/
theorem St.only {g : Nat} (S : St w0 (· = g) rs w) : w0.grownBy w (some g) := ⟨S.os, S.tape, S.output, S.size, fun i hi hne => S.old i hi (fun e => hne (by rw [e]))⟩
theorem St.like (S : St w0 M rs w) (h : Like w w') : St w0 M rs w' :=
  ⟨h.os.trans S.os, h.tape.trans S.tape, h.output.trans S.output, Nat.le_trans S.size h.size, fun i hi hM => (h.block i (Nat.lt_of_lt_of_le hi S.size)).trans (S.old i hi hM),
    fun r hr => ⟨r.stable w w' (fun i hi => h.block i ((S.res r hr).2 i hi).1) (S.res r hr).1, fun i hi => ⟨Nat.lt_of_lt_of_le ((S.res r hr).2 i hi).1 h.size, ((S.res r hr).2 i hi).2⟩⟩, S.apart⟩
theorem St.drew (S : St w0 M rs w) : St w0 M rs w.drew := S.like (Like.drew w)
theorem St.get (S : St w0 M rs w) (k : Nat) {r : Res} (hk : rs[k]? = some r) : r.holds w := (S.res r (List.mem_of_getElem? hk)).1
/-- One piece has changed, and maybe moved into a new block. -/
theorem St.upd (S : St w0 M rs w) (k : Nat) {r r' : Res} (hk : rs[k]? = some r) (hos : w'.os = w.os) (htape : w'.tape = w.tape) (hout : w'.output = w.output) (hsz : w.heap.size ≤ w'.heap.size)
    (hb : ∀ i, i < w.heap.size → ¬ r.dom i → w'.heap[i]? = w.heap[i]?) (hr : r'.holds w') (hd : ∀ i, r'.dom i → r.dom i ∨ (w.heap.size ≤ i ∧ i < w'.heap.size)) : St w0 M (rs.set k r') w' := by
  have hkl : k < rs.length := (List.getElem?_eq_some_iff.1 hk).1
  have hke : rs[k] = r := (List.getElem?_eq_some_iff.1 hk).2
  have hmem : r ∈ rs := List.mem_of_getElem? hk
  have hap := List.pairwise_iff_getElem.1 S.apart
  have hap2 : ∀ j (hj : j < rs.length), j ≠ k → ∀ i, rs[j].dom i → ¬ r.dom i := by
    intro j hj hne i hi hri
    rcases Nat.lt_or_gt_of_ne hne with h | h
    · exact hap j k hj hkl h i hi (by rw [hke]; exact hri)
    · exact hap k j hkl hj h i (by rw [hke]; exact hri) hi
  refine ⟨hos.trans S.os, htape.trans S.tape, hout.trans S.output, Nat.le_trans S.size hsz, fun i hi hM => ?_, fun q hq => ?_, ?_⟩
  · refine (hb i (Nat.lt_of_lt_of_le hi S.size) fun hri => ?_).trans (S.old i hi hM)
    rcases ((S.res r hmem).2 i hri).2 with h | h
    · omega
    · exact hM h
  · obtain ⟨j, hj, rfl⟩ := List.getElem_of_mem hq
    have hj' : j < rs.length := by simpa using hj
    rw [List.getElem_set]
    split
    · rename_i hjk
      subst hjk
      refine ⟨hr, fun i hi => ?_⟩
      rcases hd i hi with h | h
      · exact ⟨Nat.lt_of_lt_of_le ((S.res r hmem).2 i h).1 hsz, ((S.res r hmem).2 i h).2⟩
      · exact ⟨h.2, .inl (Nat.le_trans S.size h.1)⟩
    · rename_i hjk
      have h1 := S.res rs[j] (List.getElem_mem hj')
      exact ⟨(rs[j]).stable w w' (fun i hi => hb i (h1.2 i hi).1 (hap2 j hj' (fun e => hjk e.symm) i hi)) h1.1, fun i hi => ⟨Nat.lt_of_lt_of_le (h1.2 i hi).1 hsz, (h1.2 i hi).2⟩⟩
  · rw [List.pairwise_iff_getElem]
    intro i j hi hj hij x hx
    have hi' : i < rs.length := by simpa using hi
    have hj' : j < rs.length := by simpa using hj
    rw [List.getElem_set] at hx ⊢
    split at hx
    · rename_i hki
      subst hki
      rw [if_neg (by omega)]
      intro hxj
      rcases hd x hx with h | h
      · exact hap2 j hj' (by omega) x hxj h
      · have := ((S.res rs[j] (List.getElem_mem hj')).2 x hxj).1
        omega
    · split
      · rename_i hki hkj
        subst hkj
        intro hxk
        rcases hd x hxk with h | h
        · exact hap2 i hi' (by omega) x hx h
        · have := ((S.res rs[i] (List.getElem_mem hi')).2 x hx).1
          omega
      · exact hap i j hi' hj' hij x hx
/-- A call that may write to a piece of our own. -/
theorem St.wrote (S : St w0 M rs w) (k : Nat) {b : Nat} {r r' : Res} (hk : rs[k]? = some r) (hrd : ∀ i, r.dom i ↔ i = b) (hrd' : ∀ i, r'.dom i → i = b) (h : w.grownBy w' (some b)) (hr : r'.holds w') : St w0 M (rs.set k r') w' :=
  S.upd k hk h.os h.tape h.output h.size (fun i hi hn => h.block i hi (fun e => hn ((hrd i).2 (by injection e)))) hr fun i hi => .inl ((hrd i).2 (hrd' i hi))
/-- A piece more, in new blocks. -/
theorem St.new (S : St w0 M rs w) (h : Like w w') (r : Res) (hr : r.holds w') (hd : ∀ i, r.dom i → w.heap.size ≤ i ∧ i < w'.heap.size) : St w0 M (rs ++ [r]) w' := by
  have S' := S.like h
  refine ⟨S'.os, S'.tape, S'.output, S'.size, S'.old, fun q hq => ?_, ?_⟩
  · rcases List.mem_append.1 hq with hq | hq
    · exact S'.res q hq
    · obtain rfl := List.mem_singleton.1 hq
      exact ⟨hr, fun i hi => ⟨(hd i hi).2, .inl (Nat.le_trans S.size (hd i hi).1)⟩⟩
  · rw [List.pairwise_append]
    refine ⟨S.apart, List.pairwise_singleton _ _, fun q hq s hs i hi hsi => ?_⟩
    obtain rfl := List.mem_singleton.1 hs
    have := ((S.res q hq).2 i hi).1
    have := (hd i hsi).1
    omega
/-- An old block that the call may write to. -/
theorem St.borrow {w : World} {g : Nat} (r : Res) (hr : r.holds w) (hd : ∀ i, r.dom i → i = g) (hg : g < w.heap.size) : St w (· = g) [r] w :=
  ⟨rfl, rfl, rfl, Nat.le_refl _, fun _ _ _ => rfl, fun q hq => by
    obtain rfl := List.mem_singleton.1 hq
    exact ⟨hr, fun i hi => by obtain rfl := hd i hi; exact ⟨hg, .inr rfl⟩⟩, List.pairwise_singleton _ _⟩
theorem St.cast (S : St w0 M rs w) {rs' : List Res} (h : rs = rs') : St w0 M rs' w := h ▸ S
theorem St.drop (S : St w0 M rs w) {rs' : List Res} (h : rs'.Sublist rs) : St w0 M rs' w := ⟨S.os, S.tape, S.output, S.size, S.old, fun r hr => S.res r (h.subset hr), S.apart.sublist h⟩
end

/-- A row of the call's own. -/
def row (e size : Nat) (A : Option Addr) (n c : Nat) (xs : List Value) : Res where
  dom i := (Value.slice A n c).ownBlock = some i
  holds w := w.ownsRow 0 e size (.slice A n c) n xs
  stable w w' h hh := by
    refine ⟨hh.1, hh.2.imp id fun ⟨g, cap, cur, h1, h2, h3, h4⟩ => ⟨g, cap, cur, h1, h2, ?_, h4⟩⟩
    rw [← h3]
    exact h g (by rw [h1]; rfl)
/-- A block known whole. -/
def blk (g t : Nat) (cs : Array Value) : Res where
  dom i := i = g
  holds w := Blk w g t cs
  stable w w' h hh := (h g rfl).trans hh
/-- What reads as xs and is not written again. -/
def fixed (size : Nat) (A : Option Addr) (n c : Nat) (xs : List Value) : Res where
  dom i := ∃ ad, 0 < n ∧ A = some ad ∧ ad.block = i
  holds w := Rs w size A n c xs
  stable w w' h hh := ⟨⟨hh.rd.1, fun hn => by
    obtain ⟨ad, e, hb, hc⟩ := hh.rd.2 hn
    have h1 := h ad.block ⟨ad, hn, e, rfl⟩
    have hlt : ad.block < w'.heap.size := by
      rcases Nat.lt_or_ge ad.block w'.heap.size with h2 | h2
      · exact h2
      · rw [Array.getElem?_eq_none h2, Array.getElem?_eq_getElem hb] at h1
        cases h1
    exact ⟨ad, e, hlt, fun j u hu => (World.cell?_of_block (a := ad.add j) (by rw [block_of_add]; exact h1)).trans (hc j u hu)⟩⟩, hh.cap, hh.max⟩
/-- Reads, and lies in blocks that are new since w0. -/
def Fr (w0 w : World) (size : Nat) (A : Option Addr) (n c : Nat) (xs : List Value) : Prop := Rs w size A n c xs ∧ ∀ ad, 0 < n → A = some ad → w0.heap.size ≤ ad.block
theorem row_dom {e size : Nat} {A : Option Addr} {n c : Nat} {xs : List Value} {w : World} (h : w.ownsRow 0 e size (.slice A n c) n xs) (hn : 0 < n) (ad : Addr) (hA : A = some ad) : (Value.slice A n c).ownBlock = some ad.block := by
  obtain ⟨g, cap, hv, _⟩ := h.form hn
  injection hv with h1
  rw [h1] at hA
  cases hA
  rw [h1]
  rfl
section
variable {w0 w w' : World} {M : Nat → Prop} {rs : List Res}
theorem ownsRow_cap {e size n c : Nat} {A : Option Addr} {xs : List Value} (h : w.ownsRow 0 e size (.slice A n c) n xs) : n ≤ c ∧ c ≤ 9223372036854775807 := by
  rcases h.2 with ⟨h1, rfl⟩ | ⟨g, cap, cur, h1, _, _, h2, h3, _⟩
  · injection h1 with _ h1 h2
    omega
  · injection h1 with _ _ h4
    subst h4
    exact ⟨h2, h3⟩
theorem rs_of_row {e size n c : Nat} {A : Option Addr} {xs : List Value} (h : w.ownsRow 0 e size (.slice A n c) n xs) : Rs w size A n c xs := ⟨Reads.of_own h, (ownsRow_cap h).1, (ownsRow_cap h).2⟩
theorem St.row (S : St w0 M rs w) (k : Nat) {e size n c : Nat} {A : Option Addr} {xs : List Value} (hk : rs[k]? = some (row e size A n c xs)) : Rs w size A n c xs := rs_of_row (S.get k hk)
theorem St.fix (S : St w0 M rs w) (k : Nat) {size n c : Nat} {A : Option Addr} {xs : List Value} (hk : rs[k]? = some (fixed size A n c xs)) : Rs w size A n c xs := S.get k hk
theorem St.rdB (S : St w0 noM rs w) {g t : Nat} {cs : Array Value} (h : Blk w0 g t cs) : Blk w g t cs := h.below S.like0 h.lt
theorem St.own (S : St w0 noM rs w) (k : Nat) {e size n c : Nat} {A : Option Addr} {xs : List Value} (hk : rs[k]? = some (Zx.row e size A n c xs)) : w.ownsRow w0.heap.size e size (.slice A n c) n xs := by
  have h : w.ownsRow 0 e size (.slice A n c) n xs := S.get k hk
  refine ⟨h.1, h.2.imp id fun ⟨g, cap, cur, h1, _, h3⟩ => ⟨g, cap, cur, h1, ?_, h3⟩⟩
  have := ((S.res _ (List.mem_of_getElem? hk)).2 g (by simp only [Zx.row]; rw [h1]; rfl)).2
  rcases this with h | h
  · exact h
  · exact h.elim
theorem St.fr (S : St w0 noM rs w) (k : Nat) {size n c : Nat} {A : Option Addr} {xs : List Value} (hk : rs[k]? = some (fixed size A n c xs)) : Fr w0 w size A n c xs :=
  ⟨S.fix k hk, fun ad hn hA => by
    have := ((S.res _ (List.mem_of_getElem? hk)).2 ad.block ⟨ad, hn, hA, rfl⟩).2
    rcases this with h | h
    · exact h
    · exact h.elim⟩
theorem Fr.of_own {e size n c : Nat} {A : Option Addr} {xs : List Value} (h : w.ownsRow w0.heap.size e size (.slice A n c) n xs) : Fr w0 w size A n c xs :=
  ⟨rs_of_row ⟨h.1, h.2.imp id fun ⟨g, cap, cur, h1, _, h3⟩ => ⟨g, cap, cur, h1, Nat.zero_le _, h3⟩⟩, fun ad hn hA => by
    obtain ⟨g, cap, hv, hb, _⟩ := h.form hn
    injection hv with h1
    rw [hA] at h1
    cases h1
    exact hb⟩
/-- A callee's row becomes the caller's own. -/
theorem St.adopt (S : St w0 M rs w) (l : Like w w') {e size n c : Nat} {A : Option Addr} {xs : List Value} (h : w'.ownsRow w.heap.size e size (.slice A n c) n xs) : St w0 M (rs ++ [Zx.row e size A n c xs]) w' :=
  S.new l _ ⟨h.1, h.2.imp id fun ⟨g, cap, cur, h1, _, h3⟩ => ⟨g, cap, cur, h1, Nat.zero_le _, h3⟩⟩ fun i hi => by
    have := h.lt i hi
    exact ⟨this.1, this.2⟩
theorem St.adoptB (S : St w0 M rs w) (l : Like w w') {g t : Nat} {cs : Array Value} (h : Blk w' g t cs) (hg : w.heap.size ≤ g) : St w0 M (rs ++ [Zx.blk g t cs]) w' :=
  S.new l _ h fun i hi => by
    have hi' : i = g := hi
    subst hi'
    exact ⟨hg, h.lt⟩
theorem St.row_ne (S : St w0 M rs w) (i j : Nat) {e size n c b t : Nat} {A : Option Addr} {xs : List Value} {cs : Array Value} (hi : rs[i]? = some (Zx.row e size A n c xs)) (hj : rs[j]? = some (Zx.blk b t cs)) (hij : Nat.beq i j = false) : ∀ ad, 0 < n → A = some ad → ad.block ≠ b := fun ad hn hA he => by
  have h1 := row_dom (S.get i hi) hn ad hA
  have hap := List.pairwise_iff_getElem.1 S.apart
  obtain ⟨hil, hie⟩ := List.getElem?_eq_some_iff.1 hi
  obtain ⟨hjl, hje⟩ := List.getElem?_eq_some_iff.1 hj
  have hne : i ≠ j := fun e => by subst e; simp at hij
  rcases Nat.lt_or_gt_of_ne hne with h | h
  · exact hap i j hil hjl h b (by rw [hie, ← he]; exact h1) (by rw [hje]; rfl)
  · exact hap j i hjl hil h b (by rw [hje]; rfl) (by rw [hie, ← he]; exact h1)
theorem St.adoptF (S : St w0 M rs w) (l : Like w w') {size n c : Nat} {A : Option Addr} {xs : List Value} (h : Fr w w' size A n c xs) : St w0 M (rs ++ [fixed size A n c xs]) w' :=
  S.new l _ h.1 fun i ⟨ad, hn, hA, hi⟩ => by
    subst hi
    obtain ⟨ad', hA', hb, _⟩ := h.1.rd.2 hn
    rw [hA] at hA'
    cases hA'
    exact ⟨h.2 ad hn hA, hb⟩
theorem St.blk (S : St w0 M rs w) (k : Nat) {g t : Nat} {cs : Array Value} (hk : rs[k]? = some (blk g t cs)) : Blk w g t cs := S.get k hk
theorem St.rowc (S : St w0 M rs w) (k : Nat) {e size n c n' : Nat} {A : Option Addr} {xs xs' : List Value} (hk : rs[k]? = some (Zx.row e size A n c xs)) (hn : n = n') (hx : xs = xs') : St w0 M (rs.set k (Zx.row e size A n' c xs')) w := by
  subst hn; subst hx
  obtain ⟨h1, h2⟩ := List.getElem?_eq_some_iff.1 hk
  rw [← h2, List.set_getElem_self]
  exact S
theorem St.blkc (S : St w0 M rs w) (k : Nat) {g t : Nat} {cs cs' : Array Value} (hk : rs[k]? = some (Zx.blk g t cs)) (hc : cs = cs') : St w0 M (rs.set k (Zx.blk g t cs')) w := by
  subst hc
  obtain ⟨h1, h2⟩ := List.getElem?_eq_some_iff.1 hk
  rw [← h2, List.set_getElem_self]
  exact S
theorem St.nilrow (S : St w0 M rs w) (e size : Nat) : St w0 M (rs ++ [Zx.row e size none 0 0 []]) w := S.new (Like.refl w) _ ⟨by simp, .inl ⟨rfl, rfl⟩⟩ (fun i hi => by simp [Zx.row, Value.ownBlock] at hi)
end

/-- What operands are. -/
def evl (e : Env) : List Operand → Option (List Value)
  | [] => some []
  | x :: xs => match ev e x, evl e xs with
    | some v, some vs => some (v :: vs)
    | _, _ => none
theorem evl_map {N : Nat} {e : Env} {a : Act} (ha : Fits N e a) : ∀ (xs : List Operand) (vs : List Value), evl e xs = some vs → xs.map a.eval = vs
  | [], vs, h => by simp only [evl, Option.some.injEq] at h; subst h; rfl
  | x :: xs, vs, h => by
    simp only [evl] at h
    cases hx : ev e x with
    | none => rw [hx] at h; cases h
    | some v =>
      cases hxs : evl e xs with
      | none => rw [hx, hxs] at h; cases h
      | some us =>
        rw [hx, hxs] at h
        simp only [Option.some.injEq] at h
        subst h
        simp only [List.map_cons, ha.eval hx, evl_map ha xs us hxs]
def evp (e : Env) : List (Nat × Operand) → Option (List (Nat × Value))
  | [] => some []
  | (i, x) :: xs => match ev e x, evp e xs with
    | some v, some vs => some ((i, v) :: vs)
    | _, _ => none
theorem evp_map {N : Nat} {e : Env} {a : Act} (ha : Fits N e a) : ∀ (xs : List (Nat × Operand)) (vs : List (Nat × Value)), evp e xs = some vs → xs.map (fun p => (p.1, a.eval p.2)) = vs
  | [], vs, h => by simp only [evp, Option.some.injEq] at h; subst h; rfl
  | (i, x) :: xs, vs, h => by
    simp only [evp] at h
    cases hx : ev e x with
    | none => rw [hx] at h; cases h
    | some v =>
      cases hxs : evp e xs with
      | none => rw [hx, hxs] at h; cases h
      | some us =>
        rw [hx, hxs] at h
        simp only [Option.some.injEq] at h
        subst h
        simp only [List.map_cons, ha.eval hx, evp_map ha xs us hxs]
section
variable {P : Program} {N : Nat} {Q : Post} {env : Env} {w w0 : World} {M : Nat → Prop} {rs : List Res} {K : Env → World → Prop} {d : Tmp} {ty : TypeId} {pos : String} {after : Array Edge} {g : Option (Nat × Bool)}
theorem O_of_wp {o : Oper} (h : ∀ a, Fits N env a → ∃ K' : Act → World → Prop, o.wp P a w K' (lift N Q) ∧ ∀ a' w', K' a' w' → ∃ e', Fits N e' a' ∧ K e' w') : O P N Q o env w K := fun a ha => by
  obtain ⟨K', h1, h2⟩ := h a ha
  exact Oper.wp_mono h2 h1
theorem like_grown (h : w.grownBy w0 none) : Like w w0 := ⟨h.os, h.tape, h.output, h.size, fun k hk => h.block k hk (by simp)⟩
theorem like_alloc (w : World) (o : Obj) : Like w (w.alloc o) := like_grown (World.grownBy_alloc _ _ _)

/-- append onto a row of the call's own. -/
theorem o_app {s x : Operand} {t e : TypeId} {z : Value} {size bytes : Nat} (TE : Elem P t e z size bytes) (S : St w0 M rs w) (k : Nat) {A : Option Addr} {n c : Nat} {xs : List Value} (hk : rs[k]? = some (row e size A n c xs))
    (hs : ev env s = some (.slice A n c)) {A' : Option Addr} {m c' : Nat} {news : List Value} (hx : ev env x = some (.slice A' m c')) (hr : Rs w size A' m c' news) (h1 : ∀ u ∈ news, u.oneCell' = true)
    (hd : Nat.blt d N = true) (hbytes : (n + m) * bytes ≤ 140737488355328) (h63 : n + m ≤ 9223372036854775807)
    (h : ∀ A2 c2 w', St w0 M (rs.set k (row e size A2 (n + m) c2 (xs ++ news))) w' → K ((d, .slice A2 (n + m) c2) :: env) w') :
    O P N Q ⟨some d, .call { callee := .builtin .append, args := #[s, x], argTypes := #[t, t] }, ty, pos, after, g⟩ env w K := fun a ha => by
  have hown : w.ownsRow 0 e size (.slice A n c) n xs := S.get k hk
  refine wp_app w TE s x rfl 0 (ha.eval hs) hown (ha.eval hx) hr.rd h1 h63 hbytes (Nat.zero_le _) fun A2 c2 w' h2 h3 h4 => ⟨_, ha.put d _ hd, h A2 c2 w' ?_⟩
  refine S.upd k hk h3.os h3.tape h3.output h3.size (fun i hi hn => h3.block i hi (fun e => hn e.symm)) h2 fun i hi => ?_
  change (Value.slice A2 (n + m) c2).ownBlock = some i at hi
  rcases h4 with h4 | h4
  · left; rw [h4] at hi; exact hi
  · right
    rw [h4] at hi
    cases hi
    exact ⟨Nat.le_refl _, (h2.lt _ h4).2⟩
/-- append onto nil. -/
theorem o_app0 {s x : Operand} {t e : TypeId} {z : Value} {size bytes : Nat} (TE : Elem P t e z size bytes) (S : St w0 M rs w) 
    (hs : ev env s = some (.slice none 0 0)) {A' : Option Addr} {m c' : Nat} {news : List Value} (hx : ev env x = some (.slice A' m c')) (hr : Rs w size A' m c' news) (h1 : ∀ u ∈ news, u.oneCell' = true)
    (hd : Nat.blt d N = true) (hbytes : m * bytes ≤ 140737488355328) (h63 : m ≤ 9223372036854775807)
    (h : ∀ A2 c2 w', St w0 M (rs ++ [row e size A2 m c2 news]) w' → K ((d, .slice A2 m c2) :: env) w') :
    O P N Q ⟨some d, .call { callee := .builtin .append, args := #[s, x], argTypes := #[t, t] }, ty, pos, after, g⟩ env w K := fun a ha => by
  refine wp_app w TE s x rfl 0 (ha.eval hs) (xs := []) ⟨by simp, .inl ⟨rfl, rfl⟩⟩ (ha.eval hx) hr.rd h1 (by unfold maxLen; omega) (by simpa using hbytes) (Nat.zero_le _) fun A2 c2 w' h2 h3 h4 => ?_
  rw [Nat.zero_add] at h2 h4 ⊢
  rw [List.nil_append] at h2
  refine ⟨_, ha.put d _ hd, h A2 c2 w' (S.new ⟨h3.os, h3.tape, h3.output, h3.size, fun k hk => h3.block k hk (by simp [Value.ownBlock])⟩ _ h2 fun i hi => ?_)⟩
  change (Value.slice A2 m c2).ownBlock = some i at hi
  rcases h4 with h4 | h4
  · rw [h4] at hi; simp [Value.ownBlock] at hi
  · rw [h4] at hi
    cases hi
    exact ⟨Nat.le_refl _, (h2.lt _ h4).2⟩
/-- A new variable. -/
theorem o_alloc {el : TypeId} {z : Value} (hz : ∀ W, (zeroValue el).run P W = .ok z W) (S : St w0 M rs w) (hd : Nat.blt d N = true)
    (h : ∀ b w', w0.heap.size ≤ b → St w0 M (rs ++ [blk b el z.cells]) w' → K ((d, .pointer (some ⟨b, 0, none⟩)) :: env) w') :
    O P N Q ⟨some d, .alloc el, ty, pos, after, g⟩ env w K := fun a ha => by
  refine wp_alB el rfl z hz fun w' h2 h3 => ⟨_, ha.put d _ hd, h _ w' S.size (S.new (like_grown h3) _ h2 fun i hi => ?_)⟩
  have hi' : i = w.heap.size := hi
  subst hi'
  exact ⟨Nat.le_refl _, h2.lt⟩
/-- A variable that begins as a value of many cells. -/
theorem o_box {el : TypeId} {x : Operand} {vs : Array Value} (hx : ev env x = some (.agg vs)) (S : St w0 M rs w) (hd : Nat.blt d N = true)
    (h : ∀ b w', w0.heap.size ≤ b → St w0 M (rs ++ [blk b el vs]) w' → K ((d, .pointer (some ⟨b, 0, none⟩)) :: env) w') :
    O P N Q ⟨some d, .box el x, ty, pos, after, g⟩ env w K := fun a ha => by
  refine wp_bxB el x rfl vs (ha.eval hx) fun w' h2 h3 => ⟨_, ha.put d _ hd, h _ w' S.size (S.new (like_grown h3) _ h2 fun i hi => ?_)⟩
  have hi' : i = w.heap.size := hi
  subst hi'
  exact ⟨Nat.le_refl _, h2.lt⟩
theorem cells_one {v : Value} (h : v.oneCell' = true) : v.cells = #[v] := by cases v <;> simp_all [Value.oneCell', Value.cells]
theorem o_box1 {el : TypeId} {x : Operand} {v : Value} (hx : ev env x = some v) (hv : v.oneCell' = true) (S : St w0 M rs w) (hd : Nat.blt d N = true)
    (h : ∀ b w', w0.heap.size ≤ b → St w0 M (rs ++ [blk b el #[v]]) w' → K ((d, .pointer (some ⟨b, 0, none⟩)) :: env) w') :
    O P N Q ⟨some d, .box el x, ty, pos, after, g⟩ env w K := fun a ha => by
  unfold Oper.wp execOp
  simp only [Instr.box, ha.eval hx, Sem.run_bind, newVar, newRow, Sem.run_pure, run_newObj_alloc, cells_one hv, Result.andThen_ok]
  refine ⟨_, ha.put d _ hd, h _ _ S.size (S.new (like_alloc w _) _ (Blk.new w el _) fun i hi => ?_)⟩
  have hi' : i = w.heap.size := hi
  subst hi'
  exact ⟨Nat.le_refl _, by simp⟩
/-- A store of one cell into a block known whole. -/
theorem o_st1 {st : TypeId} {x y : Operand} {b o t : Nat} {cs : Array Value} {v : Value} (S : St w0 M rs w) (k : Nat) (hk : rs[k]? = some (blk b t cs)) (hx : ev env x = some (.pointer (some ⟨b, o, none⟩))) (hy : ev env y = some v)
    (hv : v.oneCell' = true) (hsz : (P.info? st).map (·.size) = some 1) (ho : o < cs.size)
    (h : ∀ w', St w0 M (rs.set k (blk b t (cs.setIfInBounds o v))) w' → K env w') : O P N Q ⟨none, .store st x y, ty, pos, after, g⟩ env w K := fun a ha => by
  have hB := S.blk k hk
  have hc : w.cell? ⟨b, o, none⟩ = some cs[o] := (hB.cell o).trans (Array.getElem?_eq_getElem ho)
  have hr : (storeVar st ⟨b, o, none⟩ v).run P w = .ok () (w.setCell ⟨b, o, none⟩ v) := by
    simp only [storeVar, Sem.run_bind, sizeOf_run hsz, cells_one hv, Result.andThen_ok]
    simp [storeCells, hv, stored, hc, hB.frozen o, run_store, go_sem]
  unfold Oper.wp execOp
  simp only [ha.eval hx, ha.eval hy, Instr.storeAt, Instr.sureAddr, Sem.run_bind, Sem.run_pure, Result.andThen_ok, hr]
  refine ⟨env, ha, h _ (S.upd k hk rfl rfl rfl (by simp) (fun i hi hn => Below.heap_setCell w ⟨b, o, none⟩ v i (fun e => hn e)) (hB.set_ o v) fun i hi => .inl hi)⟩
/-- A store of an array or a struct into a block known whole. -/
theorem o_stR {st : TypeId} {x y : Operand} {b o t : Nat} {cs vs : Array Value} (S : St w0 M rs w) (k : Nat) (hk : rs[k]? = some (blk b t cs)) (hx : ev env x = some (.pointer (some ⟨b, o, none⟩))) (hy : ev env y = some (.agg vs))
    (hsz : (P.info? st).map (·.size) = some vs.size) (ho : o + vs.size ≤ cs.size) (h1 : ∀ u ∈ vs.toList, u.oneCell' = true)
    (h : ∀ w', St w0 M (rs.set k (blk b t (cs.toList.take o ++ vs.toList ++ cs.toList.drop (o + vs.size)).toArray)) w' → K env w') : O P N Q ⟨none, .store st x y, ty, pos, after, g⟩ env w K := fun a ha => by
  refine wp_stB st x y rfl b o (ha.eval hx) vs (ha.eval hy) t cs (S.blk k hk) hsz ho h1 fun w' h2 h3 => ⟨env, ha, h w' (S.upd k hk h3.os h3.tape h3.output h3.size (fun i hi hn => h3.block i hi (fun e => hn (by injection e))) h2 fun i hi => .inl hi)⟩
/-- A call. -/
theorem o_call {f : FuncId} {fn : Func} {xs : Array Operand} {ts : Array TypeId} {args : List Value} {R : Ending → World → Prop} (hf : P.funcs[f]? = some fn) (hn : (fn.name == "runtime.NumGoroutine") = false) (hb : fn.body.isNone = false)
    (hc : Calls P f args.toArray w R) (hargs : evl env xs.toList = some args) (hd : Nat.blt d N = true)
    (h : ∀ e w', R e w' → ∃ v, e = .returned v ∧ K ((d, v) :: env) w') :
    O P N Q ⟨some d, .call { callee := .value (.func f), args := xs, argTypes := ts }, ty, pos, after, g⟩ env w K := fun a ha => by
  have hmap : xs.map a.eval = args.toArray := by
    rw [← evl_map ha xs.toList args hargs]
    apply Array.ext'
    simp
  unfold Oper.wp
  have hrun : (execOp a.eval ⟨some d, .call { callee := .value (.func f), args := xs, argTypes := ts }, ty, pos, after, g⟩).run P w = .ok (.enter f args.toArray) w := by
    simp only [execOp, resolve, hmap, Act.eval, Deferred.ofValue, invoke, callFunc, Sem.run_bind, Sem.run_pure, Result.andThen_ok, run_program, hf, hn, hb, Bool.false_eq_true, if_false, Array.append_empty, Array.empty_append]
  rw [hrun]
  refine hc.mono fun e w' hR => ?_
  obtain ⟨v, rfl, hK⟩ := h e w' hR
  exact ⟨_, ha.put d v hd, hK⟩
theorem o_call0 {f : FuncId} {fn : Func} {xs : Array Operand} {ts : Array TypeId} {args : List Value} {R : Ending → World → Prop} (hf : P.funcs[f]? = some fn) (hn : (fn.name == "runtime.NumGoroutine") = false) (hb : fn.body.isNone = false)
    (hc : Calls P f args.toArray w R) (hargs : evl env xs.toList = some args) 
    (h : ∀ e w', R e w' → ∃ v, e = .returned v ∧ K env w') :
    O P N Q ⟨none, .call { callee := .value (.func f), args := xs, argTypes := ts }, ty, pos, after, g⟩ env w K := fun a ha => by
  have hmap : xs.map a.eval = args.toArray := by
    rw [← evl_map ha xs.toList args hargs]
    apply Array.ext'
    simp
  unfold Oper.wp
  have hrun : (execOp a.eval ⟨none, .call { callee := .value (.func f), args := xs, argTypes := ts }, ty, pos, after, g⟩).run P w = .ok (.enter f args.toArray) w := by
    simp only [execOp, resolve, hmap, Act.eval, Deferred.ofValue, invoke, callFunc, Sem.run_bind, Sem.run_pure, Result.andThen_ok, run_program, hf, hn, hb, Bool.false_eq_true, if_false, Array.append_empty, Array.empty_append]
  rw [hrun]
  refine hc.mono fun e w' hR => ?_
  obtain ⟨v, rfl, hK⟩ := h e w' hR
  exact ⟨env, ha, hK⟩
end
end Go.Proofs.Ytmgimcdkeelnpaa.Zx
