import Derived.WalkKit
import Derived.WalkSpells
import Derived.WalkLawsBesides
import Derived.Deep.AppendLies
import Derived.Deep.Draws
import Derived.Deep.QuietTactic
import Derived.BigQuiet
import Derived.StillTailTactics
import Derived.Maps.AppendAt
import Derived.RegionTactic
import Derived.Lib.Hide
import Derived.Deep.RegionHeld3
import Derived.Deep.MidRow
import Derived.Handy
import Derived.Defers
import Derived.ProofKit
import Derived.OpenShut
import Derived.ShutString
import Derived.ChangeOld
import Derived.Below
import Derived.Deep.Slices
import Derived.Maps.RangeWalk
import Derived.Maps.OwnOps
import Derived.Maps.OwnSet
import Derived.ArgAppend
import Derived.Scope
import Derived.Test.YtbbmkgpgiacdeaaRows

/-
  General laws for walks over byte rows, arrays and blocks. Nothing here names a program.
-/
namespace Go.Proofs.Ytbbmkgpgiacdeaa.Zk
open Go.RowKit
set_option linter.unusedVariables false

theorem block_of_add (a : Addr) (n : Nat) : (a.add n).block = a.block := by unfold Addr.add; split <;> rfl
theorem add_of_add (a : Addr) (i j : Nat) : (a.add i).add j = a.add (i + j) := by
  unfold Addr.add
  by_cases hi : i = 0 <;> by_cases hj : j = 0 <;> simp [hi, hj, Nat.add_assoc]

def Reads (w : World) (B size : Nat) (A : Option Addr) (n : Nat) (xs : List Value) : Prop :=
  xs.length = n * size ∧ (0 < n → ∃ ad, A = some ad ∧ ad.block < B ∧ ∀ j u, xs[j]? = some u → w.cell? (ad.add j) = some u)

section
variable {w w' : World} {B B' size n : Nat} {A : Option Addr} {xs : List Value}
theorem Reads.none_ : Reads w B size A 0 [] := ⟨by simp, fun h => absurd h (by omega)⟩
theorem Reads.at_ {k : Nat} (h : Reads w B 1 A n xs) (hk : k < n) : ∃ ad u, A = some ad ∧ ad.block < B ∧ xs[k]? = some u ∧ w.cell? (ad.add k) = some u := by
  obtain ⟨ad, e, hb, hc⟩ := h.2 (by omega)
  have hl : k < xs.length := by have := h.1; omega
  exact ⟨ad, xs[k], e, hb, List.getElem?_eq_getElem hl, hc k _ (List.getElem?_eq_getElem hl)⟩
theorem Reads.keep (h : Reads w B size A n xs) (hk : ∀ p : Addr, p.block < B → w'.cell? p = w.cell? p) : Reads w' B size A n xs :=
  ⟨h.1, fun hn => by
    obtain ⟨ad, e, hb, hc⟩ := h.2 hn
    exact ⟨ad, e, hb, fun j u hu => (hk _ (by rw [block_of_add]; exact hb)).trans (hc j u hu)⟩⟩
theorem Reads.more (h : Reads w B size A n xs) (hB : B ≤ B') : Reads w B' size A n xs :=
  ⟨h.1, fun hn => by
    obtain ⟨ad, e, hb, hc⟩ := h.2 hn
    exact ⟨ad, e, by omega, hc⟩⟩
theorem Reads.below (h : Reads w B size A n xs) (hb : Below B w w') : Reads w' B size A n xs := h.keep fun _ hp => hb.cell hp
theorem Reads.drew (h : Reads w B size A n xs) : Reads w.drew B size A n xs := h
theorem Reads.drewN (h : Reads w B size A n xs) (k : Nat) : Reads (w.drewN k) B size A n xs := h
theorem Reads.alloc (h : Reads w B size A n xs) (hB : B ≤ w.heap.size) (o : Obj) : Reads (w.alloc o) B size A n xs := h.keep fun p hp => World.cell?_alloc_lt w o p (by omega)
theorem Reads.setCell (h : Reads w B size A n xs) {p : Addr} (hB : B ≤ p.block) (u : Value) : Reads (w.setCell p u) B size A n xs :=
  h.keep fun q hq => World.cell?_setCell_other w p q u (fun e => by subst e; omega)
theorem Reads.cut (h : Reads w B size A n xs) {k cap : Nat} (hk : k ≤ n) (hc : n ≤ cap) :
    Reads w B size (if cap = k then A else A.map (·.add (k * size))) (n - k) (xs.drop (k * size)) := by
  refine ⟨by rw [List.length_drop, h.1, Nat.sub_mul], fun hn => ?_⟩
  obtain ⟨ad, rfl, hb, hcell⟩ := h.2 (by omega)
  rw [if_neg (by omega)]
  refine ⟨ad.add (k * size), rfl, by rw [block_of_add]; exact hb, fun j u hu => ?_⟩
  rw [add_of_add]
  exact hcell _ u (by rw [← hu, List.getElem?_drop])
theorem Reads.of_own {base : Nat} {e : TypeId} {c : Nat} (h : w.ownsRow base e size (.slice A n c) n xs) : Reads w w.heap.size size A n xs := by
  refine ⟨h.1, fun hn => ?_⟩
  obtain ⟨g, cap, hv, _, hlt⟩ := h.form hn
  have hA : A = some ⟨g, 0, none⟩ := by injection hv
  subst hA
  exact ⟨_, rfl, hlt, h.cells (g := g) rfl⟩
end

def Blk (w : World) (g : Nat) (t : TypeId) (cs : Array Value) : Prop := w.heap[g]? = some (.cells cs t (0, 0))

section
variable {w w' : World} {g : Nat} {t : TypeId} {cs : Array Value}
theorem Blk.lt (h : Blk w g t cs) : g < w.heap.size := by
  rcases Nat.lt_or_ge g w.heap.size with hlt | hge
  · exact hlt
  · unfold Blk at h; rw [Array.getElem?_eq_none hge] at h; cases h
theorem Blk.cell (h : Blk w g t cs) (i : Nat) : w.cell? ⟨g, i, none⟩ = cs[i]? := cell_of_row w g i cs t (0, 0) h
theorem Blk.frozen (h : Blk w g t cs) (i : Nat) : w.frozen? ⟨g, i, none⟩ = false := by
  unfold Blk at h
  simp [World.frozen?, h]
theorem Blk.new (w : World) (t : TypeId) (cs : Array Value) : Blk (w.alloc (.cells cs t)) w.heap.size t cs := heap_alloc_new w _
theorem Blk.drew (h : Blk w g t cs) : Blk w.drew g t cs := h
theorem Blk.drewN (h : Blk w g t cs) (n : Nat) : Blk (w.drewN n) g t cs := h
theorem Blk.alloc (h : Blk w g t cs) (o : Obj) : Blk (w.alloc o) g t cs := (Below.heap_alloc w o g h.lt).trans h
theorem Blk.set_ (h : Blk w g t cs) (i : Nat) (u : Value) : Blk (w.setCell ⟨g, i, none⟩ u) g t (cs.setIfInBounds i u) := by
  unfold Blk at h ⊢
  simp [World.setCell, Array.getElem?_modify, h]
theorem Blk.far (h : Blk w g t cs) {p : Addr} (hp : g ≠ p.block) (u : Value) : Blk (w.setCell p u) g t cs := (Below.heap_setCell w p u g hp).trans h
theorem Blk.below {B : Nat} (h : Blk w g t cs) (hb : Below B w w') (hg : g < B) : Blk w' g t cs := (hb.block g hg).trans h
end

section
variable {P : Program} (w : World)

theorem run_append_of_nil (base : Nat) (t ty e : TypeId) (i : TypeInfo) (size : Nat) (ht : P.underlying t = some (.slice e)) (hi : P.info? e = some i)
    (v : Value) (n : Nat) (xs : List Value) (hown : w.ownsRow base e size v n xs) (c : Nat) : (Builtin.append_ #[t, t] ty #[v, .slice none 0 c]).run P w = .ok v w := by
  rcases hown.2 with ⟨rfl, rfl⟩ | ⟨g, cap, cur, rfl, _, _, hnc, _⟩
  · simp [Builtin.append_, run_underlying ht, sizeOf, typeInfo, hi, Builtin.lenOf, Builtin.firstCells]
  · simp [Builtin.append_, run_underlying ht, sizeOf, typeInfo, hi, Builtin.lenOf, Builtin.firstCells, hnc, storeCells]

theorem run_append_any (base : Nat) (t ty e : TypeId) (i : TypeInfo) (z : Value) (size bytes : Nat) (ht : P.underlying t = some (.slice e)) (hi : P.info? e = some i) (hz : i.zero = some z)
    (hsize : i.size = size) (hby : i.bytes = bytes) (hzs : z.cells.size = size) (hsz : 0 < size)
    (v : Value) (n : Nat) (xs : List Value) (hown : w.ownsRow base e size v n xs)
    (B : Nat) (A : Option Addr) (m c : Nat) (news : List Value) (hr : Reads w B size A m news) (h1 : ∀ u ∈ news, u.oneCell' = true)
    (h63 : n + m ≤ maxLen) (hbytes : (n + m) * bytes ≤ 140737488355328) (hbase : base ≤ w.heap.size) :
    ∃ v' w', (Builtin.append_ #[t, t] ty #[v, .slice A m c]).run P w = .ok v' w' ∧ w'.ownsRow base e size v' (n + m) (xs ++ news) ∧ w.grownBy w' v.ownBlock ∧
      (v'.ownBlock = v.ownBlock ∨ v'.ownBlock = some w.heap.size) := by
  rcases A with _ | ad
  · have hm : m = 0 := by
      rcases Nat.eq_zero_or_pos m with h0 | h0
      · exact h0
      · obtain ⟨ad, h, _⟩ := hr.2 h0
        cases h
    subst hm
    have hn : news = [] := List.eq_nil_of_length_eq_zero (by simpa using hr.1)
    subst hn
    exact ⟨v, w, run_append_of_nil w base t ty e i size ht hi v n xs hown c, by simpa using hown, World.grownBy.refl w _, .inl rfl⟩
  · have hcells : ∀ j u, news[j]? = some u → w.cell? (ad.add j) = some u := by
      intro j u hu
      rcases Nat.eq_zero_or_pos m with h0 | h0
      · subst h0
        have hn : news = [] := List.eq_nil_of_length_eq_zero (by simpa using hr.1)
        subst hn
        simp at hu
      · obtain ⟨ad', h, _, hc⟩ := hr.2 h0
        injection h with h
        subst h
        exact hc j u hu
    obtain ⟨v', w', hrun, h2, h3, _, h5⟩ := run_append_own_at (P := P) w base t ty e i z size bytes ht hi hz hsize hby hzs hsz v n xs hown ad m c news hr.1 hcells h1 h63 hbytes hbase
    exact ⟨v', w', hrun, h2, h3, h5⟩

theorem wp_append_any {o : Oper} {a : Act} {K : Act → World → Prop} {Q : Exit → Act → World → Prop} (s x : Operand) (t : TypeId)
    (ho : o.op = .call { callee := .builtin .append, args := #[s, x], argTypes := #[t, t] })
    (base : Nat) (e : TypeId) (i : TypeInfo) (z : Value) (size bytes : Nat) (ht : P.underlying t = some (.slice e)) (hi : P.info? e = some i) (hz : i.zero = some z)
    (hsize : i.size = size) (hby : i.bytes = bytes) (hzs : z.cells.size = size) (hsz : 0 < size)
    (v : Value) (n : Nat) (xs : List Value) (hs : a.eval s = v) (hown : w.ownsRow base e size v n xs)
    (B : Nat) (A : Option Addr) (m c : Nat) (news : List Value) (hx : a.eval x = .slice A m c) (hr : Reads w B size A m news) (h1 : ∀ u ∈ news, u.oneCell' = true)
    (h63 : n + m ≤ maxLen) (hbytes : (n + m) * bytes ≤ 140737488355328) (hbase : base ≤ w.heap.size)
    (h : ∀ v' w', w'.ownsRow base e size v' (n + m) (xs ++ news) → w.grownBy w' v.ownBlock → (v'.ownBlock = v.ownBlock ∨ v'.ownBlock = some w.heap.size) → K (a.put o.dst v') w') : o.wp P a w K Q := by
  obtain ⟨v', w', hrun, h2, h3, h4⟩ := run_append_any (P := P) w base t o.type e i z size bytes ht hi hz hsize hby hzs hsz v n xs hown B A m c news hr h1 h63 hbytes hbase
  unfold Oper.wp execOp
  simp only [ho, resolve, invoke, builtin, Sem.run_bind, Sem.run_pure, Result.andThen_ok, List.map_toArray, List.map_cons, List.map_nil, hs, hx, hrun]
  exact h v' w' h2 h3 h4

end

/-! ### bytes -/
/-- A byte as a value. -/
def bV (c : UInt8) : Value := .int .u8 (c.toNat : Int)
/-- A row of bytes as values. -/
def bL (l : List UInt8) : List Value := l.map bV
theorem bL_one (l : List UInt8) : ∀ u ∈ bL l, u.oneCell' = true := by
  intro u hu
  simp only [bL, List.mem_map] at hu
  obtain ⟨c, _, rfl⟩ := hu
  rfl
/-! ### laws at an operation -/
section
variable {P : Program}
end

section
variable {P : Program}
end

section
variable {P : Program}
end

section
variable {P : Program} {w : World}
/-- A store of an array or struct into a known block, at any place in it. -/
theorem wp_stB {o : Oper} {a : Act} {K : Act → World → Prop} {Q : Exit → Act → World → Prop} (ty : TypeId) (x y : Operand) (ho : o.op = .store ty x y)
    (g off : Nat) (hx : a.eval x = .pointer (some ⟨g, off, none⟩)) (vs : Array Value) (hy : a.eval y = .agg vs) (t : TypeId) (cs : Array Value) (hb : Blk w g t cs)
    (hi : (P.info? ty).map (·.size) = some vs.size) (hl : off + vs.size ≤ cs.size) (h1 : ∀ u ∈ vs.toList, u.oneCell' = true)
    (h : ∀ w', Blk w' g t (cs.toList.take off ++ vs.toList ++ cs.toList.drop (off + vs.size)).toArray → w.grownBy w' (some g) → K (a.put o.dst undef) w') : o.wp P a w K Q := by
  unfold Oper.wp execOp
  have hr := run_storeCells_at (P := P) g off t vs.toList 0 cs w hb (by simpa using hl) h1
  cases hq : P.info? ty with
  | none => simp [hq] at hi
  | some i =>
    have hs : vs.size = i.size := by simp [hq] at hi; omega
    have hsv : (storeVar ty ⟨g, off, none⟩ (.agg vs)).run P w = .ok () (w.setRow g (cs.toList.take off ++ vs.toList ++ cs.toList.drop (off + vs.size)).toArray) := by
      simp only [storeVar, sizeOf, typeInfo, Value.cells, Sem.run_bind]
      simp only [Nat.add_zero, Array.length_toList] at hr
      simp [hq, hs, hr]
    simp only [ho, hx, hy, Instr.storeAt, Instr.sureAddr, Sem.run_bind, Sem.run_pure, Result.andThen_ok, hsv]
    refine h _ (setRow_heap w g cs _ t _ hb) ⟨rfl, rfl, rfl, by simp, fun k hk hne => setRow_other w g k _ (fun e => hne (by rw [e]))⟩
/-- 'alloc' of a variable of many cells: its zero. -/
theorem wp_alB {o : Oper} {a : Act} {K : Act → World → Prop} {Q : Exit → Act → World → Prop} (ty : TypeId) (ho : o.op = .alloc ty) (z : Value) (hz : ∀ W, (zeroValue ty).run P W = .ok z W)
    (h : ∀ w', Blk w' w.heap.size ty z.cells → w.grownBy w' none → K (a.put o.dst (.pointer (some ⟨w.heap.size, 0, none⟩))) w') : o.wp P a w K Q := by
  unfold Oper.wp execOp
  simp only [ho, Instr.alloc, Sem.run_bind, hz, Result.andThen_ok, newVar, newRow, Sem.run_pure, run_newObj_alloc]
  exact h _ (Blk.new w ty z.cells) (World.grownBy_alloc _ _ _)
/-- 'box' of a value of many cells. -/
theorem wp_bxB {o : Oper} {a : Act} {K : Act → World → Prop} {Q : Exit → Act → World → Prop} (ty : TypeId) (x : Operand) (ho : o.op = .box ty x) (vs : Array Value) (hx : a.eval x = .agg vs)
    (h : ∀ w', Blk w' w.heap.size ty vs → w.grownBy w' none → K (a.put o.dst (.pointer (some ⟨w.heap.size, 0, none⟩))) w') : o.wp P a w K Q := by
  unfold Oper.wp execOp
  simp only [ho, Instr.box, hx, Sem.run_bind, newVar, newRow, Sem.run_pure, run_newObj_alloc, Value.cells, Result.andThen_ok]
  exact h _ (Blk.new w ty vs) (World.grownBy_alloc _ _ _)
end

section
variable {P : Program} {w : World}
theorem run_loadB {t ty : TypeId} {cs : Array Value} {g : Nat} (hb : Blk w g t cs) (d : TypeDesc) (hu : P.underlying ty = some d) (hd : d.isRow = true) (hi : (P.info? ty).map (·.size) = some cs.size) :
    (loadVar ty ⟨g, 0, none⟩).run P w = .ok (.agg cs) w :=
  run_loadVar_mid w g 0 ty cs.toList d (fun j v hj => by rw [hb.cell]; simpa using hj) hu hd (by simpa using hi)
theorem resB_t {fn : Func} {p q : Tmp} {ty : TypeId} (h : fn.results = #[.cell p ty, .tmp q]) (tmps : Array Value) {g : Nat} {t : TypeId} {cs : Array Value}
    (hp : tmps.getD p undef = .pointer (some ⟨g, 0, none⟩)) (hb : Blk w g t cs) (d : TypeDesc) (hu : P.underlying ty = some d) (hd : d.isRow = true) (hi : (P.info? ty).map (·.size) = some cs.size) :
    (results fn tmps).run P w = .ok (.tuple #[.agg cs, tmps.getD q undef]) w := by
  have hp' : tmps[p]?.getD undef = .pointer (some ⟨g, 0, none⟩) := by simpa using hp
  simp [results, h, hp', asAddr, run_loadB hb d hu hd hi]
theorem resB {fn : Func} {p : Tmp} {ty : TypeId} (h : fn.results = #[.cell p ty]) (tmps : Array Value) {g : Nat} {t : TypeId} {cs : Array Value}
    (hp : tmps.getD p undef = .pointer (some ⟨g, 0, none⟩)) (hb : Blk w g t cs) (d : TypeDesc) (hu : P.underlying ty = some d) (hd : d.isRow = true) (hi : (P.info? ty).map (·.size) = some cs.size) :
    (results fn tmps).run P w = .ok (.agg cs) w := by
  have hp' : tmps[p]?.getD undef = .pointer (some ⟨g, 0, none⟩) := by simpa using hp
  simp [results, h, hp', asAddr, run_loadB hb d hu hd hi]
end

section
variable {P : Program}
end

/-! ### slices: one bundle for the element's type -/
/-- T: a slice type t, its element's type e with zero z, so many cells and bytes. -/
structure Elem (P : Program) (t e : TypeId) (z : Value) (size bytes : Nat) : Prop where
  ht : P.underlying t = some (.slice e)
  hi : (P.info? e).map (fun i => (i.zero, i.size, i.bytes)) = some (some z, size, bytes)
  hzs : z.cells.size = size
  hsz : 0 < size
theorem own_form {w : World} {base : Nat} {e : TypeId} {size n : Nat} {v : Value} {xs : List Value} (h : w.ownsRow base e size v n xs) : ∃ A c, v = .slice A n c := by
  rcases h.2 with ⟨rfl, rfl⟩ | ⟨g, cap, cur, rfl, _⟩
  · exact ⟨none, 0, rfl⟩
  · exact ⟨_, _, rfl⟩
section
variable {P : Program} {t e : TypeId} {z : Value} {size bytes : Nat}
/-- append: onto a row of the call's own, from whatever reads. -/
theorem wp_app (w : World) {o : Oper} {a : Act} {K : Act → World → Prop} {Q : Exit → Act → World → Prop} (T : Elem P t e z size bytes) (s x : Operand)
    (ho : o.op = .call { callee := .builtin .append, args := #[s, x], argTypes := #[t, t] })
    (base : Nat) {A : Option Addr} {n c : Nat} {xs : List Value} (hs : a.eval s = .slice A n c) (hown : w.ownsRow base e size (.slice A n c) n xs)
    {B : Nat} {A' : Option Addr} {m c' : Nat} {news : List Value} (hx : a.eval x = .slice A' m c') (hr : Reads w B size A' m news) (h1 : ∀ u ∈ news, u.oneCell' = true)
    (h63 : n + m ≤ maxLen) (hbytes : (n + m) * bytes ≤ 140737488355328) (hbase : base ≤ w.heap.size)
    (h : ∀ A2 c2 w', w'.ownsRow base e size (.slice A2 (n + m) c2) (n + m) (xs ++ news) → w.grownBy w' (Value.slice A n c).ownBlock → ((Value.slice A2 (n + m) c2).ownBlock = (Value.slice A n c).ownBlock ∨ (Value.slice A2 (n + m) c2).ownBlock = some w.heap.size) → K (a.put o.dst (.slice A2 (n + m) c2)) w') : o.wp P a w K Q := by
  obtain ⟨i, hi, hz, hsize, hby⟩ := info_parts T.hi
  refine wp_append_any w s x t ho base e i z size bytes T.ht hi hz hsize hby T.hzs T.hsz _ n xs hs hown B A' m c' news hx hr h1 h63 hbytes hbase fun v' w' h2 h3 h4 => ?_
  obtain ⟨A2, c2, rfl⟩ := own_form h2
  exact h A2 c2 w' h2 h3 h4
end
/-- ints as values -/
def iL (l : List Int) : List Value := l.map (Value.int .i64)
@[simp] theorem length_iL (l : List Int) : (iL l).length = l.length := by simp [iL]
theorem iL_get (l : List Int) (k : Nat) (n : Int) (h : l[k]? = some n) : (iL l)[k]? = some (.int .i64 n) := by simp [iL, h]
theorem iL_one (l : List Int) : ∀ u ∈ iL l, u.oneCell' = true := by
  intro u hu
  simp only [iL, List.mem_map] at hu
  obtain ⟨c, _, rfl⟩ := hu
  rfl

section
variable {P : Program}
end
/-- A part of a known block reads. -/
theorem Blk.reads {w : World} {g : Nat} {t : TypeId} {cs : Array Value} (h : Blk w g t cs) (off m : Nat) (hm : off + m ≤ cs.size) : Reads w (g + 1) 1 (some ⟨g, off, none⟩) m ((cs.toList.drop off).take m) :=
  ⟨by simp; omega, fun _ => ⟨_, rfl, by simp, fun j u hu => by
    rw [Addr.add_mid, h.cell]
    rw [List.getElem?_take] at hu
    split at hu
    · rw [List.getElem?_drop] at hu
      simpa using hu
    · cases hu⟩⟩

end Go.Proofs.Ytbbmkgpgiacdeaa.Zk


/-
  General laws, second part: '==' on arrays.
-/
namespace Go.Proofs.Ytbbmkgpgiacdeaa.Zk
open Go.RowKit
set_option linter.unusedVariables false

section
variable {P : Program}
end

theorem fold_set : ∀ (vs : List Value) (k off : Nat) (cs : Array Value), off + k + vs.length ≤ cs.size →
    (vs.zipIdx k).foldl (fun cs (p : Value × Nat) => cs.setIfInBounds (off + p.2) p.1) cs = (cs.toList.take (off + k) ++ vs ++ cs.toList.drop (off + k + vs.length)).toArray
  | [], k, off, cs, _ => by simp
  | v :: vs, k, off, cs, h => by
    have hk : off + k < cs.size := by simp at h; omega
    rw [List.zipIdx_cons, List.foldl_cons, fold_set vs (k + 1) off _ (by simp at h ⊢; omega)]
    congr 1
    simp only [Array.toList_setIfInBounds]
    have e1 : off + (k + 1) = (off + k) + 1 := by omega
    rw [e1, List.take_set, List.drop_set, if_pos (by omega)]
    have e2 : (List.take (off + k + 1) cs.toList).set (off + k) v = List.take (off + k) cs.toList ++ [v] := by
      rw [List.take_succ_eq_append_getElem (by simpa using hk), List.set_append_right _ _ (by simp; omega)]
      simp
      have : min (off + k) cs.size = off + k := by omega
      simp [this]
    rw [e2]
    simp
    congr 1
    omega
/-- 'build' of a part into a row of zeros. -/
theorem fill_part (place : Nat → Option (Nat × Nat)) (cells : Array Value) (i off size : Nat) (vs : Array Value) (v : Value) (hv : v.cells = vs) (rest : List (Nat × Value)) (hp : place i = some (off, size)) (hs : vs.size = size) (hl : off + size ≤ cells.size) :
    Instr.fill place cells ((i, v) :: rest) = Instr.fill place (cells.toList.take off ++ vs.toList ++ cells.toList.drop (off + size)).toArray rest := by
  have e : vs.zipIdx.foldl (fun cs (c, j) => cs.setIfInBounds (off + j) c) cells = (cells.toList.take off ++ vs.toList ++ cells.toList.drop (off + size)).toArray := by
    have := fold_set vs.toList 0 off cells (by simp; omega)
    simp only [Nat.add_zero, Array.length_toList, hs] at this
    rw [← this, ← Array.foldl_toList]
    simp
  rw [← e]
  conv => lhs; unfold Instr.fill
  simp only [hp, hv]
  rw [if_neg (by simp [hs]; omega)]

theorem Blk.range {w : World} {g : Nat} {t : TypeId} {cs : Array Value} (h : Blk w g t cs) : w.rangeAt g 0 cs.toList := fun j v hj => by
  rw [h.cell]
  simpa using hj
/-! ### a region that draws its order, reads old memory, and calls what makes memory of its own -/
/-- The worlds that are as w was below w's own blocks. -/
def Ext (w : World) : Type := { w' : World // Below w.heap.size w w' }
instance (w : World) : Inhabited (Ext w) := ⟨⟨w, Below.refl _ _⟩⟩
def ext (w : World) (x : Ext w) : World := x.1
section
variable {P : Program}
end
section
variable {P : Program}
end
section
variable {P : Program} {w : World}
end
end Go.Proofs.Ytbbmkgpgiacdeaa.Zk


/-
  General laws, third part: which operation stands next? (So that a law is tried there alone.)
-/
namespace Go.Proofs.Ytbbmkgpgiacdeaa.Zk
open Go.RowKit
set_option linter.unusedVariables false

end Go.Proofs.Ytbbmkgpgiacdeaa.Zk


/-
  A walk over an association list: the frame is known only at the slots that matter. General; nothing here names a program.
-/
namespace Go.Proofs.Ytbbmkgpgiacdeaa.Zx
open Go.RowKit Zk
set_option linter.unusedVariables false
set_option linter.unusedSimpArgs false

abbrev Env := List (Nat × Value)
def look : Env → Nat → Option Value
  | [], _ => none
  | (i, v) :: r, n => bif Nat.beq i n then (bif Nat.beq i 1000000 then none else some v) else look r n
def ev (e : Env) : Operand → Option Value
  | .tmp t => look e t
  | .const v => some v
  | .func f => some (.func (.func f) #[] #[])
  | .global g => some (.pointer (some ⟨g, 0, none⟩))

/-- The calls that wait for the end stand in a place of their own, behind all slots. -/
def decD : Value → Deferred
  | .agg #[.int _ f, .agg xs] => ⟨.fn (.func f.toNat) #[], xs⟩
  | _ => default
def decL : Value → List Deferred
  | .agg xs => xs.toList.map decD
  | _ => []
def dfs : Env → List Deferred
  | [] => []
  | (i, v) :: r => bif Nat.beq i 1000000 then decL v else dfs r
theorem look_none : ∀ e : Env, look e 1000000 = none
  | [] => rfl
  | (i, u) :: r => by
    simp only [look]
    cases hb : Nat.beq i 1000000 with
    | true => rfl
    | false => exact look_none r
theorem dfs_app : ∀ (e1 e2 : Env), dfs (e1 ++ e2) = dfs e1 ∨ dfs (e1 ++ e2) = dfs e2
  | [], e2 => .inr rfl
  | (i, u) :: r, e2 => by
    simp only [List.cons_append, dfs]
    cases Nat.beq i 1000000 with
    | true => exact .inl rfl
    | false => exact dfs_app r e2
theorem dfs_put (e : Env) (d : Nat) (v : Value) (h : d < 1000000) : dfs ((d, v) :: e) = dfs e := by
  have : Nat.beq d 1000000 = false := by
    cases hb : Nat.beq d 1000000 with
    | true => have : d = 1000000 := by simpa using hb
              omega
    | false => rfl
  simp only [dfs, this, cond_false]

structure Fits (N : Nat) (e : Env) (a : Act) : Prop where
  defers : a.defers = dfs e
  small : N ≤ 1000000
  size : a.tmps.size = N
  vals : ∀ i v, look e i = some v → a.tmps[i]? = some v

theorem Fits.eval {N : Nat} {e : Env} {a : Act} (h : Fits N e a) {x : Operand} {v : Value} (hx : ev e x = some v) : a.eval x = v := by
  cases x with
  | tmp t =>
    have := h.vals t v hx
    simp [Act.eval, this]
  | const c => simpa [ev, Act.eval] using hx
  | func f => simpa [ev, Act.eval] using hx
  | global g => simpa [ev, Act.eval] using hx

theorem Fits.put {N : Nat} {e : Env} {a : Act} (h : Fits N e a) (d : Nat) (v : Value) (hd : Nat.blt d N = true) : Fits N ((d, v) :: e) (a.put (some d) v) := by
  have hd' : d < N := by simpa using hd
  refine ⟨by rw [dfs_put _ _ _ (Nat.lt_of_lt_of_le hd' h.small)]; exact h.defers, h.small, by simp [Act.put, h.size], fun i u hu => ?_⟩
  simp only [look] at hu
  by_cases hi : d = i
  · subst hi
    have : Nat.beq d d = true := by simp
    have hk : Nat.beq d 1000000 = false := by
      cases hb : Nat.beq d 1000000 with
      | true =>
        have h3 : d = 1000000 := by simpa using hb
        have := h.small
        omega
      | false => rfl
    rw [this, hk] at hu
    simp only [cond_true, cond_false, Option.some.injEq] at hu
    subst hu
    simp [Act.put, h.size, hd']
  · have : Nat.beq d i = false := by
      cases hb : Nat.beq d i with
      | true => exact absurd (by simpa using hb) hi
      | false => rfl
    rw [this] at hu
    simp only [cond_false] at hu
    simp only [Act.put]
    rw [Array.getElem?_setIfInBounds_ne hi]
    exact h.vals i u hu

/-- e' is known of whatever e is known of. -/
def Sub (e' e : Env) : Prop := dfs e' = dfs e ∧ ∀ i v, look e' i = some v → look e i = some v
theorem Sub.refl (e : Env) : Sub e e := ⟨rfl, fun _ _ h => h⟩
theorem Sub.nil (e : Env) (hd : dfs e = [] := by rfl) : Sub [] e := ⟨hd.symm, fun _ _ h => by cases h⟩
theorem Sub.cons {e' e : Env} {i : Nat} {v u : Value} (h : look e i = some u) (hv : u = v) (hs : Sub e' e) : Sub ((i, v) :: e') e := by
  subst hv
  refine ⟨?_, ?_⟩
  · simp only [dfs]
    cases hb : Nat.beq i 1000000 with
    | true =>
      have : i = 1000000 := by simpa using hb
      subst this
      rw [look_none] at h
      cases h
    | false => exact hs.1
  intro j w hj
  simp only [look] at hj
  cases hb : Nat.beq i j with
  | true =>
    rw [hb] at hj
    have : i = j := by simpa using hb
    subst this
    cases hc : Nat.beq i 1000000 with
    | true =>
      rw [hc] at hj
      cases hj
    | false =>
      rw [hc] at hj
      simp only [cond_true, cond_false] at hj
      rw [h, hj]
  | false =>
    rw [hb] at hj
    exact hs.2 j w hj
theorem look_app (e1 e2 : Env) (i : Nat) : look (e1 ++ e2) i = (look e1 i).or (look e2 i) := by
  induction e1 with
  | nil => simp [look]
  | cons p e1 ih =>
    obtain ⟨j, v⟩ := p
    simp only [List.cons_append, look]
    cases hb : Nat.beq j i with
    | true =>
      have h1 : j = i := by simpa using hb
      subst h1
      cases hc : Nat.beq j 1000000 with
      | true =>
        have h2 : j = 1000000 := by simpa using hc
        subst h2
        simp [look_none]
      | false => simp
    | false => simpa using ih
theorem Sub.app {e1 e2 e : Env} (h1 : Sub e1 e) (h2 : Sub e2 e) : Sub (e1 ++ e2) e := ⟨(dfs_app e1 e2).elim (fun h => h.trans h1.1) (fun h => h.trans h2.1), fun i v h => by
  rw [look_app] at h
  cases hl : look e1 i with
  | none => rw [hl] at h; exact h2.2 i v (by simpa using h)
  | some u => rw [hl] at h; simp only [Option.some_or] at h; exact h1.2 i v (by rw [hl, h])⟩
theorem Fits.sub {N : Nat} {e e' : Env} {a : Act} (h : Fits N e a) (hs : Sub e' e) : Fits N e' a := ⟨h.defers.trans hs.1.symm, h.small, h.size, fun i v hv => h.vals i v (hs.2 i v hv)⟩

abbrev Post := Exit → Env → World → Prop
def lift (N : Nat) (Q : Post) : Exit → Act → World → Prop
  | .panic _, _, _ => False
  | .outgrown, _, _ => False
  | e, a, w => ∃ env, Fits N env a ∧ Q e env w
def thenQ (K : Env → World → Prop) (Q : Post) : Post
  | .normal, e, w => K e w
  | x, e, w => Q x e w
def inB (id : Nat) (Q : Post) : Post
  | .exit i, e, w => if i = id then Q .normal e w else Q (.exit i) e w
  | x, e, w => Q x e w

section
variable {P : Program} {N : Nat} {Q : Post} {env : Env} {w : World}
def T (P : Program) (N : Nat) (c : Code) (Q : Post) (env : Env) (w : World) : Prop := ∀ a, Fits N env a → c.wp P (lift N Q) a w

theorem T_weak {c : Code} {env' : Env} (hs : Sub env' env) (h : T P N c Q env' w) : T P N c Q env w := fun a ha => h a (ha.sub hs)
theorem T_seq {x y : Code} (h : ∀ K : Env → World → Prop, (∀ e w, T P N y Q e w → K e w) → T P N x (thenQ K Q) env w) : T P N (.seq x y) Q env w := fun a ha =>
  wp_seq (Code.wp_mono (by
    intro e a w h
    cases e with
    | normal =>
      obtain ⟨e', h1, h2⟩ := h
      exact h2 a h1
    | panic c => exact h.elim
    | outgrown => exact h.elim
    | exit i => exact h
    | goto l => exact h
    | ret => exact h) (h (fun e w => T P N y Q e w) (fun _ _ h => h) a ha))
/-- A sequence with a relation in between. -/
theorem T_seqR {x y : Code} (R : Env → World → Prop) (h1 : T P N x (thenQ R Q) env w) (h2 : ∀ e w, R e w → T P N y Q e w) : T P N (.seq x y) Q env w :=
  T_seq fun K hK => fun a ha => Code.wp_mono (by
    intro e a w h
    cases e with
    | normal =>
      obtain ⟨e', h3, h4⟩ := h
      exact ⟨e', h3, hK _ _ (h2 _ _ h4)⟩
    | panic c => exact h.elim
    | outgrown => exact h.elim
    | exit i => exact h
    | goto l => exact h
    | ret => exact h) (h1 a ha)
/-- What behind the end is asked may be less. -/
theorem T_mono {c : Code} {R R' : Env → World → Prop} (hr : ∀ e w, R e w → R' e w) (h : T P N c (thenQ R Q) env w) : T P N c (thenQ R' Q) env w := fun a ha => Code.wp_mono (by
    intro e a w h
    cases e with
    | normal =>
      obtain ⟨e', h3, h4⟩ := h
      exact ⟨e', h3, hr _ _ h4⟩
    | panic c => exact h.elim
    | outgrown => exact h.elim
    | exit i => exact h
    | goto l => exact h
    | ret => exact h) (h a ha)
theorem T_skip (h : Q .normal env w) : T P N .skip Q env w := fun a ha => wp_skip ⟨env, ha, h⟩
theorem T_ret (h : Q .ret env w) : T P N .ret Q env w := fun a ha => wp_ret ⟨env, ha, h⟩
theorem T_exit {id : Nat} (h : Q (.exit id) env w) : T P N (.exit id) Q env w := fun a ha => wp_exit ⟨env, ha, h⟩
theorem T_block {id : Nat} {c : Code} (h : T P N c (inB id Q) env w) : T P N (.block id c) Q env w := fun a ha =>
  wp_block (Code.wp_mono (by
    intro e a w h
    cases e with
    | normal => exact h
    | panic c => exact h.elim
    | outgrown => exact h.elim
    | exit i =>
      obtain ⟨e', h3, h4⟩ := h
      simp only [inB] at h4
      simp only [Exit.inBlock]
      split
      · rename_i hi
        rw [if_pos hi] at h4
        exact ⟨e', h3, h4⟩
      · rename_i hi
        rw [if_neg hi] at h4
        exact ⟨e', h3, h4⟩
    | goto l => exact h
    | ret => exact h) (h a ha))
theorem T_cond {c : Operand} {x y : Code} {p : Prop} {inst : Decidable p} (hc : ev env c = some (.bool (@decide p inst))) (ht : p → T P N x Q env w) (hf : ¬p → T P N y Q env w) : T P N (.cond c x y) Q env w := fun a ha => by
  refine wp_cond_split (ha.eval hc) (fun h => ht (of_decide_eq_true h) a ha) (fun h => hf (of_decide_eq_false h) a ha)
theorem T_condB {c : Operand} {x y : Code} {b : Bool} (hc : ev env c = some (.bool b)) (ht : b = true → T P N x Q env w) (hf : b = false → T P N y Q env w) : T P N (.cond c x y) Q env w := fun a ha => by
  refine wp_cond_split (ha.eval hc) (fun h => ht h a ha) (fun h => hf h a ha)
theorem T_true {c : Operand} {x y : Code} (hc : ev env c = some (.bool true)) (ht : T P N x Q env w) : T P N (.cond c x y) Q env w := fun a ha => wp_cond_true (ha.eval hc) (ht a ha)
theorem T_false {c : Operand} {x y : Code} (hc : ev env c = some (.bool false)) (ht : T P N y Q env w) : T P N (.cond c x y) Q env w := fun a ha => wp_cond_false (ha.eval hc) (ht a ha)

/-- A loop: the relation bears a number that every round lowers. -/
theorem T_loop {c : Code} (R : Nat → Env → World → Prop) (m : Nat) (h0 : R m env w)
    (round : ∀ m e w, R m e w → T P N c (thenQ (fun e' w' => ∃ m', m' < m ∧ R m' e' w') Q) e w) : T P N (.loop c) Q env w := by
  intro a0 ha0 b k cs
  have key : ∀ n a w, (∃ e, Fits N e a ∧ R n e w) →
      ∃ e a' w', lift N Q e a' w' ∧ Arrives P (lone (b.at a (.code c :: .inLoop c :: k)) cs w) b k cs e a' w' := by
    intro n
    induction n using Nat.strongRecOn with
    | _ n ih =>
      intro a w ⟨e0, he0, hR⟩
      obtain ⟨e, a₁, w₁, hq, harr⟩ := round n e0 w hR a he0 b (.inLoop c :: k) cs
      cases e with
      | normal =>
        obtain ⟨e1, hf1, m', hlt, hR1⟩ := hq
        obtain ⟨e₂, a₂, w₂, hq₂, harr₂⟩ := ih m' hlt a₁ w₁ ⟨e1, hf1, hR1⟩
        exact ⟨e₂, a₂, w₂, hq₂, .of_steps (Steps.trans harr (.one step_inLoop)) harr₂⟩
      | exit id => exact ⟨.exit id, a₁, w₁, hq, .pass (x := .inLoop c) rfl (fun _ _ => .inl (by simp)) harr⟩
      | goto l => exact ⟨.goto l, a₁, w₁, hq, .pass (x := .inLoop c) rfl (fun _ _ => .inl (by simp)) harr⟩
      | ret => exact ⟨.ret, a₁, w₁, hq, .pass (x := .inLoop c) rfl (fun _ _ => .inl (by simp)) harr⟩
      | panic ch => exact hq.elim
      | outgrown => exact hq.elim
  obtain ⟨e, a', w', hq, harr⟩ := key m a0 w ⟨env, ha0, h0⟩
  exact ⟨e, a', w', hq, .of_steps (.one step_loop) harr⟩

/-! ### operations in the text's order -/
def L (P : Program) (N : Nat) (ops : Array Oper) (Q : Post) (rest : List Oper) (env : Env) (w : World) : Prop := ∀ a, Fits N env a → wpList P ops (lift N Q) rest a w
theorem T_region {id : Nat} {l : List Oper} (h : L P N l.toArray Q l env w) : T P N (.region id l.toArray false) Q env w := fun a ha => wp_region_lit (h a ha)
theorem L_nil {ops : Array Oper} (h : Q .normal env w) : L P N ops Q [] env w := fun a ha => ⟨env, ha, h⟩

/-- One operation: what it leads to. -/
def O (P : Program) (N : Nat) (Q : Post) (o : Oper) (env : Env) (w : World) (K : Env → World → Prop) : Prop :=
  ∀ a, Fits N env a → o.wp P a w (fun a' w' => ∃ e', Fits N e' a' ∧ K e' w') (lift N Q)
theorem L_o {ops : Array Oper} {rest : List Oper} {d : Option Tmp} {op : Op} {ty : TypeId} {pos : String} {after : Array Edge}
    (h : O P N Q ⟨d, op, ty, pos, after, none⟩ env w (L P N ops Q rest)) : L P N ops Q (⟨d, op, ty, pos, after, none⟩ :: rest) env w := fun a ha =>
  wpList_plain rfl fun K hK => Oper.wp_mono (fun a w ⟨e', h1, h2⟩ => hK _ _ (h2 a h1)) (h a ha)

/-- All worlds that are as w is in w's own blocks. -/
def Like (w w' : World) : Prop := Below w.heap.size w w'
theorem Like.refl (w : World) : Like w w := Below.refl _ _
theorem Like.drew (w : World) : Like w w.drew := (Below.refl _ _).drew
theorem Like.trans {a b c : World} (h : Like a b) (k : Like b c) : Like a c := Below.trans h (Below.mono k h.size)
theorem Like.cell {w w' : World} (h : Like w w') {p : Addr} {v : Value} (hc : w.cell? p = some v) : w'.cell? p = some v :=
  (Below.cell h (World.block_lt_of_cell? w p hc)).trans hc

/-- The operation yields v in every world of S and leaves it as it is. -/
def Y (P : Program) (S : World → Prop) (env : Env) (o : Oper) (v : Value) : Prop := ∀ N a w, Fits N env a → S w → (execOp a.eval o).run P w = .ok (.value v) w
theorem o_y {d : Tmp} {op : Op} {ty : TypeId} {pos : String} {after : Array Edge} {g : Option (Nat × Bool)} {v : Value} {S : World → Prop} {K : Env → World → Prop}
    (hy : Y P S env ⟨some d, op, ty, pos, after, g⟩ v) (hS : S w) (hd : Nat.blt d N = true) (h : K ((d, v) :: env) w) : O P N Q ⟨some d, op, ty, pos, after, g⟩ env w K := fun a ha => by
  unfold Oper.wp
  rw [hy N a w ha hS]
  exact ⟨_, ha.put d v hd, h⟩
theorem L_y {ops : Array Oper} {rest : List Oper} {d : Tmp} {op : Op} {ty : TypeId} {pos : String} {after : Array Edge} {v : Value}
    (hy : Y P (Like w) env ⟨some d, op, ty, pos, after, none⟩ v) (hd : Nat.blt d N = true) (h : L P N ops Q rest ((d, v) :: env) w) : L P N ops Q (⟨some d, op, ty, pos, after, none⟩ :: rest) env w :=
  L_o (o_y hy (Like.refl w) hd h)
/-! guards -/
theorem L_gyes {ops : Array Oper} {rest : List Oper} {d : Tmp} {op : Op} {ty : TypeId} {pos : String} {after : Array Edge} {j : Nat} {b : Bool} {t : Tmp}
    (hj : (ops[j]?).bind (·.dst) = some t) (ht : look env t = some (.bool b)) (h : L P N ops Q (⟨d, op, ty, pos, after, none⟩ :: rest) env w) : L P N ops Q (⟨d, op, ty, pos, after, some (j, b)⟩ :: rest) env w := fun a ha => by
  have h1 := h a ha
  have hw : yielded ops a.tmps j = some b := by
    simp [yielded, hj, ha.vals t _ ht]
  unfold wpList at h1 ⊢
  simp only [Region.wanted, hw, if_true, beq_self_eq_true] at h1 ⊢
  exact h1
theorem L_gno {ops : Array Oper} {rest : List Oper} {d : Tmp} {op : Op} {ty : TypeId} {pos : String} {after : Array Edge} {j : Nat} {b : Bool} {t : Tmp}
    (hj : (ops[j]?).bind (·.dst) = some t) (ht : look env t = some (.bool (!b))) (hd : Nat.blt d N = true) (h : L P N ops Q rest ((d, undef) :: env) w) : L P N ops Q (⟨some d, op, ty, pos, after, some (j, b)⟩ :: rest) env w := fun a ha => by
  have h1 := h _ (ha.put d undef hd)
  have hw : yielded ops a.tmps j = some (!b) := by
    simp [yielded, hj, ha.vals t _ ht]
  unfold wpList
  have hne : (some (!b) == some b) = false := by cases b <;> rfl
  simp only [Region.wanted, hw, hne, Bool.false_eq_true, if_false]
  exact h1
/-- A test known by a proposition: two ways. -/
theorem L_split {ops : Array Oper} {rest : List Oper} (t : Tmp) {p : Prop} {inst : Decidable p} (ht : look env t = some (.bool (@decide p inst)))
    (h1 : p → L P N ops Q rest ((t, .bool true) :: env) w) (h2 : ¬p → L P N ops Q rest ((t, .bool false) :: env) w) : L P N ops Q rest env w := fun a ha => by
  by_cases hp : p
  · exact h1 hp a (ha.sub (Sub.cons ht (by rw [decide_eq_true hp]) (Sub.refl _)))
  · exact h2 hp a (ha.sub (Sub.cons ht (by rw [decide_eq_false hp]) (Sub.refl _)))
/-! ### the function's frame -/
def bodyQ (P : Program) (fn : Func) (R : Ending → World → Prop) : Post
  | .ret, env, w | .normal, env, w => dfs env = [] ∧ ∃ v, (∀ N a, Fits N env a → (results fn a.tmps).run P w = .ok v w) ∧ R (.returned v) w
  | _, _, _ => False
theorem enter {f : FuncId} {fn : Func} {c : Code} {args : List Value} {R : Ending → World → Prop} (hf : P.funcs[f]? = some fn) (hb : fn.body = some c) (hn : fn.ntmps = N)
    (hN : Nat.ble args.length N = true) (henv : ∀ i v, look env i = some v → args[i]? = some v) (h : T P N c (bodyQ P fn R) env w) (hd0 : dfs env = [] := by rfl) (hsm : Nat.ble N 1000000 = true := by rfl) : Calls P f args.toArray w R := by
  refine calls_of_wp hf hb ?_
  have hsm' : N ≤ 1000000 := by simpa using hsm
  have hN' : args.length ≤ N := by simpa using hN
  have hfit : Fits N env { tmps := args.toArray ++ Array.replicate (fn.ntmps - args.toArray.size) undef, defers := [] } := by
    refine ⟨hd0.symm, hsm', by simp [hn]; omega, fun i v hv => ?_⟩
    have h1 := henv i v hv
    have h2 := (List.getElem?_eq_some_iff.1 h1).1
    rw [Array.getElem?_append_left (by simpa using h2)]
    simpa using h1
  refine Code.wp_mono (fun e a w hq => ?_) (h _ hfit)
  cases e with
  | normal =>
    obtain ⟨e', h1, h0, v, h2, h3⟩ := hq
    exact ⟨h1.defers.trans h0, v, h2 N a h1, h3⟩
  | ret =>
    obtain ⟨e', h1, h0, v, h2, h3⟩ := hq
    exact ⟨h1.defers.trans h0, v, h2 N a h1, h3⟩
  | panic c => exact hq.elim
  | outgrown => exact hq.elim
  | exit i => obtain ⟨_, _, h⟩ := hq; exact h.elim
  | goto i => obtain ⟨_, _, h⟩ := hq; exact h.elim
/-- The parameters in their slots. -/
def envOf : List Value → Nat → Env
  | [], _ => []
  | v :: vs, k => (k, v) :: envOf vs (k + 1)
theorem look_envOf : ∀ (vs : List Value) (k i : Nat) (v : Value), look (envOf vs k) i = some v → k ≤ i ∧ vs[i - k]? = some v
  | [], _, _, _, h => by cases h
  | u :: vs, k, i, v, h => by
    simp only [envOf, look] at h
    cases hb : Nat.beq k i with
    | true =>
      rw [hb] at h
      have : k = i := by simpa using hb
      subst this
      cases hc : Nat.beq k 1000000 with
      | true =>
        rw [hc] at h
        cases h
      | false =>
        rw [hc] at h
        simp only [cond_true, cond_false] at h
        simp [h]
    | false =>
      rw [hb] at h
      have hne : k ≠ i := fun hki => by
        subst hki
        have h1 : Nat.beq k k = true := by simp
        rw [h1] at hb
        cases hb
      obtain ⟨h1, h2⟩ := look_envOf vs (k + 1) i v h
      refine ⟨by omega, ?_⟩
      rw [show i - k = (i - (k + 1)) + 1 by omega]
      simpa using h2
theorem enter1 {f : FuncId} {fn : Func} {c : Code} (args : List Value) {R : Ending → World → Prop} (hf : P.funcs[f]? = some fn) (hb : fn.body = some c) (hn : fn.ntmps = N)
    (hN : Nat.ble args.length N = true) (he : envOf args 0 = env) (h : T P N c (bodyQ P fn R) env w) (hd0 : dfs env = [] := by rfl) (hsm : Nat.ble N 1000000 = true := by rfl) : Calls P f args.toArray w R :=
  enter hf hb hn hN (by subst he; intro i v hv; simpa using (look_envOf _ _ _ _ hv).2) h hd0 hsm
theorem up_then {K : Env → World → Prop} {Q : Post} (h : Q .ret env w) : thenQ K Q .ret env w := h
theorem up_in {id : Nat} {Q : Post} (h : Q .ret env w) : inB id Q .ret env w := h
theorem Fits.getD {N : Nat} {e : Env} {a : Act} (h : Fits N e a) {t : Nat} {v : Value} (ht : look e t = some v) : a.tmps.getD t undef = v := by
  simp [h.vals t v ht]
theorem end0 {fn : Func} {R : Ending → World → Prop} (hr : fn.results = #[]) (h : R (.returned (.tuple #[])) w) (hd0 : dfs env = [] := by rfl) : bodyQ P fn R .normal env w :=
  ⟨hd0, _, fun N a ha => results_none hr _ _ _, h⟩
theorem ret1 {fn : Func} {R : Ending → World → Prop} {t : Tmp} {v : Value} (hr : fn.results = #[.tmp t]) (ht : look env t = some v) (h : R (.returned v) w) (hd0 : dfs env = [] := by rfl) : bodyQ P fn R .ret env w :=
  ⟨hd0, _, fun N a ha => by rw [results_tmp hr, ha.getD ht], h⟩
theorem ret2 {fn : Func} {R : Ending → World → Prop} {t u : Tmp} {v x : Value} (hr : fn.results = #[.tmp t, .tmp u]) (ht : look env t = some v) (hu : look env u = some x) (h : R (.returned (.tuple #[v, x])) w) (hd0 : dfs env = [] := by rfl) : bodyQ P fn R .ret env w :=
  ⟨hd0, _, fun N a ha => by rw [results_tmp2 hr, ha.getD ht, ha.getD hu], h⟩
theorem ret3 {fn : Func} {R : Ending → World → Prop} {t u s : Tmp} {v x y : Value} (hr : fn.results = #[.tmp t, .tmp u, .tmp s]) (ht : look env t = some v) (hu : look env u = some x) (hs : look env s = some y) (h : R (.returned (.tuple #[v, x, y])) w) (hd0 : dfs env = [] := by rfl) : bodyQ P fn R .ret env w :=
  ⟨hd0, _, fun N a ha => by simp [results, hr, ha.vals t _ ht, ha.vals u _ hu, ha.vals s _ hs], h⟩
end
end Go.Proofs.Ytbbmkgpgiacdeaa.Zx


/-
  What the quiet operations yield. General; nothing here names a program.
-/
namespace Go.Proofs.Ytbbmkgpgiacdeaa.Zx
open Go.RowKit Zk
set_option linter.unusedVariables false
set_option linter.unusedSimpArgs false

/-! ### wraps -/
theorem i64w {n : Int} (h : -9223372036854775808 ≤ n ∧ n ≤ 9223372036854775807) : IntKind.i64.wrap n = n := IntWalk.i64_in n h
/-- A whole number that is a natural one. -/
class Nt (j : Int) (k : outParam Nat) : Prop where
  eq : j = (k : Int)
instance (k : Nat) : Nt (k : Int) k := ⟨rfl⟩
instance (n : Nat) : Nt (no_index (OfNat.ofNat n) : Int) (OfNat.ofNat n) := ⟨rfl⟩
instance (x y : Int) (a b : Nat) [h : Nt x a] [k : Nt y b] : Nt (x + y) (a + b) := ⟨by rw [h.eq, k.eq]; omega⟩
instance (x y : Int) (a b : Nat) [h : Nt x a] [k : Nt y b] : Nt (x * y) (a * b) := ⟨by rw [h.eq, k.eq]; simp⟩
instance (x y : Int) (a b : Nat) [h : Nt x a] [k : Nt y b] : Nt (x / y) (a / b) := ⟨by rw [h.eq, k.eq]; simp⟩
instance (x y : Int) (a b : Nat) [h : Nt x a] [k : Nt y b] : Nt (x % y) (a % b) := ⟨by rw [h.eq, k.eq]; simp⟩

section
variable {P : Program} {S : World → Prop} {env : Env} {dst : Option Tmp} {ty : TypeId} {pos : String} {after : Array Edge} {g : Option (Nat × Bool)}

theorem y_move {x : Operand} {v : Value} (hx : ev env x = some v) : Y P S env ⟨dst, .move x, ty, pos, after, g⟩ v := fun N a w ha _ => by simp [execOp, ha.eval hx]
theorem y_assign {x : Operand} {v : Value} (hx : ev env x = some v) : Y P S env ⟨dst, .assign x, ty, pos, after, g⟩ v := fun N a w ha _ => by simp [execOp, ha.eval hx]
theorem y_pickT {c x y : Operand} {v : Value} (hc : ev env c = some (.bool true)) (hx : ev env x = some v) : Y P S env ⟨dst, .pick c x y, ty, pos, after, g⟩ v := fun N a w ha _ => by
  simp [execOp, ha.eval hc, ha.eval hx, asBool]
theorem y_pickF {c x y : Operand} {v : Value} (hc : ev env c = some (.bool false)) (hy : ev env y = some v) : Y P S env ⟨dst, .pick c x y, ty, pos, after, g⟩ v := fun N a w ha _ => by
  simp [execOp, ha.eval hc, ha.eval hy, asBool]

/-! integers -/
theorem y_add {x y : Operand} {t u : TypeId} {k : IntKind} {m n r : Int} (hx : ev env x = some (.int k m)) (hy : ev env y = some (.int k n)) (hw : k.wrap (m + n) = r) :
    Y P S env ⟨dst, .binOp .add t x y u, ty, pos, after, g⟩ (.int k r) := fun N a w ha _ => by
  subst hw; simp only [execOp, ha.eval hx, ha.eval hy, eqGuard, binOp, Op.intArith, ne_eq, not_true_eq_false, if_false, Sem.run_bind, Sem.run_pure, Result.andThen_ok]
  rfl
theorem y_sub {x y : Operand} {t u : TypeId} {k : IntKind} {m n r : Int} (hx : ev env x = some (.int k m)) (hy : ev env y = some (.int k n)) (hw : k.wrap (m - n) = r) :
    Y P S env ⟨dst, .binOp .sub t x y u, ty, pos, after, g⟩ (.int k r) := fun N a w ha _ => by
  subst hw; simp only [execOp, ha.eval hx, ha.eval hy, eqGuard, binOp, Op.intArith, ne_eq, not_true_eq_false, if_false, Sem.run_bind, Sem.run_pure, Result.andThen_ok]
  rfl
theorem y_mul {x y : Operand} {t u : TypeId} {k : IntKind} {m n r : Int} (hx : ev env x = some (.int k m)) (hy : ev env y = some (.int k n)) (hw : k.wrap (m * n) = r) :
    Y P S env ⟨dst, .binOp .mul t x y u, ty, pos, after, g⟩ (.int k r) := fun N a w ha _ => by
  subst hw; simp only [execOp, ha.eval hx, ha.eval hy, eqGuard, binOp, Op.intArith, ne_eq, not_true_eq_false, if_false, Sem.run_bind, Sem.run_pure, Result.andThen_ok]
  rfl
theorem y_rem {x y : Operand} {t u : TypeId} {k : IntKind} {m n r : Int} (hx : ev env x = some (.int k m)) (hy : ev env y = some (.int k n)) (hn : n ≠ 0) (hw : m.tmod n = r) :
    Y P S env ⟨dst, .binOp .rem t x y u, ty, pos, after, g⟩ (.int k r) := fun N a w ha _ => by
  subst hw
  simp only [execOp, ha.eval hx, ha.eval hy, eqGuard_rem, binOp, Op.intDiv, ne_eq, not_true_eq_false, if_false, if_neg hn, Sem.run_bind, Sem.run_pure, Result.andThen_ok]
theorem y_lss {x y : Operand} {t u : TypeId} {k : IntKind} {m n : Int} (hx : ev env x = some (.int k m)) (hy : ev env y = some (.int k n)) :
    Y P S env ⟨dst, .binOp .lss t x y u, ty, pos, after, g⟩ (.bool (decide (m < n))) := fun N a w ha _ => by
  simp only [execOp, ha.eval hx, ha.eval hy, eqGuard, binOp, Op.intCmp, ne_eq, not_true_eq_false, if_false, Sem.run_bind, Sem.run_pure, Result.andThen_ok]
  rfl
theorem y_leq {x y : Operand} {t u : TypeId} {k : IntKind} {m n : Int} (hx : ev env x = some (.int k m)) (hy : ev env y = some (.int k n)) :
    Y P S env ⟨dst, .binOp .leq t x y u, ty, pos, after, g⟩ (.bool (decide (m ≤ n))) := fun N a w ha _ => by
  simp only [execOp, ha.eval hx, ha.eval hy, eqGuard, binOp, Op.intCmp, ne_eq, not_true_eq_false, if_false, Sem.run_bind, Sem.run_pure, Result.andThen_ok]
  rfl
theorem y_gtr {x y : Operand} {t u : TypeId} {k : IntKind} {m n : Int} (hx : ev env x = some (.int k m)) (hy : ev env y = some (.int k n)) :
    Y P S env ⟨dst, .binOp .gtr t x y u, ty, pos, after, g⟩ (.bool (decide (n < m))) := fun N a w ha _ => by
  simp only [execOp, ha.eval hx, ha.eval hy, eqGuard, binOp, Op.intCmp, ne_eq, not_true_eq_false, if_false, Sem.run_bind, Sem.run_pure, Result.andThen_ok]
  rfl
theorem y_geq {x y : Operand} {t u : TypeId} {k : IntKind} {m n : Int} (hx : ev env x = some (.int k m)) (hy : ev env y = some (.int k n)) :
    Y P S env ⟨dst, .binOp .geq t x y u, ty, pos, after, g⟩ (.bool (decide (n ≤ m))) := fun N a w ha _ => by
  simp only [execOp, ha.eval hx, ha.eval hy, eqGuard, binOp, Op.intCmp, ne_eq, not_true_eq_false, if_false, Sem.run_bind, Sem.run_pure, Result.andThen_ok]
  rfl
theorem y_eql {x y : Operand} {t u : TypeId} {k : IntKind} {m n : Int} (hx : ev env x = some (.int k m)) (hy : ev env y = some (.int k n)) :
    Y P S env ⟨dst, .binOp .eql t x y u, ty, pos, after, g⟩ (.bool (decide (m = n))) := fun N a w ha _ => by
  simp only [execOp, ha.eval hx, ha.eval hy, eqGuard, binOp, ne_eq, not_true_eq_false, if_false, Op.intCmp, Sem.run_bind, Sem.run_pure, Result.andThen_ok]
  rfl
theorem y_neq {x y : Operand} {t u : TypeId} {k : IntKind} {m n : Int} (hx : ev env x = some (.int k m)) (hy : ev env y = some (.int k n)) :
    Y P S env ⟨dst, .binOp .neq t x y u, ty, pos, after, g⟩ (.bool (decide (m ≠ n))) := fun N a w ha _ => by
  simp only [execOp, ha.eval hx, ha.eval hy, eqGuard, binOp, ne_eq, not_true_eq_false, if_false, Op.intCmp, Sem.run_bind, Sem.run_pure, Result.andThen_ok]
  congr 2
  by_cases h : m = n <;> simp [h]
/-! strings -/
/-! bools -/
theorem y_notD {x : Operand} {t : TypeId} {p : Prop} {inst : Decidable p} (hx : ev env x = some (.bool (@decide p inst))) : Y P S env ⟨dst, .unOp .not t x, ty, pos, after, g⟩ (.bool (decide (¬p))) := fun N a w ha _ => by
  simp only [execOp, ha.eval hx, Op.unary, Sem.run_bind, Sem.run_pure, Result.andThen_ok]
  simp
theorem y_not {x : Operand} {t : TypeId} {b : Bool} (hx : ev env x = some (.bool b)) : Y P S env ⟨dst, .unOp .not t x, ty, pos, after, g⟩ (.bool (!b)) := fun N a w ha _ => by
  simp only [execOp, ha.eval hx, Op.unary, Sem.run_bind, Sem.run_pure, Result.andThen_ok]
theorem y_neg {x : Operand} {t : TypeId} {k : IntKind} {n r : Int} (hx : ev env x = some (.int k n)) (hw : k.wrap (0 - n) = r) : Y P S env ⟨dst, .unOp .neg t x, ty, pos, after, g⟩ (.int k r) := fun N a w ha _ => by
  subst hw; simp only [execOp, ha.eval hx, Op.unary, Op.intArith, Sem.run_bind, Sem.run_pure, Result.andThen_ok]
/-! conversions between integers -/
/-! len, cap -/
theorem y_len {x : Operand} {t e : TypeId} {A : Option Addr} {n c : Nat} (ht : P.underlying t = some (.slice e)) (hx : ev env x = some (.slice A n c)) :
    Y P S env ⟨dst, .call { callee := .builtin .len, args := #[x], argTypes := #[t] }, ty, pos, after, g⟩ (.int .i64 (n : Int)) := fun N a w ha _ => by
  have he : P.elem t = e := by simp [Program.elem, ht]
  have := run_len_slice (P := P) (w := w) t ty A n c (by rw [he]; exact ht)
  simp only [execOp, resolve, invoke, builtin, Sem.run_bind, Sem.run_pure, Result.andThen_ok, List.map_toArray, List.map_cons, List.map_nil, ha.eval hx, this]
  rfl
theorem y_cap {x : Operand} {t e : TypeId} {A : Option Addr} {n c : Nat} (ht : P.underlying t = some (.slice e)) (hx : ev env x = some (.slice A n c)) :
    Y P S env ⟨dst, .call { callee := .builtin .cap, args := #[x], argTypes := #[t] }, ty, pos, after, g⟩ (.int .i64 (c : Int)) := fun N a w ha _ => by
  have he : P.elem t = e := by simp [Program.elem, ht]
  have := run_cap_slice (P := P) (w := w) t ty A n c (by rw [he]; exact ht)
  simp only [execOp, resolve, invoke, builtin, Sem.run_bind, Sem.run_pure, Result.andThen_ok, List.map_toArray, List.map_cons, List.map_nil, ha.eval hx, this]
  rfl
theorem y_min {x y : Operand} {t u : TypeId} {k : IntKind} {m n : Int} (hx : ev env x = some (.int k m)) (hy : ev env y = some (.int k n)) :
    Y P S env ⟨dst, .call { callee := .builtin .min, args := #[x, y], argTypes := #[t, u] }, ty, pos, after, g⟩ (.int k (min m n)) := fun N a w ha _ => by
  simp only [execOp, resolve, invoke, builtin, Sem.run_bind, Sem.run_pure, Result.andThen_ok, List.map_toArray, List.map_cons, List.map_nil, ha.eval hx, ha.eval hy, Builtin.min_, List.foldlM_cons, List.foldlM_nil, Builtin.min2]
  have : (if n < m then n else m) = min m n := by split <;> omega
  rw [this]
theorem y_max {x y : Operand} {t u : TypeId} {k : IntKind} {m n : Int} (hx : ev env x = some (.int k m)) (hy : ev env y = some (.int k n)) :
    Y P S env ⟨dst, .call { callee := .builtin .max, args := #[x, y], argTypes := #[t, u] }, ty, pos, after, g⟩ (.int k (max m n)) := fun N a w ha _ => by
  simp only [execOp, resolve, invoke, builtin, Sem.run_bind, Sem.run_pure, Result.andThen_ok, List.map_toArray, List.map_cons, List.map_nil, ha.eval hx, ha.eval hy, Builtin.max_, List.foldlM_cons, List.foldlM_nil, Builtin.max2]
  have : (if n > m then n else m) = max m n := by split <;> omega
  rw [this]
/-! parts of values -/
theorem y_extract {x : Operand} {i : Nat} {vs : Array Value} {v : Value} (hx : ev env x = some (.tuple vs)) (hv : vs[i]? = some v) : Y P S env ⟨dst, .extract x i, ty, pos, after, g⟩ v := fun N a w ha _ => by
  simp only [execOp, ha.eval hx, Instr.extract, hv, Sem.run_bind, Sem.run_pure, Result.andThen_ok]
/-! nil checks -/
theorem y_nilp {x : Operand} {p : Addr} (hx : ev env x = some (.pointer (some p))) : Y P S env ⟨dst, .nilCheck x, ty, pos, after, g⟩ (.pointer (some p)) := fun N a w ha _ => by
  simp only [execOp, ha.eval hx, Sem.run_pure]
end
end Go.Proofs.Ytbbmkgpgiacdeaa.Zx


/-
  What is known of the world: old memory as it was, and a list of pieces of memory of the call's own, apart from each other. General; nothing here names a program.
-/
namespace Go.Proofs.Ytbbmkgpgiacdeaa.Zx
open Go.RowKit Zk
set_option linter.unusedVariables false
set_option linter.unusedSimpArgs false

/-! ### what slices read as -/
structure Rs (w : World) (size : Nat) (A : Option Addr) (n c : Nat) (xs : List Value) : Prop where
  rd : Reads w w.heap.size size A n xs
  cap : n ≤ c
  max : c ≤ 9223372036854775807
def cutA (A : Option Addr) (c l size : Nat) : Option Addr := if c = l then A else A.map (·.add (l * size))
section
variable {w w' : World} {size n c : Nat} {A : Option Addr} {xs : List Value}
theorem Rs.like (h : Rs w size A n c xs) (hl : Like w w') : Rs w' size A n c xs := ⟨(h.rd.below hl).more hl.size, h.cap, h.max⟩
theorem Rs.len (h : Rs w size A n c xs) : xs.length = n * size := h.rd.1
theorem Rs.nil (w : World) (size : Nat) : Rs w size none 0 0 [] := ⟨Reads.none_, Nat.le_refl _, by omega⟩
theorem Rs.cut (h : Rs w size A n c xs) {l u : Nat} (h1 : l ≤ u) (h2 : u ≤ n) : Rs w size (cutA A c l size) (u - l) (c - l) ((xs.drop (l * size)).take ((u - l) * size)) := by
  have hc := h.cap
  have hx := h.len
  refine ⟨⟨?_, fun hn => ?_⟩, by omega, by have := h.max; omega⟩
  · rw [List.length_take, List.length_drop, hx, ← Nat.sub_mul]
    exact Nat.min_eq_left (Nat.mul_le_mul_right _ (by omega))
  · obtain ⟨ad, rfl, hb, hcell⟩ := h.rd.2 (by omega)
    unfold cutA
    rw [if_neg (by omega)]
    refine ⟨ad.add (l * size), rfl, by rw [block_of_add]; exact hb, fun j u' hu => ?_⟩
    rw [add_of_add]
    rw [List.getElem?_take] at hu
    split at hu
    · rw [List.getElem?_drop] at hu
      exact hcell _ u' hu
    · cases hu
theorem Rs.at_ (h : Rs w 1 A n c xs) {k : Nat} (hk : k < n) : ∃ ad v, A = some ad ∧ xs[k]? = some v ∧ w.cell? (ad.add k) = some v := by
  obtain ⟨ad, u, h1, _, h2, h3⟩ := h.rd.at_ hk
  exact ⟨ad, u, h1, h2, h3⟩
end
def pR (A : Option Addr) (k size : Nat) : Value := .pointer (A.map (·.add (k * size)))
section
variable {P : Program} {S : World → Prop} {env : Env} {w : World} {dst : Option Tmp} {ty : TypeId} {pos : String} {after : Array Edge} {g : Option (Nat × Bool)}
theorem sizeOf_run {e : TypeId} {size : Nat} (hsz : (P.info? e).map (·.size) = some size) (w : World) : (sizeOf e).run P w = .ok size w := by
  cases hq : P.info? e with
  | none => simp [hq] at hsz
  | some i =>
    have : i.size = size := by simpa [hq] using hsz
    simp [sizeOf, typeInfo, hq, this]
theorem y_idx {x i : Operand} {t e : TypeId} {A : Option Addr} {n c k size : Nat} {q : IntKind} {j : Int} {xs : List Value} (ht : P.underlying t = some (.slice e)) (hsz : (P.info? e).map (·.size) = some size)
    (hx : ev env x = some (.slice A n c)) (hi : ev env i = some (.int q j)) (hr : Rs w size A n c xs) (hj : Nt j k) (hk : k < n) :
    Y P S env ⟨dst, .indexAddr t x i, ty, pos, after, g⟩ (pR A k size) := fun N a w' ha _ => by
  obtain ⟨ad, hA, _⟩ := hr.rd.2 (by omega)
  subst hA
  have hj' := hj.eq
  subst hj'
  have h1 : (0 : Int) ≤ (k : Int) ∧ (k : Int) < (n : Int) := by omega
  simp only [execOp, ha.eval hx, ha.eval hi, Instr.indexAt, asIntOf, Sem.run_bind, run_underlying ht, Sem.run_pure, Result.andThen_ok, h1, and_self, if_true, sizeOf_run hsz, Int.toNat_natCast]
  rfl
theorem run_loadVar1 {p : Addr} {v : Value} {d : TypeDesc} (hd : P.underlying ty = some d) (hrow : d.isRow = false) {w' : World} (hc : w'.cell? p = some v) : (loadVar ty p).run P w' = .ok v w' := by
  have hagg : (isAgg ty).run P w' = .ok false w' := by
    unfold isAgg
    rw [Sem.run_bind, run_underlying hd w']
    cases d <;> simp_all [TypeDesc.isRow]
  simp only [loadVar, Sem.run_bind, hagg, Result.andThen_ok, Bool.false_eq_true, if_false]
  simp [hc]
theorem y_ldc {x : Operand} {p : Addr} {v : Value} {lt : TypeId} {d : TypeDesc} (hd : P.underlying lt = some d) (hrow : d.isRow = false) (hx : ev env x = some (.pointer (some p))) (hc : w.cell? p = some v) :
    Y P (Like w) env ⟨dst, .load lt x, ty, pos, after, g⟩ v := fun N a w' ha hw => by
  simp only [execOp, ha.eval hx, Instr.loadAt, Instr.sureAddr, Sem.run_bind, Sem.run_pure, Result.andThen_ok, run_loadVar1 hd hrow (Like.cell hw hc)]
theorem y_ldr {x : Operand} {A : Option Addr} {n c k : Nat} {xs : List Value} {v : Value} {lt : TypeId} {d : TypeDesc} (hd : P.underlying lt = some d) (hrow : d.isRow = false) (hx : ev env x = some (pR A k 1)) (hr : Rs w 1 A n c xs) (hv : xs[k]? = some v) :
    Y P (Like w) env ⟨dst, .load lt x, ty, pos, after, g⟩ v := by
  have hk : k < n := by
    have h1 := (List.getElem?_eq_some_iff.1 hv).1
    have h2 := hr.len
    omega
  obtain ⟨ad, u, rfl, h2, h3⟩ := hr.at_ hk
  rw [hv] at h2
  cases h2
  refine y_ldc hd hrow (p := ad.add k) ?_ h3
  rw [hx]
  simp [pR]
/-- An element of many cells. -/
theorem y_ldn {x : Operand} {A : Option Addr} {n c k size : Nat} {xs : List Value} {lt : TypeId} {d : TypeDesc} (hd : P.underlying lt = some d) (hrow : d.isRow = true) (hsz : (P.info? lt).map (·.size) = some size) (hx : ev env x = some (pR A k size)) (hr : Rs w size A n c xs) (hk : k < n) :
    Y P (Like w) env ⟨dst, .load lt x, ty, pos, after, g⟩ (.agg ((xs.drop (k * size)).take size).toArray) := fun N a w' ha hw => by
  obtain ⟨ad, rfl, hb, hcell⟩ := hr.rd.2 (by omega)
  have hagg : (isAgg lt).run P w' = .ok true w' := by
    unfold isAgg
    rw [Sem.run_bind, run_underlying hd w']
    cases d <;> simp_all [TypeDesc.isRow]
  have hl : ((xs.drop (k * size)).take size).length = size := by
    rw [List.length_take, List.length_drop, hr.len]
    have : (k + 1) * size ≤ n * size := Nat.mul_le_mul_right _ hk
    rw [Nat.succ_mul] at this
    omega
  have h1 := run_loadCells_list (P := P) (w := w') (ad.add (k * size)) ((xs.drop (k * size)).take size) (fun j v hj => by
    rw [List.getElem?_take] at hj
    split at hj
    · rw [List.getElem?_drop] at hj
      rw [add_of_add]
      exact Like.cell hw (hcell _ _ hj)
    · cases hj)
  rw [hl] at h1
  simp only [execOp, ha.eval hx, pR, Option.map_some, Instr.loadAt, Instr.sureAddr, loadVar, Sem.run_bind, Sem.run_pure, Result.andThen_ok, hagg, if_true, sizeOf_run hsz, h1]
/-! arrays behind a pointer -/
theorem y_fieldA {x : Operand} {t : TypeId} {fs : Array Field} {f : Field} {i b o size : Nat} (r : Nat) (ht : P.underlying t = some (.struct fs)) (hf : fs[i]? = some f) (hsz : (P.info? f.type).map (·.size) = some size) (h0 : Nat.blt 0 size = true)
    (hx : ev env x = some (.pointer (some ⟨b, o, none⟩))) (hr : o + f.offset = r) : Y P S env ⟨dst, .fieldAddr t x i, ty, pos, after, g⟩ (.pointer (some ⟨b, r, none⟩)) := fun N a w' ha _ => by
  subst hr
  have h1 : ¬ size = 0 := by have : 0 < size := by simpa using h0
                             omega
  simp only [execOp, ha.eval hx, Instr.fieldAt, Instr.sureAddr, Sem.run_bind, run_underlying ht, Sem.run_pure, Result.andThen_ok, hf, fieldPlace, sizeOf_run hsz, if_neg h1, Addr.add_mid]
theorem run_loadRow {b o : Nat} {vs : List Value} {d : TypeDesc} {lt : TypeId} (hd : P.underlying lt = some d) (hrow : d.isRow = true) (hsz : (P.info? lt).map (·.size) = some vs.length) {w' : World} (hc : w'.rangeAt b o vs) :
    (Instr.loadAt lt (.pointer (some ⟨b, o, none⟩))).run P w' = .ok (.agg vs.toArray) w' := run_loadAt_mid w' b o lt vs d hc hd hrow hsz
theorem y_ldR {x : Operand} {b o : Nat} {vs : List Value} {lt : TypeId} {d : TypeDesc} (hd : P.underlying lt = some d) (hrow : d.isRow = true) (hsz : (P.info? lt).map (·.size) = some vs.length) (hx : ev env x = some (.pointer (some ⟨b, o, none⟩))) (hc : w.rangeAt b o vs) :
    Y P (Like w) env ⟨dst, .load lt x, ty, pos, after, g⟩ (.agg vs.toArray) := fun N a w' ha hw => by
  simp only [execOp, ha.eval hx, Sem.run_bind, run_loadRow hd hrow hsz (w' := w') (fun j v hv => Like.cell hw (hc j v hv)), Sem.run_pure, Result.andThen_ok]
/-! parts -/
theorem y_slice {x : Operand} {t e : TypeId} {A : Option Addr} {n c l u size : Nat} {kl kh : IntKind} {jl jh : Int} {i j : Operand} (ht : P.underlying t = some (.slice e)) (hsz : (P.info? e).map (·.size) = some size) (hx : ev env x = some (.slice A n c))
    (hi : ev env i = some (.int kl jl)) (hj : ev env j = some (.int kh jh)) (hl : Nt jl l) (hu : Nt jh u) (h1 : l ≤ u) (h2 : u ≤ c) :
    Y P S env ⟨dst, .slice t x (some i) (some j) none, ty, pos, after, g⟩ (.slice (cutA A c l size) (u - l) (c - l)) := fun N a w' ha _ => by
  have e1 := hl.eq
  have e2 := hu.eq
  subst e1; subst e2
  have he : P.elem t = e := by simp [Program.elem, ht]
  have h3 := run_slice_lh (P := P) (w := w') (t := t) (a := A) (len := n) (cap := c) (by rw [he]; exact ht) kl kh (l : Int) (u : Int) (by omega) (by omega) (by omega)
  rw [he] at h3
  simp only [execOp, ha.eval hx, Option.map_some, Option.map_none, ha.eval hi, ha.eval hj, Instr.sliceAt, Sem.run_bind, run_underlying ht, Result.andThen_ok, h3, sizeOf_run hsz, Sem.run_pure, Int.toNat_natCast]
  rfl
theorem y_sliceH {x : Operand} {t e : TypeId} {A : Option Addr} {n c u size : Nat} {kh : IntKind} {jh : Int} {j : Operand} (ht : P.underlying t = some (.slice e)) (hsz : (P.info? e).map (·.size) = some size) (hx : ev env x = some (.slice A n c))
    (hj : ev env j = some (.int kh jh)) (hu : Nt jh u) (h2 : u ≤ c) :
    Y P S env ⟨dst, .slice t x none (some j) none, ty, pos, after, g⟩ (.slice (cutA A c 0 size) (u - 0) (c - 0)) := fun N a w' ha _ => by
  have e2 := hu.eq
  subst e2
  have he : P.elem t = e := by simp [Program.elem, ht]
  have h3 := run_slice_h (P := P) (w := w') (t := t) (a := A) (len := n) (cap := c) (by rw [he]; exact ht) kh (u : Int) (by omega) (by omega)
  rw [he] at h3
  simp only [execOp, ha.eval hx, Option.map_some, Option.map_none, ha.eval hj, Instr.sliceAt, Sem.run_bind, run_underlying ht, Result.andThen_ok, h3, sizeOf_run hsz, Sem.run_pure, Int.toNat_natCast]
  rfl
end
end Go.Proofs.Ytbbmkgpgiacdeaa.Zx


/-
  Operations that make memory or write to it, and calls. General; nothing here names a program.
-/
namespace Go.Proofs.Ytbbmkgpgiacdeaa.Zx
open Go.RowKit Zk
set_option linter.unusedVariables false
set_option linter.unusedSimpArgs false

/-- A piece of memory of the call's own: its blocks, and what holds of it. -/
structure Res where
  dom : Nat → Prop
  holds : World → Prop
  stable : ∀ w w' : World, (∀ i, dom i → w'.heap[i]? = w.heap[i]?) → holds w → holds w'
/-- M: the old blocks that the call may write to. -/
structure St (w0 : World) (M : Nat → Prop) (rs : List Res) (w : World) : Prop where
  os : w.os = w0.os
  tape : w.tape = w0.tape
  output : w.output = w0.output
  size : w0.heap.size ≤ w.heap.size
  old : ∀ i, i < w0.heap.size → ¬ M i → w.heap[i]? = w0.heap[i]?
  res : ∀ r ∈ rs, r.holds w ∧ ∀ i, r.dom i → i < w.heap.size ∧ (w0.heap.size ≤ i ∨ M i)
  apart : rs.Pairwise fun r s => ∀ i, r.dom i → ¬ s.dom i
def noM : Nat → Prop := fun _ => False

section
variable {w0 w w' : World} {M : Nat → Prop} {rs : List Res}
theorem St.start (w : World) (M : Nat → Prop) : St w M [] w := ⟨rfl, rfl, rfl, Nat.le_refl _, fun _ _ _ => rfl, (fun r hr => by cases hr), List.Pairwise.nil⟩
theorem St.like0 (S : St w0 noM rs w) : Like w0 w := ⟨S.os, S.tape, S.output, S.size, fun k hk => S.old k hk (fun h => h)⟩
theorem St.rd (S : St w0 noM rs w) {size : Nat} {A : Option Addr} {n c : Nat} {xs : List Value} (h : Rs w0 size A n c xs) : Rs w size A n c xs := h.like S.like0
theorem St.rdM (S : St w0 M rs w) {size : Nat} {A : Option Addr} {n c : Nat} {xs : List Value} (h : Rs w0 size A n c xs) (hM : ∀ ad, 0 < n → A = some ad → ¬ M ad.block) : Rs w size A n c xs :=
  ⟨⟨h.rd.1, fun hn => by
    obtain ⟨ad, e, hb, hc⟩ := h.rd.2 hn
    exact ⟨ad, e, Nat.lt_of_lt_of_le hb S.size, fun j u hu => (World.cell?_of_block (a := ad.add j) (by rw [block_of_add]; exact S.old _ hb (hM ad hn e))).trans (hc j u hu)⟩⟩, h.cap, h.max⟩
/-- What a call did that may write to block g. -/
theorem St.only {g : Nat} (S : St w0 (· = g) rs w) : w0.grownBy w (some g) := ⟨S.os, S.tape, S.output, S.size, fun i hi hne => S.old i hi (fun e => hne (by rw [e]))⟩
theorem St.like (S : St w0 M rs w) (h : Like w w') : St w0 M rs w' :=
  ⟨h.os.trans S.os, h.tape.trans S.tape, h.output.trans S.output, Nat.le_trans S.size h.size, fun i hi hM => (h.block i (Nat.lt_of_lt_of_le hi S.size)).trans (S.old i hi hM),
    fun r hr => ⟨r.stable w w' (fun i hi => h.block i ((S.res r hr).2 i hi).1) (S.res r hr).1, fun i hi => ⟨Nat.lt_of_lt_of_le ((S.res r hr).2 i hi).1 h.size, ((S.res r hr).2 i hi).2⟩⟩, S.apart⟩
theorem St.drew (S : St w0 M rs w) : St w0 M rs w.drew := S.like (Like.drew w)
theorem St.get (S : St w0 M rs w) (k : Nat) {r : Res} (hk : rs[k]? = some r) : r.holds w := (S.res r (List.mem_of_getElem? hk)).1
/-- One piece has changed, and maybe moved into a new block. -/
theorem St.upd (S : St w0 M rs w) (k : Nat) {r r' : Res} (hk : rs[k]? = some r) (hos : w'.os = w.os) (htape : w'.tape = w.tape) (hout : w'.output = w.output) (hsz : w.heap.size ≤ w'.heap.size)
    (hb : ∀ i, i < w.heap.size → ¬ r.dom i → w'.heap[i]? = w.heap[i]?) (hr : r'.holds w') (hd : ∀ i, r'.dom i → r.dom i ∨ (w.heap.size ≤ i ∧ i < w'.heap.size)) : St w0 M (rs.set k r') w' := by
  have hkl : k < rs.length := (List.getElem?_eq_some_iff.1 hk).1
  have hke : rs[k] = r := (List.getElem?_eq_some_iff.1 hk).2
  have hmem : r ∈ rs := List.mem_of_getElem? hk
  have hap := List.pairwise_iff_getElem.1 S.apart
  have hap2 : ∀ j (hj : j < rs.length), j ≠ k → ∀ i, rs[j].dom i → ¬ r.dom i := by
    intro j hj hne i hi hri
    rcases Nat.lt_or_gt_of_ne hne with h | h
    · exact hap j k hj hkl h i hi (by rw [hke]; exact hri)
    · exact hap k j hkl hj h i (by rw [hke]; exact hri) hi
  refine ⟨hos.trans S.os, htape.trans S.tape, hout.trans S.output, Nat.le_trans S.size hsz, fun i hi hM => ?_, fun q hq => ?_, ?_⟩
  · refine (hb i (Nat.lt_of_lt_of_le hi S.size) fun hri => ?_).trans (S.old i hi hM)
    rcases ((S.res r hmem).2 i hri).2 with h | h
    · omega
    · exact hM h
  · obtain ⟨j, hj, rfl⟩ := List.getElem_of_mem hq
    have hj' : j < rs.length := by simpa using hj
    rw [List.getElem_set]
    split
    · rename_i hjk
      subst hjk
      refine ⟨hr, fun i hi => ?_⟩
      rcases hd i hi with h | h
      · exact ⟨Nat.lt_of_lt_of_le ((S.res r hmem).2 i h).1 hsz, ((S.res r hmem).2 i h).2⟩
      · exact ⟨h.2, .inl (Nat.le_trans S.size h.1)⟩
    · rename_i hjk
      have h1 := S.res rs[j] (List.getElem_mem hj')
      exact ⟨(rs[j]).stable w w' (fun i hi => hb i (h1.2 i hi).1 (hap2 j hj' (fun e => hjk e.symm) i hi)) h1.1, fun i hi => ⟨Nat.lt_of_lt_of_le (h1.2 i hi).1 hsz, (h1.2 i hi).2⟩⟩
  · rw [List.pairwise_iff_getElem]
    intro i j hi hj hij x hx
    have hi' : i < rs.length := by simpa using hi
    have hj' : j < rs.length := by simpa using hj
    rw [List.getElem_set] at hx ⊢
    split at hx
    · rename_i hki
      subst hki
      rw [if_neg (by omega)]
      intro hxj
      rcases hd x hx with h | h
      · exact hap2 j hj' (by omega) x hxj h
      · have := ((S.res rs[j] (List.getElem_mem hj')).2 x hxj).1
        omega
    · split
      · rename_i hki hkj
        subst hkj
        intro hxk
        rcases hd x hxk with h | h
        · exact hap2 i hi' (by omega) x hx h
        · have := ((S.res rs[i] (List.getElem_mem hi')).2 x hx).1
          omega
      · exact hap i j hi' hj' hij x hx
/-- A piece more, in new blocks. -/
theorem St.new (S : St w0 M rs w) (h : Like w w') (r : Res) (hr : r.holds w') (hd : ∀ i, r.dom i → w.heap.size ≤ i ∧ i < w'.heap.size) : St w0 M (rs ++ [r]) w' := by
  have S' := S.like h
  refine ⟨S'.os, S'.tape, S'.output, S'.size, S'.old, fun q hq => ?_, ?_⟩
  · rcases List.mem_append.1 hq with hq | hq
    · exact S'.res q hq
    · obtain rfl := List.mem_singleton.1 hq
      exact ⟨hr, fun i hi => ⟨(hd i hi).2, .inl (Nat.le_trans S.size (hd i hi).1)⟩⟩
  · rw [List.pairwise_append]
    refine ⟨S.apart, List.pairwise_singleton _ _, fun q hq s hs i hi hsi => ?_⟩
    obtain rfl := List.mem_singleton.1 hs
    have := ((S.res q hq).2 i hi).1
    have := (hd i hsi).1
    omega
theorem St.drop (S : St w0 M rs w) {rs' : List Res} (h : rs'.Sublist rs) : St w0 M rs' w := ⟨S.os, S.tape, S.output, S.size, S.old, fun r hr => S.res r (h.subset hr), S.apart.sublist h⟩
end

/-- A row of the call's own. -/
def row (e size : Nat) (A : Option Addr) (n c : Nat) (xs : List Value) : Res where
  dom i := (Value.slice A n c).ownBlock = some i
  holds w := w.ownsRow 0 e size (.slice A n c) n xs
  stable w w' h hh := by
    refine ⟨hh.1, hh.2.imp id fun ⟨g, cap, cur, h1, h2, h3, h4⟩ => ⟨g, cap, cur, h1, h2, ?_, h4⟩⟩
    rw [← h3]
    exact h g (by rw [h1]; rfl)
/-- A block known whole. -/
def blk (g t : Nat) (cs : Array Value) : Res where
  dom i := i = g
  holds w := Blk w g t cs
  stable w w' h hh := (h g rfl).trans hh
/-- What reads as xs and is not written again. -/
def fixed (size : Nat) (A : Option Addr) (n c : Nat) (xs : List Value) : Res where
  dom i := ∃ ad, 0 < n ∧ A = some ad ∧ ad.block = i
  holds w := Rs w size A n c xs
  stable w w' h hh := ⟨⟨hh.rd.1, fun hn => by
    obtain ⟨ad, e, hb, hc⟩ := hh.rd.2 hn
    have h1 := h ad.block ⟨ad, hn, e, rfl⟩
    have hlt : ad.block < w'.heap.size := by
      rcases Nat.lt_or_ge ad.block w'.heap.size with h2 | h2
      · exact h2
      · rw [Array.getElem?_eq_none h2, Array.getElem?_eq_getElem hb] at h1
        cases h1
    exact ⟨ad, e, hlt, fun j u hu => (World.cell?_of_block (a := ad.add j) (by rw [block_of_add]; exact h1)).trans (hc j u hu)⟩⟩, hh.cap, hh.max⟩
/-- Reads, and lies in blocks that are new since w0. -/
def Fr (w0 w : World) (size : Nat) (A : Option Addr) (n c : Nat) (xs : List Value) : Prop := Rs w size A n c xs ∧ ∀ ad, 0 < n → A = some ad → w0.heap.size ≤ ad.block
section
variable {w0 w w' : World} {M : Nat → Prop} {rs : List Res}
theorem ownsRow_cap {e size n c : Nat} {A : Option Addr} {xs : List Value} (h : w.ownsRow 0 e size (.slice A n c) n xs) : n ≤ c ∧ c ≤ 9223372036854775807 := by
  rcases h.2 with ⟨h1, rfl⟩ | ⟨g, cap, cur, h1, _, _, h2, h3, _⟩
  · injection h1 with _ h1 h2
    omega
  · injection h1 with _ _ h4
    subst h4
    exact ⟨h2, h3⟩
theorem rs_of_row {e size n c : Nat} {A : Option Addr} {xs : List Value} (h : w.ownsRow 0 e size (.slice A n c) n xs) : Rs w size A n c xs := ⟨Reads.of_own h, (ownsRow_cap h).1, (ownsRow_cap h).2⟩
theorem St.row (S : St w0 M rs w) (k : Nat) {e size n c : Nat} {A : Option Addr} {xs : List Value} (hk : rs[k]? = some (row e size A n c xs)) : Rs w size A n c xs := rs_of_row (S.get k hk)
theorem St.fix (S : St w0 M rs w) (k : Nat) {size n c : Nat} {A : Option Addr} {xs : List Value} (hk : rs[k]? = some (fixed size A n c xs)) : Rs w size A n c xs := S.get k hk
theorem St.rdB (S : St w0 noM rs w) {g t : Nat} {cs : Array Value} (h : Blk w0 g t cs) : Blk w g t cs := h.below S.like0 h.lt
theorem St.own (S : St w0 noM rs w) (k : Nat) {e size n c : Nat} {A : Option Addr} {xs : List Value} (hk : rs[k]? = some (Zx.row e size A n c xs)) : w.ownsRow w0.heap.size e size (.slice A n c) n xs := by
  have h : w.ownsRow 0 e size (.slice A n c) n xs := S.get k hk
  refine ⟨h.1, h.2.imp id fun ⟨g, cap, cur, h1, _, h3⟩ => ⟨g, cap, cur, h1, ?_, h3⟩⟩
  have := ((S.res _ (List.mem_of_getElem? hk)).2 g (by simp only [Zx.row]; rw [h1]; rfl)).2
  rcases this with h | h
  · exact h
  · exact h.elim
theorem St.fr (S : St w0 noM rs w) (k : Nat) {size n c : Nat} {A : Option Addr} {xs : List Value} (hk : rs[k]? = some (fixed size A n c xs)) : Fr w0 w size A n c xs :=
  ⟨S.fix k hk, fun ad hn hA => by
    have := ((S.res _ (List.mem_of_getElem? hk)).2 ad.block ⟨ad, hn, hA, rfl⟩).2
    rcases this with h | h
    · exact h
    · exact h.elim⟩
/-- A callee's row becomes the caller's own. -/
theorem St.adopt (S : St w0 M rs w) (l : Like w w') {e size n c : Nat} {A : Option Addr} {xs : List Value} (h : w'.ownsRow w.heap.size e size (.slice A n c) n xs) : St w0 M (rs ++ [Zx.row e size A n c xs]) w' :=
  S.new l _ ⟨h.1, h.2.imp id fun ⟨g, cap, cur, h1, _, h3⟩ => ⟨g, cap, cur, h1, Nat.zero_le _, h3⟩⟩ fun i hi => by
    have := h.lt i hi
    exact ⟨this.1, this.2⟩
theorem St.blk (S : St w0 M rs w) (k : Nat) {g t : Nat} {cs : Array Value} (hk : rs[k]? = some (blk g t cs)) : Blk w g t cs := S.get k hk
theorem St.rowc (S : St w0 M rs w) (k : Nat) {e size n c n' : Nat} {A : Option Addr} {xs xs' : List Value} (hk : rs[k]? = some (Zx.row e size A n c xs)) (hn : n = n') (hx : xs = xs') : St w0 M (rs.set k (Zx.row e size A n' c xs')) w := by
  subst hn; subst hx
  obtain ⟨h1, h2⟩ := List.getElem?_eq_some_iff.1 hk
  rw [← h2, List.set_getElem_self]
  exact S
theorem St.blkc (S : St w0 M rs w) (k : Nat) {g t : Nat} {cs cs' : Array Value} (hk : rs[k]? = some (Zx.blk g t cs)) (hc : cs = cs') : St w0 M (rs.set k (Zx.blk g t cs')) w := by
  subst hc
  obtain ⟨h1, h2⟩ := List.getElem?_eq_some_iff.1 hk
  rw [← h2, List.set_getElem_self]
  exact S
theorem St.nilrow (S : St w0 M rs w) (e size : Nat) : St w0 M (rs ++ [Zx.row e size none 0 0 []]) w := S.new (Like.refl w) _ ⟨by simp, .inl ⟨rfl, rfl⟩⟩ (fun i hi => by simp [Zx.row, Value.ownBlock] at hi)
end

/-- What operands are. -/
def evl (e : Env) : List Operand → Option (List Value)
  | [] => some []
  | x :: xs => match ev e x, evl e xs with
    | some v, some vs => some (v :: vs)
    | _, _ => none
theorem evl_map {N : Nat} {e : Env} {a : Act} (ha : Fits N e a) : ∀ (xs : List Operand) (vs : List Value), evl e xs = some vs → xs.map a.eval = vs
  | [], vs, h => by simp only [evl, Option.some.injEq] at h; subst h; rfl
  | x :: xs, vs, h => by
    simp only [evl] at h
    cases hx : ev e x with
    | none => rw [hx] at h; cases h
    | some v =>
      cases hxs : evl e xs with
      | none => rw [hx, hxs] at h; cases h
      | some us =>
        rw [hx, hxs] at h
        simp only [Option.some.injEq] at h
        subst h
        simp only [List.map_cons, ha.eval hx, evl_map ha xs us hxs]
def evp (e : Env) : List (Nat × Operand) → Option (List (Nat × Value))
  | [] => some []
  | (i, x) :: xs => match ev e x, evp e xs with
    | some v, some vs => some ((i, v) :: vs)
    | _, _ => none
theorem evp_map {N : Nat} {e : Env} {a : Act} (ha : Fits N e a) : ∀ (xs : List (Nat × Operand)) (vs : List (Nat × Value)), evp e xs = some vs → xs.map (fun p => (p.1, a.eval p.2)) = vs
  | [], vs, h => by simp only [evp, Option.some.injEq] at h; subst h; rfl
  | (i, x) :: xs, vs, h => by
    simp only [evp] at h
    cases hx : ev e x with
    | none => rw [hx] at h; cases h
    | some v =>
      cases hxs : evp e xs with
      | none => rw [hx, hxs] at h; cases h
      | some us =>
        rw [hx, hxs] at h
        simp only [Option.some.injEq] at h
        subst h
        simp only [List.map_cons, ha.eval hx, evp_map ha xs us hxs]
section
variable {P : Program} {N : Nat} {Q : Post} {env : Env} {w w0 : World} {M : Nat → Prop} {rs : List Res} {K : Env → World → Prop} {d : Tmp} {ty : TypeId} {pos : String} {after : Array Edge} {g : Option (Nat × Bool)}
theorem like_grown (h : w.grownBy w0 none) : Like w w0 := ⟨h.os, h.tape, h.output, h.size, fun k hk => h.block k hk (by simp)⟩
theorem like_alloc (w : World) (o : Obj) : Like w (w.alloc o) := like_grown (World.grownBy_alloc _ _ _)

/-- append onto a row of the call's own. -/
theorem o_app {s x : Operand} {t e : TypeId} {z : Value} {size bytes : Nat} (TE : Elem P t e z size bytes) (S : St w0 M rs w) (k : Nat) {A : Option Addr} {n c : Nat} {xs : List Value} (hk : rs[k]? = some (row e size A n c xs))
    (hs : ev env s = some (.slice A n c)) {A' : Option Addr} {m c' : Nat} {news : List Value} (hx : ev env x = some (.slice A' m c')) (hr : Rs w size A' m c' news) (h1 : ∀ u ∈ news, u.oneCell' = true)
    (hd : Nat.blt d N = true) (hbytes : (n + m) * bytes ≤ 140737488355328) (h63 : n + m ≤ 9223372036854775807)
    (h : ∀ A2 c2 w', St w0 M (rs.set k (row e size A2 (n + m) c2 (xs ++ news))) w' → K ((d, .slice A2 (n + m) c2) :: env) w') :
    O P N Q ⟨some d, .call { callee := .builtin .append, args := #[s, x], argTypes := #[t, t] }, ty, pos, after, g⟩ env w K := fun a ha => by
  have hown : w.ownsRow 0 e size (.slice A n c) n xs := S.get k hk
  refine wp_app w TE s x rfl 0 (ha.eval hs) hown (ha.eval hx) hr.rd h1 h63 hbytes (Nat.zero_le _) fun A2 c2 w' h2 h3 h4 => ⟨_, ha.put d _ hd, h A2 c2 w' ?_⟩
  refine S.upd k hk h3.os h3.tape h3.output h3.size (fun i hi hn => h3.block i hi (fun e => hn e.symm)) h2 fun i hi => ?_
  change (Value.slice A2 (n + m) c2).ownBlock = some i at hi
  rcases h4 with h4 | h4
  · left; rw [h4] at hi; exact hi
  · right
    rw [h4] at hi
    cases hi
    exact ⟨Nat.le_refl _, (h2.lt _ h4).2⟩
/-- A new variable. -/
theorem o_alloc {el : TypeId} {z : Value} (hz : ∀ W, (zeroValue el).run P W = .ok z W) (S : St w0 M rs w) (hd : Nat.blt d N = true)
    (h : ∀ b w', w0.heap.size ≤ b → St w0 M (rs ++ [blk b el z.cells]) w' → K ((d, .pointer (some ⟨b, 0, none⟩)) :: env) w') :
    O P N Q ⟨some d, .alloc el, ty, pos, after, g⟩ env w K := fun a ha => by
  refine wp_alB el rfl z hz fun w' h2 h3 => ⟨_, ha.put d _ hd, h _ w' S.size (S.new (like_grown h3) _ h2 fun i hi => ?_)⟩
  have hi' : i = w.heap.size := hi
  subst hi'
  exact ⟨Nat.le_refl _, h2.lt⟩
/-- A variable that begins as a value of many cells. -/
theorem o_box {el : TypeId} {x : Operand} {vs : Array Value} (hx : ev env x = some (.agg vs)) (S : St w0 M rs w) (hd : Nat.blt d N = true)
    (h : ∀ b w', w0.heap.size ≤ b → St w0 M (rs ++ [blk b el vs]) w' → K ((d, .pointer (some ⟨b, 0, none⟩)) :: env) w') :
    O P N Q ⟨some d, .box el x, ty, pos, after, g⟩ env w K := fun a ha => by
  refine wp_bxB el x rfl vs (ha.eval hx) fun w' h2 h3 => ⟨_, ha.put d _ hd, h _ w' S.size (S.new (like_grown h3) _ h2 fun i hi => ?_)⟩
  have hi' : i = w.heap.size := hi
  subst hi'
  exact ⟨Nat.le_refl _, h2.lt⟩
theorem cells_one {v : Value} (h : v.oneCell' = true) : v.cells = #[v] := by cases v <;> simp_all [Value.oneCell', Value.cells]
/-- A store of one cell into a block known whole. -/
theorem o_st1 {st : TypeId} {x y : Operand} {b o t : Nat} {cs : Array Value} {v : Value} (S : St w0 M rs w) (k : Nat) (hk : rs[k]? = some (blk b t cs)) (hx : ev env x = some (.pointer (some ⟨b, o, none⟩))) (hy : ev env y = some v)
    (hv : v.oneCell' = true) (hsz : (P.info? st).map (·.size) = some 1) (ho : o < cs.size)
    (h : ∀ w', St w0 M (rs.set k (blk b t (cs.setIfInBounds o v))) w' → K env w') : O P N Q ⟨none, .store st x y, ty, pos, after, g⟩ env w K := fun a ha => by
  have hB := S.blk k hk
  have hc : w.cell? ⟨b, o, none⟩ = some cs[o] := (hB.cell o).trans (Array.getElem?_eq_getElem ho)
  have hr : (storeVar st ⟨b, o, none⟩ v).run P w = .ok () (w.setCell ⟨b, o, none⟩ v) := by
    simp only [storeVar, Sem.run_bind, sizeOf_run hsz, cells_one hv, Result.andThen_ok]
    simp [storeCells, hv, stored, hc, hB.frozen o, run_store, go_sem]
  unfold Oper.wp execOp
  simp only [ha.eval hx, ha.eval hy, Instr.storeAt, Instr.sureAddr, Sem.run_bind, Sem.run_pure, Result.andThen_ok, hr]
  refine ⟨env, ha, h _ (S.upd k hk rfl rfl rfl (by simp) (fun i hi hn => Below.heap_setCell w ⟨b, o, none⟩ v i (fun e => hn e)) (hB.set_ o v) fun i hi => .inl hi)⟩
/-- A store of an array or a struct into a block known whole. -/
theorem o_stR {st : TypeId} {x y : Operand} {b o t : Nat} {cs vs : Array Value} (S : St w0 M rs w) (k : Nat) (hk : rs[k]? = some (blk b t cs)) (hx : ev env x = some (.pointer (some ⟨b, o, none⟩))) (hy : ev env y = some (.agg vs))
    (hsz : (P.info? st).map (·.size) = some vs.size) (ho : o + vs.size ≤ cs.size) (h1 : ∀ u ∈ vs.toList, u.oneCell' = true)
    (h : ∀ w', St w0 M (rs.set k (blk b t (cs.toList.take o ++ vs.toList ++ cs.toList.drop (o + vs.size)).toArray)) w' → K env w') : O P N Q ⟨none, .store st x y, ty, pos, after, g⟩ env w K := fun a ha => by
  refine wp_stB st x y rfl b o (ha.eval hx) vs (ha.eval hy) t cs (S.blk k hk) hsz ho h1 fun w' h2 h3 => ⟨env, ha, h w' (S.upd k hk h3.os h3.tape h3.output h3.size (fun i hi hn => h3.block i hi (fun e => hn (by injection e))) h2 fun i hi => .inl hi)⟩
/-- A call. -/
theorem o_call {f : FuncId} {fn : Func} {xs : Array Operand} {ts : Array TypeId} {args : List Value} {R : Ending → World → Prop} (hf : P.funcs[f]? = some fn) (hn : (fn.name == "runtime.NumGoroutine") = false) (hb : fn.body.isNone = false)
    (hc : Calls P f args.toArray w R) (hargs : evl env xs.toList = some args) (hd : Nat.blt d N = true)
    (h : ∀ e w', R e w' → ∃ v, e = .returned v ∧ K ((d, v) :: env) w') :
    O P N Q ⟨some d, .call { callee := .value (.func f), args := xs, argTypes := ts }, ty, pos, after, g⟩ env w K := fun a ha => by
  have hmap : xs.map a.eval = args.toArray := by
    rw [← evl_map ha xs.toList args hargs]
    apply Array.ext'
    simp
  unfold Oper.wp
  have hrun : (execOp a.eval ⟨some d, .call { callee := .value (.func f), args := xs, argTypes := ts }, ty, pos, after, g⟩).run P w = .ok (.enter f args.toArray) w := by
    simp only [execOp, resolve, hmap, Act.eval, Deferred.ofValue, invoke, callFunc, Sem.run_bind, Sem.run_pure, Result.andThen_ok, run_program, hf, hn, hb, Bool.false_eq_true, if_false, Array.append_empty, Array.empty_append]
  rw [hrun]
  refine hc.mono fun e w' hR => ?_
  obtain ⟨v, rfl, hK⟩ := h e w' hR
  exact ⟨_, ha.put d v hd, hK⟩
end
end Go.Proofs.Ytbbmkgpgiacdeaa.Zx


/-
  Regions that draw their order. General; nothing here names a program.
-/
namespace Go.Proofs.Ytbbmkgpgiacdeaa.Zx
open Go.RowKit Zk
set_option linter.unusedVariables false
set_option linter.unusedSimpArgs false

/-- An order in which a region may be walked: (number, quiet?). A quiet operation may come up and nobody who may come before it touches its slots; another one is the only one that may come up. -/
def ordB (ops : Array Oper) : Nat → Array Bool → List (Nat × Bool) → Bool
  | _, listed, [] => (Region.ready .any ops listed).isEmpty
  | 0, _, _ :: _ => false
  | f + 1, listed, (i, true) :: r => (Region.ready .any ops listed).contains i && Region.free .any ops listed i && ordB ops f (listed.setIfInBounds i true) r
  | f + 1, listed, (i, false) :: r => (match Region.ready .any ops listed with | [j] => Nat.beq j i | _ => false) && ordB ops f (listed.setIfInBounds i true) r

section
variable {P : Program} {N : Nat} {Q : Post} {env : Env} {w : World} {S : World → Prop} {ops : Array Oper}
def DL (P : Program) (N : Nat) (ops : Array Oper) (Q : Post) (S : World → Prop) (order : List (Nat × Bool)) (env : Env) (w : World) : Prop :=
  Region.noSelect ops = true → S w → ∀ a, Fits N env a → ∀ fuel listed, ordB ops fuel listed order = true → wpAnyH P .any ops (lift N Q) S fuel listed a w
theorem T_drawn {id : Nat} {l : List Oper} (S : World → Prop) (order : List (Nat × Bool)) (hm : P.follows .mixedOrders = true) (hB : (Region.noSelect l.toArray && ordB l.toArray l.toArray.size (Array.replicate l.toArray.size false) order) = true)
    (hS : ∀ w1, Like w w1 → S w1) (h : ∀ w1, Like w w1 → DL P N l.toArray Q S order env w1) : T P N (.region id l.toArray true) Q env w := fun a ha => by
  simp only [Bool.and_eq_true] at hB
  exact wp_region_held hm (h _ (Like.drew w) hB.1 (hS _ (Like.drew w)) a ha _ _ hB.2)
/-- All worlds like the one behind the draw. -/
theorem T_drawnL {id : Nat} {l : List Oper} (order : List (Nat × Bool)) (hm : P.follows .mixedOrders = true) (hB : (Region.noSelect l.toArray && ordB l.toArray l.toArray.size (Array.replicate l.toArray.size false) order) = true)
    (h : ∀ w1, Like w w1 → DL P N l.toArray Q (Like w1) order env w1) : T P N (.region id l.toArray true) Q env w := fun a ha => by
  simp only [Bool.and_eq_true] at hB
  exact wp_region_held hm (h _ (Like.drew w) hB.1 (Like.refl _) a ha _ _ hB.2)
theorem DL_nil (h : Q .normal env w) : DL P N ops Q S [] env w := fun _ _ a ha fuel listed hB => by
  have hr : Region.ready .any ops listed = [] := by
    cases fuel <;> simpa [ordB] using hB
  exact wpAnyH_done hr ⟨env, ha, h⟩ fuel
theorem DL_yi {i : Nat} {o : Oper} {d : Tmp} {v : Value} {order : List (Nat × Bool)} (hi : ops[i]? = some o) (hdst : o.dst = some d) (hy : ∀ a, Fits N env a → YieldsIf P ops S o v a) (hd : Nat.blt d N = true)
    (h : DL P N ops Q S order ((d, v) :: env) w) : DL P N ops Q S ((i, true) :: order) env w := fun hs hS a ha fuel listed hB => by
  cases fuel with
  | zero => simp [ordB] at hB
  | succ fuel =>
    simp only [ordB, Bool.and_eq_true] at hB
    refine wpAnyH_take hi hs hB.1.2 hB.1.1 (fun c a w hq => hq.elim) (hy a ha) hS ?_
    rw [hdst]
    exact h hs hS _ (ha.put d v hd) fuel _ hB.2
theorem DL_y {i : Nat} {d : Tmp} {op : Op} {ty : TypeId} {pos : String} {after : Array Edge} {v : Value} {order : List (Nat × Bool)} (hi : ops[i]? = some ⟨some d, op, ty, pos, after, none⟩)
    (hy : Y P S env ⟨some d, op, ty, pos, after, none⟩ v) (hd : Nat.blt d N = true) (h : DL P N ops Q S order ((d, v) :: env) w) : DL P N ops Q S ((i, true) :: order) env w :=
  DL_yi hi rfl (fun a ha => .inl ⟨by simp [Region.wanted], fun w hw => hy N a w ha hw⟩) hd h
theorem DL_gyes {i : Nat} {d : Tmp} {op : Op} {ty : TypeId} {pos : String} {after : Array Edge} {v : Value} {order : List (Nat × Bool)} {j : Nat} {b : Bool} {t : Tmp} (hi : ops[i]? = some ⟨some d, op, ty, pos, after, some (j, b)⟩)
    (hj : (ops[j]?).bind (·.dst) = some t) (ht : look env t = some (.bool b))
    (hy : Y P S env ⟨some d, op, ty, pos, after, some (j, b)⟩ v) (hd : Nat.blt d N = true) (h : DL P N ops Q S order ((d, v) :: env) w) : DL P N ops Q S ((i, true) :: order) env w :=
  DL_yi hi rfl (fun a ha => .inl ⟨by simp [Region.wanted, yielded, hj, ha.vals t _ ht], fun w hw => hy N a w ha hw⟩) hd h
theorem DL_gno {i : Nat} {d : Tmp} {op : Op} {ty : TypeId} {pos : String} {after : Array Edge} {order : List (Nat × Bool)} {j : Nat} {b : Bool} {t : Tmp} (hi : ops[i]? = some ⟨some d, op, ty, pos, after, some (j, b)⟩)
    (hj : (ops[j]?).bind (·.dst) = some t) (ht : look env t = some (.bool (!b))) (hd : Nat.blt d N = true) (h : DL P N ops Q S order ((d, undef) :: env) w) : DL P N ops Q S ((i, true) :: order) env w :=
  DL_yi hi rfl (fun a ha => .inr ⟨by
    have : (some (!b) == some b) = false := by cases b <;> rfl
    simp [Region.wanted, yielded, hj, ha.vals t _ ht], rfl⟩) hd h
theorem DL_o {i : Nat} {d : Option Tmp} {op : Op} {ty : TypeId} {pos : String} {after : Array Edge} {order : List (Nat × Bool)} (hi : ops[i]? = some ⟨d, op, ty, pos, after, none⟩)
    (h : O P N Q ⟨d, op, ty, pos, after, none⟩ env w (fun e' w' => S w' ∧ DL P N ops Q S order e' w')) : DL P N ops Q S ((i, false) :: order) env w := fun hs hS a ha fuel listed hB => by
  cases fuel with
  | zero => simp [ordB] at hB
  | succ fuel =>
    simp only [ordB, Bool.and_eq_true] at hB
    obtain ⟨h1, h2⟩ := hB
    have hr : Region.ready .any ops listed = [i] := by
      split at h1
      · rename_i j hj
        have : j = i := by simpa using h1
        rw [hj, this]
      · cases h1
    refine wpAnyH_all hr (by simp) fun j hj => ?_
    obtain rfl := List.mem_singleton.1 hj
    unfold wpOp
    simp only [hi, Region.wanted, if_true]
    exact .inl (Oper.wp_mono (fun a' w' ⟨e', h3, h4, h5⟩ => ⟨h4, h5 hs h4 a' h3 fuel _ h2⟩) (h a ha))
theorem DL_split {order : List (Nat × Bool)} (t : Tmp) {p : Prop} {inst : Decidable p} (ht : look env t = some (.bool (@decide p inst)))
    (h1 : p → DL P N ops Q S order ((t, .bool true) :: env) w) (h2 : ¬p → DL P N ops Q S order ((t, .bool false) :: env) w) : DL P N ops Q S order env w := fun hs hS a ha => by
  by_cases hp : p
  · exact h1 hp hs hS a (ha.sub (Sub.cons ht (by rw [decide_eq_true hp]) (Sub.refl _)))
  · exact h2 hp hs hS a (ha.sub (Sub.cons ht (by rw [decide_eq_false hp]) (Sub.refl _)))
/-! ### quiet operations, then a tail in the text's order -/
def HL (P : Program) (N : Nat) (ops : Array Oper) (K : Env → Prop) (w : World) (rest : List Oper) (env : Env) : Prop := ∀ a, Fits N env a → wpStill P ops w (fun a' => ∃ e', Fits N e' a' ∧ K e') rest a
theorem T_tail {id : Nat} {l : List Oper} (n : Nat) (hm : P.follows .mixedOrders = true) (hB : Region.lexTailB .any l.toArray n = true)
    (h : ∀ w1, Like w w1 → ∀ K : Env → Prop, (∀ e, L P N l.toArray Q (l.drop n) e w1 → K e) → HL P N l.toArray K w1 (l.take n) env) : T P N (.region id l.toArray true) Q env w := fun a ha => by
  refine wp_region_still_tail n hm hB ?_
  have mono : ∀ (rest : List Oper) (a : Act) (Q1 Q2 : Act → Prop), (∀ a, Q1 a → Q2 a) → wpStill P l.toArray w.drew Q1 rest a → wpStill P l.toArray w.drew Q2 rest a := by
    intro rest
    induction rest with
    | nil => intro a Q1 Q2 hq h; exact hq a h
    | cons o rest ih =>
      intro a Q1 Q2 hq h
      unfold wpStill at h ⊢
      split
      · rename_i hw
        rw [if_pos hw] at h
        exact Oper.still_mono (fun a h => ih a Q1 Q2 hq h) h
      · rename_i hw
        rw [if_neg hw] at h
        exact ih _ Q1 Q2 hq h
  exact mono _ _ _ _ (fun a' ⟨e', h1, h2⟩ => h2 a' h1) (h w.drew (Like.drew w) (fun e => L P N l.toArray Q (l.drop n) e w.drew) (fun _ h => h) a ha)
theorem HL_nil {K : Env → Prop} (h : K env) : HL P N ops K w [] env := fun a ha => ⟨env, ha, h⟩
theorem HL_y {K : Env → Prop} {rest : List Oper} {d : Tmp} {op : Op} {ty : TypeId} {pos : String} {after : Array Edge} {v : Value}
    (hy : Y P (Like w) env ⟨some d, op, ty, pos, after, none⟩ v) (hd : Nat.blt d N = true) (h : HL P N ops K w rest ((d, v) :: env)) : HL P N ops K w (⟨some d, op, ty, pos, after, none⟩ :: rest) env := fun a ha => by
  unfold wpStill
  rw [if_pos (by simp [Region.wanted])]
  unfold Oper.still
  rw [hy N a w ha (Like.refl w), Oper.stillUpon_value]
  exact h _ (ha.put d v hd)
theorem HL_gyes {K : Env → Prop} {rest : List Oper} {d : Option Tmp} {op : Op} {ty : TypeId} {pos : String} {after : Array Edge} {j : Nat} {b : Bool} {t : Tmp}
    (hj : (ops[j]?).bind (·.dst) = some t) (ht : look env t = some (.bool b)) (h : HL P N ops K w (⟨d, op, ty, pos, after, none⟩ :: rest) env) : HL P N ops K w (⟨d, op, ty, pos, after, some (j, b)⟩ :: rest) env := fun a ha => by
  have h1 := h a ha
  have hw : yielded ops a.tmps j = some b := by simp [yielded, hj, ha.vals t _ ht]
  unfold wpStill at h1 ⊢
  simp only [Region.wanted, hw, if_true, beq_self_eq_true] at h1 ⊢
  exact h1
theorem HL_gno {K : Env → Prop} {rest : List Oper} {d : Tmp} {op : Op} {ty : TypeId} {pos : String} {after : Array Edge} {j : Nat} {b : Bool} {t : Tmp}
    (hj : (ops[j]?).bind (·.dst) = some t) (ht : look env t = some (.bool (!b))) (hd : Nat.blt d N = true) (h : HL P N ops K w rest ((d, undef) :: env)) : HL P N ops K w (⟨some d, op, ty, pos, after, some (j, b)⟩ :: rest) env := fun a ha => by
  have h1 := h _ (ha.put d undef hd)
  have hw : yielded ops a.tmps j = some (!b) := by simp [yielded, hj, ha.vals t _ ht]
  have hne : (some (!b) == some b) = false := by cases b <;> rfl
  unfold wpStill
  simp only [Region.wanted, hw, hne, Bool.false_eq_true, if_false]
  exact h1
theorem HL_split {K : Env → Prop} {rest : List Oper} (t : Tmp) {p : Prop} {inst : Decidable p} (ht : look env t = some (.bool (@decide p inst)))
    (h1 : p → HL P N ops K w rest ((t, .bool true) :: env)) (h2 : ¬p → HL P N ops K w rest ((t, .bool false) :: env)) : HL P N ops K w rest env := fun a ha => by
  by_cases hp : p
  · exact h1 hp a (ha.sub (Sub.cons ht (by rw [decide_eq_true hp]) (Sub.refl _)))
  · exact h2 hp a (ha.sub (Sub.cons ht (by rw [decide_eq_false hp]) (Sub.refl _)))
/-! ### loops by the number of letters -/
theorem T_loop1 {α : Type} {c : Code} (ks : Env) (V : α → Env) (μ : α → Nat) (Rel : α → World → Prop) (a0 : α) (hs : Sub (V a0) env) (hk : Sub ks env) (h0 : Rel a0 w)
    (round : ∀ a w, Rel a w → T P N c (thenQ (fun e' w' => ∃ a', μ a' < μ a ∧ Rel a' w' ∧ Sub (V a' ++ ks) e') Q) (V a ++ ks) w) : T P N (.loop c) Q env w :=
  T_loop (fun m e w => ∃ a, m = μ a ∧ Rel a w ∧ Sub (V a ++ ks) e) (μ a0) ⟨a0, rfl, h0, Sub.app hs hk⟩ fun m e w ⟨a, hm, hr, hsub⟩ => T_weak hsub (T_mono (fun e w ⟨a', h1, h2, h3⟩ => ⟨μ a', by omega, a', rfl, h2, h3⟩) (round a w hr))
theorem T_loop2 {α β : Type} {c : Code} (ks : Env) (V : α → β → Env) (μ : α → β → Nat) (Rel : α → β → World → Prop) (a0 : α) (b0 : β) (hs : Sub (V a0 b0) env) (hk : Sub ks env) (h0 : Rel a0 b0 w)
    (round : ∀ a b w, Rel a b w → T P N c (thenQ (fun e' w' => ∃ a' b', μ a' b' < μ a b ∧ Rel a' b' w' ∧ Sub (V a' b' ++ ks) e') Q) (V a b ++ ks) w) : T P N (.loop c) Q env w :=
  T_loop (fun m e w => ∃ a b, m = μ a b ∧ Rel a b w ∧ Sub (V a b ++ ks) e) (μ a0 b0) ⟨a0, b0, rfl, h0, Sub.app hs hk⟩ fun m e w ⟨a, b, hm, hr, hsub⟩ => T_weak hsub (T_mono (fun e w ⟨a', b', h1, h2, h3⟩ => ⟨μ a' b', by omega, a', b', rfl, h2, h3⟩) (round a b w hr))
theorem T_loop3 {α β γ : Type} {c : Code} (ks : Env) (V : α → β → γ → Env) (μ : α → β → γ → Nat) (Rel : α → β → γ → World → Prop) (a0 : α) (b0 : β) (c0 : γ) (hs : Sub (V a0 b0 c0) env) (hk : Sub ks env) (h0 : Rel a0 b0 c0 w)
    (round : ∀ a b d w, Rel a b d w → T P N c (thenQ (fun e' w' => ∃ a' b' d', μ a' b' d' < μ a b d ∧ Rel a' b' d' w' ∧ Sub (V a' b' d' ++ ks) e') Q) (V a b d ++ ks) w) : T P N (.loop c) Q env w :=
  T_loop (fun m e w => ∃ a b d, m = μ a b d ∧ Rel a b d w ∧ Sub (V a b d ++ ks) e) (μ a0 b0 c0) ⟨a0, b0, c0, rfl, h0, Sub.app hs hk⟩ fun m e w ⟨a, b, d, hm, hr, hsub⟩ => T_weak hsub (T_mono (fun e w ⟨a', b', d', h1, h2, h3⟩ => ⟨μ a' b' d', by omega, a', b', d', rfl, h2, h3⟩) (round a b d w hr))
theorem T_loop6 {α β γ δ ε ζ : Type} {c : Code} (ks : Env) (V : α → β → γ → δ → ε → ζ → Env) (μ : α → β → γ → δ → ε → ζ → Nat) (Rel : α → β → γ → δ → ε → ζ → World → Prop) (a0 : α) (b0 : β) (c0 : γ) (d0 : δ) (f0 : ε) (g0 : ζ) (hs : Sub (V a0 b0 c0 d0 f0 g0) env) (hk : Sub ks env) (h0 : Rel a0 b0 c0 d0 f0 g0 w)
    (round : ∀ a b d f g h w, Rel a b d f g h w → T P N c (thenQ (fun e' w' => ∃ a' b' d' f' g' h', μ a' b' d' f' g' h' < μ a b d f g h ∧ Rel a' b' d' f' g' h' w' ∧ Sub (V a' b' d' f' g' h' ++ ks) e') Q) (V a b d f g h ++ ks) w) : T P N (.loop c) Q env w :=
  T_loop (fun m e w => ∃ a b d f g h, m = μ a b d f g h ∧ Rel a b d f g h w ∧ Sub (V a b d f g h ++ ks) e) (μ a0 b0 c0 d0 f0 g0) ⟨a0, b0, c0, d0, f0, g0, rfl, h0, Sub.app hs hk⟩ fun m e w ⟨a, b, d, f, g, h, hm, hr, hsub⟩ => T_weak hsub (T_mono (fun e w ⟨a', b', d', f', g', h', h1, h2, h3⟩ => ⟨μ a' b' d' f' g' h', by omega, a', b', d', f', g', h', rfl, h2, h3⟩) (round a b d f g h w hr))
end
end Go.Proofs.Ytbbmkgpgiacdeaa.Zx


/-
  Regions that draw their order and hold ONE operation that breaks what the reads stand on (an append, a store): the barrier. General; nothing here names a program.
-/
namespace Go.Proofs.Ytbbmkgpgiacdeaa.Zx
open Go.RowKit Zk
set_option linter.unusedVariables false
set_option linter.unusedSimpArgs false

/-- Whoever is listed has its forerunners listed. -/
structure Cl (ops : Array Oper) (listed : Array Bool) : Prop where
  size : listed.size = ops.size
  closed : ∀ j oj, ops[j]? = some oj → listed.getD j false = true → ∀ e ∈ oj.after, Region.binds .any e = true → listed.getD e.on false = true
theorem Cl.start (ops : Array Oper) : Cl ops (Array.replicate ops.size false) :=
  ⟨by simp, fun j oj _ hl => (by rw [getD_replicate_false] at hl; cases hl)⟩
theorem Cl.set {ops : Array Oper} {listed : Array Bool} {i : Nat} (inv : Cl ops listed) (hi : i ∈ Region.ready .any ops listed) : Cl ops (listed.setIfInBounds i true) := by
  obtain ⟨_, oi, hoi, hall⟩ := mem_ready.1 hi
  refine ⟨by simp [inv.size], fun j oj hj hl e he hb => ?_⟩
  by_cases hij : i = j
  · subst hij
    have : oj = oi := Option.some.inj (hj.symm.trans hoi)
    subst this
    exact getD_set_true (hall e he hb)
  · rw [getD_set_ne false hij] at hl
    exact getD_set_true (inv.closed j oj hj hl e he hb)
section
variable {P : Program} {ops : Array Oper} {Q : Exit → Act → World → Prop} {S : World → Prop} {c : Nat}
end

section
variable {P : Program} {N : Nat} {Q : Post} {env : Env} {w : World} {S : World → Prop} {ops : Array Oper} {B : List Nat} {c : Nat}
end
end Go.Proofs.Ytbbmkgpgiacdeaa.Zx


/-
  More operations: literals, makes, strings, arrays by value. General; nothing here names a program.
-/
namespace Go.Proofs.Ytbbmkgpgiacdeaa.Zx
open Go.RowKit Zk
set_option linter.unusedVariables false
set_option linter.unusedSimpArgs false
section
variable {P : Program} {N : Nat} {Q : Post} {env : Env} {w w0 : World} {M : Nat → Prop} {rs : List Res} {K : Env → World → Prop} {d : Tmp} {ty : TypeId} {pos : String} {after : Array Edge} {g : Option (Nat × Bool)}
def idx : Nat → List Value → List (Nat × Value)
  | _, [] => []
  | k, v :: vs => (k, v) :: idx (k + 1) vs
theorem fill_all (size : Nat) : ∀ (vs : List Value) (k : Nat) (pre junk : List Value), (∀ v ∈ vs, v.cells.size = size) → pre.length = k * size → junk.length = vs.length * size →
    Instr.fill (fun i => some (i * size, size)) (pre ++ junk).toArray (idx k vs) = some (pre ++ vs.flatMap fun v => v.cells.toList).toArray
  | [], k, pre, junk, _, _, hj => by
    obtain rfl : junk = [] := List.eq_nil_of_length_eq_zero (by simpa using hj)
    simp [idx, Instr.fill]
  | v :: vs, k, pre, junk, hv, hp, hj => by
    have hvs := hv v (by simp)
    have hj' : junk.length = size + vs.length * size := by rw [hj, List.length_cons, Nat.succ_mul, Nat.add_comm]
    simp only [idx]
    rw [fill_part (fun i => some (i * size, size)) _ k (k * size) size v.cells v rfl _ rfl hvs (by simp; omega)]
    have e1 : (pre ++ junk).toArray.toList.take (k * size) = pre := by simp [hp]
    have e2 : (pre ++ junk).toArray.toList.drop (k * size + size) = junk.drop size := by
      simp only [List.drop_append, hp]
      rw [List.drop_of_length_le (by omega), List.nil_append]
      congr 1
      omega
    rw [e1, e2, fill_all size vs (k + 1) (pre ++ v.cells.toList) (junk.drop size) (fun u hu => hv u (by simp [hu])) (by simp [hp, hvs, Nat.succ_mul]) (by simp; omega)]
    simp
theorem evp_idx (e : Env) : ∀ (parts : List (Nat × Operand)) (vs : List Value) (k : Nat), parts.map (·.1) = List.range' k parts.length → evl e (parts.map (·.2)) = some vs → evp e parts = some (idx k vs)
  | [], vs, k, _, h => by simp only [List.map_nil, evl, Option.some.injEq] at h; subst h; rfl
  | (i, x) :: parts, vs, k, hi, h => by
    simp only [List.map_cons, evl] at h
    simp only [List.map_cons, List.length_cons, List.range'_succ, List.cons.injEq] at hi
    cases hx : ev e x with
    | none => rw [hx] at h; cases h
    | some v =>
      cases hxs : evl e (parts.map (·.2)) with
      | none => rw [hx, hxs] at h; cases h
      | some us =>
        rw [hx, hxs] at h
        simp only [Option.some.injEq] at h
        subst h
        simp only [evp, hx, evp_idx e parts us (k + 1) hi.2 hxs, idx, hi.1]
/-- A slice literal. -/
theorem o_bslL {t e : TypeId} {z : Value} {size bytes len : Nat} {parts : Array (Nat × Operand)} {us : List Value} (vs : List Value) (TE : Elem P t e z size bytes) (hz : ∀ W, (zeroValue e).run P W = .ok z W) (S : St w0 M rs w) (hp : evl env (parts.toList.map (·.2)) = some us)
    (hi : parts.toList.map (·.1) = List.range' 0 parts.toList.length) (hlp : parts.toList.length = len) (hus : us.all (fun v => Nat.beq v.cells.size size) = true) (hvs : us.flatMap (fun v => v.cells.toList) = vs)
    (hl : Nat.ble (len * size) 16777216 = true) (h0 : Nat.blt 0 (len * size) = true) (hd : Nat.blt d N = true)
    (h : ∀ b w', Like w w' → St w0 M (rs ++ [row e size (some ⟨b, 0, none⟩) len len vs]) w' → K ((d, .slice (some ⟨b, 0, none⟩) len len) :: env) w') :
    O P N Q ⟨some d, .buildSlice t len parts, ty, pos, after, g⟩ env w K := fun a ha => by
  have hpe : (parts.map fun (i, x) => (i, a.eval x)).toList = idx 0 us := by
    rw [← evp_map ha parts.toList (idx 0 us) (evp_idx env parts.toList us 0 hi hp)]
    simp
  have hul : us.length = len := by
    have h1 := evl_map ha _ _ hp
    rw [← h1]
    simpa using hlp
  have husz : ∀ v ∈ us, v.cells.size = size := fun v hv => by
    have := List.all_eq_true.1 hus v hv
    simpa using this
  have hvl : vs.length = len * size := by
    rw [← hvs, ← hul]
    clear hvs hus hp hpe hul
    induction us with
    | nil => simp
    | cons u us ih => simp [husz u (by simp), ih (fun v hv => husz v (by simp [hv])), Nat.succ_mul, Nat.add_comm]
  obtain ⟨i, hi, hz', hsize, hby⟩ := info_parts TE.hi
  have hsz : (P.info? e).map (·.size) = some size := by rw [hi]; simp [hsize]
  have hl' : ¬ len * size > 2 ^ 24 := by have : len * size ≤ 16777216 := by simpa using hl
                                         omega
  have h0' : ¬ len * size = 0 := by have : 0 < len * size := by simpa using h0
                                    omega
  have hlen : len ≤ maxLen := by
    have h1 : len * 1 ≤ len * size := Nat.mul_le_mul_left _ TE.hsz
    unfold maxLen
    omega
  have hfill : Instr.fill (fun i => some (i * size, size)) ((Array.range (len * size)).map (z.cells[· % z.cells.size]!)) (idx 0 us) = some vs.toArray := by
    have := fill_all size us 0 [] ((Array.range (len * size)).map (z.cells[· % z.cells.size]!)).toList husz (by simp) (by simp [hul])
    simp only [List.nil_append, hvs] at this
    exact this
  have hrun : (Instr.buildSlice t len (parts.map fun (i, x) => (i, a.eval x))).run P w = .ok (.slice (some ⟨w.heap.size, 0, none⟩) len len) (w.alloc (.cells vs.toArray e)) := by
    simp only [Instr.buildSlice, Sem.run_bind, run_underlying TE.ht, Result.andThen_ok, sizeOf_run hsz, if_neg hl', if_neg h0', hz, Sem.run_pure, hpe, hfill, newRow, run_newObj_alloc]
  unfold Oper.wp execOp
  simp only [Sem.run_bind, hrun, Result.andThen_ok, Sem.run_pure]
  refine ⟨_, ha.put d _ hd, h _ _ (like_alloc w _) (S.new (like_alloc w _) _ (World.ownsRow_lit w vs.toArray len (Nat.zero_le _) hlen (by simpa using hvl)) fun i hi => ?_)⟩
  change (Value.slice (some ⟨w.heap.size, 0, none⟩) len len).ownBlock = some i at hi
  simp only [Value.ownBlock, Option.some.injEq] at hi
  subst hi
  exact ⟨Nat.le_refl _, by simp⟩
theorem o_bsl {t e : TypeId} {z : Value} {size bytes len : Nat} {parts : Array (Nat × Operand)} {us : List Value} (vs : List Value) (TE : Elem P t e z size bytes) (hz : ∀ W, (zeroValue e).run P W = .ok z W) (S : St w0 M rs w) (hp : evl env (parts.toList.map (·.2)) = some us)
    (hi : parts.toList.map (·.1) = List.range' 0 parts.toList.length) (hlp : parts.toList.length = len) (hus : us.all (fun v => Nat.beq v.cells.size size) = true) (hvs : us.flatMap (fun v => v.cells.toList) = vs)
    (hl : Nat.ble (len * size) 16777216 = true) (h0 : Nat.blt 0 (len * size) = true) (hd : Nat.blt d N = true)
    (h : ∀ b w', St w0 M (rs ++ [row e size (some ⟨b, 0, none⟩) len len vs]) w' → K ((d, .slice (some ⟨b, 0, none⟩) len len) :: env) w') :
    O P N Q ⟨some d, .buildSlice t len parts, ty, pos, after, g⟩ env w K := o_bslL vs TE hz S hp hi hlp hus hvs hl h0 hd fun b w' _ => h b w'
/-- make([]T, n, c) with elements of one cell. -/
theorem o_make {t e : TypeId} {z : Value} {bytes : Nat} {x y : Operand} {k k' : IntKind} {jn jc : Int} {n c : Nat} (TE : Elem P t e z 1 bytes) (hone : z.oneCell' = true) (S : St w0 M rs w) (hx : ev env x = some (.int k jn)) (hy : ev env y = some (.int k' jc)) (hn : Nt jn n) (hc : Nt jc c) (hd : Nat.blt d N = true)
    (hnc : n ≤ c) (hbytes : c * bytes ≤ 281474976710656) (hcm : c ≤ 9223372036854775807)
    (h : ∀ b w', St w0 M (rs ++ [row e 1 (some ⟨b, 0, none⟩) n c (List.replicate n z)]) w' → K ((d, .slice (some ⟨b, 0, none⟩) n c) :: env) w') :
    O P N Q ⟨some d, .makeSlice t x y, ty, pos, after, g⟩ env w K := fun a ha => by
  have e1 := hn.eq
  have e2 := hc.eq
  subst e1; subst e2
  obtain ⟨i, hi, hz', hsize, hby⟩ := info_parts TE.hi
  have hb : (i.bytes : Int) * (c : Int) ≤ 281474976710656 := by
    have h : ((i.bytes * c : Nat) : Int) ≤ 281474976710656 := by rw [hby, Nat.mul_comm]; omega
    rwa [Int.natCast_mul] at h
  have hr := run_make (P := P) w t e i z TE.ht hi hz' k k' n c (by omega) (by omega) hb (by omega)
  simp only [Int.toNat_natCast] at hr
  unfold Oper.wp execOp
  simp only [ha.eval hx, ha.eval hy, Sem.run_bind, hr, Result.andThen_ok, Sem.run_pure]
  have hzc : z.cells.size = 1 := TE.hzs
  have hcells : madeCells z.cells (c * i.size) = Array.replicate c z := by
    rw [hsize, Nat.mul_one, cells_one hone]
    apply Array.ext
    · simp [madeCells]
    · intro j h1 h2
      simp [madeCells, Nat.mod_one]
  refine ⟨_, ha.put d _ hd, h _ _ (S.new (like_alloc w _) _ ?_ fun i hi => ?_)⟩
  · refine ⟨by simp, .inr ⟨w.heap.size, c, _, rfl, Nat.zero_le _, heap_alloc_new w _, hnc, by unfold maxLen; omega, ?_, ?_⟩⟩
    · rw [hcells]; simp
    · rw [hcells, Nat.mul_one]
      simp [hnc]
  · change (Value.slice (some ⟨w.heap.size, 0, none⟩) n c).ownBlock = some i at hi
    simp only [Value.ownBlock, Option.some.injEq] at hi
    subst hi
    exact ⟨Nat.le_refl _, by simp⟩
/-- A store over a whole block. -/
theorem o_stW {st : TypeId} {x y : Operand} {b t : Nat} {cs vs : Array Value} (S : St w0 M rs w) (k : Nat) (hk : rs[k]? = some (blk b t cs)) (hx : ev env x = some (.pointer (some ⟨b, 0, none⟩))) (hy : ev env y = some (.agg vs))
    (hsz : (P.info? st).map (·.size) = some vs.size) (hl : vs.size = cs.size) (h1 : ∀ u ∈ vs.toList, u.oneCell' = true)
    (h : ∀ w', St w0 M (rs.set k (blk b t vs)) w' → K env w') : O P N Q ⟨none, .store st x y, ty, pos, after, g⟩ env w K :=
  o_stR S k hk hx hy hsz (by omega) h1 fun w' S' => h w' (by
    have : (cs.toList.take 0 ++ vs.toList ++ cs.toList.drop (0 + vs.size)).toArray = vs := by
      rw [Nat.zero_add, hl, ← Array.length_toList, List.drop_length]
      simp
    rwa [this] at S')
end
section
variable {P : Program} {S : World → Prop} {env : Env} {w : World} {dst : Option Tmp} {ty : TypeId} {pos : String} {after : Array Edge} {g : Option (Nat × Bool)}
/-! strings -/
/-! arrays behind a pointer, cut -/
/-! values of many cells -/
theorem y_build {t : TypeId} {parts : Array (Nat × Operand)} {ps : List (Nat × Value)} {cs : Array Value} (hp : evp env parts.toList = some ps) (hb : P.built t ps = some cs) :
    Y P S env ⟨dst, .build t parts, ty, pos, after, g⟩ (.agg cs) := fun N a w ha _ => by
  have hpe : (parts.map fun (i, x) => (i, a.eval x)).toList = ps := by
    rw [← evp_map ha parts.toList ps hp]
    simp
  simp only [execOp, Sem.run_bind, run_build (P := P) w t _ cs (by rw [hpe]; exact hb), Result.andThen_ok, Sem.run_pure]
/-- A load of many cells out of a block known whole. -/
theorem y_ldW {x : Operand} {b o t size : Nat} {cs : Array Value} {vs : List Value} {lt : TypeId} {d : TypeDesc} (hd : P.underlying lt = some d) (hrow : d.isRow = true) (hsz : (P.info? lt).map (·.size) = some size) (hx : ev env x = some (.pointer (some ⟨b, o, none⟩))) (hb : Blk w b t cs) (hv : (cs.toList.drop o).take size = vs ∧ vs.length = size) :
    Y P (Like w) env ⟨dst, .load lt x, ty, pos, after, g⟩ (.agg vs.toArray) := by
  obtain ⟨h1, h2⟩ := hv
  refine y_ldR hd hrow (by rw [h2]; exact hsz) hx fun j v hj => ?_
  rw [hb.cell]
  rw [← h1, List.getElem?_take] at hj
  split at hj
  · rw [List.getElem?_drop] at hj
    simpa using hj
  · cases hj
/-! against nil -/
/-! arrays of bytes -/
theorem eqGuard_run (op : BinOp) {t : TypeId} (x y : Operand) (xs ys : Array Value) (hm : P.eqGuardType P.depth t = false) (w : World) : (eqGuard op t x y (.agg xs) (.agg ys)).run P w = .ok () w := run_eqGuard_agg (w := w) op t x y xs ys hm
/-! results that lie in a variable -/
theorem retc {fn : Func} {R : Ending → World → Prop} {p : Tmp} {lt b t : Nat} {cs : Array Value} {d : TypeDesc} (hr : fn.results = #[.cell p lt]) (hp : look env p = some (.pointer (some ⟨b, 0, none⟩))) (hb : Blk w b t cs) (hd : P.underlying lt = some d) (hrow : d.isRow = true)
    (hsz : (P.info? lt).map (·.size) = some cs.size) (h : R (.returned (.agg cs)) w) (hd0 : dfs env = [] := by rfl) : bodyQ P fn R .ret env w :=
  ⟨hd0, _, fun N a ha => resB hr a.tmps (ha.getD hp) hb d hd hrow hsz, h⟩
theorem retct {fn : Func} {R : Ending → World → Prop} {p q : Tmp} {lt b t : Nat} {cs : Array Value} {d : TypeDesc} {v : Value} (hr : fn.results = #[.cell p lt, .tmp q]) (hp : look env p = some (.pointer (some ⟨b, 0, none⟩))) (hq : look env q = some v) (hb : Blk w b t cs) (hd : P.underlying lt = some d) (hrow : d.isRow = true)
    (hsz : (P.info? lt).map (·.size) = some cs.size) (h : R (.returned (.tuple #[.agg cs, v])) w) (hd0 : dfs env = [] := by rfl) : bodyQ P fn R .ret env w :=
  ⟨hd0, _, fun N a ha => by rw [resB_t hr a.tmps (ha.getD hp) hb d hd hrow hsz, ha.getD hq], h⟩
end
end Go.Proofs.Ytbbmkgpgiacdeaa.Zx


/-
  General laws, fourth part: what a law's arguments are, read off the row's hypothesis.
-/
namespace Go.Proofs.Ytbbmkgpgiacdeaa.Zk
open Go.ChangeShapes Go.WideShapes Go.ChangeAt Go.RowKit
open Go.ChangeMaps (open_string shut_string)
set_option linter.unusedVariables false
section
variable {H : Type} {enc : TypeId × Value → H} {P : Program} {w : World} {base : Nat} {spare : Nat → Bool} {held : Bool}
end
end Go.Proofs.Ytbbmkgpgiacdeaa.Zk


/-
  A law's arguments, opened: slices. General; nothing here names a program.
-/
namespace Go.Proofs.Ytbbmkgpgiacdeaa.Zx
open Go.ChangeShapes Go.WideShapes Go.ChangeAt Go.RowKit Go.Deep Zk
set_option linter.unusedVariables false
section
variable {H : Type} {enc : TypeId × Value → H} {P : Program} {w : World} {base : Nat} {spare : Nat → Bool} {held : Bool}
/-- A list of letters for a row, from one for each place. -/
theorem list_of {α : Type} (p : Nat → α → Prop) : ∀ n, (∀ i, i < n → ∃ x, p i x) → ∃ l : List α, l.length = n ∧ ∀ i x, l[i]? = some x → p i x
  | 0, _ => ⟨[], rfl, fun i x h => by simp at h⟩
  | n + 1, h => by
    obtain ⟨l, hl, hp⟩ := list_of p n (fun i hi => h i (by omega))
    obtain ⟨x, hx⟩ := h n (by omega)
    refine ⟨l ++ [x], by simp [hl], fun i y hy => ?_⟩
    rw [List.getElem?_append] at hy
    split at hy
    · exact hp i y hy
    · rename_i hi
      have : i = n := by
        have := (List.getElem?_eq_some_iff.1 hy).1
        simp at this
        omega
      subst this
      simp [hl] at hy
      rw [← hy]
      exact hx
/-- A slice whose elements are of one cell. -/
theorem read_row1 {α : Type} (f : α → Value) (φ : α → Prop) {t e : TypeId} (ht : P.underlying t = some (.slice e)) (hc : P.cellsOf e = 1)
    (hread : ∀ n v x, DataW.trod enc P w base spare held n e [v] = some x → ∃ y, v = f y ∧ φ y)
    {fuel : Nat} {cs : List Value} {x : DataW H × List MemPlace} (h : DataW.trod enc P w base spare held fuel t cs = some x) :
    ∃ A n c, ∃ l : List α, cs = [.slice A n c] ∧ Rs w 1 A n c (l.map f) ∧ ∀ y ∈ l, φ y := by
  rcases open_slice1 ht hc h with ⟨rfl, _⟩ | ⟨a, len, cap, m, n, V, D, Pl, rfl, _, hl, hm, hmm, _, hi⟩
  · exact ⟨none, 0, 0, [], rfl, Rs.nil w 1, fun y hy => by cases hy⟩
  · have hle : len ≤ m := by rw [hmm]; split <;> omega
    obtain ⟨l, hll, hp⟩ := list_of (fun i (y : α) => V i = f y ∧ φ y) len (fun i hil => by
      obtain ⟨_, h2⟩ := hi i (by omega)
      obtain ⟨y, h3, h4⟩ := hread n (V i) _ h2
      exact ⟨y, h3, h4⟩)
    refine ⟨some a, len, cap, l, rfl, ⟨⟨by simp [hll], fun h0 => ⟨a, rfl, ?_, fun j u hu => ?_⟩⟩, hl, by unfold maxLen at hm; exact hm⟩, fun y hy => ?_⟩
    · have h1 := (hi 0 (by omega)).1
      have := World.block_lt_of_cell? w _ h1
      rwa [block_of_add] at this
    · rw [List.getElem?_map] at hu
      cases hj : l[j]? with
      | none => rw [hj] at hu; cases hu
      | some y =>
        rw [hj] at hu
        simp only [Option.map_some, Option.some.injEq] at hu
        have hjl : j < len := by rw [← hll]; exact (List.getElem?_eq_some_iff.1 hj).1
        rw [← hu, ← (hp j y hj).1]
        exact (hi j (by omega)).1
    · obtain ⟨i, hi2, rfl⟩ := List.getElem_of_mem hy
      exact (hp i _ (List.getElem?_eq_getElem hi2)).2
/-- A slice of bytes, and what it reads as. -/
structure Part where
  A : Option Addr
  n : Nat
  c : Nat
  l : List UInt8
def p0 : Part := ⟨none, 0, 0, []⟩
def Part.ok (w : World) (p : Part) : Prop := Rs w 1 p.A p.n p.c (bL p.l)
/-- The value itself. -/
theorem slice_of_cells {r : Reach} {b0 : Nat} {t e : TypeId} {v : Value} {A : Option Addr} {n c : Nat} (ht : P.underlying t = some (.slice e)) (hv : Value.okWide P w r b0 t v) (h : v.cells.toList = [.slice A n c]) : v = .slice A n c := by
  obtain ⟨A', n', c', rfl⟩ := okWide_slice ht hv
  simpa [Value.cells] using h
end
end Go.Proofs.Ytbbmkgpgiacdeaa.Zx


/-
  A law's arguments, opened: slices of elements of many cells. General; nothing here names a program.
-/
namespace Go.Proofs.Ytbbmkgpgiacdeaa.Zx
open Go.ChangeShapes Go.WideShapes Go.ChangeAt Go.RowKit Go.Deep Zk
set_option linter.unusedVariables false
section
variable {H : Type} {enc : TypeId × Value → H} {P : Program} {w : World} {base : Nat} {spare : Nat → Bool} {held : Bool}
theorem flat_len {α : Type} (f : α → List Value) (size : Nat) (hlen : ∀ y, (f y).length = size) : ∀ l : List α, (l.flatMap f).length = l.length * size
  | [] => by simp
  | y :: l => by rw [List.flatMap_cons, List.length_append, hlen, flat_len f size hlen l, List.length_cons, Nat.succ_mul]; omega
theorem flat_cut {α : Type} (f : α → List Value) (size : Nat) (hlen : ∀ y, (f y).length = size) : ∀ (l : List α) (k : Nat) (y : α), l[k]? = some y → ((l.flatMap f).drop (k * size)).take size = f y
  | [], k, y, h => by simp at h
  | z :: l, 0, y, h => by
    have e : z = y := by simpa using h
    subst e
    rw [Nat.zero_mul, List.drop_zero, List.flatMap_cons, List.take_append_of_le_length (by rw [hlen]; exact Nat.le_refl _), List.take_of_length_le (by rw [hlen]; exact Nat.le_refl _)]
  | z :: l, k + 1, y, h => by
    rw [List.flatMap_cons, Nat.succ_mul, Nat.add_comm, ← List.drop_drop, List.drop_left' (hlen z)]
    exact flat_cut f size hlen l k y (by simpa using h)
end
section
variable {P : Program} {env : Env} {w : World} {dst : Option Tmp} {ty : TypeId} {pos : String} {after : Array Edge} {g : Option (Nat × Bool)}
/-- A load of an element of many cells. -/
theorem y_ldp {α : Type} {f : α → List Value} {l : List α} {y : α} {x : Operand} {A : Option Addr} {n c k size : Nat} {lt : TypeId} {d : TypeDesc} (hlen : ∀ y, (f y).length = size) (hd : P.underlying lt = some d) (hrow : d.isRow = true) (hsz : (P.info? lt).map (·.size) = some size) (hx : ev env x = some (pR A k size)) (hr : Rs w size A n c (l.flatMap f)) (hk : k < n) (hy : l[k]? = some y) :
    Y P (Like w) env ⟨dst, .load lt x, ty, pos, after, g⟩ (.agg (f y).toArray) := by
  have h := y_ldn (dst := dst) (ty := ty) (pos := pos) (after := after) (g := g) hd hrow hsz hx hr hk
  rwa [flat_cut f size hlen l k y hy] at h
end
end Go.Proofs.Ytbbmkgpgiacdeaa.Zx


/-
  The longest rising row of pairs: plain laws.
-/
namespace Go.Proofs.Ytbbmkgpgiacdeaa
set_option linter.unusedVariables false
set_option linter.unusedSimpArgs false
abbrev PI := Int × Int
def best (b : Int) : List PI → List Nat → Nat
  | q :: l, n :: ns => max (if b < q.2 then n else 0) (best b l ns)
  | _, _ => 0
/-- How long the longest row is that begins with each pair. -/
def lens : List PI → List Nat
  | [] => []
  | p :: l => (1 + best p.2 l (lens l)) :: lens l
theorem best_le {b : Int} {t : Nat} : ∀ {l : List PI} {ns : List Nat}, (∀ q n, (q, n) ∈ l.zip ns → b < q.2 → n ≤ t) → best b l ns ≤ t
  | [], _, _ => by simp [best]
  | _ :: _, [], _ => by simp [best]
  | p :: l, m :: ns, h => by
    rw [best]
    have h1 := best_le (l := l) (ns := ns) fun q n hq => h q n (by rw [List.zip_cons_cons]; exact List.mem_cons_of_mem _ hq)
    have h2 : (if b < p.2 then m else 0) ≤ t := by
      split
      · rename_i h3
        exact h p m (by rw [List.zip_cons_cons]; exact List.mem_cons_self) h3
      · omega
    omega
theorem le_best {b : Int} {q : PI} {n : Nat} : ∀ {l : List PI} {ns : List Nat}, (q, n) ∈ l.zip ns → b < q.2 → n ≤ best b l ns
  | [], _, h, _ => by simp at h
  | _ :: _, [], h, _ => by simp at h
  | p :: l, m :: ns, h, hb => by
    rw [best]
    rw [List.zip_cons_cons] at h
    rcases List.mem_cons.1 h with h | h
    · cases h
      rw [if_pos hb]
      omega
    · have := le_best h hb
      omega
theorem drop_cons {α : Type} {l : List α} {i : Nat} {x : α} (h : l[i]? = some x) : l.drop i = x :: l.drop (i + 1) := by
  obtain ⟨h1, rfl⟩ := List.getElem?_eq_some_iff.1 h
  exact List.drop_eq_getElem_cons h1
/-- Piles: the greatest second number with which a row of each length begins. -/
structure PIL (l : List PI) (piles : List Int) : Prop where
  dec : ∀ (i j : Nat) (x y : Int), i < j → piles[i]? = some x → piles[j]? = some y → y < x
  cov : ∀ q n, (q, n) ∈ l.zip (lens l) → ∃ m y, n = m + 1 ∧ piles[m]? = some y ∧ q.2 ≤ y
  att : ∀ (m : Nat) (y : Int), piles[m]? = some y → ∃ q : PI, (q, m + 1) ∈ l.zip (lens l) ∧ q.2 = y
theorem PIL.nil : PIL [] [] := ⟨fun i j x y _ h => by simp at h, fun q n h => by simp at h, fun m y h => by simp at h⟩
theorem PIL.best {l : List PI} {piles : List Int} {b : Int} {t : Nat} (h : PIL l piles) (h1 : t ≤ piles.length) (ht : ∀ (k : Nat) (y : Int), k < t → piles[k]? = some y → b < y) (hf : ∀ (k : Nat) (y : Int), t ≤ k → piles[k]? = some y → y ≤ b) : best b l (lens l) = t := by
  apply Nat.le_antisymm
  · apply best_le
    intro q n hq hb
    obtain ⟨m, y, rfl, hy, hqy⟩ := h.cov q n hq
    rcases Nat.lt_or_ge m t with h2 | h2
    · omega
    · have := hf m y h2 hy
      omega
  · cases t with
    | zero => exact Nat.zero_le _
    | succ m =>
      have hy := List.getElem?_eq_getElem (show m < piles.length by omega)
      have h2 := ht m _ (by omega) hy
      obtain ⟨q, hq, e⟩ := h.att m _ hy
      exact le_best hq (by rw [e]; exact h2)
theorem PIL.upd {l : List PI} {piles piles' : List Int} {p : PI} {t : Nat} (h : PIL l piles) (h1 : t ≤ piles.length) (ht : ∀ (k : Nat) (y : Int), k < t → piles[k]? = some y → p.2 < y) (hf : ∀ (k : Nat) (y : Int), t ≤ k → piles[k]? = some y → y ≤ p.2)
    (e1 : piles'[t]? = some p.2) (e2 : ∀ m, m ≠ t → piles'[m]? = piles[m]?) : PIL (p :: l) piles' := by
  have hl : lens (p :: l) = (t + 1) :: lens l := by rw [lens, h.best h1 ht hf, Nat.add_comm]
  refine ⟨fun i j x y hij hx hy => ?_, fun q n hq => ?_, fun m y hy => ?_⟩
  · rcases Nat.lt_trichotomy i t with h2 | rfl | h2
    · rw [e2 i (by omega)] at hx
      have h3 := ht i x h2 hx
      rcases Nat.lt_trichotomy j t with h4 | rfl | h4
      · rw [e2 j (by omega)] at hy
        exact h.dec i j x y hij hx hy
      · rw [e1] at hy
        cases hy
        exact h3
      · rw [e2 j (by omega)] at hy
        exact h.dec i j x y hij hx hy
    · rw [e1] at hx
      cases hx
      rw [e2 j (by omega)] at hy
      have h5 : i < piles.length := by
        have := (List.getElem?_eq_some_iff.1 hy).1
        omega
      have h6 := List.getElem?_eq_getElem h5
      have := h.dec i j _ y hij h6 hy
      have := hf i _ (Nat.le_refl _) h6
      omega
    · rw [e2 i (by omega)] at hx
      rw [e2 j (by omega)] at hy
      exact h.dec i j x y hij hx hy
  · rw [hl, List.zip_cons_cons] at hq
    rcases List.mem_cons.1 hq with e | hq
    · cases e
      exact ⟨t, _, rfl, e1, Int.le_refl _⟩
    · obtain ⟨m, y, rfl, hy, hqy⟩ := h.cov q n hq
      rcases Nat.decEq m t with h2 | h2
      · exact ⟨m, y, rfl, by rw [e2 m h2]; exact hy, hqy⟩
      · subst h2
        have := hf m y (Nat.le_refl _) hy
        exact ⟨m, _, rfl, e1, by omega⟩
  · rw [hl, List.zip_cons_cons]
    rcases Nat.decEq m t with h2 | h2
    · rw [e2 m h2] at hy
      obtain ⟨q, hq, e⟩ := h.att m y hy
      exact ⟨q, List.mem_cons_of_mem _ hq, e⟩
    · subst h2
      rw [e1] at hy
      cases hy
      exact ⟨p, List.mem_cons_self, rfl⟩
theorem PIL.set {l : List PI} {piles : List Int} {p : PI} {t : Nat} (h : PIL l piles) (h1 : t < piles.length) (ht : ∀ (k : Nat) (y : Int), k < t → piles[k]? = some y → p.2 < y) (hf : ∀ (k : Nat) (y : Int), t ≤ k → piles[k]? = some y → y ≤ p.2) : PIL (p :: l) (piles.set t p.2) :=
  h.upd (by omega) ht hf (by simp [h1]) fun m hm => by rw [List.getElem?_set_ne (Ne.symm hm)]
theorem PIL.push {l : List PI} {piles : List Int} {p : PI} (h : PIL l piles) (ht : ∀ (k : Nat) (y : Int), k < piles.length → piles[k]? = some y → p.2 < y) : PIL (p :: l) (piles ++ [p.2]) :=
  h.upd (Nat.le_refl _) ht (fun k y hk hy => absurd (List.getElem?_eq_some_iff.1 hy).1 (by omega)) (by simp) fun m hm => by
    rcases Nat.lt_or_ge m piles.length with h2 | h2
    · rw [List.getElem?_append_left h2]
    · rw [List.getElem?_eq_none (show piles.length ≤ m from h2), List.getElem?_eq_none (by simp; omega)]
/-- The row that is chosen. -/
def okL (out : List PI) (b : Int) : Bool := match out.getLast? with
  | none => true
  | some q => decide (q.2 < b)
def sel : Nat → List PI → List PI → List Nat → List PI
  | w, out, p :: l, n :: ns => if n = w ∧ okL out p.2 = true then sel (w - 1) (out ++ [p]) l ns else sel w out l ns
  | _, out, _, _ => out
end Go.Proofs.Ytbbmkgpgiacdeaa


/-
  What stands once in each of two lists: plain laws.
-/
namespace Go.Proofs.Ytbbmkgpgiacdeaa
set_option linter.unusedVariables false
set_option linter.unusedSimpArgs false
/-- What stands once in each. -/
def onceS (a b : List Int) (i : Nat) (x : Int) : List (Nat × Nat) := if a.count x = 1 ∧ b.count x = 1 then [(i, b.idxOf x)] else []
def onceT (a b : List Int) : Nat → List (Nat × Nat)
  | 0 => []
  | i + 1 => onceT a b i ++ (match a[i]? with | some x => onceS a b i x | none => [])
def once (a b : List Int) : List (Nat × Nat) := onceT a b a.length
end Go.Proofs.Ytbbmkgpgiacdeaa


/-
  What is kept by the patience way: plain laws.
-/
namespace Go.Proofs.Ytbbmkgpgiacdeaa
set_option linter.unusedVariables false
set_option linter.unusedSimpArgs false
/-- How much two lists begin with alike. -/
def pre : List Int → List Int → Nat
  | x :: a, y :: b => if x = y then pre a b + 1 else 0
  | _, _ => 0
theorem pre_le : ∀ a b : List Int, pre a b ≤ a.length ∧ pre a b ≤ b.length
  | [], b => by simp [pre]
  | x :: a, [] => by simp [pre]
  | x :: a, y :: b => by
    rw [pre]
    have := pre_le a b
    split <;> simp <;> omega
theorem pre_eq : ∀ (a b : List Int) (k : Nat), k < pre a b → a[k]? = b[k]?
  | [], b, k, h => by simp [pre] at h
  | x :: a, [], k, h => by simp [pre] at h
  | x :: a, y :: b, k, h => by
    rw [pre] at h
    split at h
    · rename_i e
      subst e
      cases k with
      | zero => rfl
      | succ k => rw [List.getElem?_cons_succ, List.getElem?_cons_succ]; exact pre_eq a b k (by omega)
    · omega
theorem le_pre : ∀ (a b : List Int) (f : Nat), (∀ k, k < f → ∃ x, a[k]? = some x ∧ b[k]? = some x) → f ≤ pre a b
  | a, b, 0, _ => Nat.zero_le _
  | [], b, f + 1, h => by obtain ⟨x, h1, _⟩ := h 0 (by omega); simp at h1
  | x :: a, [], f + 1, h => by obtain ⟨x, _, h1⟩ := h 0 (by omega); simp at h1
  | x :: a, y :: b, f + 1, h => by
    obtain ⟨z, h1, h2⟩ := h 0 (by omega)
    simp at h1 h2
    rw [pre, if_pos (by rw [h1, h2])]
    have := le_pre a b f fun k hk => by
      have := h (k + 1) (by omega)
      rwa [List.getElem?_cons_succ, List.getElem?_cons_succ] at this
    omega
theorem pre_ge {a b : List Int} {f : Nat} (h : ∀ x, a[f]? = some x → b[f]? = some x → False) : pre a b ≤ f := by
  rcases Nat.lt_or_ge f (pre a b) with q | q
  · have h1 := pre_eq a b f q
    have hl := (pre_le a b).1
    have h2 := List.getElem?_eq_getElem (show f < a.length by omega)
    exact (h _ h2 (h1 ▸ h2)).elim
  · exact q
theorem pre_of {a b : List Int} {f : Nat} (h : ∀ k, k < f → ∃ x, a[k]? = some x ∧ b[k]? = some x) (hs : min a.length b.length ≤ f ∨ ∀ x, a[f]? = some x → b[f]? = some x → False) : pre a b = f := by
  have h1 := le_pre a b f h
  have h2 := pre_le a b
  rcases hs with hs | hs
  · omega
  · have := pre_ge hs
    omega
/-- How much two lists end with alike behind that. -/
def suf (a b : List Int) : Nat := min (pre a.reverse b.reverse) (min a.length b.length - pre a b)
theorem rev_at {l : List Int} {k : Nat} (h : k < l.length) : l.reverse[k]? = l[l.length - 1 - k]? := List.getElem?_reverse h
theorem suf_of {a b : List Int} {f t : Nat} (hf : pre a b = f) (ht : t ≤ min a.length b.length - f) (h : ∀ k, k < t → ∃ x, a[a.length - 1 - k]? = some x ∧ b[b.length - 1 - k]? = some x)
    (hs : min a.length b.length - f ≤ t ∨ ∀ x, a[a.length - 1 - t]? = some x → b[b.length - 1 - t]? = some x → False) : suf a b = t := by
  unfold suf
  rw [hf]
  have h1 := le_pre a.reverse b.reverse t fun k hk => by
    rw [rev_at (by omega), rev_at (by omega)]
    exact h k hk
  rcases Nat.lt_or_ge t (min a.length b.length - f) with q | q
  · have hs2 := hs.resolve_left (by omega)
    have h2 := pre_ge (a := a.reverse) (b := b.reverse) (f := t) (by rw [rev_at (by omega), rev_at (by omega)]; exact hs2)
    omega
  · omega
theorem suf_le (a b : List Int) : suf a b ≤ min a.length b.length - pre a b := Nat.min_le_right _ _
theorem suf_eq {a b : List Int} {k : Nat} (h : k < suf a b) : a[a.length - 1 - k]? = b[b.length - 1 - k]? := by
  have h1 : k < pre a.reverse b.reverse := Nat.lt_of_lt_of_le h (Nat.min_le_left _ _)
  have h2 := suf_le a b
  have h3 := pre_eq _ _ k h1
  rwa [rev_at (by omega), rev_at (by omega)] at h3
/-- Pairs that rise within bounds, from a place on. -/
def CH (n m : Nat) : Nat → Nat → List (Nat × Nat) → Prop
  | i, k, [] => i ≤ n ∧ k ≤ m
  | i, k, p :: c => (i ≤ p.1 ∧ k ≤ p.2 ∧ p.1 < n ∧ p.2 < m) ∧ CH n m (p.1 + 1) (p.2 + 1) c
theorem CH.of {n m : Nat} : ∀ {i k : Nat} {c : List (Nat × Nat)}, i ≤ n → k ≤ m → (∀ p ∈ c, i ≤ p.1 ∧ k ≤ p.2 ∧ p.1 < n ∧ p.2 < m) → (c.Pairwise fun p q => p.1 < q.1) → (c.Pairwise fun p q => p.2 < q.2) → CH n m i k c
  | i, k, [], h1, h2, _, _, _ => ⟨h1, h2⟩
  | i, k, p :: c, h1, h2, hb, ha, hc => by
    have hp := hb p List.mem_cons_self
    rw [List.pairwise_cons] at ha hc
    refine ⟨hp, CH.of (by omega) (by omega) (fun q hq => ?_) ha.2 hc.2⟩
    have := hb q (List.mem_cons_of_mem _ hq)
    have := ha.1 q hq
    have := hc.1 q hq
    omega
def mv (i k : Nat) (l : List (Nat × Nat)) : List (Nat × Nat) := l.map fun p => (p.1 + i, p.2 + k)
def dg (i k n : Nat) : List (Nat × Nat) := (List.range n).map fun j => (i + j, k + j)
def mid (a : List Int) (f t : Nat) : List Int := (a.take (a.length - t)).drop f
theorem mid_len {a : List Int} {f t : Nat} : (mid a f t).length = a.length - t - f := by
  unfold mid
  rw [List.length_drop, List.length_take]
  omega
end Go.Proofs.Ytbbmkgpgiacdeaa


/-
  What is left of two lists, as blocks: plain laws.
-/
namespace Go.Proofs.Ytbbmkgpgiacdeaa
set_option linter.unusedVariables false
set_option linter.unusedSimpArgs false
def sub (l : List Int) (i u : Nat) : List Int := (l.take u).drop i
theorem sub_len {l : List Int} {i u : Nat} (h : u ≤ l.length) : (sub l i u).length = u - i := by
  unfold sub
  rw [List.length_drop, List.length_take]
  omega
theorem sub_sub {l : List Int} {i u p q : Nat} (h : i + q ≤ u) : sub (sub l i u) p q = sub l (i + p) (i + q) := by
  unfold sub
  apply List.ext_getElem?
  intro j
  rw [List.getElem?_drop, List.getElem?_take, List.getElem?_drop, List.getElem?_drop, List.getElem?_take, List.getElem?_take]
  by_cases h1 : p + j < q
  · rw [if_pos h1, if_pos (by omega), if_pos (by omega), Nat.add_assoc]
  · rw [if_neg h1, if_neg (by omega)]
theorem mid_sub {l : List Int} {i u f t : Nat} (h : u ≤ l.length) (h2 : f + t ≤ u - i) (hi : i ≤ u) : mid (sub l i u) f t = sub l (i + f) (u - t) := by
  have h3 := sub_len (l := l) (i := i) h
  show sub (sub l i u) f ((sub l i u).length - t) = _
  rw [h3, sub_sub (by omega), show i + (u - i - t) = u - t by omega]
theorem sub_all (l : List Int) : sub l 0 l.length = l := by unfold sub; simp
theorem mv_mv (i k a b : Nat) (l : List (Nat × Nat)) : mv i k (mv a b l) = mv (i + a) (k + b) l := by
  unfold mv
  rw [List.map_map]
  apply List.map_congr_left
  intro p _
  show (p.1 + a + i, p.2 + b + k) = (p.1 + (i + a), p.2 + (k + b))
  congr 1 <;> omega
theorem mv_app (i k : Nat) (l m : List (Nat × Nat)) : mv i k (l ++ m) = mv i k l ++ mv i k m := List.map_append
theorem mv_nil (i k : Nat) : mv i k [] = [] := rfl
theorem mv_zero (l : List (Nat × Nat)) : mv 0 0 l = l := by
  unfold mv
  simp
theorem mv_dg (i k a b n : Nat) : mv i k (dg a b n) = dg (i + a) (k + b) n := by
  unfold mv dg
  rw [List.map_map]
  apply List.map_congr_left
  intro j _
  show (a + j + i, b + j + k) = (i + a + j, k + b + j)
  congr 1 <;> omega
theorem mv_len (i k : Nat) (l : List (Nat × Nat)) : (mv i k l).length = l.length := by simp [mv]
structure BK where
  a : Nat
  an : Nat
  b : Nat
  bn : Nat
/-- A block of two lists of these lengths. -/
def BKok (n m : Nat) (x : BK) : Prop := x.a ≤ x.an ∧ x.an ≤ n ∧ x.b ≤ x.bn ∧ x.bn ≤ m
def wt (x : BK) : Nat := (x.an - x.a) + (x.bn - x.b) + 1
def Wt (ps : List BK) : Nat := (ps.map wt).sum
theorem Wt_snoc (ps : List BK) (x : BK) : Wt (ps ++ [x]) = Wt ps + wt x := by simp [Wt]
theorem Wt_len : ∀ ps : List BK, ps.length ≤ Wt ps
  | [] => Nat.zero_le _
  | x :: ps => by
    have := Wt_len ps
    have h2 : Wt (x :: ps) = wt x + Wt ps := by simp [Wt]
    have h3 : 1 ≤ wt x := by unfold wt; omega
    rw [h2, List.length_cons]
    omega
section
variable (K : List Int → List Int → List (Nat × Nat)) (la lb : List Int)
variable {K la lb}
end
theorem perm_one {α : Type} (ks A M C P : List α) : (((ks ++ A) ++ C) ++ (P ++ M)).Perm (ks ++ ((A ++ (M ++ C)) ++ P)) := by
  simp only [List.append_assoc]
  refine List.Perm.append_left ks (List.Perm.append_left A ?_)
  have h1 : (C ++ (P ++ M)).Perm ((P ++ M) ++ C) := List.perm_append_comm
  refine h1.trans ?_
  rw [List.append_assoc]
  have h2 : (P ++ (M ++ C)).Perm ((M ++ C) ++ P) := List.perm_append_comm
  rwa [List.append_assoc] at h2
end Go.Proofs.Ytbbmkgpgiacdeaa


/-
  What is kept by the patience way rises, and matches: plain laws.
-/
namespace Go.Proofs.Ytbbmkgpgiacdeaa
set_option linter.unusedVariables false
set_option linter.unusedSimpArgs false
/-- Pairs that rise within bounds and match. -/
def OkR (a b : List Int) (i u k v : Nat) (l : List (Nat × Nat)) : Prop :=
  (∀ p ∈ l, i ≤ p.1 ∧ p.1 < u ∧ k ≤ p.2 ∧ p.2 < v ∧ a[p.1]? = b[p.2]?) ∧ l.Pairwise fun p q => p.1 < q.1 ∧ p.2 < q.2
theorem OkR.nil (a b : List Int) (i u k v : Nat) : OkR a b i u k v [] := ⟨(fun p hp => by cases hp), List.Pairwise.nil⟩
theorem OkR.widen {a b : List Int} {i u k v i' u' k' v' : Nat} {l : List (Nat × Nat)} (h : OkR a b i u k v l) (h1 : i' ≤ i) (h2 : u ≤ u') (h3 : k' ≤ k) (h4 : v ≤ v') : OkR a b i' u' k' v' l :=
  ⟨fun p hp => by have := h.1 p hp; exact ⟨by omega, by omega, by omega, by omega, this.2.2.2.2⟩, h.2⟩
theorem OkR.app {a b : List Int} {i u k v z y : Nat} {l m : List (Nat × Nat)} (h : OkR a b i u k v l) (h2 : OkR a b u z v y m) (h3 : i ≤ u) (h4 : u ≤ z) (h5 : k ≤ v) (h6 : v ≤ y) : OkR a b i z k y (l ++ m) :=
  ⟨fun p hp => by
    rcases List.mem_append.1 hp with hp | hp
    · exact (h.widen (Nat.le_refl _) h4 (Nat.le_refl _) h6).1 p hp
    · exact (h2.widen h3 (Nat.le_refl _) h5 (Nat.le_refl _)).1 p hp, by
    rw [List.pairwise_append]
    refine ⟨h.2, h2.2, fun p hp q hq => ?_⟩
    have := h.1 p hp
    have := h2.1 q hq
    omega⟩
theorem OkR.one {a b : List Int} {p : Nat × Nat} (h : a[p.1]? = b[p.2]?) : OkR a b p.1 (p.1 + 1) p.2 (p.2 + 1) [p] :=
  ⟨fun q hq => by obtain rfl := List.mem_singleton.1 hq; exact ⟨Nat.le_refl _, by omega, Nat.le_refl _, by omega, h⟩, List.pairwise_singleton _ _⟩
theorem sub_get {l : List Int} {i u j : Nat} (h : i + j < u) : (sub l i u)[j]? = l[i + j]? := by
  unfold sub
  rw [List.getElem?_drop, List.getElem?_take, if_pos h]
theorem OkR.mv {a b : List Int} {i u k v n m : Nat} {l : List (Nat × Nat)} (h : OkR (sub a i u) (sub b k v) 0 n 0 m l) (h1 : n ≤ u - i) (h2 : m ≤ v - k) : OkR a b i u k v (mv i k l) :=
  ⟨fun p hp => by
    obtain ⟨q, hq, rfl⟩ := List.mem_map.1 hp
    have h3 := h.1 q hq
    refine ⟨Nat.le_add_left _ _, by show q.1 + i < u; omega, Nat.le_add_left _ _, by show q.2 + k < v; omega, ?_⟩
    have h4 := h3.2.2.2.2
    rw [sub_get (by omega), sub_get (by omega)] at h4
    show a[q.1 + i]? = b[q.2 + k]?
    rw [Nat.add_comm q.1, Nat.add_comm q.2]
    exact h4, by
    unfold Go.Proofs.Ytbbmkgpgiacdeaa.mv
    rw [List.pairwise_map]
    exact h.2.imp fun {p q} h => by
      show p.1 + i < q.1 + i ∧ p.2 + k < q.2 + k
      omega⟩
theorem OkR.dg {a b : List Int} {i k n : Nat} (h : ∀ j, j < n → a[i + j]? = b[k + j]?) : OkR a b i (i + n) k (k + n) (dg i k n) :=
  ⟨fun p hp => by
    obtain ⟨j, hj, rfl⟩ := List.mem_map.1 hp
    rw [List.mem_range] at hj
    exact ⟨Nat.le_add_right _ _, by show i + j < i + n; omega, Nat.le_add_right _ _, by show k + j < k + n; omega, h j hj⟩, by
    unfold Go.Proofs.Ytbbmkgpgiacdeaa.dg
    rw [List.pairwise_map]
    exact List.pairwise_lt_range.imp fun {p q} h => by
      show i + p < i + q ∧ k + p < k + q
      omega⟩
def OkF (D : List Int → List Int → List (Nat × Nat)) : Prop := ∀ a b : List Int, OkR a b 0 a.length 0 b.length (D a b)
theorem sub_drop (l : List Int) (i : Nat) : sub l i l.length = l.drop i := by unfold sub; rw [List.take_length]
theorem asc_len : ∀ (l : List (Nat × Nat)) (i u : Nat), (∀ p ∈ l, i ≤ p.1 ∧ p.1 < u) → (l.Pairwise fun p q => p.1 < q.1) → l.length ≤ u - i
  | [], i, u, _, _ => Nat.zero_le _
  | p :: l, i, u, h, hp => by
    rw [List.pairwise_cons] at hp
    have h1 := h p List.mem_cons_self
    have := asc_len l (p.1 + 1) u (fun q hq => ⟨hp.1 q hq, (h q (List.mem_cons_of_mem _ hq)).2⟩) hp.2
    rw [List.length_cons]
    omega
theorem OkR.len {a b : List Int} {i u k v : Nat} {l : List (Nat × Nat)} (h : OkR a b i u k v l) : l.length ≤ u - i := asc_len l i u (fun p hp => ⟨(h.1 p hp).1, (h.1 p hp).2.1⟩) (h.2.imp fun {p q} h => h.1)
end Go.Proofs.Ytbbmkgpgiacdeaa


/-
  Where things stand; the parts of two lists: plain laws.
-/
namespace Go.Proofs.Ytbbmkgpgiacdeaa
set_option linter.unusedVariables false
set_option linter.unusedSimpArgs false
theorem snoc_ind {α : Type} {P : List α → Prop} (h0 : P []) (h1 : ∀ (l : List α) (x : α), P l → P (l ++ [x])) (l : List α) : P l := by
  have h : ∀ l : List α, P l.reverse := fun l => by
    induction l with
    | nil => exact h0
    | cons x l ih =>
      rw [List.reverse_cons]
      exact h1 _ _ ih
  rw [← List.reverse_reverse l]
  exact h _
/-- Where a thing stands. -/
def plc (l : List Int) (x : Int) : List Nat := (List.range l.length).filter fun k => decide (l[k]? = some x)
theorem plc_mem {l : List Int} {x : Int} {k : Nat} : k ∈ plc l x ↔ l[k]? = some x := by
  unfold plc
  rw [List.mem_filter, List.mem_range, decide_eq_true_iff]
  exact ⟨fun h => h.2, fun h => ⟨(List.getElem?_eq_some_iff.1 h).1, h⟩⟩
theorem plc_snoc (l : List Int) (y x : Int) : plc (l ++ [y]) x = plc l x ++ (if y = x then [l.length] else []) := by
  unfold plc
  rw [List.length_append, List.length_singleton, List.range_succ, List.filter_append]
  congr 1
  · apply List.filter_congr
    intro k hk
    rw [List.mem_range] at hk
    rw [List.getElem?_append_left hk]
  · have e : (l ++ [y])[l.length]? = some y := by rw [List.getElem?_append_right (Nat.le_refl _), Nat.sub_self]; rfl
    by_cases h : y = x
    · subst h
      rw [if_pos rfl, List.filter_cons_of_pos (by rw [e]; simp)]
      rfl
    · rw [if_neg h, List.filter_cons_of_neg (by rw [e]; simpa using h)]
      rfl
theorem plc_nil (x : Int) : plc [] x = [] := rfl
theorem plc_len (x : Int) : ∀ l : List Int, (plc l x).length = l.count x := fun l => by
  refine snoc_ind (P := fun l => (plc l x).length = l.count x) rfl (fun l y ih => ?_) l
  · rw [plc_snoc, List.length_append, ih, List.count_append]
    by_cases h : y = x
    · subst h
      simp
    · rw [if_neg h, List.count_singleton, if_neg (by simpa using h)]
      rfl
theorem plc_asc (l : List Int) (x : Int) : (plc l x).Pairwise (· < ·) := List.pairwise_lt_range.filter _
/-- Things side by side that are one. -/
structure PT where
  A : Nat
  B : Nat
  N : Nat
  W : Nat
def cnt (a : List Int) (j : Nat) : Nat := match a[j]? with
  | some x => a.count x
  | none => 0
/-- The worth of n things from a place on. -/
def wr (a : List Int) (i : Nat) : Nat → Nat
  | 0 => a.length
  | n + 1 => min (wr a i n) (cnt a (i + n))
theorem cnt_at {a : List Int} {j : Nat} {x : Int} (h : a[j]? = some x) : cnt a j = a.count x := by unfold cnt; rw [h]
def ln (a b : List Int) (i k : Nat) : Nat := pre (a.drop i) (b.drop k)
def pt (a b : List Int) (i k : Nat) : PT := ⟨i, k, ln a b i k, wr a i (ln a b i k)⟩
theorem ln_le (a b : List Int) (i k : Nat) : ln a b i k ≤ a.length - i ∧ ln a b i k ≤ b.length - k := by
  have := pre_le (a.drop i) (b.drop k)
  rw [List.length_drop, List.length_drop] at this
  exact this
theorem ln_eq {a b : List Int} {i k j : Nat} (h : j < ln a b i k) : a[i + j]? = b[k + j]? := by
  have := pre_eq (a.drop i) (b.drop k) j h
  rwa [List.getElem?_drop, List.getElem?_drop] at this
theorem ln_of {a b : List Int} {i k n : Nat} (h : ∀ j, j < n → a[i + j]? = b[k + j]?) (hi : i + n ≤ a.length) (hk : k + n ≤ b.length) (hs : a.length ≤ i + n ∨ b.length ≤ k + n ∨ a[i + n]? ≠ b[k + n]?) : ln a b i k = n := by
  unfold ln
  apply pre_of
  · intro j hj
    rw [List.getElem?_drop, List.getElem?_drop, ← h j hj]
    exact ⟨_, List.getElem?_eq_getElem (by omega), List.getElem?_eq_getElem (by omega)⟩
  · rw [List.length_drop, List.length_drop]
    rcases hs with hs | hs | hs
    · exact .inl (by omega)
    · exact .inl (by omega)
    · refine .inr fun x h1 h2 => hs ?_
      rw [List.getElem?_drop] at h1 h2
      rw [h1, h2]
/-- The part at a pair of places, unless it begins ahead of them. -/
def atP (a b : List Int) (i k : Nat) : List PT := if 0 < i ∧ 0 < k ∧ a[i - 1]? = b[k - 1]? then [] else [pt a b i k]
def rowP (a b : List Int) (i : Nat) (ks : List Nat) : List PT := ks.flatMap (atP a b i)
def parts (a b : List Int) : Nat → List PT
  | 0 => []
  | i + 1 => parts a b i ++ (match a[i]? with
    | some x => rowP a b i (plc b x)
    | none => [])
theorem parts_step {a b : List Int} {i : Nat} {x : Int} (h : a[i]? = some x) : parts a b (i + 1) = parts a b i ++ rowP a b i (plc b x) := by rw [parts, h]
theorem rowP_snoc {a b : List Int} {i j k : Nat} {ks : List Nat} (h : ks[j]? = some k) : rowP a b i (ks.take (j + 1)) = rowP a b i (ks.take j) ++ atP a b i k := by
  unfold rowP
  rw [List.take_add_one, h, List.flatMap_append]
  simp
theorem rowP_mem {a b : List Int} {i : Nat} {ks : List Nat} {p : PT} (h : p ∈ rowP a b i ks) : ∃ k ∈ ks, p = pt a b i k := by
  obtain ⟨k, hk, hp⟩ := List.mem_flatMap.1 h
  unfold atP at hp
  split at hp
  · cases hp
  · exact ⟨k, hk, List.mem_singleton.1 hp⟩
theorem parts_mem {a b : List Int} {p : PT} : ∀ {n : Nat}, p ∈ parts a b n → ∃ i k x, i < n ∧ a[i]? = some x ∧ b[k]? = some x ∧ p = pt a b i k
  | 0, h => by cases h
  | n + 1, h => by
    rw [parts] at h
    rcases List.mem_append.1 h with h | h
    · obtain ⟨i, k, x, h1, h2⟩ := parts_mem h
      exact ⟨i, k, x, by omega, h2⟩
    · cases hx : a[n]? with
      | none => rw [hx] at h; cases h
      | some x =>
        rw [hx] at h
        obtain ⟨k, hk, hp⟩ := rowP_mem h
        exact ⟨n, k, x, Nat.lt_succ_self _, hx, plc_mem.1 hk, hp⟩
/-- Is a part better than one that stands ahead of it? -/
def bet (p q : PT) : Bool := if p.W = q.W then decide (q.N < p.N) else decide (p.W < q.W)
def top (l : List PT) : PT := l.foldl (fun t p => if t.N = 0 ∨ bet p t = true then p else t) ⟨0, 0, 0, 0⟩
theorem top_snoc (l : List PT) (p : PT) : top (l ++ [p]) = if (top l).N = 0 ∨ bet p (top l) = true then p else top l := by
  unfold top
  rw [List.foldl_append]
  rfl
theorem top_mem (l : List PT) : top l = ⟨0, 0, 0, 0⟩ ∨ top l ∈ l := by
  refine snoc_ind (P := fun l => top l = ⟨0, 0, 0, 0⟩ ∨ top l ∈ l) (.inl rfl) (fun l p ih => ?_) l
  · rw [top_snoc]
    split
    · exact .inr (by simp)
    · rcases ih with ih | ih
      · exact .inl ih
      · exact .inr (by simp [ih])
def bst (a b : List Int) : PT := top (parts a b a.length)
theorem bst_ok (a b : List Int) (h : (bst a b).N ≠ 0) : (bst a b).A + (bst a b).N ≤ a.length ∧ (bst a b).B + (bst a b).N ≤ b.length ∧ ∀ j, j < (bst a b).N → a[(bst a b).A + j]? = b[(bst a b).B + j]? := by
  rcases top_mem (parts a b a.length) with e | e
  · exact (h (by unfold bst; rw [e])).elim
  · obtain ⟨i, k, x, h1, h2, h3, hp⟩ := parts_mem e
    have hb : bst a b = pt a b i k := hp
    rw [hb]
    have hl := ln_le a b i k
    have hk := (List.getElem?_eq_some_iff.1 h3).1
    exact ⟨by show i + ln a b i k ≤ _; omega, by show k + ln a b i k ≤ _; omega, fun j hj => ln_eq hj⟩
end Go.Proofs.Ytbbmkgpgiacdeaa


/-
  A call that waits for the function's end. General; nothing here names a program.
-/
namespace Go.Proofs.Ytbbmkgpgiacdeaa.Zx
open Go.RowKit Zk
set_option linter.unusedVariables false
set_option linter.unusedSimpArgs false
section
variable {P : Program} {N : Nat} {Q : Post} {env : Env} {w : World}
/-- A load in all worlds of a kind. -/
theorem y_ldS {S : World → Prop} {x : Operand} {p : Addr} {v : Value} {lt : TypeId} {d : TypeDesc} {dst : Option Tmp} {ty : TypeId} {pos : String} {after : Array Edge} {g : Option (Nat × Bool)} (hd : P.underlying lt = some d) (hrow : d.isRow = false) (hx : ev env x = some (.pointer (some p))) (hc : ∀ w, S w → w.cell? p = some v) :
    Y P S env ⟨dst, .load lt x, ty, pos, after, g⟩ v := fun N a w' ha hw => by
  simp only [execOp, ha.eval hx, Instr.loadAt, Instr.sureAddr, Sem.run_bind, Sem.run_pure, Result.andThen_ok, run_loadVar1 hd hrow (hc w' hw)]
end
end Go.Proofs.Ytbbmkgpgiacdeaa.Zx


/-
  Calls that turn a piece of the caller's memory; function values; '[]byte(s)'. General; nothing here names a program.
-/
namespace Go.Proofs.Ytbbmkgpgiacdeaa.Zx
open Go.RowKit Zk
set_option linter.unusedVariables false
set_option linter.unusedSimpArgs false
/-- From w to w' only the piece r has changed: it is r' now; and there is new memory. -/
structure Turned (w w' : World) (r r' : Res) : Prop where
  os : w'.os = w.os
  tape : w'.tape = w.tape
  output : w'.output = w.output
  size : w.heap.size ≤ w'.heap.size
  old : ∀ i, i < w.heap.size → ¬ r.dom i → w'.heap[i]? = w.heap[i]?
  holds : r'.holds w'
  dom : ∀ i, r'.dom i → r.dom i ∨ (w.heap.size ≤ i ∧ i < w'.heap.size)
/-- Two pieces as one. -/
def both (r s : Res) : Res where
  dom i := r.dom i ∨ s.dom i
  holds w := r.holds w ∧ s.holds w
  stable w w' h hh := ⟨r.stable w w' (fun i hi => h i (.inl hi)) hh.1, s.stable w w' (fun i hi => h i (.inr hi)) hh.2⟩
section
variable {w0 w w' : World} {M : Nat → Prop} {rs : List Res}
theorem St.turn (S : St w0 M rs w) (k : Nat) {r r' : Res} (hk : rs[k]? = some r) (h : Turned w w' r r') : St w0 M (rs.set k r') w' :=
  S.upd k hk h.os h.tape h.output h.size h.old h.holds h.dom
theorem Turned.refl {w : World} {r : Res} (h : r.holds w) : Turned w w r r := ⟨rfl, rfl, rfl, Nat.le_refl _, fun _ _ _ => rfl, h, fun i hi => .inl hi⟩
theorem Turned.like {r : Res} (l : Like w w') (h : r.holds w) (hd : ∀ i, r.dom i → i < w.heap.size) : Turned w w' r r :=
  ⟨l.os, l.tape, l.output, l.size, fun i hi _ => l.block i hi, r.stable w w' (fun i hi => l.block i (hd i hi)) h, fun i hi => .inl hi⟩
/-- The callee's start: two pieces that it may write to. -/
theorem St.borrow2 (r s : Res) (hr : r.holds w) (hs : s.holds w) (hd : ∀ i, r.dom i ∨ s.dom i → i < w.heap.size) (hap : ∀ i, r.dom i → ¬ s.dom i) : St w (fun i => r.dom i ∨ s.dom i) [r, s] w :=
  ⟨rfl, rfl, rfl, Nat.le_refl _, fun _ _ _ => rfl, fun q hq => by
    rcases List.mem_cons.1 hq with rfl | hq
    · exact ⟨hr, fun i hi => ⟨hd i (.inl hi), .inr (.inl hi)⟩⟩
    · obtain rfl := List.mem_singleton.1 hq
      exact ⟨hs, fun i hi => ⟨hd i (.inr hi), .inr (.inr hi)⟩⟩, List.pairwise_cons.2 ⟨fun s' hs' => by obtain rfl := List.mem_singleton.1 hs'; exact hap, List.pairwise_singleton _ _⟩⟩
theorem St.borrow1 (r : Res) (hr : r.holds w) (hd : ∀ i, r.dom i → i < w.heap.size) : St w r.dom [r] w :=
  ⟨rfl, rfl, rfl, Nat.le_refl _, fun _ _ _ => rfl, fun q hq => by
    obtain rfl := List.mem_singleton.1 hq
    exact ⟨hr, fun i hi => ⟨hd i hi, .inr hi⟩⟩, List.pairwise_singleton _ _⟩
/-- The callee's end. -/
theorem St.turned1 {r : Res} (S : St w0 r.dom rs w) (k : Nat) {r' : Res} (hk : rs[k]? = some r') : Turned w0 w r r' :=
  ⟨S.os, S.tape, S.output, S.size, S.old, S.get k hk, fun i hi => by
    have h := (S.res r' (List.mem_of_getElem? hk)).2 i hi
    rcases h.2 with h2 | h2
    · exact .inr ⟨h2, h.1⟩
    · exact .inl h2⟩
/-- A piece's blocks are there. -/
theorem St.lt (S : St w0 M rs w) (k : Nat) {r : Res} (hk : rs[k]? = some r) : ∀ i, r.dom i → i < w.heap.size := fun i hi => ((S.res r (List.mem_of_getElem? hk)).2 i hi).1
end
section
variable {P : Program} {S : World → Prop} {env : Env} {w w0 : World} {M : Nat → Prop} {rs : List Res} {N : Nat} {Q : Post} {K : Env → World → Prop} {dst : Option Tmp} {d : Tmp} {ty : TypeId} {pos : String} {after : Array Edge} {g : Option (Nat × Bool)}
/-- A function value with what it has of its own. -/
theorem y_makeFunc {fn : Fn} {first captured : Array Operand} {fs cs : List Value} (hf : evl env first.toList = some fs) (hc : evl env captured.toList = some cs) : Y P S env ⟨dst, .makeFunc fn first captured, ty, pos, after, g⟩ (.func fn fs.toArray cs.toArray) := fun N a w ha _ => by
  have e1 : first.map a.eval = fs.toArray := by
    rw [← evl_map ha first.toList fs hf]
    apply Array.ext'
    simp
  have e2 : captured.map a.eval = cs.toArray := by
    rw [← evl_map ha captured.toList cs hc]
    apply Array.ext'
    simp
  simp only [execOp, e1, e2, Instr.makeFunc, Sem.run_bind, Sem.run_pure, Result.andThen_ok]
/-- A call of a function value. -/
theorem o_callv {f : FuncId} {fn : Func} {v : Operand} {xs : Array Operand} {ts : Array TypeId} {fs cs vs args : List Value} {R : Ending → World → Prop} (hv : ev env v = some (.func (.func f) fs.toArray cs.toArray)) (hf : P.funcs[f]? = some fn) (hn : (fn.name == "runtime.NumGoroutine") = false) (hb : fn.body.isNone = false)
    (hc : Calls P f args.toArray w R) (hargs : evl env xs.toList = some vs) (hall : fs ++ vs ++ cs = args) (hd : ∀ d', dst = some d' → Nat.blt d' N = true)
    (h : ∀ e w', R e w' → ∃ u, e = .returned u ∧ K (match dst with | some d' => (d', u) :: env | none => env) w') :
    O P N Q ⟨dst, .call { callee := .value v, args := xs, argTypes := ts }, ty, pos, after, g⟩ env w K := fun a ha => by
  have hmap : xs.map a.eval = vs.toArray := by
    rw [← evl_map ha xs.toList vs hargs]
    apply Array.ext'
    simp
  unfold Oper.wp
  have hrun : (execOp a.eval ⟨dst, .call { callee := .value v, args := xs, argTypes := ts }, ty, pos, after, g⟩).run P w = .ok (.enter f args.toArray) w := by
    simp only [execOp, resolve, hmap, ha.eval hv, Deferred.ofValue, invoke, callFunc, Sem.run_bind, Sem.run_pure, Result.andThen_ok, run_program, hf, hn, hb, Bool.false_eq_true, if_false]
    rw [← hall]
    simp
  rw [hrun]
  refine hc.mono fun e w' hR => ?_
  obtain ⟨u, rfl, hK⟩ := h e w' hR
  cases dst with
  | none => exact ⟨env, ha, hK⟩
  | some d' => exact ⟨_, ha.put d' u (hd d' rfl), hK⟩
end
section
variable {w0 w : World} {M : Nat → Prop} {rs : List Res}
theorem old_block {size n c : Nat} {A : Option Addr} {xs : List Value} (h : Rs w size A n c xs) {ad : Addr} (hn : 0 < n) (hA : A = some ad) : ad.block < w.heap.size := by
  obtain ⟨ad', hA', hb, _⟩ := h.rd.2 hn
  rw [hA] at hA'
  cases hA'
  exact hb
end
end Go.Proofs.Ytbbmkgpgiacdeaa.Zx


/-
  Maps that the call makes: integer elements. General; nothing here names a program.
-/
namespace Go.Proofs.Ytbbmkgpgiacdeaa.Zx
open Go.RowKit Zk
set_option linter.unusedVariables false
set_option linter.unusedSimpArgs false
abbrev DU := DataW Unit
section
variable {P : Program} {w w' w0 : World} {M : Nat → Prop} {rs : List Res} {k e : TypeId}
end
section
variable {P : Program} {N : Nat} {Q : Post} {env : Env} {w w0 : World} {M : Nat → Prop} {rs : List Res} {K : Env → World → Prop} {d : Tmp} {dst : Option Tmp} {ty : TypeId} {pos : String} {after : Array Edge} {g : Option (Nat × Bool)}
end
end Go.Proofs.Ytbbmkgpgiacdeaa.Zx


/-
  Appends onto a row of the call's own, where the old slice is still read afterwards. General; nothing here names a program.
-/
namespace Go.Proofs.Ytbbmkgpgiacdeaa.Zx
open Go.RowKit Zk
set_option linter.unusedVariables false
set_option linter.unusedSimpArgs false
section
variable {P : Program} {t e : TypeId} {z : Value} {size bytes : Nat}
variable {N : Nat} {Q : Post} {K : Env → World → Prop} {env : Env} {w0 w : World} {M : Nat → Prop} {rs : List Res} {d : Tmp} {ty : TypeId} {pos : String} {after : Array Edge} {g : Option (Nat × Bool)}
theorem T_label {l : Nat} {c : Exit → Env → World → Prop} (h : c .normal env w) : T P N (.label l) c env w := fun a ha => wp_label ⟨env, ha, h⟩
/-- A scope through which nothing jumps. -/
theorem T_scope {c : Code} (hng : ∀ l e w, Q (.goto l) e w → False) (h : T P N c Q env w) : T P N (.scope c) Q env w := fun a ha =>
  wp_scope_straight (Code.wp_mono (by
    intro e a w h
    cases e with
    | goto l =>
      obtain ⟨e', _, h2⟩ := h
      exact (hng _ _ _ h2).elim
    | normal => exact h
    | exit i => exact h
    | ret => exact h
    | panic c => exact h
    | outgrown => exact h) (h a ha))
end
end Go.Proofs.Ytbbmkgpgiacdeaa.Zx


/-
  How far two lists are from one another: plain laws.
-/
namespace Go.Proofs.Ytbbmkgpgiacdeaa
open Go.RowKit Zk Zx
set_option linter.unusedVariables false
/-- How many are taken out and put in, at least. -/
def ed : List Int → List Int → Nat
  | [], y => y.length
  | x, [] => x.length
  | a :: x, b :: y => if a = b then ed x y else min (ed x (b :: y)) (ed (a :: x) y) + 1
termination_by x y => x.length + y.length
theorem ed_nil (y : List Int) : ed [] y = y.length := by rw [ed]
theorem ed_nil_r (x : List Int) : ed x [] = x.length := by
  cases x with
  | nil => rw [ed]
  | cons a x => rw [ed]; simp
theorem ed_eq (a : Int) (x y : List Int) : ed (a :: x) (a :: y) = ed x y := by rw [ed, if_pos rfl]
theorem ed_ne {a b : Int} (h : a ≠ b) (x y : List Int) : ed (a :: x) (b :: y) = min (ed x (b :: y)) (ed (a :: x) y) + 1 := by rw [ed, if_neg h]
theorem ed_step : ∀ (n : Nat) (x y : List Int), x.length + y.length = n →
    (∀ a, ed (a :: x) y ≤ ed x y + 1 ∧ ed x y ≤ ed (a :: x) y + 1) ∧ ∀ b, ed x (b :: y) ≤ ed x y + 1 ∧ ed x y ≤ ed x (b :: y) + 1 := by
  intro n
  induction n using Nat.strongRecOn with
  | ind n ih =>
    intro x y hn
    constructor
    · intro a
      cases y with
      | nil => rw [ed_nil_r, ed_nil_r, List.length_cons]; omega
      | cons b y =>
        have h := ih _ (by rw [← hn, List.length_cons]; omega) x y rfl
        by_cases e : a = b
        · subst e
          rw [ed_eq]
          have := h.2 a
          omega
        · rw [ed_ne e]
          have h1 := h.1 a
          have h2 := h.2 b
          omega
    · intro b
      cases x with
      | nil => rw [ed_nil, ed_nil, List.length_cons]; omega
      | cons a x =>
        have h := ih _ (by rw [← hn, List.length_cons]; omega) x y rfl
        by_cases e : a = b
        · subst e
          rw [ed_eq]
          have := h.1 a
          omega
        · rw [ed_ne e]
          have h1 := h.1 a
          have h2 := h.2 b
          omega
theorem ed_diag (a b : Int) (x y : List Int) : ed x y ≤ ed (a :: x) (b :: y) := by
  by_cases e : a = b
  · subst e; rw [ed_eq]; exact Nat.le_refl _
  · rw [ed_ne e]
    have h := ed_step _ x y rfl
    have h1 := h.1 a
    have h2 := h.2 b
    omega
theorem ed_facts : ∀ (n : Nat) (x y : List Int), x.length + y.length = n → (ed x y + x.length + y.length) % 2 = 0 ∧ x.length ≤ ed x y + y.length ∧ y.length ≤ ed x y + x.length ∧ ed x y ≤ x.length + y.length := by
  intro n
  induction n using Nat.strongRecOn with
  | ind n ih =>
    intro x y hn
    cases x with
    | nil => rw [ed_nil]; simp only [List.length_nil]; omega
    | cons a x =>
      cases y with
      | nil => rw [ed_nil_r]; simp only [List.length_nil]; omega
      | cons b y =>
        simp only [List.length_cons] at hn ⊢
        have h0 := ih _ (by omega) x y rfl
        have h1 := ih _ (by rw [← hn, List.length_cons]; omega) x (b :: y) rfl
        have h2 := ih _ (by rw [← hn, List.length_cons]; omega) (a :: x) y rfl
        simp only [List.length_cons] at h1 h2
        by_cases e : a = b
        · subst e; rw [ed_eq]; omega
        · rw [ed_ne e]
          rcases Nat.le_total (ed x (b :: y)) (ed (a :: x) y) with h3 | h3
          · rw [Nat.min_eq_left h3]; omega
          · rw [Nat.min_eq_right h3]; omega
/-- How far a place is from the end. -/
def rR (la lb : List Int) (i k : Nat) : Nat := ed (la.drop i) (lb.drop k)
section
variable {la lb : List Int} {i k : Nat}
theorem rR_endA (h : la.length ≤ i) : rR la lb i k = lb.length - k := by
  rw [rR, List.drop_eq_nil_of_le h, ed_nil, List.length_drop]
theorem rR_endB (h : lb.length ≤ k) : rR la lb i k = la.length - i := by
  rw [rR, List.drop_eq_nil_of_le h, ed_nil_r, List.length_drop]
theorem drop_at {l : List Int} {i : Nat} {x : Int} (h : l[i]? = some x) : l.drop i = x :: l.drop (i + 1) := by
  obtain ⟨h1, h2⟩ := List.getElem?_eq_some_iff.1 h
  rw [← h2]
  exact List.drop_eq_getElem_cons h1
theorem rR_match {x : Int} (ha : la[i]? = some x) (hb : lb[k]? = some x) : rR la lb i k = rR la lb (i + 1) (k + 1) := by
  rw [rR, drop_at ha, drop_at hb, ed_eq]
  rfl
theorem rR_mis {x y : Int} (ha : la[i]? = some x) (hb : lb[k]? = some y) (h : x ≠ y) : rR la lb i k = min (rR la lb (i + 1) k) (rR la lb i (k + 1)) + 1 := by
  rw [rR, drop_at ha, drop_at hb, ed_ne h, ← drop_at ha, ← drop_at hb]
  rfl
theorem rR_stepA (h : i < la.length) : rR la lb i k ≤ rR la lb (i + 1) k + 1 ∧ rR la lb (i + 1) k ≤ rR la lb i k + 1 := by
  have := (ed_step _ (la.drop (i + 1)) (lb.drop k) rfl).1 la[i]
  rw [← drop_at (List.getElem?_eq_getElem h)] at this
  exact this
theorem rR_stepB (h : k < lb.length) : rR la lb i k ≤ rR la lb i (k + 1) + 1 ∧ rR la lb i (k + 1) ≤ rR la lb i k + 1 := by
  have := (ed_step _ (la.drop i) (lb.drop (k + 1)) rfl).2 lb[k]
  rw [← drop_at (List.getElem?_eq_getElem h)] at this
  exact this
theorem rR_diag (ha : i < la.length) (hb : k < lb.length) : rR la lb (i + 1) (k + 1) ≤ rR la lb i k := by
  have := ed_diag la[i] lb[k] (la.drop (i + 1)) (lb.drop (k + 1))
  rw [← drop_at (List.getElem?_eq_getElem ha), ← drop_at (List.getElem?_eq_getElem hb)] at this
  exact this
theorem rR_facts (la lb : List Int) (i k : Nat) : (rR la lb i k + (la.length - i) + (lb.length - k)) % 2 = 0 ∧ la.length - i ≤ rR la lb i k + (lb.length - k) ∧ lb.length - k ≤ rR la lb i k + (la.length - i) ∧ rR la lb i k ≤ (la.length - i) + (lb.length - k) := by
  have := ed_facts _ (la.drop i) (lb.drop k) rfl
  rw [List.length_drop, List.length_drop] at this
  exact this
theorem rR_zero (hi : i ≤ la.length) (hk : k ≤ lb.length) (h : rR la lb i k = 0) (hm : ∀ x, la[i]? = some x → lb[k]? = some x → False) : i = la.length ∧ k = lb.length := by
  rcases Nat.lt_or_ge i la.length with h1 | h1
  · rcases Nat.lt_or_ge k lb.length with h2 | h2
    · by_cases e : la[i] = lb[k]
      · exact (hm la[i] (List.getElem?_eq_getElem h1) (by rw [e]; exact List.getElem?_eq_getElem h2)).elim
      · rw [rR_mis (List.getElem?_eq_getElem h1) (List.getElem?_eq_getElem h2) e] at h
        omega
    · rw [rR_endB h2] at h; omega
  · rw [rR_endA h1] at h; omega
end
end Go.Proofs.Ytbbmkgpgiacdeaa


/-
  The table of furthest places: plain laws.
-/
namespace Go.Proofs.Ytbbmkgpgiacdeaa
open Go.RowKit Zk Zx
set_option linter.unusedVariables false
def farN : Int := 1073741824
/-- A place on a diagonal, at most d from the end. -/
def InS (la lb : List Int) (d diag : Int) (i : Nat) : Prop := ∃ k : Nat, (i : Int) - k = diag ∧ i ≤ la.length ∧ k ≤ lb.length ∧ (rR la lb i k : Int) ≤ d
/-- The neighbour's diagonal reaches its border before. -/
def Bl (la lb : List Int) (d diag : Int) : Prop := (∃ x : Nat, (x : Int) = diag - 1 ∧ InS la lb (d - 1) (diag - 1) x) ∨ (diag ≤ -1 ∧ InS la lb (d - 1) (diag + 1) 0)
structure Good (la lb : List Int) (d off v : Int) : Prop where
  sound : v = farN ∨ ∃ i : Nat, v = i ∧ InS la lb d ((la.length : Int) - lb.length + off) i
  full : ¬ Bl la lb d ((la.length : Int) - lb.length + off) → (d + off) % 2 = 0 → ∀ i, InS la lb d ((la.length : Int) - lb.length + off) i → v ≤ i
section
variable {la lb : List Int}
theorem InS.mono {d d' diag : Int} {i : Nat} (h : InS la lb d diag i) (hd : d ≤ d') : InS la lb d' diag i := by
  obtain ⟨k, h1, h2, h3, h4⟩ := h
  exact ⟨k, h1, h2, h3, by omega⟩
theorem InS.off {d diag : Int} {i : Nat} (h : InS la lb d diag i) : -d ≤ diag - ((la.length : Int) - lb.length) ∧ diag - ((la.length : Int) - lb.length) ≤ d := by
  obtain ⟨k, h1, h2, h3, h4⟩ := h
  have := rR_facts la lb i k
  omega
theorem InS.up {d diag : Int} {i : Nat} (h : InS la lb d diag i) (h1 : i < la.length) (h2 : (i : Int) - diag < lb.length) : InS la lb d diag (i + 1) := by
  obtain ⟨k, h3, h4, h5, h6⟩ := h
  have hk : k < lb.length := by omega
  have := rR_diag (la := la) (lb := lb) h1 hk
  exact ⟨k + 1, by omega, by omega, by omega, by omega⟩
theorem InS.upn {d diag : Int} {i : Nat} (h : InS la lb d diag i) : ∀ t : Nat, i + t ≤ la.length → (i : Int) + t - diag ≤ lb.length → InS la lb d diag (i + t)
  | 0, _, _ => h
  | t + 1, h1, h2 => (h.upn t (by omega) (by omega)).up (by omega) (by omega)
/-- Out of the table. -/
theorem good_out {d off : Int} (h : d < 0 ∨ off < -d ∨ off > d) : Good la lb d off farN := ⟨.inl rfl, fun _ _ i hi => by
  have := hi.off
  omega⟩
def candN (la lb : List Int) (d diag x2 xa xb : Int) : Int :=
  let i0 : Int := if d = 0 then (la.length : Int) else farN
  let i1 := if x2 < i0 then x2 else i0
  let i2 := if xa < farN ∧ 0 ≤ xa - 1 ∧ xa - 1 < i1 ∧ xa - 1 - diag ≤ lb.length then xa - 1 else i1
  if xb < farN ∧ 0 ≤ xb - diag ∧ xb < i2 then xb else i2
theorem cand_cases (d diag x2 xa xb : Int) (hn : (la.length : Int) < farN) (c : Int) (hc : candN la lb d diag x2 xa xb = c) : c = farN ∨ (c < farN ∧ ((d = 0 ∧ c = la.length) ∨ c = x2 ∨ (c = xa - 1 ∧ xa < farN ∧ 0 ≤ xa - 1 ∧ xa - 1 - diag ≤ lb.length) ∨ (c = xb ∧ xb < farN ∧ 0 ≤ xb - diag))) := by
  unfold candN at hc
  simp only at hc
  generalize hi0 : (if d = 0 then (la.length : Int) else farN) = i0 at hc
  have e0 : i0 = farN ∨ (d = 0 ∧ i0 = la.length) := by
    by_cases h : d = 0
    · rw [if_pos h] at hi0; exact .inr ⟨h, hi0.symm⟩
    · rw [if_neg h] at hi0; exact .inl hi0.symm
  generalize hi1 : (if x2 < i0 then x2 else i0) = i1 at hc
  have e1 : (i1 = x2 ∧ x2 < i0) ∨ i1 = i0 := by
    by_cases h : x2 < i0
    · rw [if_pos h] at hi1; exact .inl ⟨hi1.symm, h⟩
    · rw [if_neg h] at hi1; exact .inr hi1.symm
  generalize hi2 : (if xa < farN ∧ 0 ≤ xa - 1 ∧ xa - 1 < i1 ∧ xa - 1 - diag ≤ (lb.length : Int) then xa - 1 else i1) = i2 at hc
  have e2 : (i2 = xa - 1 ∧ xa < farN ∧ 0 ≤ xa - 1 ∧ xa - 1 < i1 ∧ xa - 1 - diag ≤ (lb.length : Int)) ∨ i2 = i1 := by
    by_cases h : xa < farN ∧ 0 ≤ xa - 1 ∧ xa - 1 < i1 ∧ xa - 1 - diag ≤ (lb.length : Int)
    · rw [if_pos h] at hi2; exact .inl ⟨hi2.symm, h⟩
    · rw [if_neg h] at hi2; exact .inr hi2.symm
  have e3 : (c = xb ∧ xb < farN ∧ 0 ≤ xb - diag ∧ xb < i2) ∨ c = i2 := by
    by_cases h : xb < farN ∧ 0 ≤ xb - diag ∧ xb < i2
    · rw [if_pos h] at hc; exact .inl ⟨hc.symm, h⟩
    · rw [if_neg h] at hc; exact .inr hc.symm
  clear hi0 hi1 hi2 hc
  rcases e3 with h | h
  · obtain ⟨a1, a2, a3, a4⟩ := h
    clear e0 e1 e2
    exact .inr ⟨by omega, .inr (.inr (.inr ⟨a1, a2, a3⟩))⟩
  rcases e2 with h2 | h2
  · obtain ⟨a1, a2, a3, a4, a5⟩ := h2
    clear e0 e1
    exact .inr ⟨by omega, .inr (.inr (.inl ⟨by omega, a2, a3, a5⟩))⟩
  rcases e0 with h4 | h4
  · rcases e1 with h3 | h3
    · exact .inr ⟨by omega, .inr (.inl (by omega))⟩
    · exact .inl (by omega)
  · rcases e1 with h3 | h3
    · exact .inr ⟨by omega, .inr (.inl (by omega))⟩
    · exact .inr ⟨by omega, .inl ⟨h4.1, by omega⟩⟩
theorem cand_le (d diag x2 xa xb : Int) : (d = 0 → candN la lb d diag x2 xa xb ≤ la.length) ∧ candN la lb d diag x2 xa xb ≤ x2 ∧ (xa < farN → 0 ≤ xa - 1 → xa - 1 - diag ≤ lb.length → candN la lb d diag x2 xa xb ≤ xa - 1) ∧ (xb < farN → 0 ≤ xb - diag → candN la lb d diag x2 xa xb ≤ xb) := by
  unfold candN
  simp only
  generalize hi0 : (if d = 0 then (la.length : Int) else farN) = i0
  have e0 : d = 0 → i0 = la.length := fun h => by rw [← hi0, if_pos h]
  generalize hi1 : (if x2 < i0 then x2 else i0) = i1
  have e1 : i1 ≤ x2 ∧ i1 ≤ i0 := by rw [← hi1]; split <;> omega
  generalize hi2 : (if xa < farN ∧ 0 ≤ xa - 1 ∧ xa - 1 < i1 ∧ xa - 1 - diag ≤ (lb.length : Int) then xa - 1 else i1) = i2
  have e2 : i2 ≤ i1 ∧ (xa < farN → 0 ≤ xa - 1 → xa - 1 - diag ≤ lb.length → i2 ≤ xa - 1) := by rw [← hi2]; split <;> omega
  have e3 : (if xb < farN ∧ 0 ≤ xb - diag ∧ xb < i2 then xb else i2) ≤ i2 ∧ (xb < farN → 0 ≤ xb - diag → (if xb < farN ∧ 0 ≤ xb - diag ∧ xb < i2 then xb else i2) ≤ xb) := by split <;> omega
  refine ⟨fun h => ?_, ?_, fun h1 h2 h3 => ?_, e3.2⟩
  · have := e0 h; omega
  · omega
  · have := e2.2 h1 h2 h3; omega
/-- Back over things that are alike. -/
structure Slid (la lb : List Int) (diag : Int) (i j : Nat) : Prop where
  le : j ≤ i
  dg : diag ≤ j
  alike : ∀ t k : Nat, j ≤ t → t < i → (t : Int) - k = diag → ∃ x, la[t]? = some x ∧ lb[k]? = some x
  stop : ∀ t k : Nat, t + 1 = j → (t : Int) - k = diag → ∀ x, la[t]? = some x → lb[k]? = some x → False
theorem Slid.inS {d diag : Int} {i j : Nat} (h : Slid la lb diag i j) (hi : InS la lb d diag i) : InS la lb d diag j := by
  obtain ⟨k, h1, h2, h3, h4⟩ := hi
  have key : ∀ t : Nat, t ≤ i - j → ∃ k' : Nat, ((i - t : Nat) : Int) - k' = diag ∧ k' ≤ lb.length ∧ rR la lb (i - t) k' = rR la lb i k := by
    intro t
    induction t with
    | zero => intro _; exact ⟨k, by omega, h3, rfl⟩
    | succ t ih =>
      intro ht
      obtain ⟨k', e1, e2, e3⟩ := ih (by omega)
      have hj := h.dg
      have hle := h.le
      obtain ⟨x, a1, a2⟩ := h.alike (i - (t + 1)) (k' - 1) (by omega) (by omega) (by omega)
      refine ⟨k' - 1, by omega, by omega, ?_⟩
      rw [rR_match a1 a2, ← e3]
      congr 1 <;> omega
  obtain ⟨k', e1, e2, e3⟩ := key (i - j) (Nat.le_refl _)
  have hle := h.le
  rw [show i - (i - j) = j by omega] at e1 e3
  exact ⟨k', e1, by omega, e2, by omega⟩
/-- It goes as far as things are alike. -/
theorem Slid.far {diag : Int} {i0 i j : Nat} (h : Slid la lb diag i0 j) (hdiag : diag ≤ i) (hal : ∀ t k : Nat, i ≤ t → t < i0 → (t : Int) - k = diag → ∃ x, la[t]? = some x ∧ lb[k]? = some x) (hi : i ≤ i0) : j ≤ i := by
  rcases Nat.lt_or_ge i j with hlt | hge
  · exfalso
    have hj := h.le
    obtain ⟨k, hk⟩ : ∃ k : Nat, ((j - 1 : Nat) : Int) - k = diag := ⟨(((j - 1 : Nat) : Int) - diag).toNat, by omega⟩
    obtain ⟨x, a1, a2⟩ := hal (j - 1) k (by omega) (by omega) hk
    exact h.stop (j - 1) k (by omega) hk x a1 a2
  · exact hge
/-- Forward over things that are alike. -/
theorem run_to (i k : Nat) (hi : i ≤ la.length) (hk : k ≤ lb.length) : ∃ t : Nat, i + t ≤ la.length ∧ k + t ≤ lb.length ∧ rR la lb (i + t) (k + t) = rR la lb i k ∧ (∀ s, s < t → ∃ x, la[i + s]? = some x ∧ lb[k + s]? = some x) ∧
    ∀ x, la[i + t]? = some x → lb[k + t]? = some x → False := by
  generalize hn : la.length - i = n
  induction n generalizing i k with
  | zero => exact ⟨0, by omega, by omega, rfl, fun s hs => by omega, fun x hx => by have := (List.getElem?_eq_some_iff.1 hx).1; omega⟩
  | succ n ih =>
    by_cases h : ∃ x, la[i]? = some x ∧ lb[k]? = some x
    · obtain ⟨x, h1, h2⟩ := h
      have h3 := (List.getElem?_eq_some_iff.1 h1).1
      have h4 := (List.getElem?_eq_some_iff.1 h2).1
      obtain ⟨t, e1, e2, e3, e4, e5⟩ := ih (i + 1) (k + 1) (by omega) (by omega) (by omega)
      refine ⟨t + 1, by omega, by omega, ?_, fun s hs => ?_, fun x hx => ?_⟩
      · rw [rR_match h1 h2, ← e3]
        congr 1 <;> omega
      · rcases Nat.eq_zero_or_pos s with h0 | h0
        · subst h0; exact ⟨x, h1, h2⟩
        · have := e4 (s - 1) (by omega)
          rw [show i + 1 + (s - 1) = i + s by omega, show k + 1 + (s - 1) = k + s by omega] at this
          exact this
      · rw [show i + (t + 1) = i + 1 + t by omega] at hx
        rw [show k + (t + 1) = k + 1 + t by omega]
        exact e5 x hx
    · exact ⟨0, by omega, by omega, rfl, fun s hs => by omega, fun x hx hy => h ⟨x, hx, hy⟩⟩
end
end Go.Proofs.Ytbbmkgpgiacdeaa


/-
  The table of furthest places is right: plain laws.
-/
namespace Go.Proofs.Ytbbmkgpgiacdeaa
open Go.RowKit Zk Zx
set_option linter.unusedVariables false
section
variable {la lb : List Int}
theorem Bl.mono {d d' diag : Int} (h : Bl la lb d diag) (hd : d ≤ d') : Bl la lb d' diag := by
  rcases h with ⟨x, h1, h2⟩ | ⟨h1, h2⟩
  · exact .inl ⟨x, h1, h2.mono (by omega)⟩
  · exact .inr ⟨h1, h2.mono (by omega)⟩
theorem cand_sound (hn : (la.length : Int) < farN) {d off x2 xa xb : Int} (ho : -d ≤ off ∧ off ≤ d) (h2 : Good la lb (d - 2) off x2) (ha : Good la lb (d - 1) (off + 1) xa) (hb : Good la lb (d - 1) (off - 1) xb) {diag : Int}
    (hdiag : diag = (la.length : Int) - lb.length + off) : candN la lb d diag x2 xa xb = farN ∨ ∃ i : Nat, candN la lb d diag x2 xa xb = i ∧ InS la lb d diag i := by
  subst hdiag
  generalize hc : candN la lb d ((la.length : Int) - lb.length + off) x2 xa xb = c
  rcases cand_cases d _ x2 xa xb hn c hc with h | ⟨hf, h | h | h | h⟩
  · exact .inl h
  · obtain ⟨rfl, h⟩ := h
    refine .inr ⟨la.length, h, lb.length, by omega, by omega, by omega, ?_⟩
    rw [rR_endA (Nat.le_refl _)]
    omega
  · rcases h2.sound with h3 | ⟨i, h3, h4⟩
    · omega
    · exact .inr ⟨i, by omega, h4.mono (by omega)⟩
  · obtain ⟨h1, h5, h6, h7⟩ := h
    rcases ha.sound with h3 | ⟨i, h3, k, h4, h8, h9, h10⟩
    · omega
    · refine .inr ⟨i - 1, by omega, k, by omega, by omega, h9, ?_⟩
      have := (rR_stepA (la := la) (lb := lb) (i := i - 1) (k := k) (by omega)).1
      rw [show i - 1 + 1 = i by omega] at this
      omega
  · obtain ⟨h1, h5, h6⟩ := h
    rcases hb.sound with h3 | ⟨i, h3, k, h4, h8, h9, h10⟩
    · omega
    · refine .inr ⟨i, by omega, k - 1, by omega, by omega, by omega, ?_⟩
      have := (rR_stepB (la := la) (lb := lb) (i := i) (k := k - 1) (by omega)).1
      rw [show k - 1 + 1 = k by omega] at this
      omega
theorem cand_full (hn : (la.length : Int) < farN) {d off x2 xa xb : Int} (hd : 0 ≤ d) (h2 : Good la lb (d - 2) off x2) (ha : Good la lb (d - 1) (off + 1) xa) (hb : Good la lb (d - 1) (off - 1) xb) {diag : Int}
    (hdiag : diag = (la.length : Int) - lb.length + off) (hbl : ¬ Bl la lb d diag) (hpar : (d + off) % 2 = 0) {i : Nat} (hi : InS la lb d diag i) :
    ∃ t : Nat, candN la lb d diag x2 xa xb ≤ i + t ∧ i + t ≤ la.length ∧ ∀ s k : Nat, i ≤ s → s < i + t → (s : Int) - k = diag → ∃ x, la[s]? = some x ∧ lb[k]? = some x := by
  obtain ⟨k, hik, hin, hkm, hR⟩ := hi
  obtain ⟨t, e1, e2, e3, e4, e5⟩ := run_to (la := la) (lb := lb) i k hin hkm
  have hle := cand_le (la := la) (lb := lb) d diag x2 xa xb
  refine ⟨t, ?_, e1, fun s k' h3 h4 h5 => ?_⟩
  · have use2 : ∀ x : Nat, InS la lb (d - 2) diag x → x ≤ i + t → candN la lb d diag x2 xa xb ≤ i + t := fun x hx hxt => by
      have h3 := h2.full (by rw [← hdiag]; exact fun h => hbl (h.mono (by omega))) (by omega) x (by rw [← hdiag]; exact hx)
      have := hle.2.1
      omega
    have caseB : k + t < lb.length → (rR la lb (i + t) (k + t + 1) : Int) ≤ d - 1 → candN la lb d diag x2 xa xb ≤ i + t := fun hk' hR' => by
      have hin1 : InS la lb (d - 1) (diag - 1) (i + t) := ⟨k + t + 1, by omega, e1, by omega, hR'⟩
      by_cases hB : Bl la lb (d - 1) (diag - 1)
      · rcases hB with ⟨x, h1, kx, h3, h4, h5, h6⟩ | ⟨h1, h3⟩
        · exfalso
          refine hbl (.inl ⟨x + 1, by omega, 0, by omega, by omega, by omega, ?_⟩)
          have := (rR_stepA (la := la) (lb := lb) (i := x) (k := 0) (by omega)).2
          have hk0 : kx = 0 := by omega
          subst hk0
          omega
        · exact use2 0 (by rw [show diag - 1 + 1 = diag by omega, show d - 1 - 1 = d - 2 by omega] at h3; exact h3) (by omega)
      · have h3 := hb.full (by rw [show (la.length : Int) - lb.length + (off - 1) = diag - 1 by omega]; exact hB) (by omega) (i + t) (by rw [show (la.length : Int) - lb.length + (off - 1) = diag - 1 by omega]; exact hin1)
        rcases hb.sound with h4 | ⟨ib, h4, h5⟩
        · omega
        · rw [show (la.length : Int) - lb.length + (off - 1) = diag - 1 by omega] at h5
          have h5' := h5
          obtain ⟨kb, h6, h7, h8, h9⟩ := h5
          rcases Int.lt_or_le (xb - diag) 0 with h10 | h10
          · exact (hbl (.inl ⟨ib, by omega, h5'⟩)).elim
          · have := hle.2.2.2 (by omega) h10
            omega
    have caseA : i + t < la.length → (rR la lb (i + t + 1) (k + t) : Int) ≤ d - 1 → candN la lb d diag x2 xa xb ≤ i + t := fun hi' hR' => by
      have hin1 : InS la lb (d - 1) (diag + 1) (i + t + 1) := ⟨k + t, by omega, by omega, e2, hR'⟩
      by_cases hB : Bl la lb (d - 1) (diag + 1)
      · rcases hB with ⟨x, h1, h3⟩ | ⟨h1, kx, h3, h4, h5, h6⟩
        · rw [show diag + 1 - 1 = diag by omega, show d - 1 - 1 = d - 2 by omega] at h3
          exact use2 x h3 (by omega)
        · exfalso
          refine hbl (.inr ⟨by omega, kx + 1, by omega, by omega, by omega, ?_⟩)
          have := (rR_stepB (la := la) (lb := lb) (i := 0) (k := kx) (by omega)).2
          omega
      · have h3 := ha.full (by rw [show (la.length : Int) - lb.length + (off + 1) = diag + 1 by omega]; exact hB) (by omega) (i + t + 1) (by rw [show (la.length : Int) - lb.length + (off + 1) = diag + 1 by omega]; exact hin1)
        rcases ha.sound with h4 | ⟨ia, h4, h5⟩
        · omega
        · rw [show (la.length : Int) - lb.length + (off + 1) = diag + 1 by omega] at h5
          have h5' := h5
          obtain ⟨ka, h6, h7, h8, h9⟩ := h5
          rcases Int.lt_or_le (xa - 1) 0 with h10 | h10
          · have h0 : ia = 0 := by omega
            subst h0
            exact (hbl (.inr ⟨by omega, h5'⟩)).elim
          · have := hle.2.2.1 (by omega) h10 (by omega)
            omega
    have hR2 : (rR la lb (i + t) (k + t) : Int) ≤ d := by rw [e3]; exact hR
    rcases Nat.lt_or_ge (i + t) la.length with hi' | hi'
    · rcases Nat.lt_or_ge (k + t) lb.length with hk' | hk'
      · have hm := rR_mis (List.getElem?_eq_getElem hi') (List.getElem?_eq_getElem hk') (fun e => e5 _ (List.getElem?_eq_getElem hi') (by rw [e]; exact List.getElem?_eq_getElem hk'))
        rcases Nat.le_total (rR la lb (i + t + 1) (k + t)) (rR la lb (i + t) (k + t + 1)) with h3 | h3
        · rw [Nat.min_eq_left h3] at hm
          exact caseA hi' (by omega)
        · rw [Nat.min_eq_right h3] at hm
          exact caseB hk' (by omega)
      · refine caseA hi' ?_
        rw [rR_endB hk'] at hR2 ⊢
        omega
    · rcases Nat.lt_or_ge (k + t) lb.length with hk' | hk'
      · refine caseB hk' ?_
        rw [rR_endA hi'] at hR2 ⊢
        omega
      · rcases Int.lt_or_le 0 d with h0 | h0
        · refine use2 (i + t) ⟨k + t, by omega, e1, e2, ?_⟩ (Nat.le_refl _)
          rw [rR_endA hi']
          omega
        · have := hle.1 (by omega)
          omega
  · obtain ⟨x, h6, h7⟩ := e4 (s - i) (by omega)
    rw [show i + (s - i) = s by omega] at h6
    rw [show k + (s - i) = k' by omega] at h7
    exact ⟨x, h6, h7⟩
theorem good_far (hn : (la.length : Int) < farN) {d off x2 xa xb : Int} (hd : 0 ≤ d) (h2 : Good la lb (d - 2) off x2) (ha : Good la lb (d - 1) (off + 1) xa) (hb : Good la lb (d - 1) (off - 1) xb) {diag : Int}
    (hdiag : diag = (la.length : Int) - lb.length + off) (hc : candN la lb d diag x2 xa xb = farN) : Good la lb d off farN :=
  ⟨.inl rfl, fun hbl hpar i hi => by
    rw [← hdiag] at hbl hi
    obtain ⟨t, h1, h3, _⟩ := cand_full hn hd h2 ha hb hdiag hbl hpar hi
    omega⟩
theorem good_slid (hn : (la.length : Int) < farN) {d off x2 xa xb : Int} (hd : 0 ≤ d) (ho : -d ≤ off ∧ off ≤ d) (h2 : Good la lb (d - 2) off x2) (ha : Good la lb (d - 1) (off + 1) xa) (hb : Good la lb (d - 1) (off - 1) xb) {diag : Int}
    (hdiag : diag = (la.length : Int) - lb.length + off) {i0 j : Nat} (hc : candN la lb d diag x2 xa xb = i0) (hi0 : (i0 : Int) ≠ farN) (hs : Slid la lb diag i0 j) : Good la lb d off j := by
  have hin : InS la lb d diag i0 := by
    rcases cand_sound hn ho h2 ha hb hdiag with h | ⟨i, h, h3⟩
    · omega
    · rw [hc] at h
      rw [show i0 = i by omega]
      exact h3
  refine ⟨.inr ⟨j, rfl, by rw [← hdiag]; exact hs.inS hin⟩, fun hbl hpar i hi => ?_⟩
  rw [← hdiag] at hbl hi
  obtain ⟨t, h1, h3, h4⟩ := cand_full hn hd h2 ha hb hdiag hbl hpar hi
  rw [hc] at h1
  rcases Nat.le_total i0 i with h5 | h5
  · have := hs.le
    omega
  · have := hs.far (i := i) (by obtain ⟨k, h6, _⟩ := hi; omega) (fun s k h6 h7 h8 => h4 s k h6 (by omega) h8) h5
    omega
/-- The begin is reached. -/
theorem good_zero {d : Int} {v : Int} (h : Good la lb d (-((la.length : Int) - lb.length)) v) : (v = 0 → (rR la lb 0 0 : Int) ≤ d) ∧ (d = rR la lb 0 0 → v = 0) := by
  have e : (la.length : Int) - lb.length + -((la.length : Int) - lb.length) = 0 := by omega
  have hs := h.sound
  have hf := h.full
  rw [e] at hs hf
  constructor
  · intro hv
    rcases hs with h1 | ⟨i, h1, k, h2, h3, h4, h5⟩
    · rw [hv] at h1; cases h1
    · have h6 : i = 0 := by omega
      have h7 : k = 0 := by omega
      subst h6; subst h7
      exact h5
  · intro hd
    have hp := (rR_facts la lb 0 0).1
    have h1 := hf (fun hB => by
      rcases hB with ⟨x, h1, _⟩ | ⟨h1, _⟩ <;> omega) (by omega) 0 ⟨0, by omega, by omega, by omega, by omega⟩
    rcases hs with h2 | ⟨i, h2, _⟩
    · rw [h2] at h1; exact absurd h1 (by decide)
    · omega
theorem rR_begin (k : Nat) : k ≤ lb.length → rR la lb 0 0 ≤ k + rR la lb 0 k := by
  induction k with
  | zero => intro _; omega
  | succ k ih =>
    intro h
    have h1 := ih (by omega)
    have h2 := (rR_stepB (la := la) (lb := lb) (i := 0) (k := k) (by omega)).1
    omega
/-- What 'near' is asked on the way. -/
theorem near_iff {i k : Nat} (hi : i < la.length) (hk : k ≤ lb.length) (hway : (k : Int) - i ≤ (rR la lb 0 0 : Int) - rR la lb i k) {r d off v : Int} (hr : r + 1 = rR la lb i k) (hoff : off = (i : Int) + 1 - k - ((la.length : Int) - lb.length))
    (hd : (d = r ∧ (r + off) % 2 = 0) ∨ (d = r - 1 ∧ (r + off) % 2 ≠ 0)) (hv : Good la lb d off v) (hn : (la.length : Int) < farN) : v ≤ (i : Int) + 1 ↔ rR la lb (i + 1) k < rR la lb i k := by
  have e : (la.length : Int) - lb.length + off = (i : Int) + 1 - k := by omega
  have hs := hv.sound
  have hf := hv.full
  rw [e] at hs hf
  constructor
  · intro h
    rcases hs with h1 | ⟨iv, h1, h2⟩
    · unfold farN at *; omega
    · have h3 := h2.upn (i + 1 - iv) (by omega) (by omega)
      rw [show iv + (i + 1 - iv) = i + 1 by omega] at h3
      obtain ⟨k', h4, h5, h6, h7⟩ := h3
      have h8 : k' = k := by omega
      subst h8
      omega
  · intro h
    have hp := (rR_facts la lb (i + 1) k).1
    have h9 : (rR la lb (i + 1) k : Int) ≤ d := by omega
    have := hf (fun hB => ?_) (by omega) (i + 1) ⟨k, by omega, by omega, hk, h9⟩
    · omega
    · rcases hB with ⟨x, h1, h2⟩ | ⟨h1, k', h2, h3, h4, h5⟩
      · rw [show (i : Int) + 1 - k - 1 = (i : Int) - k by omega] at h1 h2
        have h3 := h2.upn (i - x) (by omega) (by omega)
        rw [show x + (i - x) = i by omega] at h3
        obtain ⟨k', h4, h5, h6, h7⟩ := h3
        have h8 : k' = k := by omega
        subst h8
        omega
      · have h6 := rR_begin (la := la) (lb := lb) k' h4
        omega
end
end Go.Proofs.Ytbbmkgpgiacdeaa


/-
  Many blocks as one piece; two pieces as one, apart from each other; slices with a bound. General; nothing here names a program.
-/
namespace Go.Proofs.Ytbbmkgpgiacdeaa.Zx
open Go.RowKit Zk
set_option linter.unusedVariables false
set_option linter.unusedSimpArgs false
/-- Blocks known whole, by their numbers. -/
def heapR (t : Nat) (ss : Nat → Option (Array Value)) : Res where
  dom i := (ss i).isSome = true
  holds w := ∀ i cur, ss i = some cur → Blk w i t cur
  stable w w' h hh := fun i cur hi => (h i (by simp [hi])).trans (hh i cur hi)
def upd (ss : Nat → Option (Array Value)) (b : Nat) (cur : Array Value) : Nat → Option (Array Value) := fun i => if i = b then some cur else ss i
theorem upd_same (ss : Nat → Option (Array Value)) (b : Nat) (cur : Array Value) : upd ss b cur b = some cur := by unfold upd; rw [if_pos rfl]
theorem upd_ne {ss : Nat → Option (Array Value)} {b i : Nat} {cur : Array Value} (h : i ≠ b) : upd ss b cur i = ss i := by unfold upd; rw [if_neg h]
theorem heapR_none (t : Nat) (w : World) : (heapR t fun _ => none).holds w := fun i cur h => by cases h
/-- What lies in a block reads. -/
theorem heapR_rs {t : Nat} {ss : Nat → Option (Array Value)} {w : World} (h : (heapR t ss).holds w) {b o n c : Nat} {cur : Array Value} {xs : List Value} (hb : ss b = some cur) (hx : xs.length = n) (hcell : ∀ j u, xs[j]? = some u → cur[o + j]? = some u) (hnc : n ≤ c) (hc : c ≤ 9223372036854775807) :
    Rs w 1 (some ⟨b, o, none⟩) n c xs :=
  ⟨⟨by omega, fun hn => ⟨_, rfl, (h b cur hb).lt, fun j u hu => by rw [Addr.add_lit]; exact ((h b cur hb).cell (o + j)).trans (hcell j u hu)⟩⟩, hnc, hc⟩
/-- Two pieces as one, apart from each other. -/
def sep (r s : Res) : Res where
  dom i := r.dom i ∨ s.dom i
  holds w := r.holds w ∧ s.holds w ∧ ∀ i, r.dom i → ¬ s.dom i
  stable w w' h hh := ⟨r.stable w w' (fun i hi => h i (.inl hi)) hh.1, s.stable w w' (fun i hi => h i (.inr hi)) hh.2.1, hh.2.2⟩
section
variable {w0 w w' : World} {M : Nat → Prop} {rs : List Res}
theorem St.sepj {r s : Res} (S : St w0 M (rs ++ [r, s]) w) : St w0 M (rs ++ [sep r s]) w :=
  ⟨S.os, S.tape, S.output, S.size, S.old, fun q hq => by
    rcases List.mem_append.1 hq with hq | hq
    · exact S.res q (List.mem_append_left _ hq)
    · obtain rfl := List.mem_singleton.1 hq
      have h1 := S.res r (by simp)
      have h2 := S.res s (by simp)
      have h := S.apart
      rw [List.pairwise_append, List.pairwise_cons] at h
      exact ⟨⟨h1.1, h2.1, h.2.1.1 s (by simp)⟩, fun i hi => by rcases hi with hi | hi; exact h1.2 i hi; exact h2.2 i hi⟩, by
    have h := S.apart
    rw [List.pairwise_append] at h ⊢
    refine ⟨h.1, List.pairwise_singleton _ _, fun a ha b hb i hi => ?_⟩
    obtain rfl := List.mem_singleton.1 hb
    intro hx
    rcases hx with hx | hx
    · exact h.2.2 a ha r (by simp) i hi hx
    · exact h.2.2 a ha s (by simp) i hi hx⟩
theorem St.seps {r s : Res} (S : St w0 M (rs ++ [sep r s]) w) : St w0 M (rs ++ [r, s]) w := by
  have h := S.res (sep r s) (by simp)
  have hp := S.apart
  rw [List.pairwise_append] at hp
  refine ⟨S.os, S.tape, S.output, S.size, S.old, fun q hq => ?_, ?_⟩
  · rcases List.mem_append.1 hq with hq | hq
    · exact S.res q (List.mem_append_left _ hq)
    · rcases List.mem_cons.1 hq with rfl | hq
      · exact ⟨h.1.1, fun i hi => h.2 i (.inl hi)⟩
      · obtain rfl := List.mem_singleton.1 hq
        exact ⟨h.1.2.1, fun i hi => h.2 i (.inr hi)⟩
  · rw [List.pairwise_append, List.pairwise_cons]
    refine ⟨hp.1, ⟨fun b hb => ?_, List.pairwise_singleton _ _⟩, fun a ha b hb i hi hx => ?_⟩
    · obtain rfl := List.mem_singleton.1 hb
      exact h.1.2.2
    · rcases List.mem_cons.1 hb with rfl | hb
      · exact hp.2.2 a ha _ (List.mem_singleton_self _) i hi (.inl hx)
      · obtain rfl := List.mem_singleton.1 hb
        exact hp.2.2 a ha _ (List.mem_singleton_self _) i hi (.inr hx)
theorem St.turnedS {r s r' s' : Res} (S : St w0 (fun i => r.dom i ∨ s.dom i) [r', s'] w) : Turned w0 w (sep r s) (sep r' s') := by
  have S2 : St w0 (fun i => r.dom i ∨ s.dom i) ([] ++ [sep r' s']) w := St.sepj (rs := []) S
  have h := S2.res (sep r' s') (by simp)
  exact ⟨S.os, S.tape, S.output, S.size, S.old, h.1, fun i hi => by
    have h2 := h.2 i hi
    rcases h2.2 with h3 | h3
    · exact .inr ⟨h3, h2.1⟩
    · exact .inl h3⟩
/-- A new row is one block more. -/
theorem heap_join {t : Nat} {ss : Nat → Option (Array Value)} {b n c : Nat} {xs : List Value} (S : St w0 M (rs ++ [heapR t ss, row t 1 (some ⟨b, 0, none⟩) n c xs]) w) :
    ∃ cur, cur.size = c ∧ ss b = none ∧ c ≤ 9223372036854775807 ∧ St w0 M (rs ++ [heapR t (upd ss b cur)]) w := by
  have hr := S.res (row t 1 (some ⟨b, 0, none⟩) n c xs) (by simp)
  have hh := S.res (heapR t ss) (by simp)
  have hp := S.apart
  rw [List.pairwise_append, List.pairwise_cons] at hp
  have hno : ss b = none := by
    cases hb : ss b with
    | none => rfl
    | some cur => exact (hp.2.1.1 _ (List.mem_singleton_self _) b (by simp [heapR, hb]) rfl).elim
  rcases hr.1.2 with ⟨h, _⟩ | ⟨g, cap, cur, h, _, hg, hnc, hcm, hcs, _⟩
  · cases h
  · cases h
    refine ⟨cur, by omega, hno, by unfold maxLen at hcm; exact hcm, S.os, S.tape, S.output, S.size, S.old, fun q hq => ?_, ?_⟩
    · rcases List.mem_append.1 hq with hq | hq
      · exact S.res q (List.mem_append_left _ hq)
      · obtain rfl := List.mem_singleton.1 hq
        refine ⟨fun i cur' hi => ?_, fun i hi => ?_⟩
        · by_cases e : i = b
          · subst e
            rw [upd_same] at hi
            cases hi
            exact hg
          · rw [upd_ne e] at hi
            exact hh.1 i cur' hi
        · by_cases e : i = b
          · subst e
            exact hr.2 i rfl
          · refine hh.2 i ?_
            have hi' : (upd ss b cur i).isSome = true := hi
            rw [upd_ne e] at hi'
            exact hi'
    · rw [List.pairwise_append]
      refine ⟨hp.1, List.pairwise_singleton _ _, fun a ha q hq i hi hx => ?_⟩
      obtain rfl := List.mem_singleton.1 hq
      by_cases e : i = b
      · subst e
        exact hp.2.2 a ha _ (List.mem_cons_of_mem _ (List.mem_singleton_self _)) i hi rfl
      · have hi' : (upd ss b cur i).isSome = true := hx
        rw [upd_ne e] at hi'
        exact hp.2.2 a ha (heapR t ss) List.mem_cons_self i hi hi'
end
section
variable {P : Program} {S : World → Prop} {N : Nat} {Q : Post} {K : Env → World → Prop} {env : Env} {w0 w : World} {M : Nat → Prop} {rs : List Res} {dst : Option Tmp} {d : Tmp} {ty : TypeId} {pos : String} {after : Array Edge} {g : Option (Nat × Bool)}
/-- A store into one of many blocks. -/
theorem o_stH {st : TypeId} {x y : Operand} {b o t : Nat} {ss : Nat → Option (Array Value)} {cs : Array Value} {v : Value} (S : St w0 M rs w) (k : Nat) (hk : rs[k]? = some (heapR t ss)) (hs : ss b = some cs) (hx : ev env x = some (.pointer (some ⟨b, o, none⟩))) (hy : ev env y = some v)
    (hv : v.oneCell' = true) (hsz : (P.info? st).map (·.size) = some 1) (ho : o < cs.size)
    (h : ∀ w', St w0 M (rs.set k (heapR t (upd ss b (cs.setIfInBounds o v)))) w' → K env w') : O P N Q ⟨none, .store st x y, ty, pos, after, g⟩ env w K := fun a ha => by
  have hH : (heapR t ss).holds w := S.get k hk
  have hB : Blk w b t cs := hH b cs hs
  have hc : w.cell? ⟨b, o, none⟩ = some cs[o] := (hB.cell o).trans (Array.getElem?_eq_getElem ho)
  have hr : (storeVar st ⟨b, o, none⟩ v).run P w = .ok () (w.setCell ⟨b, o, none⟩ v) := by
    simp only [storeVar, Sem.run_bind, sizeOf_run hsz, cells_one hv, Result.andThen_ok]
    simp [storeCells, hv, stored, hc, hB.frozen o, run_store, go_sem]
  unfold Oper.wp execOp
  simp only [ha.eval hx, ha.eval hy, Instr.storeAt, Instr.sureAddr, Sem.run_bind, Sem.run_pure, Result.andThen_ok, hr]
  have hdom : ∀ i, (heapR t (upd ss b (cs.setIfInBounds o v))).dom i → (heapR t ss).dom i := fun i hi => by
    by_cases e : i = b
    · subst e; show (ss i).isSome = true; rw [hs]; rfl
    · have hi' : (upd ss b (cs.setIfInBounds o v) i).isSome = true := hi
      rw [upd_ne e] at hi'
      exact hi'
  refine ⟨env, ha, h _ (S.upd k hk rfl rfl rfl (by simp) (fun i hi hn => Below.heap_setCell w ⟨b, o, none⟩ v i (fun e => hn (show (ss i).isSome = true by rw [show i = b from e, hs]; rfl))) (fun i cur hi => ?_) fun i hi => .inl (hdom i hi))⟩
  by_cases e : i = b
  · subst e
    rw [upd_same] at hi
    cases hi
    exact hB.set_ o v
  · rw [upd_ne e] at hi
    exact (Below.heap_setCell w ⟨b, o, none⟩ v i e).trans (hH i cur hi)
/-- A slice with a bound. -/
theorem y_sliceX {x : Operand} {t e : TypeId} {A : Option Addr} {n c l u m size : Nat} {kl kh km : IntKind} {jl jh jm : Int} {i j k : Operand} (ht : P.underlying t = some (.slice e)) (hsz : (P.info? e).map (·.size) = some size) (hx : ev env x = some (.slice A n c))
    (hi : ev env i = some (.int kl jl)) (hj : ev env j = some (.int kh jh)) (hm : ev env k = some (.int km jm)) (el : jl = (l : Int)) (eu : jh = (u : Int)) (em : jm = (m : Int)) (h1 : l ≤ u) (h2 : u ≤ m) (h3 : m ≤ c) :
    Y P S env ⟨dst, .slice t x (some i) (some j) (some k), ty, pos, after, g⟩ (.slice (cutA A m l size) (u - l) (m - l)) := fun N a w' ha _ => by
  subst el; subst eu; subst em
  have he : P.elem t = e := by simp [Program.elem, ht]
  have h4 := run_slice_lhm (P := P) (w := w') (t := t) (a := A) (len := n) (cap := c) (by rw [he]; exact ht) kl kh km (l : Int) (u : Int) (m : Int) (by omega) (by omega) (by omega) (by omega)
  rw [he] at h4
  simp only [execOp, ha.eval hx, Option.map_some, Option.map_none, ha.eval hi, ha.eval hj, ha.eval hm, Instr.sliceAt, Sem.run_bind, run_underlying ht, Result.andThen_ok, h4, sizeOf_run hsz, Sem.run_pure, Int.toNat_natCast]
  rfl
theorem T_loop9 {t1 t2 t3 t4 t5 t6 t7 t8 t9 : Type} {c : Code} (ks : Env) (V : t1 → t2 → t3 → t4 → t5 → t6 → t7 → t8 → t9 → Env) (μ : t1 → t2 → t3 → t4 → t5 → t6 → t7 → t8 → t9 → Nat) (Rel : t1 → t2 → t3 → t4 → t5 → t6 → t7 → t8 → t9 → World → Prop) (z1 : t1) (z2 : t2) (z3 : t3) (z4 : t4) (z5 : t5) (z6 : t6) (z7 : t7) (z8 : t8) (z9 : t9) (hs : Sub (V z1 z2 z3 z4 z5 z6 z7 z8 z9) env) (hk : Sub ks env) (h0 : Rel z1 z2 z3 z4 z5 z6 z7 z8 z9 w)
    (round : ∀ a1 a2 a3 a4 a5 a6 a7 a8 a9 w, Rel a1 a2 a3 a4 a5 a6 a7 a8 a9 w → T P N c (thenQ (fun e' w' => ∃ p1 p2 p3 p4 p5 p6 p7 p8 p9, μ p1 p2 p3 p4 p5 p6 p7 p8 p9 < μ a1 a2 a3 a4 a5 a6 a7 a8 a9 ∧ Rel p1 p2 p3 p4 p5 p6 p7 p8 p9 w' ∧ Sub (V p1 p2 p3 p4 p5 p6 p7 p8 p9 ++ ks) e') Q) (V a1 a2 a3 a4 a5 a6 a7 a8 a9 ++ ks) w) : T P N (.loop c) Q env w :=
  T_loop (fun m e w => ∃ a1 a2 a3 a4 a5 a6 a7 a8 a9, m = μ a1 a2 a3 a4 a5 a6 a7 a8 a9 ∧ Rel a1 a2 a3 a4 a5 a6 a7 a8 a9 w ∧ Sub (V a1 a2 a3 a4 a5 a6 a7 a8 a9 ++ ks) e) (μ z1 z2 z3 z4 z5 z6 z7 z8 z9) ⟨z1, z2, z3, z4, z5, z6, z7, z8, z9, rfl, h0, Sub.app hs hk⟩ fun m e w ⟨a1, a2, a3, a4, a5, a6, a7, a8, a9, hm, hr, hsub⟩ => T_weak hsub (T_mono (fun e w ⟨p1, p2, p3, p4, p5, p6, p7, p8, p9, h1, h2, h3⟩ => ⟨μ p1 p2 p3 p4 p5 p6 p7 p8 p9, by omega, p1, p2, p3, p4, p5, p6, p7, p8, p9, rfl, h2, h3⟩) (round a1 a2 a3 a4 a5 a6 a7 a8 a9 w hr))
/-- A guard that was itself passed over, where the order is drawn. -/
theorem DL_gnu {ops : Array Oper} {i : Nat} {d : Tmp} {op : Op} {order : List (Nat × Bool)} {j : Nat} {b : Bool} {t : Tmp} (hi : ops[i]? = some ⟨some d, op, ty, pos, after, some (j, b)⟩)
    (hj : (ops[j]?).bind (·.dst) = some t) (ht : look env t = some undef) (hd : Nat.blt d N = true) (h : DL P N ops Q S order ((d, undef) :: env) w) : DL P N ops Q S ((i, true) :: order) env w :=
  DL_yi hi rfl (fun a ha => .inr ⟨by
    have : ((none : Option Bool) == some b) = false := by cases b <;> rfl
    simp [Region.wanted, yielded, hj, ha.vals t _ ht, undef], rfl⟩) hd h
end
end Go.Proofs.Ytbbmkgpgiacdeaa.Zx


/-
  Rows of elements of many cells: an element stored whole, a tail cleared, a row cut. General; nothing here names a program.
-/
namespace Go.Proofs.Ytbbmkgpgiacdeaa.Zx
open Go.RowKit Zk
set_option linter.unusedVariables false
set_option linter.unusedSimpArgs false
section
variable {P : Program} {N : Nat} {Q : Post} {env : Env} {w w0 : World} {M : Nat → Prop} {rs : List Res} {K : Env → World → Prop} {ty : TypeId} {pos : String} {after : Array Edge} {g : Option (Nat × Bool)}
/-- The beginning of an own row is one. -/
theorem St.rowcut (S : St w0 M rs w) (i : Nat) {e k n c m : Nat} {A : Option Addr} {xs : List Value} (hk : rs[i]? = some (Zx.row e k A n c xs)) (hm : m ≤ n) : St w0 M (rs.set i (Zx.row e k A m c (xs.take (m * k)))) w := by
  have hown : w.ownsRow 0 e k (.slice A n c) n xs := S.get i hk
  refine S.upd i hk rfl rfl rfl (Nat.le_refl _) (fun _ _ _ => rfl) ?_ fun j hj => .inl (show (Value.slice A n c).ownBlock = some j by
      have h2 : (Value.slice A m c).ownBlock = some j := hj
      cases A <;> exact h2)
  show w.ownsRow 0 e k (.slice A m c) m (xs.take (m * k))
  have hle : m * k ≤ n * k := Nat.mul_le_mul_right _ hm
  have hl : (xs.take (m * k)).length = m * k := by rw [List.length_take, hown.1]; omega
  rcases hown.2 with ⟨h1, h2⟩ | ⟨b, cap, cur, h1, h0, hg, hnc, hcm, hcs, hx⟩
  · cases h1
    exact ⟨hl, .inl ⟨by rw [show m = 0 by omega, h2], by omega⟩⟩
  · cases h1
    exact ⟨hl, .inr ⟨b, c, cur, rfl, h0, hg, by omega, hcm, hcs, by rw [← hx, List.take_take, Nat.min_eq_left hle]⟩⟩
end
theorem flat_take {α : Type} (f : α → List Value) {size : Nat} (hf : ∀ x, (f x).length = size) : ∀ (xs : List α) (k : Nat), (xs.flatMap f).take (k * size) = (xs.take k).flatMap f
  | _, 0 => by simp
  | [], k + 1 => by simp
  | y :: xs, k + 1 => by
    rw [List.flatMap_cons, List.take_succ_cons, List.flatMap_cons, ← flat_take f hf xs k, show (k + 1) * size = (f y).length + k * size by rw [hf, Nat.succ_mul]; omega, List.take_length_add_append]
end Go.Proofs.Ytbbmkgpgiacdeaa.Zx


/-
  Sizes and zeros of the seat's types.
-/
namespace Go.Proofs.Ytbbmkgpgiacdeaa
open Go.RowKit Zk Zx
set_option linter.unusedVariables false
set_option linter.unusedSimpArgs false
theorem hmix : Try.prog.follows .mixedOrders = true := by kernel_rfl
theorem sz3 : (Try.prog.info? 3).map (·.size) = some 1 := by kernel_rfl
theorem zz3 (W : World) : (zeroValue 3).run Try.prog W = .ok (.int .i64 0) W := by kernel_rfl
theorem sz22 : (Try.prog.info? 22).map (·.size) = some 1 := by kernel_rfl
theorem zz22 (W : World) : (zeroValue 22).run Try.prog W = .ok (.slice none 0 0) W := by kernel_rfl
theorem te22 : Elem Try.prog 22 3 (.int .i64 0) 1 8 := ⟨Try.underlying22, by kernel_rfl, rfl, by decide⟩
theorem sz25 : (Try.prog.info? 25).map (·.size) = some 1 := by kernel_rfl
theorem zz25 (W : World) : (zeroValue 25).run Try.prog W = .ok (.slice none 0 0) W := by kernel_rfl
theorem te25 : Elem Try.prog 25 34 (.agg #[.int .i64 0, .int .i64 0]) 2 16 := ⟨Try.underlying25, by kernel_rfl, rfl, by decide⟩
theorem sz34 : (Try.prog.info? 34).map (·.size) = some 2 := by kernel_rfl
theorem zz34 (W : World) : (zeroValue 34).run Try.prog W = .ok (.agg #[.int .i64 0, .int .i64 0]) W := by kernel_rfl
theorem sz36 : (Try.prog.info? 36).map (·.size) = some 1 := by kernel_rfl
theorem zz36 (W : World) : (zeroValue 36).run Try.prog W = .ok (.slice none 0 0) W := by kernel_rfl
theorem te36 : Elem Try.prog 36 43 (.agg #[.int .i64 0, .int .i64 0, .int .i64 0, .int .i64 0]) 4 32 := ⟨Try.underlying36, by kernel_rfl, rfl, by decide⟩
theorem te39 : Elem Try.prog 39 44 (.agg #[.int .i64 0, .int .i64 0, .int .i64 0, .int .i64 0]) 4 32 := ⟨Try.underlying39, by kernel_rfl, rfl, by decide⟩
theorem sz43 : (Try.prog.info? 43).map (·.size) = some 4 := by kernel_rfl
theorem zz43 (W : World) : (zeroValue 43).run Try.prog W = .ok (.agg #[.int .i64 0, .int .i64 0, .int .i64 0, .int .i64 0]) W := by kernel_rfl
theorem sz44 : (Try.prog.info? 44).map (·.size) = some 4 := by kernel_rfl
theorem zz44 (W : World) : (zeroValue 44).run Try.prog W = .ok (.agg #[.int .i64 0, .int .i64 0, .int .i64 0, .int .i64 0]) W := by kernel_rfl
theorem sz78 : (Try.prog.info? 78).map (·.size) = some 4 := by kernel_rfl
theorem zz78 (W : World) : (zeroValue 78).run Try.prog W = .ok (.agg #[.int .i64 0, .int .i64 0, .int .i64 0, .int .i64 0]) W := by kernel_rfl
theorem te79 : Elem Try.prog 79 78 (.agg #[.int .i64 0, .int .i64 0, .int .i64 0, .int .i64 0]) 4 32 := ⟨Try.underlying79, by kernel_rfl, rfl, by decide⟩
theorem sz84 : (Try.prog.info? 84).map (·.size) = some 1 := by kernel_rfl
theorem te84 : Elem Try.prog 84 22 (.slice none 0 0) 1 24 := ⟨Try.underlying84, by kernel_rfl, rfl, by decide⟩
end Go.Proofs.Ytbbmkgpgiacdeaa


/-
  The field: at.
-/
namespace Go.Proofs.Ytbbmkgpgiacdeaa
open Go.RowKit Zk Zx
set_option linter.unusedVariables false
set_option linter.unusedSimpArgs false

/-- The field at block g: the lists, and the rows that are filled. -/
def FR (w : World) (g : Nat) (A : Option Addr) (n ca : Nat) (B : Option Addr) (m cb : Nat) (la lb : List Int) (D : List (List Int)) : Prop :=
  ∃ R nr cr S vs, Blk w g 107 #[.slice A n ca, .slice B m cb, .slice R nr cr, S] ∧ Rs w 1 A n ca (iL la) ∧ Rs w 1 B m cb (iL lb) ∧ Rs w 1 R nr cr vs ∧ nr = D.length ∧
    ∀ d x, D[d]? = some x → ∃ ad, vs[d]? = some (.slice ad x.length x.length) ∧ Rs w 1 ad x.length x.length (iL x) ∧ x.length = 2 * d + 1
theorem FR.like {w w' : World} {g n ca m cb : Nat} {A B : Option Addr} {la lb : List Int} {D : List (List Int)} (h : FR w g A n ca B m cb la lb D) (l : Like w w') : FR w' g A n ca B m cb la lb D := by
  obtain ⟨R, nr, cr, S, vs, h1, h2, h3, h4, h5, h6⟩ := h
  exact ⟨R, nr, cr, S, vs, h1.below l h1.lt, h2.like l, h3.like l, h4.like l, h5, fun d x hx => by
    obtain ⟨ad, a1, a2, a3⟩ := h6 d x hx
    exact ⟨ad, a1, a2.like l, a3⟩⟩
/-- What 'at' answers. -/
def atV (D : List (List Int)) (d off : Int) : Int := if d < 0 ∨ off < -d ∨ off > d then farN else (D.getD d.toNat []).getD (d + off).toNat 0
theorem lenI {w : World} {A : Option Addr} {n c : Nat} {xs : List Int} (h : Rs w 1 A n c (iL xs)) : xs.length = n := by
  have := h.len
  simpa using this


set_option maxRecDepth 100000 in
theorem fat (g : Nat) (A : Option Addr) (n ca : Nat) (B : Option Addr) (m cb : Nat) (la lb : List Int) (D : List (List Int)) (d off : Int) (w0 : World) (hf : FR w0 g A n ca B m cb la lb D) (hd : d < D.length) (hd1 : -4611686018427387904 < d) (hof : -4611686018427387904 < off ∧ off < 4611686018427387904) (hD : D.length ≤ 1048576) :
    Calls Try.prog 87 #[.pointer (some ⟨g, 0, none⟩), .int .i64 d, .int .i64 off] w0 fun e w' => ∃ u, e = .returned u ∧ Like w0 w' ∧ u = .int .i64 (atV D d off) := by
  refine enter1 (env := [(0, .pointer (some ⟨g, 0, none⟩)), (1, .int .i64 d), (2, .int .i64 off)]) [.pointer (some ⟨g, 0, none⟩), .int .i64 d, .int .i64 off] Try.func87 rfl Try.ntmps87 rfl rfl ?_
  obtain ⟨R, nr, cr, SS, vs, hB, hA1, hB1, hR1, hnr, hrows⟩ := hf; have hla := lenI hA1; have hlb := lenI hB1; have S0 := St.start w0 noM
  refine T_seq fun K1 hK1 => ?_
  refine T_region ?_
  refine L_y (y_assign rfl) rfl ?_
  refine L_nil ?_
  refine hK1 _ _ ?_
  refine T_seq fun K2 hK2 => ?_
  refine T_seq fun K3 hK3 => ?_
  refine T_region ?_
  refine L_y (y_move rfl) rfl ?_
  refine L_y (y_lss rfl rfl) rfl ?_
  refine L_y (y_move rfl) rfl ?_
  refine L_split 9 rfl (fun h9 => ?_) (fun h9 => ?_)
  ·
    refine L_gno rfl rfl rfl ?_
    refine L_gno rfl rfl rfl ?_
    refine L_gno rfl rfl rfl ?_
    refine L_gno rfl rfl rfl ?_
    refine L_y ((by first | exact y_pickT rfl rfl | exact y_pickF rfl rfl)) rfl ?_
    refine L_y (y_move rfl) rfl ?_
    refine L_gno rfl rfl rfl ?_
    refine L_gno rfl rfl rfl ?_
    refine L_gno rfl rfl rfl ?_
    refine L_y ((by first | exact y_pickT rfl rfl | exact y_pickF rfl rfl)) rfl ?_
    refine L_nil ?_
    refine hK3 _ _ ?_
    refine T_true rfl ?_
    refine T_seq fun K4 hK4 => ?_
    refine T_region ?_
    refine L_y (y_assign rfl) rfl ?_
    refine L_nil ?_
    refine hK4 _ _ ?_
    refine T_ret ?_
    repeat (first | with_reducible refine up_then ?_ | with_reducible refine up_in ?_)
    refine ret1 rfl rfl ?_
    first | exact ⟨_, rfl, S0.like0, by rw [hval]⟩ | exact ⟨_, rfl, S0.like0, by rw [atV, if_pos (by omega)]; rfl⟩
  ·
    refine L_gyes rfl rfl ?_
    refine L_y (y_move rfl) rfl ?_
    refine L_gyes rfl rfl ?_
    refine L_y (y_move rfl) rfl ?_
    refine L_gyes rfl rfl ?_
    refine L_y (y_neg rfl (i64w (by omega))) rfl ?_
    refine L_gyes rfl rfl ?_
    refine L_y (y_lss rfl rfl) rfl ?_
    refine L_y ((by first | exact y_pickT rfl rfl | exact y_pickF rfl rfl)) rfl ?_
    refine L_y (y_move rfl) rfl ?_
    refine L_split 15 rfl (fun h15 => ?_) (fun h15 => ?_)
    ·
      refine L_gno rfl rfl rfl ?_
      refine L_gno rfl rfl rfl ?_
      refine L_gno rfl rfl rfl ?_
      refine L_y ((by first | exact y_pickT rfl rfl | exact y_pickF rfl rfl)) rfl ?_
      refine L_nil ?_
      refine hK3 _ _ ?_
      refine T_true rfl ?_
      refine T_seq fun K5 hK5 => ?_
      refine T_region ?_
      refine L_y (y_assign rfl) rfl ?_
      refine L_nil ?_
      refine hK5 _ _ ?_
      refine T_ret ?_
      repeat (first | with_reducible refine up_then ?_ | with_reducible refine up_in ?_)
      refine ret1 rfl rfl ?_
      first | exact ⟨_, rfl, S0.like0, by rw [hval]⟩ | exact ⟨_, rfl, S0.like0, by rw [atV, if_pos (by omega)]; rfl⟩
    ·
      refine L_gyes rfl rfl ?_
      refine L_y (y_move rfl) rfl ?_
      refine L_gyes rfl rfl ?_
      refine L_y (y_move rfl) rfl ?_
      refine L_gyes rfl rfl ?_
      refine L_y (y_gtr rfl rfl) rfl ?_
      refine L_y ((by first | exact y_pickT rfl rfl | exact y_pickF rfl rfl)) rfl ?_
      refine L_nil ?_
      refine hK3 _ _ ?_
      refine T_cond rfl (fun h19 => ?_) (fun h19 => ?_)
      ·
        refine T_seq fun K6 hK6 => ?_
        refine T_region ?_
        refine L_y (y_assign rfl) rfl ?_
        refine L_nil ?_
        refine hK6 _ _ ?_
        refine T_ret ?_
        repeat (first | with_reducible refine up_then ?_ | with_reducible refine up_in ?_)
        refine ret1 rfl rfl ?_
        first | exact ⟨_, rfl, S0.like0, by rw [hval]⟩ | exact ⟨_, rfl, S0.like0, by rw [atV, if_pos (by omega)]; rfl⟩
      ·
        obtain ⟨d0, rfl⟩ : ∃ d0 : Nat, d = (d0 : Int) := ⟨d.toNat, by omega⟩
        obtain ⟨x, hx⟩ : ∃ x, D[d0]? = some x := ⟨_, List.getElem?_eq_getElem (by omega)⟩
        obtain ⟨ad, hv1, hv2, hv3⟩ := hrows d0 x hx
        obtain ⟨j, hj⟩ : ∃ j : Nat, (d0 : Int) + off = j := ⟨((d0 : Int) + off).toNat, by omega⟩
        obtain ⟨y, hy⟩ : ∃ y, x[j]? = some y := ⟨_, List.getElem?_eq_getElem (by omega)⟩
        have hval : atV D d0 off = y := by rw [atV, if_neg (by omega), hj, Int.toNat_natCast, Int.toNat_natCast, List.getD_eq_getElem?_getD, List.getD_eq_getElem?_getD, hx, Option.getD_some, hy]; rfl
        refine T_skip ?_
        refine hK2 _ _ ?_
        refine T_seq fun K7 hK7 => ?_
        refine T_region ?_
        refine L_y (y_move rfl) rfl ?_
        refine L_y (y_nilp rfl) rfl ?_
        refine L_y (y_fieldA 2 Try.underlying107 rfl sz84 rfl rfl rfl) rfl ?_
        refine L_y (y_ldc Try.underlying84 rfl rfl (((S0.rdB hB).cell _).trans (show (#[Value.slice A n ca, .slice B m cb, .slice R nr cr, SS] : Array Value)[2]? = some (Value.slice R nr cr) from rfl))) rfl ?_
        refine L_y (y_move rfl) rfl ?_
        refine L_y (y_idx Try.underlying84 sz22 rfl rfl (S0.rd hR1) inferInstance (by omega)) rfl ?_
        refine L_y (y_ldr Try.underlying22 rfl rfl (S0.rd hR1) hv1) rfl ?_
        refine L_y (y_move rfl) rfl ?_
        refine L_y (y_move rfl) rfl ?_
        refine L_y (y_add rfl rfl (i64w (by omega))) rfl ?_
        refine L_y (y_idx Try.underlying22 sz3 rfl rfl (S0.rd hv2) (Nt.mk (by omega) : Nt _ (j)) (by omega)) rfl ?_
        refine L_y (y_ldr Try.underlying3 rfl rfl (S0.rd hv2) (iL_get _ _ _ hy)) rfl ?_
        refine L_y (y_assign rfl) rfl ?_
        refine L_nil ?_
        refine hK7 _ _ ?_
        refine T_ret ?_
        repeat (first | with_reducible refine up_then ?_ | with_reducible refine up_in ?_)
        refine ret1 rfl rfl ?_
        first | exact ⟨_, rfl, S0.like0, by rw [hval]⟩ | exact ⟨_, rfl, S0.like0, by rw [atV, if_pos (by omega)]; rfl⟩
end Go.Proofs.Ytbbmkgpgiacdeaa


/-
  The field: slide.
-/
namespace Go.Proofs.Ytbbmkgpgiacdeaa
open Go.RowKit Zk Zx
set_option linter.unusedVariables false
set_option linter.unusedSimpArgs false

set_option maxRecDepth 100000 in
theorem fslide (g : Nat) (A : Option Addr) (n ca : Nat) (B : Option Addr) (m cb : Nat) (la lb : List Int) (D : List (List Int)) (i : Nat) (diag : Int) (w0 : World) (hf : FR w0 g A n ca B m cb la lb D) (hn : n ≤ 1048576) (hm : m ≤ 1048576) (hi : i ≤ n) (hdi : diag ≤ i) (hdm : (i : Int) - diag ≤ m) :
    Calls Try.prog 89 #[.pointer (some ⟨g, 0, none⟩), .int .i64 (i : Int), .int .i64 diag] w0 fun e w' => ∃ u, e = .returned u ∧ Like w0 w' ∧ ∃ j : Nat, u = .int .i64 (j : Int) ∧ Slid la lb diag i j := by
  refine enter1 (env := [(0, .pointer (some ⟨g, 0, none⟩)), (1, .int .i64 (i : Int)), (2, .int .i64 diag)]) [.pointer (some ⟨g, 0, none⟩), .int .i64 (i : Int), .int .i64 diag] Try.func89 rfl Try.ntmps89 rfl rfl ?_
  obtain ⟨R, nr, cr, SS, vs, hB, hA1, hB1, hR1, hnr, hrows⟩ := hf; have hla := lenI hA1; have hlb := lenI hB1; have S0 := St.start w0 noM
  refine T_seq fun K1 hK1 => ?_
  refine T_region ?_
  refine L_y (y_assign rfl) rfl ?_
  refine L_nil ?_
  refine hK1 _ _ ?_
  refine T_seq fun K2 hK2 => ?_
  refine T_block ?_
  refine T_loop1 [(0, _), (2, _)] (fun (j : Nat) => [(1, .int .i64 (j : Int))]) (fun (j : Nat) => j) (fun (j : Nat) (w : World) => ((j ≤ i ∧ diag ≤ j) ∧ ∀ t k : Nat, j ≤ t → t < i → (t : Int) - k = diag → ∃ x, la[t]? = some x ∧ lb[k]? = some x) ∧ St w0 noM [] w) i (Sub.cons rfl (by first | rfl | exact congrArg (Value.int _) (by omega)) (Sub.nil _)) (Sub.cons rfl rfl (Sub.cons rfl rfl (Sub.nil _))) ?_ ?_
  ·
    exact ⟨⟨⟨Nat.le_refl _, hdi⟩, fun t k h1 h2 => by omega⟩, S0⟩
  ·
    intro j w1 hrel
    obtain ⟨⟨⟨hj, hdj⟩, hal⟩, S1⟩ := hrel
    refine T_seq fun K3 hK3 => ?_
    refine T_seq fun K4 hK4 => ?_
    refine T_drawnL [(0, true), (1, true), (2, true), (3, true), (4, true), (5, true), (6, true), (7, true), (8, true), (9, true), (10, true), (11, true), (12, true), (13, true), (14, true), (15, true), (16, true), (17, true), (18, true), (19, true), (20, true), (21, true), (22, true), (23, true), (24, true), (25, true), (26, true), (27, true), (28, true)] hmix (by kernel_rfl) fun w2 l2 => ?_
    have S2 := S1.like l2
    refine DL_y rfl (y_move rfl) rfl ?_
    refine DL_y rfl (y_gtr rfl rfl) rfl ?_
    refine DL_y rfl (y_move rfl) rfl ?_
    refine DL_split 9 rfl (fun h9 => ?_) (fun h9 => ?_)
    ·
      refine DL_gyes rfl rfl rfl (y_move rfl) rfl ?_
      refine DL_gyes rfl rfl rfl (y_move rfl) rfl ?_
      refine DL_gyes rfl rfl rfl (y_sub rfl rfl (i64w (by omega))) rfl ?_
      refine DL_gyes rfl rfl rfl (y_gtr rfl rfl) rfl ?_
      refine DL_y rfl ((by first | exact y_pickT rfl rfl | exact y_pickF rfl rfl)) rfl ?_
      refine DL_y rfl (y_move rfl) rfl ?_
      refine DL_split 15 rfl (fun h15 => ?_) (fun h15 => ?_)
      ·
        obtain ⟨x, hx⟩ : ∃ x, la[j - 1]? = some x := ⟨_, List.getElem?_eq_getElem (by omega)⟩
        obtain ⟨k, hk⟩ : ∃ k : Nat, ((j - 1 : Nat) : Int) - k = diag := ⟨(((j - 1 : Nat) : Int) - diag).toNat, by omega⟩
        obtain ⟨y, hy⟩ : ∃ y, lb[k]? = some y := ⟨_, List.getElem?_eq_getElem (by omega)⟩
        refine DL_gyes rfl rfl rfl (y_move rfl) rfl ?_
        refine DL_gyes rfl rfl rfl (y_nilp rfl) rfl ?_
        refine DL_gyes rfl rfl rfl (y_fieldA 0 Try.underlying107 rfl sz22 rfl rfl rfl) rfl ?_
        refine DL_gyes rfl rfl rfl (y_ldc Try.underlying22 rfl rfl (((S2.rdB hB).cell _).trans (show (#[Value.slice A n ca, .slice B m cb, .slice R nr cr, SS] : Array Value)[0]? = some (Value.slice A n ca) from rfl))) rfl ?_
        refine DL_gyes rfl rfl rfl (y_move rfl) rfl ?_
        refine DL_gyes rfl rfl rfl (y_sub rfl rfl (i64w (by omega))) rfl ?_
        refine DL_gyes rfl rfl rfl (y_idx Try.underlying22 sz3 rfl rfl (S2.rd hA1) (Nt.mk (by omega) : Nt _ (j - 1)) (by omega)) rfl ?_
        refine DL_gyes rfl rfl rfl (y_ldr Try.underlying3 rfl rfl (S2.rd hA1) (iL_get _ _ _ hx)) rfl ?_
        refine DL_gyes rfl rfl rfl (y_move rfl) rfl ?_
        refine DL_gyes rfl rfl rfl (y_nilp rfl) rfl ?_
        refine DL_gyes rfl rfl rfl (y_fieldA 1 Try.underlying107 rfl sz22 rfl rfl rfl) rfl ?_
        refine DL_gyes rfl rfl rfl (y_ldc Try.underlying22 rfl rfl (((S2.rdB hB).cell _).trans (show (#[Value.slice A n ca, .slice B m cb, .slice R nr cr, SS] : Array Value)[1]? = some (Value.slice B m cb) from rfl))) rfl ?_
        refine DL_gyes rfl rfl rfl (y_move rfl) rfl ?_
        refine DL_gyes rfl rfl rfl (y_move rfl) rfl ?_
        refine DL_gyes rfl rfl rfl (y_sub rfl rfl (i64w (by omega))) rfl ?_
        refine DL_gyes rfl rfl rfl (y_sub rfl rfl (i64w (by omega))) rfl ?_
        refine DL_gyes rfl rfl rfl (y_idx Try.underlying22 sz3 rfl rfl (S2.rd hB1) (Nt.mk (by omega) : Nt _ (k)) (by omega)) rfl ?_
        refine DL_gyes rfl rfl rfl (y_ldr Try.underlying3 rfl rfl (S2.rd hB1) (iL_get _ _ _ hy)) rfl ?_
        refine DL_gyes rfl rfl rfl (y_eql rfl rfl) rfl ?_
        refine DL_y rfl ((by first | exact y_pickT rfl rfl | exact y_pickF rfl rfl)) rfl ?_
        refine DL_nil ?_
        refine hK4 _ _ ?_
        refine T_cond rfl (fun h35 => ?_) (fun h35 => ?_)
        ·
          refine T_skip ?_
          refine hK3 _ _ ?_
          refine T_block ?_
          refine T_region ?_
          refine L_y (y_move rfl) rfl ?_
          refine L_y (y_sub rfl rfl (i64w (by omega))) rfl ?_
          refine L_y (y_assign rfl) rfl ?_
          refine L_nil ?_
          refine ⟨j - 1, by omega, ⟨⟨⟨by omega, by omega⟩, fun t k2 h1 h2 h3 => by rcases Nat.lt_or_ge t j with h4 | h4; (have e1 : t = j - 1 := by omega); (have e2 : k2 = k := by omega); subst e1; subst e2; exact ⟨x, hx, by rw [h35]; exact hy⟩; exact hal t k2 h4 h2 h3⟩, S2⟩, ?_⟩
          exact (Sub.cons rfl (congrArg (Value.int _) (by omega)) (Sub.cons rfl rfl (Sub.cons rfl rfl (Sub.nil _))))
        ·
          refine T_exit ?_
          refine hK2 _ _ ?_
          refine T_seq fun K5 hK5 => ?_
          refine T_region ?_
          refine L_y (y_move rfl) rfl ?_
          refine L_y (y_assign rfl) rfl ?_
          refine L_nil ?_
          refine hK5 _ _ ?_
          refine T_ret ?_
          repeat (first | with_reducible refine up_then ?_ | with_reducible refine up_in ?_)
          refine ret1 rfl rfl ?_
          first | exact ⟨_, rfl, S2.like0, j, rfl, hj, hdj, hal, fun t k2 h1 h2 z hz1 hz2 => by (have e1 : t = j - 1 := by omega); (have e2 : k2 = k := by omega); subst e1; subst e2; rw [hx] at hz1; rw [hy] at hz2; exact h35 (by rw [Option.some.inj hz1, Option.some.inj hz2])⟩ | exact ⟨_, rfl, S2.like0, j, rfl, hj, hdj, hal, fun t k2 h1 h2 z hz1 hz2 => by omega⟩
      ·
        refine DL_gno rfl rfl rfl rfl ?_
        refine DL_gno rfl rfl rfl rfl ?_
        refine DL_gno rfl rfl rfl rfl ?_
        refine DL_gno rfl rfl rfl rfl ?_
        refine DL_gno rfl rfl rfl rfl ?_
        refine DL_gno rfl rfl rfl rfl ?_
        refine DL_gno rfl rfl rfl rfl ?_
        refine DL_gno rfl rfl rfl rfl ?_
        refine DL_gno rfl rfl rfl rfl ?_
        refine DL_gno rfl rfl rfl rfl ?_
        refine DL_gno rfl rfl rfl rfl ?_
        refine DL_gno rfl rfl rfl rfl ?_
        refine DL_gno rfl rfl rfl rfl ?_
        refine DL_gno rfl rfl rfl rfl ?_
        refine DL_gno rfl rfl rfl rfl ?_
        refine DL_gno rfl rfl rfl rfl ?_
        refine DL_gno rfl rfl rfl rfl ?_
        refine DL_gno rfl rfl rfl rfl ?_
        refine DL_gno rfl rfl rfl rfl ?_
        refine DL_y rfl ((by first | exact y_pickT rfl rfl | exact y_pickF rfl rfl)) rfl ?_
        refine DL_nil ?_
        refine hK4 _ _ ?_
        refine T_false rfl ?_
        refine T_exit ?_
        refine hK2 _ _ ?_
        refine T_seq fun K6 hK6 => ?_
        refine T_region ?_
        refine L_y (y_move rfl) rfl ?_
        refine L_y (y_assign rfl) rfl ?_
        refine L_nil ?_
        refine hK6 _ _ ?_
        refine T_ret ?_
        repeat (first | with_reducible refine up_then ?_ | with_reducible refine up_in ?_)
        refine ret1 rfl rfl ?_
        first | exact ⟨_, rfl, S2.like0, j, rfl, hj, hdj, hal, fun t k2 h1 h2 z hz1 hz2 => by (have e1 : t = j - 1 := by omega); (have e2 : k2 = k := by omega); subst e1; subst e2; rw [hx] at hz1; rw [hy] at hz2; exact h35 (by rw [Option.some.inj hz1, Option.some.inj hz2])⟩ | exact ⟨_, rfl, S2.like0, j, rfl, hj, hdj, hal, fun t k2 h1 h2 z hz1 hz2 => by omega⟩
    ·
      refine DL_gno rfl rfl rfl rfl ?_
      refine DL_gno rfl rfl rfl rfl ?_
      refine DL_gno rfl rfl rfl rfl ?_
      refine DL_gno rfl rfl rfl rfl ?_
      refine DL_y rfl ((by first | exact y_pickT rfl rfl | exact y_pickF rfl rfl)) rfl ?_
      refine DL_y rfl (y_move rfl) rfl ?_
      refine DL_gno rfl rfl rfl rfl ?_
      refine DL_gno rfl rfl rfl rfl ?_
      refine DL_gno rfl rfl rfl rfl ?_
      refine DL_gno rfl rfl rfl rfl ?_
      refine DL_gno rfl rfl rfl rfl ?_
      refine DL_gno rfl rfl rfl rfl ?_
      refine DL_gno rfl rfl rfl rfl ?_
      refine DL_gno rfl rfl rfl rfl ?_
      refine DL_gno rfl rfl rfl rfl ?_
      refine DL_gno rfl rfl rfl rfl ?_
      refine DL_gno rfl rfl rfl rfl ?_
      refine DL_gno rfl rfl rfl rfl ?_
      refine DL_gno rfl rfl rfl rfl ?_
      refine DL_gno rfl rfl rfl rfl ?_
      refine DL_gno rfl rfl rfl rfl ?_
      refine DL_gno rfl rfl rfl rfl ?_
      refine DL_gno rfl rfl rfl rfl ?_
      refine DL_gno rfl rfl rfl rfl ?_
      refine DL_gno rfl rfl rfl rfl ?_
      refine DL_y rfl ((by first | exact y_pickT rfl rfl | exact y_pickF rfl rfl)) rfl ?_
      refine DL_nil ?_
      refine hK4 _ _ ?_
      refine T_false rfl ?_
      refine T_exit ?_
      refine hK2 _ _ ?_
      refine T_seq fun K7 hK7 => ?_
      refine T_region ?_
      refine L_y (y_move rfl) rfl ?_
      refine L_y (y_assign rfl) rfl ?_
      refine L_nil ?_
      refine hK7 _ _ ?_
      refine T_ret ?_
      repeat (first | with_reducible refine up_then ?_ | with_reducible refine up_in ?_)
      refine ret1 rfl rfl ?_
      first | exact ⟨_, rfl, S2.like0, j, rfl, hj, hdj, hal, fun t k2 h1 h2 z hz1 hz2 => by (have e1 : t = j - 1 := by omega); (have e2 : k2 = k := by omega); subst e1; subst e2; rw [hx] at hz1; rw [hy] at hz2; exact h35 (by rw [Option.some.inj hz1, Option.some.inj hz2])⟩ | exact ⟨_, rfl, S2.like0, j, rfl, hj, hdj, hal, fun t k2 h1 h2 z hz1 hz2 => by omega⟩
end Go.Proofs.Ytbbmkgpgiacdeaa


/-
  The field: best.
-/
namespace Go.Proofs.Ytbbmkgpgiacdeaa
open Go.RowKit Zk Zx
set_option linter.unusedVariables false
set_option linter.unusedSimpArgs false

/-- What is known of the rows that are there. -/
def Tab (la lb : List Int) (D : List (List Int)) : Prop := ∀ d off : Int, d < D.length → Good la lb d off (atV D d off)
theorem good_range {la lb : List Int} {d off v : Int} (h : Good la lb d off v) (hn : la.length ≤ 1048576) : 0 ≤ v ∧ v ≤ farN := by
  rcases h.sound with h1 | ⟨i, h1, k, h2, h3, _⟩
  · rw [h1]; unfold farN; omega
  · unfold farN; omega
def c1 (la : List Int) (d : Int) : Int := if d = 0 then (la.length : Int) else farN
def c2 (la : List Int) (d x2 : Int) : Int := if x2 < c1 la d then x2 else c1 la d
def c3 (la lb : List Int) (d diag x2 xa : Int) : Int := if xa < farN ∧ 0 ≤ xa - 1 ∧ xa - 1 < c2 la d x2 ∧ xa - 1 - diag ≤ lb.length then xa - 1 else c2 la d x2
theorem cand_c (la lb : List Int) (d diag x2 xa xb : Int) : candN la lb d diag x2 xa xb = if xb < farN ∧ 0 ≤ xb - diag ∧ xb < c3 la lb d diag x2 xa then xb else c3 la lb d diag x2 xa := rfl
theorem c1_r (la : List Int) (d : Int) (h : la.length ≤ 1048576) : 0 ≤ c1 la d ∧ c1 la d ≤ farN := by unfold c1; split <;> unfold farN <;> omega
theorem c2_r (la : List Int) (d x2 : Int) (h : la.length ≤ 1048576) (h2 : 0 ≤ x2) : 0 ≤ c2 la d x2 ∧ c2 la d x2 ≤ farN := by have := c1_r la d h; unfold c2; split <;> omega
theorem c3_r (la lb : List Int) (d diag x2 xa : Int) (h : la.length ≤ 1048576) (h2 : 0 ≤ x2) : 0 ≤ c3 la lb d diag x2 xa ∧ c3 la lb d diag x2 xa ≤ farN := by
  have := c2_r la d x2 h h2
  unfold c3
  by_cases h3 : xa < farN ∧ 0 ≤ xa - 1 ∧ xa - 1 < c2 la d x2 ∧ xa - 1 - diag ≤ lb.length
  · rw [if_pos h3]; omega
  · rw [if_neg h3]; omega


set_option maxRecDepth 100000 in
theorem fbest (g : Nat) (A : Option Addr) (n ca : Nat) (B : Option Addr) (m cb : Nat) (la lb : List Int) (D : List (List Int)) (d off en : Int) (w0 : World) (hf : FR w0 g A n ca B m cb la lb D) (hn : n ≤ 1048576) (hm : m ≤ 1048576) (hD : D.length ≤ 1048576) (hdD : d = D.length) (hd0 : 0 ≤ d) (ho1 : -d ≤ off) (ho2 : off ≤ d) (he : en = (n : Int) - m) (ht : Tab la lb D) :
    Calls Try.prog 86 #[.pointer (some ⟨g, 0, none⟩), .int .i64 d, .int .i64 off, .int .i64 en] w0 fun e w' => ∃ u, e = .returned u ∧ Like w0 w' ∧ ∃ v : Int, u = .int .i64 v ∧ Good la lb d off v := by
  refine enter1 (env := [(0, .pointer (some ⟨g, 0, none⟩)), (1, .int .i64 d), (2, .int .i64 off), (3, .int .i64 en)]) [.pointer (some ⟨g, 0, none⟩), .int .i64 d, .int .i64 off, .int .i64 en] Try.func86 rfl Try.ntmps86 rfl rfl ?_
  have hf0 := hf; obtain ⟨R, nr, cr, SS, vs, hB, hA1, hB1, hR1, hnr, hrows⟩ := hf; have hla := lenI hA1; have hlb := lenI hB1; have S0 := St.start w0 noM
  refine T_seq fun K1 hK1 => ?_
  refine T_region ?_
  refine L_y (y_assign rfl) rfl ?_
  refine L_nil ?_
  refine hK1 _ _ ?_
  refine T_seq fun K2 hK2 => ?_
  have hlf : (la.length : Int) < farN := by unfold farN; omega
  have hdg : en + off = (la.length : Int) - lb.length + off := by omega
  have hg2 := ht (d - 2) off (by omega)
  have hga := ht (d - 1) (off + 1) (by omega)
  have hgb := ht (d - 1) (off - 1) (by omega)
  have hr2 := good_range hg2 (by omega)
  have hra := good_range hga (by omega)
  have hrb := good_range hgb (by omega)
  have hfN : farN = 1073741824 := rfl
  have hc1 := c1_r la d (by omega)
  have hc2 := c2_r la d (atV D (d - 2) off) (by omega) hr2.1
  have hc3 := c3_r la lb d (en + off) (atV D (d - 2) off) (atV D (d - 1) (off + 1)) (by omega) hr2.1
  refine T_region ?_
  refine L_y (y_move rfl) rfl ?_
  refine L_y (y_move rfl) rfl ?_
  refine L_y (y_add rfl rfl (i64w (by omega))) rfl ?_
  refine L_y (y_assign rfl) rfl ?_
  refine L_nil ?_
  refine hK2 _ _ ?_
  refine T_seq fun K3 hK3 => ?_
  refine T_region ?_
  refine L_y (y_assign rfl) rfl ?_
  refine L_nil ?_
  refine hK3 _ _ ?_
  refine T_seqR (fun (e : Env) (w : World) => Sub [(0, .pointer (some ⟨g, 0, none⟩)), (1, .int .i64 d), (2, .int .i64 off), (9, .int .i64 (en + off)), (10, .int .i64 (c1 la d))] e ∧ St w0 noM [] w) ?_ ?_
  ·
    refine T_seq fun K5 hK5 => ?_
    refine T_region ?_
    refine L_y (y_move rfl) rfl ?_
    refine L_y (y_eql rfl rfl) rfl ?_
    refine L_nil ?_
    refine hK5 _ _ ?_
    refine T_cond rfl (fun h18 => ?_) (fun h18 => ?_)
    ·
      refine T_region ?_
      refine L_y (y_move rfl) rfl ?_
      refine L_y (y_nilp rfl) rfl ?_
      refine L_y (y_fieldA 0 Try.underlying107 rfl sz22 rfl rfl rfl) rfl ?_
      refine L_y (y_ldc Try.underlying22 rfl rfl (((S0.rdB hB).cell _).trans (show (#[Value.slice A n ca, .slice B m cb, .slice R nr cr, SS] : Array Value)[0]? = some (Value.slice A n ca) from rfl))) rfl ?_
      refine L_y (y_len Try.underlying22 rfl) rfl ?_
      refine L_y (y_assign rfl) rfl ?_
      refine L_nil ?_
      exact ⟨(Sub.cons rfl (by first | rfl | exact congrArg (Value.int _) (by omega)) (Sub.cons rfl (by first | rfl | exact congrArg (Value.int _) (by omega)) (Sub.cons rfl (by first | rfl | exact congrArg (Value.int _) (by omega)) (Sub.cons rfl (by first | rfl | exact congrArg (Value.int _) (by omega)) (Sub.cons rfl (congrArg (Value.int _) (by first | (rw [c1, if_pos (by omega)]; omega) | (rw [c1, if_neg (by omega)]; rfl))) (Sub.nil _)))))), S0⟩
    ·
      refine T_skip ?_
      exact ⟨(Sub.cons rfl (by first | rfl | exact congrArg (Value.int _) (by omega)) (Sub.cons rfl (by first | rfl | exact congrArg (Value.int _) (by omega)) (Sub.cons rfl (by first | rfl | exact congrArg (Value.int _) (by omega)) (Sub.cons rfl (by first | rfl | exact congrArg (Value.int _) (by omega)) (Sub.cons rfl (congrArg (Value.int _) (by first | (rw [c1, if_pos (by omega)]; omega) | (rw [c1, if_neg (by omega)]; rfl))) (Sub.nil _)))))), S0⟩
  ·
    rintro e1 w1 ⟨hsub, S1⟩
    refine T_weak hsub ?_
    refine T_seqR (fun (e : Env) (w : World) => Sub [(0, .pointer (some ⟨g, 0, none⟩)), (1, .int .i64 d), (2, .int .i64 off), (9, .int .i64 (en + off)), (10, .int .i64 (c2 la d (atV D (d - 2) off)))] e ∧ St w0 noM [] w) ?_ ?_
    ·
      refine T_seq fun K7 hK7 => ?_
      refine T_region ?_
      refine L_y (y_move rfl) rfl ?_
      refine L_y (y_move rfl) rfl ?_
      refine L_y (y_sub rfl rfl (i64w (by omega))) rfl ?_
      refine L_y (y_move rfl) rfl ?_
      refine L_o (o_call Try.func87 rfl rfl (fat g A n ca B m cb la lb D (d - 2) (off) w1 (hf0.like S1.like0) (by omega) (by omega) (by omega) hD) rfl rfl ?_)
      rintro e2 w2 ⟨v2, rfl, l2, rfl⟩
      refine ⟨_, rfl, ?_⟩
      have S2 := S1.like l2
      refine L_y (y_assign rfl) rfl ?_
      refine L_nil ?_
      refine hK7 _ _ ?_
      refine T_seq fun K8 hK8 => ?_
      refine T_region ?_
      refine L_y (y_move rfl) rfl ?_
      refine L_y (y_move rfl) rfl ?_
      refine L_y (y_lss rfl rfl) rfl ?_
      refine L_nil ?_
      refine hK8 _ _ ?_
      refine T_cond rfl (fun h31 => ?_) (fun h31 => ?_)
      ·
        refine T_region ?_
        refine L_y (y_move rfl) rfl ?_
        refine L_y (y_assign rfl) rfl ?_
        refine L_nil ?_
        exact ⟨(Sub.cons rfl (by first | rfl | exact congrArg (Value.int _) (by omega)) (Sub.cons rfl (by first | rfl | exact congrArg (Value.int _) (by omega)) (Sub.cons rfl (by first | rfl | exact congrArg (Value.int _) (by omega)) (Sub.cons rfl (by first | rfl | exact congrArg (Value.int _) (by omega)) (Sub.cons rfl (congrArg (Value.int _) (by first | rw [c2, if_pos (by omega)] | rw [c2, if_neg (by omega)])) (Sub.nil _)))))), S2⟩
      ·
        refine T_skip ?_
        exact ⟨(Sub.cons rfl (by first | rfl | exact congrArg (Value.int _) (by omega)) (Sub.cons rfl (by first | rfl | exact congrArg (Value.int _) (by omega)) (Sub.cons rfl (by first | rfl | exact congrArg (Value.int _) (by omega)) (Sub.cons rfl (by first | rfl | exact congrArg (Value.int _) (by omega)) (Sub.cons rfl (congrArg (Value.int _) (by first | rw [c2, if_pos (by omega)] | rw [c2, if_neg (by omega)])) (Sub.nil _)))))), S2⟩
    ·
      rintro e3 w3 ⟨hsub, S3⟩
      refine T_weak hsub ?_
      refine T_seqR (fun (e : Env) (w : World) => Sub [(0, .pointer (some ⟨g, 0, none⟩)), (1, .int .i64 d), (2, .int .i64 off), (9, .int .i64 (en + off)), (10, .int .i64 (c3 la lb d (en + off) (atV D (d - 2) off) (atV D (d - 1) (off + 1))))] e ∧ St w0 noM [] w) ?_ ?_
      ·
        refine T_seq fun K10 hK10 => ?_
        refine T_region ?_
        refine L_y (y_move rfl) rfl ?_
        refine L_y (y_move rfl) rfl ?_
        refine L_y (y_sub rfl rfl (i64w (by omega))) rfl ?_
        refine L_y (y_move rfl) rfl ?_
        refine L_y (y_add rfl rfl (i64w (by omega))) rfl ?_
        refine L_o (o_call Try.func87 rfl rfl (fat g A n ca B m cb la lb D (d - 1) (off + 1) w3 (hf0.like S3.like0) (by omega) (by omega) (by omega) hD) rfl rfl ?_)
        rintro e4 w4 ⟨v4, rfl, l4, rfl⟩
        refine ⟨_, rfl, ?_⟩
        have S4 := S3.like l4
        refine L_y (y_assign rfl) rfl ?_
        refine L_nil ?_
        refine hK10 _ _ ?_
        refine T_seq fun K11 hK11 => ?_
        refine T_region ?_
        refine L_y (y_move rfl) rfl ?_
        refine L_y (y_lss rfl rfl) rfl ?_
        refine L_y (y_move rfl) rfl ?_
        refine L_split 41 rfl (fun h41 => ?_) (fun h41 => ?_)
        ·
          refine L_gyes rfl rfl ?_
          refine L_y (y_move rfl) rfl ?_
          refine L_gyes rfl rfl ?_
          refine L_y (y_sub rfl rfl (i64w (by omega))) rfl ?_
          refine L_gyes rfl rfl ?_
          refine L_y (y_geq rfl rfl) rfl ?_
          refine L_y ((by first | exact y_pickT rfl rfl | exact y_pickF rfl rfl)) rfl ?_
          refine L_y (y_move rfl) rfl ?_
          refine L_split 46 rfl (fun h46 => ?_) (fun h46 => ?_)
          ·
            refine L_gyes rfl rfl ?_
            refine L_y (y_move rfl) rfl ?_
            refine L_gyes rfl rfl ?_
            refine L_y (y_sub rfl rfl (i64w (by omega))) rfl ?_
            refine L_gyes rfl rfl ?_
            refine L_y (y_move rfl) rfl ?_
            refine L_gyes rfl rfl ?_
            refine L_y (y_lss rfl rfl) rfl ?_
            refine L_y ((by first | exact y_pickT rfl rfl | exact y_pickF rfl rfl)) rfl ?_
            refine L_y (y_move rfl) rfl ?_
            refine L_split 52 rfl (fun h52 => ?_) (fun h52 => ?_)
            ·
              refine L_gyes rfl rfl ?_
              refine L_y (y_move rfl) rfl ?_
              refine L_gyes rfl rfl ?_
              refine L_y (y_sub rfl rfl (i64w (by omega))) rfl ?_
              refine L_gyes rfl rfl ?_
              refine L_y (y_move rfl) rfl ?_
              refine L_gyes rfl rfl ?_
              refine L_y (y_sub rfl rfl (i64w (by omega))) rfl ?_
              refine L_gyes rfl rfl ?_
              refine L_y (y_move rfl) rfl ?_
              refine L_gyes rfl rfl ?_
              refine L_y (y_nilp rfl) rfl ?_
              refine L_gyes rfl rfl ?_
              refine L_y (y_fieldA 1 Try.underlying107 rfl sz22 rfl rfl rfl) rfl ?_
              refine L_gyes rfl rfl ?_
              refine L_y (y_ldc Try.underlying22 rfl rfl (((S4.rdB hB).cell _).trans (show (#[Value.slice A n ca, .slice B m cb, .slice R nr cr, SS] : Array Value)[1]? = some (Value.slice B m cb) from rfl))) rfl ?_
              refine L_gyes rfl rfl ?_
              refine L_y (y_len Try.underlying22 rfl) rfl ?_
              refine L_gyes rfl rfl ?_
              refine L_y (y_leq rfl rfl) rfl ?_
              refine L_y ((by first | exact y_pickT rfl rfl | exact y_pickF rfl rfl)) rfl ?_
              refine L_nil ?_
              refine hK11 _ _ ?_
              refine T_cond rfl (fun h63 => ?_) (fun h63 => ?_)
              ·
                refine T_region ?_
                refine L_y (y_move rfl) rfl ?_
                refine L_y (y_sub rfl rfl (i64w (by omega))) rfl ?_
                refine L_y (y_assign rfl) rfl ?_
                refine L_nil ?_
                exact ⟨(Sub.cons rfl (by first | rfl | exact congrArg (Value.int _) (by omega)) (Sub.cons rfl (by first | rfl | exact congrArg (Value.int _) (by omega)) (Sub.cons rfl (by first | rfl | exact congrArg (Value.int _) (by omega)) (Sub.cons rfl (by first | rfl | exact congrArg (Value.int _) (by omega)) (Sub.cons rfl (congrArg (Value.int _) (by first | rw [c3, if_pos ⟨by omega, by omega, by omega, by omega⟩] | rw [c3, if_neg (fun h => by obtain ⟨q1, q2, q3, q4⟩ := h; omega)])) (Sub.nil _)))))), S4⟩
              ·
                refine T_skip ?_
                exact ⟨(Sub.cons rfl (by first | rfl | exact congrArg (Value.int _) (by omega)) (Sub.cons rfl (by first | rfl | exact congrArg (Value.int _) (by omega)) (Sub.cons rfl (by first | rfl | exact congrArg (Value.int _) (by omega)) (Sub.cons rfl (by first | rfl | exact congrArg (Value.int _) (by omega)) (Sub.cons rfl (congrArg (Value.int _) (by first | rw [c3, if_pos ⟨by omega, by omega, by omega, by omega⟩] | rw [c3, if_neg (fun h => by obtain ⟨q1, q2, q3, q4⟩ := h; omega)])) (Sub.nil _)))))), S4⟩
            ·
              refine L_gno rfl rfl rfl ?_
              refine L_gno rfl rfl rfl ?_
              refine L_gno rfl rfl rfl ?_
              refine L_gno rfl rfl rfl ?_
              refine L_gno rfl rfl rfl ?_
              refine L_gno rfl rfl rfl ?_
              refine L_gno rfl rfl rfl ?_
              refine L_gno rfl rfl rfl ?_
              refine L_gno rfl rfl rfl ?_
              refine L_gno rfl rfl rfl ?_
              refine L_y ((by first | exact y_pickT rfl rfl | exact y_pickF rfl rfl)) rfl ?_
              refine L_nil ?_
              refine hK11 _ _ ?_
              refine T_false rfl ?_
              refine T_skip ?_
              exact ⟨(Sub.cons rfl (by first | rfl | exact congrArg (Value.int _) (by omega)) (Sub.cons rfl (by first | rfl | exact congrArg (Value.int _) (by omega)) (Sub.cons rfl (by first | rfl | exact congrArg (Value.int _) (by omega)) (Sub.cons rfl (by first | rfl | exact congrArg (Value.int _) (by omega)) (Sub.cons rfl (congrArg (Value.int _) (by first | rw [c3, if_pos ⟨by omega, by omega, by omega, by omega⟩] | rw [c3, if_neg (fun h => by obtain ⟨q1, q2, q3, q4⟩ := h; omega)])) (Sub.nil _)))))), S4⟩
          ·
            refine L_gno rfl rfl rfl ?_
            refine L_gno rfl rfl rfl ?_
            refine L_gno rfl rfl rfl ?_
            refine L_gno rfl rfl rfl ?_
            refine L_y ((by first | exact y_pickT rfl rfl | exact y_pickF rfl rfl)) rfl ?_
            refine L_y (y_move rfl) rfl ?_
            refine L_gno rfl rfl rfl ?_
            refine L_gno rfl rfl rfl ?_
            refine L_gno rfl rfl rfl ?_
            refine L_gno rfl rfl rfl ?_
            refine L_gno rfl rfl rfl ?_
            refine L_gno rfl rfl rfl ?_
            refine L_gno rfl rfl rfl ?_
            refine L_gno rfl rfl rfl ?_
            refine L_gno rfl rfl rfl ?_
            refine L_gno rfl rfl rfl ?_
            refine L_y ((by first | exact y_pickT rfl rfl | exact y_pickF rfl rfl)) rfl ?_
            refine L_nil ?_
            refine hK11 _ _ ?_
            refine T_false rfl ?_
            refine T_skip ?_
            exact ⟨(Sub.cons rfl (by first | rfl | exact congrArg (Value.int _) (by omega)) (Sub.cons rfl (by first | rfl | exact congrArg (Value.int _) (by omega)) (Sub.cons rfl (by first | rfl | exact congrArg (Value.int _) (by omega)) (Sub.cons rfl (by first | rfl | exact congrArg (Value.int _) (by omega)) (Sub.cons rfl (congrArg (Value.int _) (by first | rw [c3, if_pos ⟨by omega, by omega, by omega, by omega⟩] | rw [c3, if_neg (fun h => by obtain ⟨q1, q2, q3, q4⟩ := h; omega)])) (Sub.nil _)))))), S4⟩
        ·
          refine L_gno rfl rfl rfl ?_
          refine L_gno rfl rfl rfl ?_
          refine L_gno rfl rfl rfl ?_
          refine L_y ((by first | exact y_pickT rfl rfl | exact y_pickF rfl rfl)) rfl ?_
          refine L_y (y_move rfl) rfl ?_
          refine L_gno rfl rfl rfl ?_
          refine L_gno rfl rfl rfl ?_
          refine L_gno rfl rfl rfl ?_
          refine L_gno rfl rfl rfl ?_
          refine L_y ((by first | exact y_pickT rfl rfl | exact y_pickF rfl rfl)) rfl ?_
          refine L_y (y_move rfl) rfl ?_
          refine L_gno rfl rfl rfl ?_
          refine L_gno rfl rfl rfl ?_
          refine L_gno rfl rfl rfl ?_
          refine L_gno rfl rfl rfl ?_
          refine L_gno rfl rfl rfl ?_
          refine L_gno rfl rfl rfl ?_
          refine L_gno rfl rfl rfl ?_
          refine L_gno rfl rfl rfl ?_
          refine L_gno rfl rfl rfl ?_
          refine L_gno rfl rfl rfl ?_
          refine L_y ((by first | exact y_pickT rfl rfl | exact y_pickF rfl rfl)) rfl ?_
          refine L_nil ?_
          refine hK11 _ _ ?_
          refine T_false rfl ?_
          refine T_skip ?_
          exact ⟨(Sub.cons rfl (by first | rfl | exact congrArg (Value.int _) (by omega)) (Sub.cons rfl (by first | rfl | exact congrArg (Value.int _) (by omega)) (Sub.cons rfl (by first | rfl | exact congrArg (Value.int _) (by omega)) (Sub.cons rfl (by first | rfl | exact congrArg (Value.int _) (by omega)) (Sub.cons rfl (congrArg (Value.int _) (by first | rw [c3, if_pos ⟨by omega, by omega, by omega, by omega⟩] | rw [c3, if_neg (fun h => by obtain ⟨q1, q2, q3, q4⟩ := h; omega)])) (Sub.nil _)))))), S4⟩
      ·
        rintro e8 w8 ⟨hsub, S8⟩
        refine T_weak hsub ?_
        refine T_seqR (fun (e : Env) (w : World) => Sub [(0, .pointer (some ⟨g, 0, none⟩)), (1, .int .i64 d), (2, .int .i64 off), (9, .int .i64 (en + off)), (10, .int .i64 (candN la lb d (en + off) (atV D (d - 2) off) (atV D (d - 1) (off + 1)) (atV D (d - 1) (off - 1))))] e ∧ St w0 noM [] w) ?_ ?_
        ·
          refine T_seq fun K13 hK13 => ?_
          refine T_region ?_
          refine L_y (y_move rfl) rfl ?_
          refine L_y (y_move rfl) rfl ?_
          refine L_y (y_sub rfl rfl (i64w (by omega))) rfl ?_
          refine L_y (y_move rfl) rfl ?_
          refine L_y (y_sub rfl rfl (i64w (by omega))) rfl ?_
          refine L_o (o_call Try.func87 rfl rfl (fat g A n ca B m cb la lb D (d - 1) (off - 1) w8 (hf0.like S8.like0) (by omega) (by omega) (by omega) hD) rfl rfl ?_)
          rintro e9 w9 ⟨v9, rfl, l9, rfl⟩
          refine ⟨_, rfl, ?_⟩
          have S9 := S8.like l9
          refine L_y (y_assign rfl) rfl ?_
          refine L_nil ?_
          refine hK13 _ _ ?_
          refine T_seq fun K14 hK14 => ?_
          refine T_region ?_
          refine L_y (y_move rfl) rfl ?_
          refine L_y (y_lss rfl rfl) rfl ?_
          refine L_y (y_move rfl) rfl ?_
          refine L_split 74 rfl (fun h74 => ?_) (fun h74 => ?_)
          ·
            refine L_gyes rfl rfl ?_
            refine L_y (y_move rfl) rfl ?_
            refine L_gyes rfl rfl ?_
            refine L_y (y_move rfl) rfl ?_
            refine L_gyes rfl rfl ?_
            refine L_y (y_sub rfl rfl (i64w (by omega))) rfl ?_
            refine L_gyes rfl rfl ?_
            refine L_y (y_geq rfl rfl) rfl ?_
            refine L_y ((by first | exact y_pickT rfl rfl | exact y_pickF rfl rfl)) rfl ?_
            refine L_y (y_move rfl) rfl ?_
            refine L_split 80 rfl (fun h80 => ?_) (fun h80 => ?_)
            ·
              refine L_gyes rfl rfl ?_
              refine L_y (y_move rfl) rfl ?_
              refine L_gyes rfl rfl ?_
              refine L_y (y_move rfl) rfl ?_
              refine L_gyes rfl rfl ?_
              refine L_y (y_lss rfl rfl) rfl ?_
              refine L_y ((by first | exact y_pickT rfl rfl | exact y_pickF rfl rfl)) rfl ?_
              refine L_nil ?_
              refine hK14 _ _ ?_
              refine T_cond rfl (fun h84 => ?_) (fun h84 => ?_)
              ·
                refine T_region ?_
                refine L_y (y_move rfl) rfl ?_
                refine L_y (y_assign rfl) rfl ?_
                refine L_nil ?_
                exact ⟨(Sub.cons rfl (by first | rfl | exact congrArg (Value.int _) (by omega)) (Sub.cons rfl (by first | rfl | exact congrArg (Value.int _) (by omega)) (Sub.cons rfl (by first | rfl | exact congrArg (Value.int _) (by omega)) (Sub.cons rfl (by first | rfl | exact congrArg (Value.int _) (by omega)) (Sub.cons rfl (congrArg (Value.int _) (by first | rw [cand_c, if_pos ⟨by omega, by omega, by omega⟩] | rw [cand_c, if_neg (fun h => by obtain ⟨q1, q2, q3⟩ := h; omega)])) (Sub.nil _)))))), S9⟩
              ·
                refine T_skip ?_
                exact ⟨(Sub.cons rfl (by first | rfl | exact congrArg (Value.int _) (by omega)) (Sub.cons rfl (by first | rfl | exact congrArg (Value.int _) (by omega)) (Sub.cons rfl (by first | rfl | exact congrArg (Value.int _) (by omega)) (Sub.cons rfl (by first | rfl | exact congrArg (Value.int _) (by omega)) (Sub.cons rfl (congrArg (Value.int _) (by first | rw [cand_c, if_pos ⟨by omega, by omega, by omega⟩] | rw [cand_c, if_neg (fun h => by obtain ⟨q1, q2, q3⟩ := h; omega)])) (Sub.nil _)))))), S9⟩
            ·
              refine L_gno rfl rfl rfl ?_
              refine L_gno rfl rfl rfl ?_
              refine L_gno rfl rfl rfl ?_
              refine L_y ((by first | exact y_pickT rfl rfl | exact y_pickF rfl rfl)) rfl ?_
              refine L_nil ?_
              refine hK14 _ _ ?_
              refine T_false rfl ?_
              refine T_skip ?_
              exact ⟨(Sub.cons rfl (by first | rfl | exact congrArg (Value.int _) (by omega)) (Sub.cons rfl (by first | rfl | exact congrArg (Value.int _) (by omega)) (Sub.cons rfl (by first | rfl | exact congrArg (Value.int _) (by omega)) (Sub.cons rfl (by first | rfl | exact congrArg (Value.int _) (by omega)) (Sub.cons rfl (congrArg (Value.int _) (by first | rw [cand_c, if_pos ⟨by omega, by omega, by omega⟩] | rw [cand_c, if_neg (fun h => by obtain ⟨q1, q2, q3⟩ := h; omega)])) (Sub.nil _)))))), S9⟩
          ·
            refine L_gno rfl rfl rfl ?_
            refine L_gno rfl rfl rfl ?_
            refine L_gno rfl rfl rfl ?_
            refine L_gno rfl rfl rfl ?_
            refine L_y ((by first | exact y_pickT rfl rfl | exact y_pickF rfl rfl)) rfl ?_
            refine L_y (y_move rfl) rfl ?_
            refine L_gno rfl rfl rfl ?_
            refine L_gno rfl rfl rfl ?_
            refine L_gno rfl rfl rfl ?_
            refine L_y ((by first | exact y_pickT rfl rfl | exact y_pickF rfl rfl)) rfl ?_
            refine L_nil ?_
            refine hK14 _ _ ?_
            refine T_false rfl ?_
            refine T_skip ?_
            exact ⟨(Sub.cons rfl (by first | rfl | exact congrArg (Value.int _) (by omega)) (Sub.cons rfl (by first | rfl | exact congrArg (Value.int _) (by omega)) (Sub.cons rfl (by first | rfl | exact congrArg (Value.int _) (by omega)) (Sub.cons rfl (by first | rfl | exact congrArg (Value.int _) (by omega)) (Sub.cons rfl (congrArg (Value.int _) (by first | rw [cand_c, if_pos ⟨by omega, by omega, by omega⟩] | rw [cand_c, if_neg (fun h => by obtain ⟨q1, q2, q3⟩ := h; omega)])) (Sub.nil _)))))), S9⟩
        ·
          rintro e12 w12 ⟨hsub, S12⟩
          refine T_weak hsub ?_
          refine T_seq fun K15 hK15 => ?_
          refine T_seq fun K16 hK16 => ?_
          refine T_region ?_
          refine L_y (y_move rfl) rfl ?_
          refine L_y (y_eql rfl rfl) rfl ?_
          refine L_nil ?_
          refine hK16 _ _ ?_
          refine T_cond rfl (fun h87 => ?_) (fun h87 => ?_)
          ·
            refine T_seq fun K17 hK17 => ?_
            refine T_region ?_
            refine L_y (y_assign rfl) rfl ?_
            refine L_nil ?_
            refine hK17 _ _ ?_
            refine T_ret ?_
            repeat (first | with_reducible refine up_then ?_ | with_reducible refine up_in ?_)
            refine ret1 rfl rfl ?_
            first | exact ⟨_, rfl, S12.like0, _, rfl, good_slid hlf hd0 ⟨ho1, ho2⟩ hg2 hga hgb hdg hi0 (by omega) hsl⟩ | exact ⟨_, rfl, S12.like0, farN, rfl, good_far hlf hd0 hg2 hga hgb hdg h87⟩
          ·
            obtain ⟨i0, hi0, hin⟩ := (cand_sound hlf ⟨ho1, ho2⟩ hg2 hga hgb hdg).resolve_left h87
            have hin2 := hin
            obtain ⟨k0, hk1, hk2, hk3, hk4⟩ := hin2
            have hi0n : i0 ≤ n := by omega
            have hi0d : (en + off) ≤ (i0 : Int) := by omega
            have hi0m : (i0 : Int) - (en + off) ≤ m := by omega
            rw [hi0]
            refine T_skip ?_
            refine hK15 _ _ ?_
            refine T_seq fun K18 hK18 => ?_
            refine T_region ?_
            refine L_y (y_move rfl) rfl ?_
            refine L_y (y_move rfl) rfl ?_
            refine L_y (y_move rfl) rfl ?_
            refine L_o (o_call Try.func89 rfl rfl (fslide g A n ca B m cb la lb D i0 (en + off) w12 (hf0.like S12.like0) (by omega) (by omega) hi0n hi0d hi0m) rfl rfl ?_)
            rintro e13 w13 ⟨v13, rfl, l13, j, rfl, hsl⟩
            refine ⟨_, rfl, ?_⟩
            have S13 := S12.like l13
            refine L_y (y_assign rfl) rfl ?_
            refine L_nil ?_
            refine hK18 _ _ ?_
            refine T_ret ?_
            repeat (first | with_reducible refine up_then ?_ | with_reducible refine up_in ?_)
            refine ret1 rfl rfl ?_
            first | exact ⟨_, rfl, S13.like0, _, rfl, good_slid hlf hd0 ⟨ho1, ho2⟩ hg2 hga hgb hdg hi0 (by omega) hsl⟩ | exact ⟨_, rfl, S13.like0, farN, rfl, good_far hlf hd0 hg2 hga hgb hdg h87⟩
end Go.Proofs.Ytbbmkgpgiacdeaa


/-
  The field: near.
-/
namespace Go.Proofs.Ytbbmkgpgiacdeaa
open Go.RowKit Zk Zx
set_option linter.unusedVariables false
set_option linter.unusedSimpArgs false

theorem tmod2 (x : Int) : x.tmod 2 = 0 ↔ x % 2 = 0 := by
  rw [← Int.dvd_iff_tmod_eq_zero, ← Int.dvd_iff_emod_eq_zero]


set_option maxRecDepth 100000 in
theorem fnear (g : Nat) (A : Option Addr) (n ca : Nat) (B : Option Addr) (m cb : Nat) (la lb : List Int) (D : List (List Int)) (i k r : Nat) (rI : Int) (w0 : World) (hf : FR w0 g A n ca B m cb la lb D) (hrI : rI = r) (hn : n ≤ 1048576) (hm : m ≤ 1048576) (hD : D.length ≤ 1048576) (hi : i < n) (hk : k ≤ m) (hway : (k : Int) - i ≤ (rR la lb 0 0 : Int) - rR la lb i k) (hr : r + 1 = rR la lb i k) (hrD : r < D.length) (ht : Tab la lb D) :
    Calls Try.prog 78 #[.pointer (some ⟨g, 0, none⟩), .int .i64 ((i : Int) + 1), .int .i64 (k : Int), .int .i64 rI] w0 fun e w' => ∃ u, e = .returned u ∧ Like w0 w' ∧ u = .bool (decide (rR la lb (i + 1) k < rR la lb i k)) := by
  refine enter1 (env := [(0, .pointer (some ⟨g, 0, none⟩)), (1, .int .i64 ((i : Int) + 1)), (2, .int .i64 (k : Int)), (3, .int .i64 rI)]) [.pointer (some ⟨g, 0, none⟩), .int .i64 ((i : Int) + 1), .int .i64 (k : Int), .int .i64 rI] Try.func78 rfl Try.ntmps78 rfl rfl ?_
  subst hrI; have hf0 := hf; obtain ⟨R, nr, cr, SS, vs, hB, hA1, hB1, hR1, hnr, hrows⟩ := hf; have hla := lenI hA1; have hlb := lenI hB1; have hi2 : i < la.length := (by omega); have hk2 : k ≤ lb.length := (by omega); have hlf : (la.length : Int) < farN := (by unfold farN; omega); have S0 := St.start w0 noM
  refine T_seq fun K1 hK1 => ?_
  refine T_region ?_
  refine L_y (y_assign rfl) rfl ?_
  refine L_nil ?_
  refine hK1 _ _ ?_
  refine T_seq fun K2 hK2 => ?_
  refine T_seq fun K3 hK3 => ?_
  refine T_region ?_
  refine L_y (y_move rfl) rfl ?_
  refine L_y (y_lss rfl rfl) rfl ?_
  refine L_nil ?_
  refine hK3 _ _ ?_
  refine T_cond rfl (fun h11 => ?_) (fun h11 => ?_)
  ·
    exact absurd h11 (by omega)
  ·
    refine T_skip ?_
    refine hK2 _ _ ?_
    refine T_seq fun K4 hK4 => ?_
    refine T_drawnL [(0, true), (1, true), (2, true), (3, true), (4, true), (5, true), (6, true), (7, true), (8, true), (9, true), (10, true), (11, true), (12, true), (13, true), (14, true), (15, true)] hmix (by kernel_rfl) fun w1 l1 => ?_
    have S1 := S0.like l1
    refine DL_y rfl (y_move rfl) rfl ?_
    refine DL_y rfl (y_move rfl) rfl ?_
    refine DL_y rfl (y_sub rfl rfl (i64w (by omega))) rfl ?_
    refine DL_y rfl (y_move rfl) rfl ?_
    refine DL_y rfl (y_nilp rfl) rfl ?_
    refine DL_y rfl (y_fieldA 0 Try.underlying107 rfl sz22 rfl rfl rfl) rfl ?_
    refine DL_y rfl (y_ldc Try.underlying22 rfl rfl (((S1.rdB hB).cell _).trans (show (#[Value.slice A n ca, .slice B m cb, .slice R nr cr, SS] : Array Value)[0]? = some (Value.slice A n ca) from rfl))) rfl ?_
    refine DL_y rfl (y_len Try.underlying22 rfl) rfl ?_
    refine DL_y rfl (y_move rfl) rfl ?_
    refine DL_y rfl (y_nilp rfl) rfl ?_
    refine DL_y rfl (y_fieldA 1 Try.underlying107 rfl sz22 rfl rfl rfl) rfl ?_
    refine DL_y rfl (y_ldc Try.underlying22 rfl rfl (((S1.rdB hB).cell _).trans (show (#[Value.slice A n ca, .slice B m cb, .slice R nr cr, SS] : Array Value)[1]? = some (Value.slice B m cb) from rfl))) rfl ?_
    refine DL_y rfl (y_len Try.underlying22 rfl) rfl ?_
    refine DL_y rfl (y_sub rfl rfl (i64w (by omega))) rfl ?_
    refine DL_y rfl (y_sub rfl rfl (i64w (by omega))) rfl ?_
    refine DL_y rfl (y_assign rfl) rfl ?_
    refine DL_nil ?_
    refine hK4 _ _ ?_
    refine T_seq fun K5 hK5 => ?_
    refine T_seq fun K6 hK6 => ?_
    refine T_region ?_
    refine L_y (y_move rfl) rfl ?_
    refine L_y (y_move rfl) rfl ?_
    refine L_y (y_add rfl rfl (i64w (by omega))) rfl ?_
    refine L_y (y_rem rfl rfl (by omega) rfl) rfl ?_
    refine L_y (y_neq rfl rfl) rfl ?_
    refine L_nil ?_
    refine hK6 _ _ ?_
    refine T_cond rfl (fun h31 => ?_) (fun h31 => ?_)
    ·
      have hpar : ((r : Int) + ((i : Int) + 1 - k - ((n : Int) - m))) % 2 ≠ 0 := fun h => h31 ((tmod2 _).2 h)
      have hni := near_iff (la := la) (lb := lb) hi2 hk2 hway (show (r : Int) + 1 = (rR la lb i k : Int) by omega) (off := (i : Int) + 1 - k - ((n : Int) - m)) (by omega) (.inr ⟨rfl, hpar⟩) (ht _ _ (by omega)) hlf
      refine T_region ?_
      refine L_y (y_move rfl) rfl ?_
      refine L_y (y_sub rfl rfl (i64w (by omega))) rfl ?_
      refine L_y (y_assign rfl) rfl ?_
      refine L_nil ?_
      refine hK5 _ _ ?_
      refine T_seq fun K7 hK7 => ?_
      refine T_region ?_
      refine L_y (y_move rfl) rfl ?_
      refine L_y (y_move rfl) rfl ?_
      refine L_y (y_move rfl) rfl ?_
      refine L_o (o_call Try.func87 rfl rfl (fat g A n ca B m cb la lb D ((r : Int) - 1) ((i : Int) + 1 - k - ((n : Int) - m)) w1 (hf0.like S1.like0) (by omega) (by omega) (by omega) hD) rfl rfl ?_)
      rintro e2 w2 ⟨v2, rfl, l2, rfl⟩
      refine ⟨_, rfl, ?_⟩
      have S2 := S1.like l2
      refine L_y (y_move rfl) rfl ?_
      refine L_y (y_leq rfl rfl) rfl ?_
      refine L_y (y_assign rfl) rfl ?_
      refine L_nil ?_
      refine hK7 _ _ ?_
      refine T_ret ?_
      repeat (first | with_reducible refine up_then ?_ | with_reducible refine up_in ?_)
      refine ret1 rfl rfl ?_
      exact ⟨_, rfl, S2.like0, congrArg Value.bool (by rw [decide_eq_decide]; exact hni)⟩
    ·
      have hpar : ((r : Int) + ((i : Int) + 1 - k - ((n : Int) - m))) % 2 = 0 := (tmod2 _).1 (Classical.byContradiction h31)
      have hni := near_iff (la := la) (lb := lb) hi2 hk2 hway (show (r : Int) + 1 = (rR la lb i k : Int) by omega) (off := (i : Int) + 1 - k - ((n : Int) - m)) (by omega) (.inl ⟨rfl, hpar⟩) (ht _ _ (by omega)) hlf
      refine T_skip ?_
      refine hK5 _ _ ?_
      refine T_seq fun K8 hK8 => ?_
      refine T_region ?_
      refine L_y (y_move rfl) rfl ?_
      refine L_y (y_move rfl) rfl ?_
      refine L_y (y_move rfl) rfl ?_
      refine L_o (o_call Try.func87 rfl rfl (fat g A n ca B m cb la lb D (r) ((i : Int) + 1 - k - ((n : Int) - m)) w1 (hf0.like S1.like0) (by omega) (by omega) (by omega) hD) rfl rfl ?_)
      rintro e3 w3 ⟨v3, rfl, l3, rfl⟩
      refine ⟨_, rfl, ?_⟩
      have S3 := S1.like l3
      refine L_y (y_move rfl) rfl ?_
      refine L_y (y_leq rfl rfl) rfl ?_
      refine L_y (y_assign rfl) rfl ?_
      refine L_nil ?_
      refine hK8 _ _ ?_
      refine T_ret ?_
      repeat (first | with_reducible refine up_then ?_ | with_reducible refine up_in ?_)
      refine ret1 rfl rfl ?_
      exact ⟨_, rfl, S3.like0, congrArg Value.bool (by rw [decide_eq_decide]; exact hni)⟩
end Go.Proofs.Ytbbmkgpgiacdeaa


/-
  What is kept of two lists: plain laws.
-/
namespace Go.Proofs.Ytbbmkgpgiacdeaa
open Go.RowKit Zk Zx
set_option linter.unusedVariables false
/-- The places that are kept. -/
def keepT (la lb : List Int) (i k : Nat) : List (Nat × Nat) :=
  if i < la.length ∧ k < lb.length ∧ la[i]? = lb[k]? then (i, k) :: keepT la lb (i + 1) (k + 1)
  else if i < la.length ∧ rR la lb (i + 1) k < rR la lb i k then keepT la lb (i + 1) k
  else if k < lb.length then keepT la lb i (k + 1) else []
termination_by (la.length - i) + (lb.length - k)
def pf (p : Nat × Nat) : List Value := [.int .i64 (p.1 : Int), .int .i64 (p.2 : Int)]
theorem pf_len (xs : List (Nat × Nat)) : (xs.flatMap pf).length = xs.length * 2 := by
  induction xs with
  | nil => rfl
  | cons x xs ih => rw [List.flatMap_cons, List.length_append, ih, List.length_cons]; simp only [pf, List.length_cons, List.length_nil]; omega
theorem pf_one (xs : List (Nat × Nat)) : ∀ u ∈ xs.flatMap pf, u.oneCell' = true := fun u hu => by
  obtain ⟨p, _, hp⟩ := List.mem_flatMap.1 hu
  simp only [pf, List.mem_cons, List.not_mem_nil, or_false] at hp
  rcases hp with rfl | rfl <;> rfl
section
variable {la lb : List Int} {i k : Nat}
theorem keep_hit (h : i < la.length ∧ k < lb.length ∧ la[i]? = lb[k]?) : keepT la lb i k = (i, k) :: keepT la lb (i + 1) (k + 1) := by rw [keepT, if_pos h]
theorem keep_a (h : ¬ (i < la.length ∧ k < lb.length ∧ la[i]? = lb[k]?)) (h2 : i < la.length ∧ rR la lb (i + 1) k < rR la lb i k) : keepT la lb i k = keepT la lb (i + 1) k := by rw [keepT, if_neg h, if_pos h2]
theorem keep_b (h : ¬ (i < la.length ∧ k < lb.length ∧ la[i]? = lb[k]?)) (h2 : ¬ (i < la.length ∧ rR la lb (i + 1) k < rR la lb i k)) (h3 : k < lb.length) : keepT la lb i k = keepT la lb i (k + 1) := by rw [keepT, if_neg h, if_neg h2, if_pos h3]
theorem keep_end (h1 : la.length ≤ i) (h2 : lb.length ≤ k) : keepT la lb i k = [] := by rw [keepT, if_neg (by omega), if_neg (by omega), if_neg (by omega)]
theorem no_hit (h : ¬ (i < la.length ∧ k < lb.length ∧ la[i]? = lb[k]?)) : ∀ x, la[i]? = some x → lb[k]? = some x → False := fun x h1 h2 => h ⟨(List.getElem?_eq_some_iff.1 h1).1, (List.getElem?_eq_some_iff.1 h2).1, by rw [h1, h2]⟩
theorem mis (h : ¬ (i < la.length ∧ k < lb.length ∧ la[i]? = lb[k]?)) (hi : i < la.length) (hk : k < lb.length) : rR la lb i k = min (rR la lb (i + 1) k) (rR la lb i (k + 1)) + 1 :=
  rR_mis (List.getElem?_eq_getElem hi) (List.getElem?_eq_getElem hk) fun e => h ⟨hi, hk, by rw [List.getElem?_eq_getElem hi, List.getElem?_eq_getElem hk, e]⟩
/-- No hit, and further in the second list. -/
theorem rR_b (h : ¬ (i < la.length ∧ k < lb.length ∧ la[i]? = lb[k]?)) (h2 : ¬ (i < la.length ∧ rR la lb (i + 1) k < rR la lb i k)) (hk : k < lb.length) : rR la lb i (k + 1) + 1 = rR la lb i k := by
  rcases Nat.lt_or_ge i la.length with hi | hi
  · have := mis h hi hk
    omega
  · rw [rR_endA hi, rR_endA hi]; omega
theorem rR_a (hi : i < la.length) (h2 : rR la lb (i + 1) k < rR la lb i k) : rR la lb (i + 1) k + 1 = rR la lb i k := by
  have := rR_stepA (la := la) (lb := lb) (k := k) hi
  omega
theorem k_lt (h2 : ¬ (i < la.length ∧ rR la lb (i + 1) k < rR la lb i k)) (hr : 0 < rR la lb i k) (hi : i ≤ la.length) (hk : k ≤ lb.length) : k < lb.length := by
  rcases Nat.lt_or_ge k lb.length with h | h
  · exact h
  · exfalso
    rw [rR_endB h, rR_endB h] at h2
    rw [rR_endB h] at hr
    omega
theorem rR_hit (h : i < la.length ∧ k < lb.length ∧ la[i]? = lb[k]?) : rR la lb i k = rR la lb (i + 1) (k + 1) :=
  rR_match (List.getElem?_eq_getElem h.1) (h.2.2.symm.trans (List.getElem?_eq_getElem h.1))
end
/-- What is kept rises, and is one in both. -/
theorem keep_ok (la lb : List Int) : ∀ (n i k : Nat), (la.length - i) + (lb.length - k) = n → (∀ p ∈ keepT la lb i k, i ≤ p.1 ∧ p.1 < la.length ∧ k ≤ p.2 ∧ p.2 < lb.length ∧ la[p.1]? = lb[p.2]?) ∧ (keepT la lb i k).Pairwise fun p q => p.1 < q.1 ∧ p.2 < q.2 := by
  intro n
  induction n using Nat.strongRecOn with
  | ind n ih =>
    intro i k hn
    by_cases h : i < la.length ∧ k < lb.length ∧ la[i]? = lb[k]?
    · obtain ⟨h1, h2⟩ := ih _ (by omega) (i + 1) (k + 1) rfl
      rw [keep_hit h]
      refine ⟨fun p hp => ?_, List.pairwise_cons.2 ⟨fun p hp => ?_, h2⟩⟩
      · rcases List.mem_cons.1 hp with rfl | hp
        · exact ⟨Nat.le_refl _, h.1, Nat.le_refl _, h.2.1, h.2.2⟩
        · obtain ⟨a1, a2, a3, a4, a5⟩ := h1 p hp
          exact ⟨by omega, a2, by omega, a4, a5⟩
      · obtain ⟨a1, a2, a3, a4, a5⟩ := h1 p hp
        exact ⟨by omega, by omega⟩
    · by_cases h2 : i < la.length ∧ rR la lb (i + 1) k < rR la lb i k
      · obtain ⟨h3, h4⟩ := ih _ (by omega) (i + 1) k rfl
        rw [keep_a h h2]
        exact ⟨fun p hp => by obtain ⟨a1, a2, a3, a4, a5⟩ := h3 p hp; exact ⟨by omega, a2, by omega, a4, a5⟩, h4⟩
      · rcases Nat.lt_or_ge k lb.length with h5 | h5
        · obtain ⟨h3, h4⟩ := ih _ (by omega) i (k + 1) rfl
          rw [keep_b h h2 h5]
          exact ⟨fun p hp => by obtain ⟨a1, a2, a3, a4, a5⟩ := h3 p hp; exact ⟨by omega, a2, by omega, a4, a5⟩, h4⟩
        · have e : keepT la lb i k = [] := by rw [keepT, if_neg h, if_neg h2, if_neg (by omega)]
          rw [e]
          exact ⟨(fun p hp => by cases hp), List.Pairwise.nil⟩
end Go.Proofs.Ytbbmkgpgiacdeaa


/-
  The field: way.
-/
namespace Go.Proofs.Ytbbmkgpgiacdeaa
open Go.RowKit Zk Zx
set_option linter.unusedVariables false
set_option linter.unusedSimpArgs false

set_option maxRecDepth 100000 in
theorem fway (g : Nat) (A : Option Addr) (n ca : Nat) (B : Option Addr) (m cb : Nat) (la lb : List Int) (D : List (List Int)) (r0 : Nat) (w0 : World) (hf : FR w0 g A n ca B m cb la lb D) (hn : n ≤ 1048576) (hm : m ≤ 1048576) (hD : D.length ≤ 1048576) (hr0 : r0 = rR la lb 0 0) (hrD : D.length = r0 + 1) (ht : Tab la lb D) :
    Calls Try.prog 65 #[.pointer (some ⟨g, 0, none⟩), .int .i64 (r0 : Int)] w0 fun e w' => ∃ u, e = .returned u ∧ Like w0 w' ∧ ∃ A m c, u = .slice A m c ∧ w'.ownsRow w0.heap.size 34 2 (.slice A m c) m ((keepT la lb 0 0).flatMap pf) := by
  refine enter1 (env := [(0, .pointer (some ⟨g, 0, none⟩)), (1, .int .i64 (r0 : Int))]) [.pointer (some ⟨g, 0, none⟩), .int .i64 (r0 : Int)] Try.func65 rfl Try.ntmps65 rfl rfl ?_
  have hf0 := hf; obtain ⟨R, nr, cr, SS, vs, hB, hA1, hB1, hR1, hnr, hrows⟩ := hf; have hla := lenI hA1; have hlb := lenI hB1; have S0 := St.start w0 noM
  refine T_seq fun K1 hK1 => ?_
  refine T_region ?_
  refine L_y (y_assign rfl) rfl ?_
  refine L_nil ?_
  refine hK1 _ _ ?_
  refine T_scope (fun _ _ _ h => h) ?_
  refine T_seq fun K2 hK2 => ?_
  refine T_region ?_
  have S1 := S0.nilrow 34 2
  refine L_y (y_assign rfl) rfl ?_
  refine L_nil ?_
  refine hK2 _ _ ?_
  refine T_seq fun K3 hK3 => ?_
  refine T_region ?_
  refine L_y (y_assign rfl) rfl ?_
  refine L_y (y_assign rfl) rfl ?_
  refine L_nil ?_
  refine hK3 _ _ ?_
  refine T_seq fun K4 hK4 => ?_
  refine T_label ?_
  refine hK4 _ _ ?_
  refine T_block ?_
  refine T_loop6 [(0, _)] (fun (i : Nat) (k : Nat) (r : Nat) (A1 : Option Addr) (c1 : Nat) (ps : List (Nat × Nat)) => [(1, .int .i64 (r : Int)), (5, .slice A1 ps.length c1), (6, .int .i64 (i : Int)), (7, .int .i64 (k : Int))]) (fun (i : Nat) (k : Nat) (r : Nat) (A1 : Option Addr) (c1 : Nat) (ps : List (Nat × Nat)) => (n - i) + (m - k)) (fun (i : Nat) (k : Nat) (r : Nat) (A1 : Option Addr) (c1 : Nat) (ps : List (Nat × Nat)) (w : World) => (i ≤ n ∧ k ≤ m ∧ r = rR la lb i k ∧ (k : Int) - i ≤ (rR la lb 0 0 : Int) - rR la lb i k ∧ rR la lb i k ≤ rR la lb 0 0 ∧ ps.length ≤ i ∧ ps ++ keepT la lb i k = keepT la lb 0 0) ∧ St w0 noM [row 34 2 A1 ps.length c1 (ps.flatMap pf)] w) 0 0 r0 none 0 [] (Sub.cons rfl (by first | rfl | exact congrArg (Value.int _) (by omega)) (Sub.cons rfl (by first | rfl | exact congrArg (Value.int _) (by omega)) (Sub.cons rfl (by first | rfl | exact congrArg (Value.int _) (by omega)) (Sub.cons rfl (by first | rfl | exact congrArg (Value.int _) (by omega)) (Sub.nil _))))) (Sub.cons rfl rfl (Sub.nil _)) ?_ ?_
  ·
    exact ⟨⟨Nat.zero_le _, Nat.zero_le _, hr0, by omega, by omega, Nat.le_refl _, rfl⟩, S1⟩
  ·
    intro i k r A1 c1 ps w2 hrel
    obtain ⟨⟨hi, hk, hr, hway, hrl, hpl, hps⟩, S2⟩ := hrel
    refine T_block ?_
    refine T_seq fun K5 hK5 => ?_
    refine T_seq fun K6 hK6 => ?_
    refine T_drawnL [(0, true), (1, true), (2, true), (3, true), (4, true), (5, true), (6, true), (7, true), (8, true), (9, true), (10, true), (11, true), (12, true), (13, true), (14, true), (15, true), (16, true), (17, true), (18, true), (19, true), (20, true), (21, true), (22, true), (23, true), (24, true), (25, true), (26, true), (27, true), (28, true), (29, true), (30, true), (31, true), (32, true)] hmix (by kernel_rfl) fun w3 l3 => ?_
    have S3 := S2.like l3
    refine DL_y rfl (y_move rfl) rfl ?_
    refine DL_y rfl (y_move rfl) rfl ?_
    refine DL_y rfl (y_nilp rfl) rfl ?_
    refine DL_y rfl (y_fieldA 0 Try.underlying107 rfl sz22 rfl rfl rfl) rfl ?_
    refine DL_y rfl (y_ldc Try.underlying22 rfl rfl (((S3.rdB hB).cell _).trans (show (#[Value.slice A n ca, .slice B m cb, .slice R nr cr, SS] : Array Value)[0]? = some (Value.slice A n ca) from rfl))) rfl ?_
    refine DL_y rfl (y_len Try.underlying22 rfl) rfl ?_
    refine DL_y rfl (y_lss rfl rfl) rfl ?_
    refine DL_y rfl (y_move rfl) rfl ?_
    refine DL_split 15 rfl (fun h15 => ?_) (fun h15 => ?_)
    ·
      refine DL_gyes rfl rfl rfl (y_move rfl) rfl ?_
      refine DL_gyes rfl rfl rfl (y_move rfl) rfl ?_
      refine DL_gyes rfl rfl rfl (y_nilp rfl) rfl ?_
      refine DL_gyes rfl rfl rfl (y_fieldA 1 Try.underlying107 rfl sz22 rfl rfl rfl) rfl ?_
      refine DL_gyes rfl rfl rfl (y_ldc Try.underlying22 rfl rfl (((S3.rdB hB).cell _).trans (show (#[Value.slice A n ca, .slice B m cb, .slice R nr cr, SS] : Array Value)[1]? = some (Value.slice B m cb) from rfl))) rfl ?_
      refine DL_gyes rfl rfl rfl (y_len Try.underlying22 rfl) rfl ?_
      refine DL_gyes rfl rfl rfl (y_lss rfl rfl) rfl ?_
      refine DL_y rfl ((by first | exact y_pickT rfl rfl | exact y_pickF rfl rfl)) rfl ?_
      refine DL_y rfl (y_move rfl) rfl ?_
      refine DL_split 24 rfl (fun h24 => ?_) (fun h24 => ?_)
      ·
        obtain ⟨x, hx⟩ : ∃ x, la[i]? = some x := ⟨_, List.getElem?_eq_getElem (by omega)⟩
        obtain ⟨y, hy⟩ : ∃ y, lb[k]? = some y := ⟨_, List.getElem?_eq_getElem (by omega)⟩
        refine DL_gyes rfl rfl rfl (y_move rfl) rfl ?_
        refine DL_gyes rfl rfl rfl (y_nilp rfl) rfl ?_
        refine DL_gyes rfl rfl rfl (y_fieldA 0 Try.underlying107 rfl sz22 rfl rfl rfl) rfl ?_
        refine DL_gyes rfl rfl rfl (y_ldc Try.underlying22 rfl rfl (((S3.rdB hB).cell _).trans (show (#[Value.slice A n ca, .slice B m cb, .slice R nr cr, SS] : Array Value)[0]? = some (Value.slice A n ca) from rfl))) rfl ?_
        refine DL_gyes rfl rfl rfl (y_move rfl) rfl ?_
        refine DL_gyes rfl rfl rfl (y_idx Try.underlying22 sz3 rfl rfl (S3.rd hA1) inferInstance (by omega)) rfl ?_
        refine DL_gyes rfl rfl rfl (y_ldr Try.underlying3 rfl rfl (S3.rd hA1) (iL_get _ _ _ hx)) rfl ?_
        refine DL_gyes rfl rfl rfl (y_move rfl) rfl ?_
        refine DL_gyes rfl rfl rfl (y_nilp rfl) rfl ?_
        refine DL_gyes rfl rfl rfl (y_fieldA 1 Try.underlying107 rfl sz22 rfl rfl rfl) rfl ?_
        refine DL_gyes rfl rfl rfl (y_ldc Try.underlying22 rfl rfl (((S3.rdB hB).cell _).trans (show (#[Value.slice A n ca, .slice B m cb, .slice R nr cr, SS] : Array Value)[1]? = some (Value.slice B m cb) from rfl))) rfl ?_
        refine DL_gyes rfl rfl rfl (y_move rfl) rfl ?_
        refine DL_gyes rfl rfl rfl (y_idx Try.underlying22 sz3 rfl rfl (S3.rd hB1) inferInstance (by omega)) rfl ?_
        refine DL_gyes rfl rfl rfl (y_ldr Try.underlying3 rfl rfl (S3.rd hB1) (iL_get _ _ _ hy)) rfl ?_
        refine DL_gyes rfl rfl rfl (y_eql rfl rfl) rfl ?_
        refine DL_y rfl ((by first | exact y_pickT rfl rfl | exact y_pickF rfl rfl)) rfl ?_
        refine DL_nil ?_
        refine hK6 _ _ ?_
        refine T_cond rfl (fun h40 => ?_) (fun h40 => ?_)
        ·
          refine T_seq fun K7 hK7 => ?_
          refine T_region ?_
          refine L_y (y_move rfl) rfl ?_
          refine L_y (y_move rfl) rfl ?_
          refine L_y (y_move rfl) rfl ?_
          refine L_y (y_build rfl (show _ = some #[Value.int .i64 (i : Int), Value.int .i64 (k : Int)] by kernel_rfl)) rfl ?_
          refine L_o (o_bsl [_, _] te25 zz34 S3 rfl rfl rfl rfl rfl rfl rfl rfl fun b4 w4 S4 => ?_)
          refine L_o (o_app te25 S4 0 rfl rfl rfl (by first | exact S4.row 0 rfl | exact S4.row 1 rfl) (fun u hu => pf_one [(i, k)] u hu) rfl (by omega) (by omega) fun A5 c5 w5 S5 => ?_)
          have S5d := S5.drop (rs' := [_]) (.cons_cons _ (.cons _ (.refl _)))
          refine L_y (y_assign rfl) rfl ?_
          refine L_nil ?_
          refine hK7 _ _ ?_
          refine T_seq fun K8 hK8 => ?_
          refine T_region ?_
          refine L_y (y_move rfl) rfl ?_
          refine L_y (y_add rfl rfl (i64w (by omega))) rfl ?_
          refine L_y (y_assign rfl) rfl ?_
          refine L_nil ?_
          refine hK8 _ _ ?_
          refine T_seq fun K9 hK9 => ?_
          refine T_region ?_
          refine L_y (y_move rfl) rfl ?_
          refine L_y (y_add rfl rfl (i64w (by omega))) rfl ?_
          refine L_y (y_assign rfl) rfl ?_
          refine L_nil ?_
          refine hK9 _ _ ?_
          refine T_exit ?_
          have hh : i < la.length ∧ k < lb.length ∧ la[i]? = lb[k]? := ⟨by omega, by omega, by rw [hx, hy, h40]⟩
          have hrh := rR_hit hh
          have S90 := S5d.rowc 0 rfl (n' := (ps ++ [(i, k)]).length) (xs' := (ps ++ [(i, k)]).flatMap pf) (by simp) (by rw [List.flatMap_append])
          refine ⟨i + 1, k + 1, r, _, _, ps ++ [(i, k)], by omega, ⟨⟨by omega, by omega, by omega, by omega, by omega, by rw [List.length_append]; simp only [List.length_cons, List.length_nil]; omega, by rw [← hps, keep_hit hh, List.append_assoc]; rfl⟩, S90⟩, ?_⟩
          exact (Sub.cons rfl (by first | rfl | exact congrArg (Value.int _) (by omega)) (Sub.cons rfl (by first | rfl | (rw [List.length_append]; rfl)) (Sub.cons rfl (by first | rfl | exact congrArg (Value.int _) (by omega)) (Sub.cons rfl (by first | rfl | exact congrArg (Value.int _) (by omega)) (Sub.cons rfl rfl (Sub.nil _))))))
        ·
          refine T_skip ?_
          refine hK5 _ _ ?_
          refine T_seq fun K10 hK10 => ?_
          refine T_seq fun K11 hK11 => ?_
          have hno : ¬ (i < la.length ∧ k < lb.length ∧ la[i]? = lb[k]?) := (fun h => by have h9 := h.2.2; rw [hx, hy] at h9; exact h40 (Option.some.inj h9))
          refine T_region ?_
          refine L_y (y_move rfl) rfl ?_
          refine L_y (y_eql rfl rfl) rfl ?_
          refine L_nil ?_
          refine hK11 _ _ ?_
          refine T_cond rfl (fun h52 => ?_) (fun h52 => ?_)
          ·
            refine T_seq fun K12 hK12 => ?_
            refine T_region ?_
            refine L_y (y_move rfl) rfl ?_
            refine L_y (y_assign rfl) rfl ?_
            refine L_nil ?_
            refine hK12 _ _ ?_
            refine T_ret ?_
            repeat (first | with_reducible refine up_then ?_ | with_reducible refine up_in ?_)
            refine ret1 rfl rfl ?_
            have hz := rR_zero (by omega) (by omega) (by omega) (no_hit hno)
            have he : ps = keepT la lb 0 0 := by rw [← hps, keep_end (by omega) (by omega), List.append_nil]
            exact ⟨_, rfl, S3.like0, _, _, _, rfl, by rw [← he]; exact S3.own 0 rfl⟩
          ·
            refine T_skip ?_
            refine hK10 _ _ ?_
            refine T_seq fun K13 hK13 => ?_
            refine T_region ?_
            refine L_y (y_move rfl) rfl ?_
            refine L_y (y_sub rfl rfl (i64w (by omega))) rfl ?_
            refine L_y (y_assign rfl) rfl ?_
            refine L_nil ?_
            refine hK13 _ _ ?_
            refine T_seq fun K14 hK14 => ?_
            refine T_region ?_
            refine L_y (y_move rfl) rfl ?_
            refine L_y (y_move rfl) rfl ?_
            refine L_y (y_nilp rfl) rfl ?_
            refine L_y (y_fieldA 0 Try.underlying107 rfl sz22 rfl rfl rfl) rfl ?_
            refine L_y (y_ldc Try.underlying22 rfl rfl (((S3.rdB hB).cell _).trans (show (#[Value.slice A n ca, .slice B m cb, .slice R nr cr, SS] : Array Value)[0]? = some (Value.slice A n ca) from rfl))) rfl ?_
            refine L_y (y_len Try.underlying22 rfl) rfl ?_
            refine L_y (y_lss rfl rfl) rfl ?_
            refine L_y (y_move rfl) rfl ?_
            refine L_split 63 rfl (fun h63 => ?_) (fun h63 => ?_)
            ·
              refine L_gyes rfl rfl ?_
              refine L_y (y_move rfl) rfl ?_
              refine L_gyes rfl rfl ?_
              refine L_y (y_move rfl) rfl ?_
              refine L_gyes rfl rfl ?_
              refine L_y (y_add rfl rfl (i64w (by omega))) rfl ?_
              refine L_gyes rfl rfl ?_
              refine L_y (y_move rfl) rfl ?_
              refine L_gyes rfl rfl ?_
              refine L_y (y_move rfl) rfl ?_
              refine L_gyes rfl rfl ?_
              refine L_o (o_call Try.func78 rfl rfl (fnear g A n ca B m cb la lb D i k (r - 1) ((r : Int) - 1) w3 (hf0.like S3.like0) (by omega) (by omega) (by omega) (by omega) (by omega) (by omega) hway (by omega) (by omega) ht) rfl rfl ?_)
              rintro e7 w7 ⟨v7, rfl, l7, rfl⟩
              refine ⟨_, rfl, ?_⟩
              have S7 := S3.like l7
              refine L_y ((by first | exact y_pickT rfl rfl | exact y_pickF rfl rfl)) rfl ?_
              refine L_nil ?_
              refine hK14 _ _ ?_
              refine T_condB rfl (fun h70 => ?_) (fun h70 => ?_)
              ·
                refine T_region ?_
                refine L_y (y_move rfl) rfl ?_
                refine L_y (y_add rfl rfl (i64w (by omega))) rfl ?_
                refine L_y (y_assign rfl) rfl ?_
                refine L_nil ?_
                have hm := of_decide_eq_true h70
                have hra := rR_a (la := la) (lb := lb) (by omega) hm
                refine ⟨i + 1, k, r - 1, A1, c1, ps, by omega, ⟨⟨by omega, by omega, by omega, by omega, by omega, by omega, by rw [← hps, keep_a hno ⟨by omega, hm⟩]⟩, S7⟩, ?_⟩
                exact (Sub.cons rfl (by first | rfl | exact congrArg (Value.int _) (by omega)) (Sub.cons rfl (by first | rfl | (rw [List.length_append]; rfl)) (Sub.cons rfl (by first | rfl | exact congrArg (Value.int _) (by omega)) (Sub.cons rfl (by first | rfl | exact congrArg (Value.int _) (by omega)) (Sub.cons rfl rfl (Sub.nil _))))))
              ·
                refine T_region ?_
                refine L_y (y_move rfl) rfl ?_
                refine L_y (y_add rfl rfl (i64w (by omega))) rfl ?_
                refine L_y (y_assign rfl) rfl ?_
                refine L_nil ?_
                have hm : ¬ (i < la.length ∧ rR la lb (i + 1) k < rR la lb i k) := fun h => of_decide_eq_false h70 h.2
                have hkl := k_lt hm (by omega) (by omega) (by omega)
                have hrb := rR_b hno hm hkl
                refine ⟨i, k + 1, r - 1, A1, c1, ps, by omega, ⟨⟨by omega, by omega, by omega, by omega, by omega, by omega, by rw [← hps, keep_b hno hm hkl]⟩, S7⟩, ?_⟩
                exact (Sub.cons rfl (by first | rfl | exact congrArg (Value.int _) (by omega)) (Sub.cons rfl (by first | rfl | (rw [List.length_append]; rfl)) (Sub.cons rfl (by first | rfl | exact congrArg (Value.int _) (by omega)) (Sub.cons rfl (by first | rfl | exact congrArg (Value.int _) (by omega)) (Sub.cons rfl rfl (Sub.nil _))))))
            ·
              refine L_gno rfl rfl rfl ?_
              refine L_gno rfl rfl rfl ?_
              refine L_gno rfl rfl rfl ?_
              refine L_gno rfl rfl rfl ?_
              refine L_gno rfl rfl rfl ?_
              refine L_gno rfl rfl rfl ?_
              refine L_y ((by first | exact y_pickT rfl rfl | exact y_pickF rfl rfl)) rfl ?_
              refine L_nil ?_
              refine hK14 _ _ ?_
              refine T_false rfl ?_
              refine T_region ?_
              refine L_y (y_move rfl) rfl ?_
              refine L_y (y_add rfl rfl (i64w (by omega))) rfl ?_
              refine L_y (y_assign rfl) rfl ?_
              refine L_nil ?_
              have hm : ¬ (i < la.length ∧ rR la lb (i + 1) k < rR la lb i k) := fun h => by omega
              have hkl := k_lt hm (by omega) (by omega) (by omega)
              have hrb := rR_b hno hm hkl
              refine ⟨i, k + 1, r - 1, A1, c1, ps, by omega, ⟨⟨by omega, by omega, by omega, by omega, by omega, by omega, by rw [← hps, keep_b hno hm hkl]⟩, S3⟩, ?_⟩
              exact (Sub.cons rfl (by first | rfl | exact congrArg (Value.int _) (by omega)) (Sub.cons rfl (by first | rfl | (rw [List.length_append]; rfl)) (Sub.cons rfl (by first | rfl | exact congrArg (Value.int _) (by omega)) (Sub.cons rfl (by first | rfl | exact congrArg (Value.int _) (by omega)) (Sub.cons rfl rfl (Sub.nil _))))))
      ·
        refine DL_gno rfl rfl rfl rfl ?_
        refine DL_gno rfl rfl rfl rfl ?_
        refine DL_gno rfl rfl rfl rfl ?_
        refine DL_gno rfl rfl rfl rfl ?_
        refine DL_gno rfl rfl rfl rfl ?_
        refine DL_gno rfl rfl rfl rfl ?_
        refine DL_gno rfl rfl rfl rfl ?_
        refine DL_gno rfl rfl rfl rfl ?_
        refine DL_gno rfl rfl rfl rfl ?_
        refine DL_gno rfl rfl rfl rfl ?_
        refine DL_gno rfl rfl rfl rfl ?_
        refine DL_gno rfl rfl rfl rfl ?_
        refine DL_gno rfl rfl rfl rfl ?_
        refine DL_gno rfl rfl rfl rfl ?_
        refine DL_gno rfl rfl rfl rfl ?_
        refine DL_y rfl ((by first | exact y_pickT rfl rfl | exact y_pickF rfl rfl)) rfl ?_
        refine DL_nil ?_
        refine hK6 _ _ ?_
        refine T_false rfl ?_
        refine T_skip ?_
        refine hK5 _ _ ?_
        refine T_seq fun K15 hK15 => ?_
        refine T_seq fun K16 hK16 => ?_
        have hno : ¬ (i < la.length ∧ k < lb.length ∧ la[i]? = lb[k]?) := (fun h => by omega)
        refine T_region ?_
        refine L_y (y_move rfl) rfl ?_
        refine L_y (y_eql rfl rfl) rfl ?_
        refine L_nil ?_
        refine hK16 _ _ ?_
        refine T_cond rfl (fun h52 => ?_) (fun h52 => ?_)
        ·
          refine T_seq fun K17 hK17 => ?_
          refine T_region ?_
          refine L_y (y_move rfl) rfl ?_
          refine L_y (y_assign rfl) rfl ?_
          refine L_nil ?_
          refine hK17 _ _ ?_
          refine T_ret ?_
          repeat (first | with_reducible refine up_then ?_ | with_reducible refine up_in ?_)
          refine ret1 rfl rfl ?_
          have hz := rR_zero (by omega) (by omega) (by omega) (no_hit hno)
          have he : ps = keepT la lb 0 0 := by rw [← hps, keep_end (by omega) (by omega), List.append_nil]
          exact ⟨_, rfl, S3.like0, _, _, _, rfl, by rw [← he]; exact S3.own 0 rfl⟩
        ·
          refine T_skip ?_
          refine hK15 _ _ ?_
          refine T_seq fun K18 hK18 => ?_
          refine T_region ?_
          refine L_y (y_move rfl) rfl ?_
          refine L_y (y_sub rfl rfl (i64w (by omega))) rfl ?_
          refine L_y (y_assign rfl) rfl ?_
          refine L_nil ?_
          refine hK18 _ _ ?_
          refine T_seq fun K19 hK19 => ?_
          refine T_region ?_
          refine L_y (y_move rfl) rfl ?_
          refine L_y (y_move rfl) rfl ?_
          refine L_y (y_nilp rfl) rfl ?_
          refine L_y (y_fieldA 0 Try.underlying107 rfl sz22 rfl rfl rfl) rfl ?_
          refine L_y (y_ldc Try.underlying22 rfl rfl (((S3.rdB hB).cell _).trans (show (#[Value.slice A n ca, .slice B m cb, .slice R nr cr, SS] : Array Value)[0]? = some (Value.slice A n ca) from rfl))) rfl ?_
          refine L_y (y_len Try.underlying22 rfl) rfl ?_
          refine L_y (y_lss rfl rfl) rfl ?_
          refine L_y (y_move rfl) rfl ?_
          refine L_split 63 rfl (fun h63 => ?_) (fun h63 => ?_)
          ·
            refine L_gyes rfl rfl ?_
            refine L_y (y_move rfl) rfl ?_
            refine L_gyes rfl rfl ?_
            refine L_y (y_move rfl) rfl ?_
            refine L_gyes rfl rfl ?_
            refine L_y (y_add rfl rfl (i64w (by omega))) rfl ?_
            refine L_gyes rfl rfl ?_
            refine L_y (y_move rfl) rfl ?_
            refine L_gyes rfl rfl ?_
            refine L_y (y_move rfl) rfl ?_
            refine L_gyes rfl rfl ?_
            refine L_o (o_call Try.func78 rfl rfl (fnear g A n ca B m cb la lb D i k (r - 1) ((r : Int) - 1) w3 (hf0.like S3.like0) (by omega) (by omega) (by omega) (by omega) (by omega) (by omega) hway (by omega) (by omega) ht) rfl rfl ?_)
            rintro e9 w9 ⟨v9, rfl, l9, rfl⟩
            refine ⟨_, rfl, ?_⟩
            have S9 := S3.like l9
            refine L_y ((by first | exact y_pickT rfl rfl | exact y_pickF rfl rfl)) rfl ?_
            refine L_nil ?_
            refine hK19 _ _ ?_
            refine T_condB rfl (fun h70 => ?_) (fun h70 => ?_)
            ·
              refine T_region ?_
              refine L_y (y_move rfl) rfl ?_
              refine L_y (y_add rfl rfl (i64w (by omega))) rfl ?_
              refine L_y (y_assign rfl) rfl ?_
              refine L_nil ?_
              have hm := of_decide_eq_true h70
              have hra := rR_a (la := la) (lb := lb) (by omega) hm
              refine ⟨i + 1, k, r - 1, A1, c1, ps, by omega, ⟨⟨by omega, by omega, by omega, by omega, by omega, by omega, by rw [← hps, keep_a hno ⟨by omega, hm⟩]⟩, S9⟩, ?_⟩
              exact (Sub.cons rfl (by first | rfl | exact congrArg (Value.int _) (by omega)) (Sub.cons rfl (by first | rfl | (rw [List.length_append]; rfl)) (Sub.cons rfl (by first | rfl | exact congrArg (Value.int _) (by omega)) (Sub.cons rfl (by first | rfl | exact congrArg (Value.int _) (by omega)) (Sub.cons rfl rfl (Sub.nil _))))))
            ·
              refine T_region ?_
              refine L_y (y_move rfl) rfl ?_
              refine L_y (y_add rfl rfl (i64w (by omega))) rfl ?_
              refine L_y (y_assign rfl) rfl ?_
              refine L_nil ?_
              have hm : ¬ (i < la.length ∧ rR la lb (i + 1) k < rR la lb i k) := fun h => of_decide_eq_false h70 h.2
              have hkl := k_lt hm (by omega) (by omega) (by omega)
              have hrb := rR_b hno hm hkl
              refine ⟨i, k + 1, r - 1, A1, c1, ps, by omega, ⟨⟨by omega, by omega, by omega, by omega, by omega, by omega, by rw [← hps, keep_b hno hm hkl]⟩, S9⟩, ?_⟩
              exact (Sub.cons rfl (by first | rfl | exact congrArg (Value.int _) (by omega)) (Sub.cons rfl (by first | rfl | (rw [List.length_append]; rfl)) (Sub.cons rfl (by first | rfl | exact congrArg (Value.int _) (by omega)) (Sub.cons rfl (by first | rfl | exact congrArg (Value.int _) (by omega)) (Sub.cons rfl rfl (Sub.nil _))))))
          ·
            refine L_gno rfl rfl rfl ?_
            refine L_gno rfl rfl rfl ?_
            refine L_gno rfl rfl rfl ?_
            refine L_gno rfl rfl rfl ?_
            refine L_gno rfl rfl rfl ?_
            refine L_gno rfl rfl rfl ?_
            refine L_y ((by first | exact y_pickT rfl rfl | exact y_pickF rfl rfl)) rfl ?_
            refine L_nil ?_
            refine hK19 _ _ ?_
            refine T_false rfl ?_
            refine T_region ?_
            refine L_y (y_move rfl) rfl ?_
            refine L_y (y_add rfl rfl (i64w (by omega))) rfl ?_
            refine L_y (y_assign rfl) rfl ?_
            refine L_nil ?_
            have hm : ¬ (i < la.length ∧ rR la lb (i + 1) k < rR la lb i k) := fun h => by omega
            have hkl := k_lt hm (by omega) (by omega) (by omega)
            have hrb := rR_b hno hm hkl
            refine ⟨i, k + 1, r - 1, A1, c1, ps, by omega, ⟨⟨by omega, by omega, by omega, by omega, by omega, by omega, by rw [← hps, keep_b hno hm hkl]⟩, S3⟩, ?_⟩
            exact (Sub.cons rfl (by first | rfl | exact congrArg (Value.int _) (by omega)) (Sub.cons rfl (by first | rfl | (rw [List.length_append]; rfl)) (Sub.cons rfl (by first | rfl | exact congrArg (Value.int _) (by omega)) (Sub.cons rfl (by first | rfl | exact congrArg (Value.int _) (by omega)) (Sub.cons rfl rfl (Sub.nil _))))))
    ·
      refine DL_gno rfl rfl rfl rfl ?_
      refine DL_gno rfl rfl rfl rfl ?_
      refine DL_gno rfl rfl rfl rfl ?_
      refine DL_gno rfl rfl rfl rfl ?_
      refine DL_gno rfl rfl rfl rfl ?_
      refine DL_gno rfl rfl rfl rfl ?_
      refine DL_gno rfl rfl rfl rfl ?_
      refine DL_y rfl ((by first | exact y_pickT rfl rfl | exact y_pickF rfl rfl)) rfl ?_
      refine DL_y rfl (y_move rfl) rfl ?_
      refine DL_gno rfl rfl rfl rfl ?_
      refine DL_gno rfl rfl rfl rfl ?_
      refine DL_gno rfl rfl rfl rfl ?_
      refine DL_gno rfl rfl rfl rfl ?_
      refine DL_gno rfl rfl rfl rfl ?_
      refine DL_gno rfl rfl rfl rfl ?_
      refine DL_gno rfl rfl rfl rfl ?_
      refine DL_gno rfl rfl rfl rfl ?_
      refine DL_gno rfl rfl rfl rfl ?_
      refine DL_gno rfl rfl rfl rfl ?_
      refine DL_gno rfl rfl rfl rfl ?_
      refine DL_gno rfl rfl rfl rfl ?_
      refine DL_gno rfl rfl rfl rfl ?_
      refine DL_gno rfl rfl rfl rfl ?_
      refine DL_gno rfl rfl rfl rfl ?_
      refine DL_y rfl ((by first | exact y_pickT rfl rfl | exact y_pickF rfl rfl)) rfl ?_
      refine DL_nil ?_
      refine hK6 _ _ ?_
      refine T_false rfl ?_
      refine T_skip ?_
      refine hK5 _ _ ?_
      refine T_seq fun K20 hK20 => ?_
      refine T_seq fun K21 hK21 => ?_
      have hno : ¬ (i < la.length ∧ k < lb.length ∧ la[i]? = lb[k]?) := (fun h => by omega)
      refine T_region ?_
      refine L_y (y_move rfl) rfl ?_
      refine L_y (y_eql rfl rfl) rfl ?_
      refine L_nil ?_
      refine hK21 _ _ ?_
      refine T_cond rfl (fun h52 => ?_) (fun h52 => ?_)
      ·
        refine T_seq fun K22 hK22 => ?_
        refine T_region ?_
        refine L_y (y_move rfl) rfl ?_
        refine L_y (y_assign rfl) rfl ?_
        refine L_nil ?_
        refine hK22 _ _ ?_
        refine T_ret ?_
        repeat (first | with_reducible refine up_then ?_ | with_reducible refine up_in ?_)
        refine ret1 rfl rfl ?_
        have hz := rR_zero (by omega) (by omega) (by omega) (no_hit hno)
        have he : ps = keepT la lb 0 0 := by rw [← hps, keep_end (by omega) (by omega), List.append_nil]
        exact ⟨_, rfl, S3.like0, _, _, _, rfl, by rw [← he]; exact S3.own 0 rfl⟩
      ·
        refine T_skip ?_
        refine hK20 _ _ ?_
        refine T_seq fun K23 hK23 => ?_
        refine T_region ?_
        refine L_y (y_move rfl) rfl ?_
        refine L_y (y_sub rfl rfl (i64w (by omega))) rfl ?_
        refine L_y (y_assign rfl) rfl ?_
        refine L_nil ?_
        refine hK23 _ _ ?_
        refine T_seq fun K24 hK24 => ?_
        refine T_region ?_
        refine L_y (y_move rfl) rfl ?_
        refine L_y (y_move rfl) rfl ?_
        refine L_y (y_nilp rfl) rfl ?_
        refine L_y (y_fieldA 0 Try.underlying107 rfl sz22 rfl rfl rfl) rfl ?_
        refine L_y (y_ldc Try.underlying22 rfl rfl (((S3.rdB hB).cell _).trans (show (#[Value.slice A n ca, .slice B m cb, .slice R nr cr, SS] : Array Value)[0]? = some (Value.slice A n ca) from rfl))) rfl ?_
        refine L_y (y_len Try.underlying22 rfl) rfl ?_
        refine L_y (y_lss rfl rfl) rfl ?_
        refine L_y (y_move rfl) rfl ?_
        refine L_split 63 rfl (fun h63 => ?_) (fun h63 => ?_)
        ·
          refine L_gyes rfl rfl ?_
          refine L_y (y_move rfl) rfl ?_
          refine L_gyes rfl rfl ?_
          refine L_y (y_move rfl) rfl ?_
          refine L_gyes rfl rfl ?_
          refine L_y (y_add rfl rfl (i64w (by omega))) rfl ?_
          refine L_gyes rfl rfl ?_
          refine L_y (y_move rfl) rfl ?_
          refine L_gyes rfl rfl ?_
          refine L_y (y_move rfl) rfl ?_
          refine L_gyes rfl rfl ?_
          refine L_o (o_call Try.func78 rfl rfl (fnear g A n ca B m cb la lb D i k (r - 1) ((r : Int) - 1) w3 (hf0.like S3.like0) (by omega) (by omega) (by omega) (by omega) (by omega) (by omega) hway (by omega) (by omega) ht) rfl rfl ?_)
          rintro e11 w11 ⟨v11, rfl, l11, rfl⟩
          refine ⟨_, rfl, ?_⟩
          have S11 := S3.like l11
          refine L_y ((by first | exact y_pickT rfl rfl | exact y_pickF rfl rfl)) rfl ?_
          refine L_nil ?_
          refine hK24 _ _ ?_
          refine T_condB rfl (fun h70 => ?_) (fun h70 => ?_)
          ·
            refine T_region ?_
            refine L_y (y_move rfl) rfl ?_
            refine L_y (y_add rfl rfl (i64w (by omega))) rfl ?_
            refine L_y (y_assign rfl) rfl ?_
            refine L_nil ?_
            have hm := of_decide_eq_true h70
            have hra := rR_a (la := la) (lb := lb) (by omega) hm
            refine ⟨i + 1, k, r - 1, A1, c1, ps, by omega, ⟨⟨by omega, by omega, by omega, by omega, by omega, by omega, by rw [← hps, keep_a hno ⟨by omega, hm⟩]⟩, S11⟩, ?_⟩
            exact (Sub.cons rfl (by first | rfl | exact congrArg (Value.int _) (by omega)) (Sub.cons rfl (by first | rfl | (rw [List.length_append]; rfl)) (Sub.cons rfl (by first | rfl | exact congrArg (Value.int _) (by omega)) (Sub.cons rfl (by first | rfl | exact congrArg (Value.int _) (by omega)) (Sub.cons rfl rfl (Sub.nil _))))))
          ·
            refine T_region ?_
            refine L_y (y_move rfl) rfl ?_
            refine L_y (y_add rfl rfl (i64w (by omega))) rfl ?_
            refine L_y (y_assign rfl) rfl ?_
            refine L_nil ?_
            have hm : ¬ (i < la.length ∧ rR la lb (i + 1) k < rR la lb i k) := fun h => of_decide_eq_false h70 h.2
            have hkl := k_lt hm (by omega) (by omega) (by omega)
            have hrb := rR_b hno hm hkl
            refine ⟨i, k + 1, r - 1, A1, c1, ps, by omega, ⟨⟨by omega, by omega, by omega, by omega, by omega, by omega, by rw [← hps, keep_b hno hm hkl]⟩, S11⟩, ?_⟩
            exact (Sub.cons rfl (by first | rfl | exact congrArg (Value.int _) (by omega)) (Sub.cons rfl (by first | rfl | (rw [List.length_append]; rfl)) (Sub.cons rfl (by first | rfl | exact congrArg (Value.int _) (by omega)) (Sub.cons rfl (by first | rfl | exact congrArg (Value.int _) (by omega)) (Sub.cons rfl rfl (Sub.nil _))))))
        ·
          refine L_gno rfl rfl rfl ?_
          refine L_gno rfl rfl rfl ?_
          refine L_gno rfl rfl rfl ?_
          refine L_gno rfl rfl rfl ?_
          refine L_gno rfl rfl rfl ?_
          refine L_gno rfl rfl rfl ?_
          refine L_y ((by first | exact y_pickT rfl rfl | exact y_pickF rfl rfl)) rfl ?_
          refine L_nil ?_
          refine hK24 _ _ ?_
          refine T_false rfl ?_
          refine T_region ?_
          refine L_y (y_move rfl) rfl ?_
          refine L_y (y_add rfl rfl (i64w (by omega))) rfl ?_
          refine L_y (y_assign rfl) rfl ?_
          refine L_nil ?_
          have hm : ¬ (i < la.length ∧ rR la lb (i + 1) k < rR la lb i k) := fun h => by omega
          have hkl := k_lt hm (by omega) (by omega) (by omega)
          have hrb := rR_b hno hm hkl
          refine ⟨i, k + 1, r - 1, A1, c1, ps, by omega, ⟨⟨by omega, by omega, by omega, by omega, by omega, by omega, by rw [← hps, keep_b hno hm hkl]⟩, S3⟩, ?_⟩
          exact (Sub.cons rfl (by first | rfl | exact congrArg (Value.int _) (by omega)) (Sub.cons rfl (by first | rfl | (rw [List.length_append]; rfl)) (Sub.cons rfl (by first | rfl | exact congrArg (Value.int _) (by omega)) (Sub.cons rfl (by first | rfl | exact congrArg (Value.int _) (by omega)) (Sub.cons rfl rfl (Sub.nil _))))))
end Go.Proofs.Ytbbmkgpgiacdeaa
