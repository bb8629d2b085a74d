import Derived.WalkKit
import Derived.WalkSpells
import Derived.WalkLawsBesides
import Derived.Deep.AppendLies
import Derived.Deep.Draws
import Derived.Deep.QuietTactic
import Derived.BigQuiet
import Derived.StillTailTactics
import Derived.Maps.AppendAt
import Derived.RegionTactic
import Derived.Lib.Hide
import Derived.Deep.RegionHeld3
import Derived.Deep.MidRow
import Derived.Handy
import Derived.Defers
import Derived.ProofKit
import Derived.OpenShut
import Derived.ShutString
import Derived.ChangeOld
import Derived.Below
import Derived.Deep.Slices
import Derived.Maps.RangeWalk
import Derived.Maps.OwnOps
import Derived.Maps.OwnSet
import Derived.ArgAppend
import Derived.Scope
import Derived.Test.YtpcgldkllnkaeaaRows
import Derived.Laws.StructEq

/-
  General laws for walks over byte rows, arrays and blocks. Nothing here names a program.
-/
namespace Go.Proofs.Ytpcgldkllnkaeaa.Zk
open Go.RowKit
set_option linter.unusedVariables false

theorem block_of_add (a : Addr) (n : Nat) : (a.add n).block = a.block := by unfold Addr.add; split <;> rfl
theorem add_of_add (a : Addr) (i j : Nat) : (a.add i).add j = a.add (i + j) := by
  unfold Addr.add
  by_cases hi : i = 0 <;> by_cases hj : j = 0 <;> simp [hi, hj, Nat.add_assoc]

def Reads (w : World) (B size : Nat) (A : Option Addr) (n : Nat) (xs : List Value) : Prop :=
  xs.length = n * size ∧ (0 < n → ∃ ad, A = some ad ∧ ad.block < B ∧ ∀ j u, xs[j]? = some u → w.cell? (ad.add j) = some u)

section
variable {w w' : World} {B B' size n : Nat} {A : Option Addr} {xs : List Value}
theorem Reads.none_ : Reads w B size A 0 [] := ⟨by simp, fun h => absurd h (by omega)⟩
theorem Reads.at_ {k : Nat} (h : Reads w B 1 A n xs) (hk : k < n) : ∃ ad u, A = some ad ∧ ad.block < B ∧ xs[k]? = some u ∧ w.cell? (ad.add k) = some u := by
  obtain ⟨ad, e, hb, hc⟩ := h.2 (by omega)
  have hl : k < xs.length := by have := h.1; omega
  exact ⟨ad, xs[k], e, hb, List.getElem?_eq_getElem hl, hc k _ (List.getElem?_eq_getElem hl)⟩
theorem Reads.keep (h : Reads w B size A n xs) (hk : ∀ p : Addr, p.block < B → w'.cell? p = w.cell? p) : Reads w' B size A n xs :=
  ⟨h.1, fun hn => by
    obtain ⟨ad, e, hb, hc⟩ := h.2 hn
    exact ⟨ad, e, hb, fun j u hu => (hk _ (by rw [block_of_add]; exact hb)).trans (hc j u hu)⟩⟩
theorem Reads.more (h : Reads w B size A n xs) (hB : B ≤ B') : Reads w B' size A n xs :=
  ⟨h.1, fun hn => by
    obtain ⟨ad, e, hb, hc⟩ := h.2 hn
    exact ⟨ad, e, by omega, hc⟩⟩
theorem Reads.below (h : Reads w B size A n xs) (hb : Below B w w') : Reads w' B size A n xs := h.keep fun _ hp => hb.cell hp
theorem Reads.drew (h : Reads w B size A n xs) : Reads w.drew B size A n xs := h
theorem Reads.alloc (h : Reads w B size A n xs) (hB : B ≤ w.heap.size) (o : Obj) : Reads (w.alloc o) B size A n xs := h.keep fun p hp => World.cell?_alloc_lt w o p (by omega)
theorem Reads.setCell (h : Reads w B size A n xs) {p : Addr} (hB : B ≤ p.block) (u : Value) : Reads (w.setCell p u) B size A n xs :=
  h.keep fun q hq => World.cell?_setCell_other w p q u (fun e => by subst e; omega)
theorem Reads.cut (h : Reads w B size A n xs) {k cap : Nat} (hk : k ≤ n) (hc : n ≤ cap) :
    Reads w B size (if cap = k then A else A.map (·.add (k * size))) (n - k) (xs.drop (k * size)) := by
  refine ⟨by rw [List.length_drop, h.1, Nat.sub_mul], fun hn => ?_⟩
  obtain ⟨ad, rfl, hb, hcell⟩ := h.2 (by omega)
  rw [if_neg (by omega)]
  refine ⟨ad.add (k * size), rfl, by rw [block_of_add]; exact hb, fun j u hu => ?_⟩
  rw [add_of_add]
  exact hcell _ u (by rw [← hu, List.getElem?_drop])
theorem Reads.of_own {base : Nat} {e : TypeId} {c : Nat} (h : w.ownsRow base e size (.slice A n c) n xs) : Reads w w.heap.size size A n xs := by
  refine ⟨h.1, fun hn => ?_⟩
  obtain ⟨g, cap, hv, _, hlt⟩ := h.form hn
  have hA : A = some ⟨g, 0, none⟩ := by injection hv
  subst hA
  exact ⟨_, rfl, hlt, h.cells (g := g) rfl⟩
end

def Blk (w : World) (g : Nat) (t : TypeId) (cs : Array Value) : Prop := w.heap[g]? = some (.cells cs t (0, 0))

section
variable {w w' : World} {g : Nat} {t : TypeId} {cs : Array Value}
theorem Blk.lt (h : Blk w g t cs) : g < w.heap.size := by
  rcases Nat.lt_or_ge g w.heap.size with hlt | hge
  · exact hlt
  · unfold Blk at h; rw [Array.getElem?_eq_none hge] at h; cases h
theorem Blk.cell (h : Blk w g t cs) (i : Nat) : w.cell? ⟨g, i, none⟩ = cs[i]? := cell_of_row w g i cs t (0, 0) h
theorem Blk.frozen (h : Blk w g t cs) (i : Nat) : w.frozen? ⟨g, i, none⟩ = false := by
  unfold Blk at h
  simp [World.frozen?, h]
theorem Blk.new (w : World) (t : TypeId) (cs : Array Value) : Blk (w.alloc (.cells cs t)) w.heap.size t cs := heap_alloc_new w _
theorem Blk.drew (h : Blk w g t cs) : Blk w.drew g t cs := h
theorem Blk.alloc (h : Blk w g t cs) (o : Obj) : Blk (w.alloc o) g t cs := (Below.heap_alloc w o g h.lt).trans h
theorem Blk.set_ (h : Blk w g t cs) (i : Nat) (u : Value) : Blk (w.setCell ⟨g, i, none⟩ u) g t (cs.setIfInBounds i u) := by
  unfold Blk at h ⊢
  simp [World.setCell, Array.getElem?_modify, h]
theorem Blk.far (h : Blk w g t cs) {p : Addr} (hp : g ≠ p.block) (u : Value) : Blk (w.setCell p u) g t cs := (Below.heap_setCell w p u g hp).trans h
theorem Blk.below {B : Nat} (h : Blk w g t cs) (hb : Below B w w') (hg : g < B) : Blk w' g t cs := (hb.block g hg).trans h
end

section
variable {P : Program} (w : World)

theorem run_append_of_nil (base : Nat) (t ty e : TypeId) (i : TypeInfo) (size : Nat) (ht : P.underlying t = some (.slice e)) (hi : P.info? e = some i)
    (v : Value) (n : Nat) (xs : List Value) (hown : w.ownsRow base e size v n xs) (c : Nat) : (Builtin.append_ #[t, t] ty #[v, .slice none 0 c]).run P w = .ok v w := by
  rcases hown.2 with ⟨rfl, rfl⟩ | ⟨g, cap, cur, rfl, _, _, hnc, _⟩
  · simp [Builtin.append_, run_underlying ht, sizeOf, typeInfo, hi, Builtin.lenOf, Builtin.firstCells]
  · simp [Builtin.append_, run_underlying ht, sizeOf, typeInfo, hi, Builtin.lenOf, Builtin.firstCells, hnc, storeCells]

theorem run_append_any (base : Nat) (t ty e : TypeId) (i : TypeInfo) (z : Value) (size bytes : Nat) (ht : P.underlying t = some (.slice e)) (hi : P.info? e = some i) (hz : i.zero = some z)
    (hsize : i.size = size) (hby : i.bytes = bytes) (hzs : z.cells.size = size) (hsz : 0 < size)
    (v : Value) (n : Nat) (xs : List Value) (hown : w.ownsRow base e size v n xs)
    (B : Nat) (A : Option Addr) (m c : Nat) (news : List Value) (hr : Reads w B size A m news) (h1 : ∀ u ∈ news, u.oneCell' = true)
    (h63 : n + m ≤ maxLen) (hbytes : (n + m) * bytes ≤ 140737488355328) (hbase : base ≤ w.heap.size) :
    ∃ v' w', (Builtin.append_ #[t, t] ty #[v, .slice A m c]).run P w = .ok v' w' ∧ w'.ownsRow base e size v' (n + m) (xs ++ news) ∧ w.grownBy w' v.ownBlock ∧
      (v'.ownBlock = v.ownBlock ∨ v'.ownBlock = some w.heap.size) := by
  rcases A with _ | ad
  · have hm : m = 0 := by
      rcases Nat.eq_zero_or_pos m with h0 | h0
      · exact h0
      · obtain ⟨ad, h, _⟩ := hr.2 h0
        cases h
    subst hm
    have hn : news = [] := List.eq_nil_of_length_eq_zero (by simpa using hr.1)
    subst hn
    exact ⟨v, w, run_append_of_nil w base t ty e i size ht hi v n xs hown c, by simpa using hown, World.grownBy.refl w _, .inl rfl⟩
  · have hcells : ∀ j u, news[j]? = some u → w.cell? (ad.add j) = some u := by
      intro j u hu
      rcases Nat.eq_zero_or_pos m with h0 | h0
      · subst h0
        have hn : news = [] := List.eq_nil_of_length_eq_zero (by simpa using hr.1)
        subst hn
        simp at hu
      · obtain ⟨ad', h, _, hc⟩ := hr.2 h0
        injection h with h
        subst h
        exact hc j u hu
    obtain ⟨v', w', hrun, h2, h3, _, h5⟩ := run_append_own_at (P := P) w base t ty e i z size bytes ht hi hz hsize hby hzs hsz v n xs hown ad m c news hr.1 hcells h1 h63 hbytes hbase
    exact ⟨v', w', hrun, h2, h3, h5⟩

theorem wp_append_any {o : Oper} {a : Act} {K : Act → World → Prop} {Q : Exit → Act → World → Prop} (s x : Operand) (t : TypeId)
    (ho : o.op = .call { callee := .builtin .append, args := #[s, x], argTypes := #[t, t] })
    (base : Nat) (e : TypeId) (i : TypeInfo) (z : Value) (size bytes : Nat) (ht : P.underlying t = some (.slice e)) (hi : P.info? e = some i) (hz : i.zero = some z)
    (hsize : i.size = size) (hby : i.bytes = bytes) (hzs : z.cells.size = size) (hsz : 0 < size)
    (v : Value) (n : Nat) (xs : List Value) (hs : a.eval s = v) (hown : w.ownsRow base e size v n xs)
    (B : Nat) (A : Option Addr) (m c : Nat) (news : List Value) (hx : a.eval x = .slice A m c) (hr : Reads w B size A m news) (h1 : ∀ u ∈ news, u.oneCell' = true)
    (h63 : n + m ≤ maxLen) (hbytes : (n + m) * bytes ≤ 140737488355328) (hbase : base ≤ w.heap.size)
    (h : ∀ v' w', w'.ownsRow base e size v' (n + m) (xs ++ news) → w.grownBy w' v.ownBlock → (v'.ownBlock = v.ownBlock ∨ v'.ownBlock = some w.heap.size) → K (a.put o.dst v') w') : o.wp P a w K Q := by
  obtain ⟨v', w', hrun, h2, h3, h4⟩ := run_append_any (P := P) w base t o.type e i z size bytes ht hi hz hsize hby hzs hsz v n xs hown B A m c news hr h1 h63 hbytes hbase
  unfold Oper.wp execOp
  simp only [ho, resolve, invoke, builtin, Sem.run_bind, Sem.run_pure, Result.andThen_ok, List.map_toArray, List.map_cons, List.map_nil, hs, hx, hrun]
  exact h v' w' h2 h3 h4

end

/-! ### bytes -/
theorem size_toList (s : ByteArray) : s.data.toList.length = s.size := rfl
/-- A byte as a value. -/
def bV (c : UInt8) : Value := .int .u8 (c.toNat : Int)
/-- A row of bytes as values. -/
def bL (l : List UInt8) : List Value := l.map bV
/-- The same as an array of values. -/
def bA (l : List UInt8) : Array Value := (bL l).toArray
@[simp] theorem length_bL (l : List UInt8) : (bL l).length = l.length := by simp [bL]
@[simp] theorem size_bA (l : List UInt8) : (bA l).size = l.length := by simp [bA]
theorem bL_get (l : List UInt8) (k : Nat) (c : UInt8) (h : l[k]? = some c) : (bL l)[k]? = some (.int .u8 (c.toNat : Int)) := by simp [bL, h, bV]
theorem bA_get (l : List UInt8) (k : Nat) (c : UInt8) (h : l[k]? = some c) : (bA l)[k]? = some (.int .u8 (c.toNat : Int)) := by simp [bA, bL, h, bV]
theorem bL_one (l : List UInt8) : ∀ u ∈ bL l, u.oneCell' = true := by
  intro u hu
  simp only [bL, List.mem_map] at hu
  obtain ⟨c, _, rfl⟩ := hu
  rfl
/-! ### laws at an operation -/
section
variable {P : Program}
end

section
variable {P : Program}
end

section
variable {P : Program}
/-- 'string(b)' of a slice that reads as the bytes l, nil let in. -/
theorem run_conv_reads {w : World} {src dst e : TypeId} {B : Nat} {A : Option Addr} {n : Nat} (c : Nat) {l : List UInt8} (hs : P.underlying src = some (.slice e)) (he : P.underlying e = some (.int .u8)) (hd : P.underlying dst = some .string)
    (hr : Reads w B 1 A n (bL l)) : (convert src dst (.slice A n c)).run P w = .ok (.string ⟨l.toArray⟩) w := by
  have hn : n = l.length := by have := hr.1; simp at this; omega
  subst hn
  rcases A with _ | ad
  · have hl : l = [] := by
      rcases l with _ | ⟨x, l⟩
      · rfl
      · obtain ⟨ad, h, _⟩ := hr.2 (by simp)
        cases h
    subst hl
    rw [run_convert_bytes_string w src dst e none _ c hs he hd]
    simp [Conv.bytesToString]
    rfl
  · refine run_convert_bytes_back w src dst e ad c l hs he hd fun j hj => ?_
    obtain ⟨ad', h, _, hc⟩ := hr.2 (by omega)
    cases h
    exact hc j _ (bL_get l j _ (List.getElem?_eq_getElem hj))
end

section
variable {P : Program} {w : World}
/-- A store of an array or struct into a known block, at any place in it. -/
theorem wp_stB {o : Oper} {a : Act} {K : Act → World → Prop} {Q : Exit → Act → World → Prop} (ty : TypeId) (x y : Operand) (ho : o.op = .store ty x y)
    (g off : Nat) (hx : a.eval x = .pointer (some ⟨g, off, none⟩)) (vs : Array Value) (hy : a.eval y = .agg vs) (t : TypeId) (cs : Array Value) (hb : Blk w g t cs)
    (hi : (P.info? ty).map (·.size) = some vs.size) (hl : off + vs.size ≤ cs.size) (h1 : ∀ u ∈ vs.toList, u.oneCell' = true)
    (h : ∀ w', Blk w' g t (cs.toList.take off ++ vs.toList ++ cs.toList.drop (off + vs.size)).toArray → w.grownBy w' (some g) → K (a.put o.dst undef) w') : o.wp P a w K Q := by
  unfold Oper.wp execOp
  have hr := run_storeCells_at (P := P) g off t vs.toList 0 cs w hb (by simpa using hl) h1
  cases hq : P.info? ty with
  | none => simp [hq] at hi
  | some i =>
    have hs : vs.size = i.size := by simp [hq] at hi; omega
    have hsv : (storeVar ty ⟨g, off, none⟩ (.agg vs)).run P w = .ok () (w.setRow g (cs.toList.take off ++ vs.toList ++ cs.toList.drop (off + vs.size)).toArray) := by
      simp only [storeVar, sizeOf, typeInfo, Value.cells, Sem.run_bind]
      simp only [Nat.add_zero, Array.length_toList] at hr
      simp [hq, hs, hr]
    simp only [ho, hx, hy, Instr.storeAt, Instr.sureAddr, Sem.run_bind, Sem.run_pure, Result.andThen_ok, hsv]
    refine h _ (setRow_heap w g cs _ t _ hb) ⟨rfl, rfl, rfl, by simp, fun k hk hne => setRow_other w g k _ (fun e => hne (by rw [e]))⟩
/-- 'alloc' of a variable of many cells: its zero. -/
theorem wp_alB {o : Oper} {a : Act} {K : Act → World → Prop} {Q : Exit → Act → World → Prop} (ty : TypeId) (ho : o.op = .alloc ty) (z : Value) (hz : ∀ W, (zeroValue ty).run P W = .ok z W)
    (h : ∀ w', Blk w' w.heap.size ty z.cells → w.grownBy w' none → K (a.put o.dst (.pointer (some ⟨w.heap.size, 0, none⟩))) w') : o.wp P a w K Q := by
  unfold Oper.wp execOp
  simp only [ho, Instr.alloc, Sem.run_bind, hz, Result.andThen_ok, newVar, newRow, Sem.run_pure, run_newObj_alloc]
  exact h _ (Blk.new w ty z.cells) (World.grownBy_alloc _ _ _)
/-- 'box' of a value of many cells. -/
theorem wp_bxB {o : Oper} {a : Act} {K : Act → World → Prop} {Q : Exit → Act → World → Prop} (ty : TypeId) (x : Operand) (ho : o.op = .box ty x) (vs : Array Value) (hx : a.eval x = .agg vs)
    (h : ∀ w', Blk w' w.heap.size ty vs → w.grownBy w' none → K (a.put o.dst (.pointer (some ⟨w.heap.size, 0, none⟩))) w') : o.wp P a w K Q := by
  unfold Oper.wp execOp
  simp only [ho, Instr.box, hx, Sem.run_bind, newVar, newRow, Sem.run_pure, run_newObj_alloc, Value.cells, Result.andThen_ok]
  exact h _ (Blk.new w ty vs) (World.grownBy_alloc _ _ _)
end

section
variable {P : Program} {w : World}
theorem run_loadB {t ty : TypeId} {cs : Array Value} {g : Nat} (hb : Blk w g t cs) (d : TypeDesc) (hu : P.underlying ty = some d) (hd : d.isRow = true) (hi : (P.info? ty).map (·.size) = some cs.size) :
    (loadVar ty ⟨g, 0, none⟩).run P w = .ok (.agg cs) w :=
  run_loadVar_mid w g 0 ty cs.toList d (fun j v hj => by rw [hb.cell]; simpa using hj) hu hd (by simpa using hi)
theorem resB_t {fn : Func} {p q : Tmp} {ty : TypeId} (h : fn.results = #[.cell p ty, .tmp q]) (tmps : Array Value) {g : Nat} {t : TypeId} {cs : Array Value}
    (hp : tmps.getD p undef = .pointer (some ⟨g, 0, none⟩)) (hb : Blk w g t cs) (d : TypeDesc) (hu : P.underlying ty = some d) (hd : d.isRow = true) (hi : (P.info? ty).map (·.size) = some cs.size) :
    (results fn tmps).run P w = .ok (.tuple #[.agg cs, tmps.getD q undef]) w := by
  have hp' : tmps[p]?.getD undef = .pointer (some ⟨g, 0, none⟩) := by simpa using hp
  simp [results, h, hp', asAddr, run_loadB hb d hu hd hi]
theorem resB {fn : Func} {p : Tmp} {ty : TypeId} (h : fn.results = #[.cell p ty]) (tmps : Array Value) {g : Nat} {t : TypeId} {cs : Array Value}
    (hp : tmps.getD p undef = .pointer (some ⟨g, 0, none⟩)) (hb : Blk w g t cs) (d : TypeDesc) (hu : P.underlying ty = some d) (hd : d.isRow = true) (hi : (P.info? ty).map (·.size) = some cs.size) :
    (results fn tmps).run P w = .ok (.agg cs) w := by
  have hp' : tmps[p]?.getD undef = .pointer (some ⟨g, 0, none⟩) := by simpa using hp
  simp [results, h, hp', asAddr, run_loadB hb d hu hd hi]
end

section
variable {P : Program}
end

/-! ### slices: one bundle for the element's type -/
/-- T: a slice type t, its element's type e with zero z, so many cells and bytes. -/
structure Elem (P : Program) (t e : TypeId) (z : Value) (size bytes : Nat) : Prop where
  ht : P.underlying t = some (.slice e)
  hi : (P.info? e).map (fun i => (i.zero, i.size, i.bytes)) = some (some z, size, bytes)
  hzs : z.cells.size = size
  hsz : 0 < size
theorem own_form {w : World} {base : Nat} {e : TypeId} {size n : Nat} {v : Value} {xs : List Value} (h : w.ownsRow base e size v n xs) : ∃ A c, v = .slice A n c := by
  rcases h.2 with ⟨rfl, rfl⟩ | ⟨g, cap, cur, rfl, _⟩
  · exact ⟨none, 0, rfl⟩
  · exact ⟨_, _, rfl⟩
section
variable {P : Program} {t e : TypeId} {z : Value} {size bytes : Nat}
/-- append: onto a row of the call's own, from whatever reads. -/
theorem wp_app (w : World) {o : Oper} {a : Act} {K : Act → World → Prop} {Q : Exit → Act → World → Prop} (T : Elem P t e z size bytes) (s x : Operand)
    (ho : o.op = .call { callee := .builtin .append, args := #[s, x], argTypes := #[t, t] })
    (base : Nat) {A : Option Addr} {n c : Nat} {xs : List Value} (hs : a.eval s = .slice A n c) (hown : w.ownsRow base e size (.slice A n c) n xs)
    {B : Nat} {A' : Option Addr} {m c' : Nat} {news : List Value} (hx : a.eval x = .slice A' m c') (hr : Reads w B size A' m news) (h1 : ∀ u ∈ news, u.oneCell' = true)
    (h63 : n + m ≤ maxLen) (hbytes : (n + m) * bytes ≤ 140737488355328) (hbase : base ≤ w.heap.size)
    (h : ∀ A2 c2 w', w'.ownsRow base e size (.slice A2 (n + m) c2) (n + m) (xs ++ news) → w.grownBy w' (Value.slice A n c).ownBlock → ((Value.slice A2 (n + m) c2).ownBlock = (Value.slice A n c).ownBlock ∨ (Value.slice A2 (n + m) c2).ownBlock = some w.heap.size) → K (a.put o.dst (.slice A2 (n + m) c2)) w') : o.wp P a w K Q := by
  obtain ⟨i, hi, hz, hsize, hby⟩ := info_parts T.hi
  refine wp_append_any w s x t ho base e i z size bytes T.ht hi hz hsize hby T.hzs T.hsz _ n xs hs hown B A' m c' news hx hr h1 h63 hbytes hbase fun v' w' h2 h3 h4 => ?_
  obtain ⟨A2, c2, rfl⟩ := own_form h2
  exact h A2 c2 w' h2 h3 h4
end
/-- ints as values -/
def iL (l : List Int) : List Value := l.map (Value.int .i64)
@[simp] theorem length_iL (l : List Int) : (iL l).length = l.length := by simp [iL]
section
variable {P : Program}
end
/-- A part of a known block reads. -/
theorem Blk.reads {w : World} {g : Nat} {t : TypeId} {cs : Array Value} (h : Blk w g t cs) (off m : Nat) (hm : off + m ≤ cs.size) : Reads w (g + 1) 1 (some ⟨g, off, none⟩) m ((cs.toList.drop off).take m) :=
  ⟨by simp; omega, fun _ => ⟨_, rfl, by simp, fun j u hu => by
    rw [Addr.add_mid, h.cell]
    rw [List.getElem?_take] at hu
    split at hu
    · rw [List.getElem?_drop] at hu
      simpa using hu
    · cases hu⟩⟩

end Go.Proofs.Ytpcgldkllnkaeaa.Zk


/-
  General laws, second part: '==' on arrays.
-/
namespace Go.Proofs.Ytpcgldkllnkaeaa.Zk
open Go.RowKit
set_option linter.unusedVariables false

section
variable {P : Program}
theorem run_equalIn_arr' (w : World) (d : Nat) {t e : TypeId} {n : Nat} {k : IntKind} (ht : P.underlying t = some (.array n e)) (d0 : TypeDesc) (he : P.underlying e = some d0) (hd : d0.isRow = false) (hs : (P.info? e).map (·.size) = some 1)
    (xs ys : Array Value) (f g : Nat → Int) (hx : ∀ i, i < n → xs[i]? = some (.int k (f i))) (hy : ∀ i, i < n → ys[i]? = some (.int k (g i)))
    (H : ∀ a b, (Op.equalIn d e (.int k a) (.int k b)).run P w = .ok (a == b) w) :
    (Op.equalIn (d + 1) t (.agg xs) (.agg ys)).run P w = .ok ((List.range n).all fun i => f i == g i) w := by
  cases hq : P.info? e with
  | none => simp [hq] at hs
  | some ie =>
    have h1 : ie.size = 1 := by simpa [hq] using hs
    have hagg : (isAgg e).run P w = .ok false w := by
      unfold isAgg
      rw [Sem.run_bind, run_underlying he w]
      cases d0 <;> simp_all [TypeDesc.isRow]
    have hsz : (sizeOf e).run P w = .ok 1 w := by simp [sizeOf, typeInfo, hq, h1]
    have hpx : ∀ i, i < n → (part e xs i).run P w = .ok (.int k (f i)) w := fun i hi => by simp [part, Sem.run_bind, hagg, hx i hi]
    have hpy : ∀ i, i < n → (part e ys i).run P w = .ok (.int k (g i)) w := fun i hi => by simp [part, Sem.run_bind, hagg, hy i hi]
    simp only [Op.equalIn, Sem.run_bind, run_underlying ht, Result.andThen_ok, hsz, Std.Legacy.Range.forIn_eq_forIn_range']
    have hr : [:n].size = n := by simp [Std.Legacy.Range.size]
    rw [hr]
    have key : ∀ (m s : Nat), s + m = n → (forIn (List.range' s m) ((none, ()) : Option Bool × Unit) fun i __s => do
              let __do_lift ← part e xs (i * 1)
              let __do_lift_1 ← part e ys (i * 1)
              let __do_lift ← Op.equalIn d e __do_lift __do_lift_1
              if (!__do_lift) = true then pure (ForInStep.done (some false, ())) else pure (ForInStep.yield (none, ())) : Sem (Option Bool × Unit)).run P w =
        .ok (if (List.range' s m).all (fun i => f i == g i) = true then none else some false, ()) w := by
      intro m
      induction m with
      | zero =>
        intro s hs
        simp
      | succ m ih =>
        intro s hs
        simp only [List.range'_succ, List.forIn_cons, Sem.run_bind, Nat.mul_one, hpx s (by omega), hpy s (by omega), Result.andThen_ok, H]
        by_cases hfg : f s = g s
        · simp only [hfg, beq_self_eq_true, Bool.not_true, Bool.false_eq_true, if_false, Sem.run_pure, Result.andThen_ok]
          have := ih (s + 1) (by omega)
          simp only [Nat.mul_one] at this
          rw [this]
          simp only [List.all_cons, hfg, beq_self_eq_true, Bool.true_and]
        · have hb : (f s == g s) = false := by simpa using hfg
          simp only [hb, Bool.not_false, if_true, Sem.run_pure, Result.andThen_ok, List.all_cons, Bool.false_and, Bool.false_eq_true, if_false]
    rw [List.range_eq_range']
    rw [key n 0 (by omega)]
    simp only [Result.andThen_ok]
    cases hall : (List.range' 0 n).all fun i => f i == g i <;> simp
/-- '==' on bytes in arrays. -/
theorem all_bytes (a b : List UInt8) (n : Nat) (ha : a.length = n) (hb : b.length = n) :
    ((List.range n).all fun i => (((a.getD i 0).toNat : Int)) == ((b.getD i 0).toNat : Int)) = (a == b) := by
  rw [Bool.eq_iff_iff, List.all_eq_true, beq_iff_eq]
  constructor
  · intro h
    apply List.ext_getElem (by omega)
    intro i h1 h2
    have := h i (by simp; omega)
    simp only [beq_iff_eq, List.getD_eq_getElem?_getD, List.getElem?_eq_getElem h1, List.getElem?_eq_getElem h2, Option.getD_some] at this
    exact UInt8.toNat_inj.1 (by omega)
  · rintro rfl i _
    simp
theorem run_equalIn_bytes (w : World) (d : Nat) {t e : TypeId} {n : Nat} (ht : P.underlying t = some (.array n e)) (he : P.underlying e = some (.int .u8)) (hs : (P.info? e).map (·.size) = some 1)
    (a b : List UInt8) (ha : a.length = n) (hb : b.length = n) (xs ys : Array Value) (hx : ∀ (i : Nat) (c : UInt8), a[i]? = some c → xs[i]? = some (Value.int .u8 (c.toNat : Int))) (hy : ∀ (i : Nat) (c : UInt8), b[i]? = some c → ys[i]? = some (Value.int .u8 (c.toNat : Int))) :
    (Op.equalIn (d + 2) t (.agg xs) (.agg ys)).run P w = .ok (a == b) w := by
  have get : ∀ (l : List UInt8) i, i < n → l.length = n → l[i]? = some (l.getD i 0) := by
    intro l i hi hl
    rw [List.getD_eq_getElem?_getD, List.getElem?_eq_getElem (by omega)]
    rfl
  rw [run_equalIn_arr' w (d + 1) ht _ he rfl hs xs ys (fun i => ((a.getD i 0).toNat : Int)) (fun i => ((b.getD i 0).toNat : Int)) (fun i hi => hx i _ (get a i hi ha)) (fun i hi => hy i _ (get b i hi hb))
    (fun x y => run_equalIn_int w d e .u8 .u8 x y he), all_bytes a b n ha hb]
end

theorem fold_set : ∀ (vs : List Value) (k off : Nat) (cs : Array Value), off + k + vs.length ≤ cs.size →
    (vs.zipIdx k).foldl (fun cs (p : Value × Nat) => cs.setIfInBounds (off + p.2) p.1) cs = (cs.toList.take (off + k) ++ vs ++ cs.toList.drop (off + k + vs.length)).toArray
  | [], k, off, cs, _ => by simp
  | v :: vs, k, off, cs, h => by
    have hk : off + k < cs.size := by simp at h; omega
    rw [List.zipIdx_cons, List.foldl_cons, fold_set vs (k + 1) off _ (by simp at h ⊢; omega)]
    congr 1
    simp only [Array.toList_setIfInBounds]
    have e1 : off + (k + 1) = (off + k) + 1 := by omega
    rw [e1, List.take_set, List.drop_set, if_pos (by omega)]
    have e2 : (List.take (off + k + 1) cs.toList).set (off + k) v = List.take (off + k) cs.toList ++ [v] := by
      rw [List.take_succ_eq_append_getElem (by simpa using hk), List.set_append_right _ _ (by simp; omega)]
      simp
      have : min (off + k) cs.size = off + k := by omega
      simp [this]
    rw [e2]
    simp
    congr 1
    omega
/-- 'build' of a part into a row of zeros. -/
theorem fill_part (place : Nat → Option (Nat × Nat)) (cells : Array Value) (i off size : Nat) (vs : Array Value) (v : Value) (hv : v.cells = vs) (rest : List (Nat × Value)) (hp : place i = some (off, size)) (hs : vs.size = size) (hl : off + size ≤ cells.size) :
    Instr.fill place cells ((i, v) :: rest) = Instr.fill place (cells.toList.take off ++ vs.toList ++ cells.toList.drop (off + size)).toArray rest := by
  have e : vs.zipIdx.foldl (fun cs (c, j) => cs.setIfInBounds (off + j) c) cells = (cells.toList.take off ++ vs.toList ++ cells.toList.drop (off + size)).toArray := by
    have := fold_set vs.toList 0 off cells (by simp; omega)
    simp only [Nat.add_zero, Array.length_toList, hs] at this
    rw [← this, ← Array.foldl_toList]
    simp
  rw [← e]
  conv => lhs; unfold Instr.fill
  simp only [hp, hv]
  rw [if_neg (by simp [hs]; omega)]

theorem Blk.range {w : World} {g : Nat} {t : TypeId} {cs : Array Value} (h : Blk w g t cs) : w.rangeAt g 0 cs.toList := fun j v hj => by
  rw [h.cell]
  simpa using hj
/-! ### a region that draws its order, reads old memory, and calls what makes memory of its own -/
/-- The worlds that are as w was below w's own blocks. -/
def Ext (w : World) : Type := { w' : World // Below w.heap.size w w' }
instance (w : World) : Inhabited (Ext w) := ⟨⟨w, Below.refl _ _⟩⟩
def ext (w : World) (x : Ext w) : World := x.1
section
variable {P : Program}
end
section
variable {P : Program}
end
section
variable {P : Program} {w : World}
end
end Go.Proofs.Ytpcgldkllnkaeaa.Zk


/-
  General laws, third part: which operation stands next? (So that a law is tried there alone.)
-/
namespace Go.Proofs.Ytpcgldkllnkaeaa.Zk
open Go.RowKit
set_option linter.unusedVariables false

end Go.Proofs.Ytpcgldkllnkaeaa.Zk


/-
  A walk over an association list: the frame is known only at the slots that matter. General; nothing here names a program.
-/
namespace Go.Proofs.Ytpcgldkllnkaeaa.Zx
open Go.RowKit Zk
set_option linter.unusedVariables false
set_option linter.unusedSimpArgs false

abbrev Env := List (Nat × Value)
def look : Env → Nat → Option Value
  | [], _ => none
  | (i, v) :: r, n => bif Nat.beq i n then (bif Nat.beq i 1000000 then none else some v) else look r n
def ev (e : Env) : Operand → Option Value
  | .tmp t => look e t
  | .const v => some v
  | .func f => some (.func (.func f) #[] #[])
  | .global g => some (.pointer (some ⟨g, 0, none⟩))

/-- The calls that wait for the end stand in a place of their own, behind all slots. -/
def decD : Value → Deferred
  | .agg #[.int _ f, .agg xs] => ⟨.fn (.func f.toNat) #[], xs⟩
  | .agg #[.int _ f, .agg xs, .agg cs] => ⟨.fn (.func f.toNat) cs, xs⟩
  | .agg #[.int _ r] => ⟨.collected r.toNat, #[]⟩
  | _ => default
def decL : Value → List Deferred
  | .agg xs => xs.toList.map decD
  | _ => []
def dfs : Env → List Deferred
  | [] => []
  | (i, v) :: r => bif Nat.beq i 1000000 then decL v else dfs r
theorem look_none : ∀ e : Env, look e 1000000 = none
  | [] => rfl
  | (i, u) :: r => by
    simp only [look]
    cases hb : Nat.beq i 1000000 with
    | true => rfl
    | false => exact look_none r
theorem dfs_app : ∀ (e1 e2 : Env), dfs (e1 ++ e2) = dfs e1 ∨ dfs (e1 ++ e2) = dfs e2
  | [], e2 => .inr rfl
  | (i, u) :: r, e2 => by
    simp only [List.cons_append, dfs]
    cases Nat.beq i 1000000 with
    | true => exact .inl rfl
    | false => exact dfs_app r e2
theorem dfs_put (e : Env) (d : Nat) (v : Value) (h : d < 1000000) : dfs ((d, v) :: e) = dfs e := by
  have : Nat.beq d 1000000 = false := by
    cases hb : Nat.beq d 1000000 with
    | true => have : d = 1000000 := by simpa using hb
              omega
    | false => rfl
  simp only [dfs, this, cond_false]

structure Fits (N : Nat) (e : Env) (a : Act) : Prop where
  defers : a.defers = dfs e
  small : N ≤ 1000000
  size : a.tmps.size = N
  vals : ∀ i v, look e i = some v → a.tmps[i]? = some v

theorem Fits.eval {N : Nat} {e : Env} {a : Act} (h : Fits N e a) {x : Operand} {v : Value} (hx : ev e x = some v) : a.eval x = v := by
  cases x with
  | tmp t =>
    have := h.vals t v hx
    simp [Act.eval, this]
  | const c => simpa [ev, Act.eval] using hx
  | func f => simpa [ev, Act.eval] using hx
  | global g => simpa [ev, Act.eval] using hx

theorem Fits.put {N : Nat} {e : Env} {a : Act} (h : Fits N e a) (d : Nat) (v : Value) (hd : Nat.blt d N = true) : Fits N ((d, v) :: e) (a.put (some d) v) := by
  have hd' : d < N := by simpa using hd
  refine ⟨by rw [dfs_put _ _ _ (Nat.lt_of_lt_of_le hd' h.small)]; exact h.defers, h.small, by simp [Act.put, h.size], fun i u hu => ?_⟩
  simp only [look] at hu
  by_cases hi : d = i
  · subst hi
    have : Nat.beq d d = true := by simp
    have hk : Nat.beq d 1000000 = false := by
      cases hb : Nat.beq d 1000000 with
      | true =>
        have h3 : d = 1000000 := by simpa using hb
        have := h.small
        omega
      | false => rfl
    rw [this, hk] at hu
    simp only [cond_true, cond_false, Option.some.injEq] at hu
    subst hu
    simp [Act.put, h.size, hd']
  · have : Nat.beq d i = false := by
      cases hb : Nat.beq d i with
      | true => exact absurd (by simpa using hb) hi
      | false => rfl
    rw [this] at hu
    simp only [cond_false] at hu
    simp only [Act.put]
    rw [Array.getElem?_setIfInBounds_ne hi]
    exact h.vals i u hu

/-- e' is known of whatever e is known of. -/
def Sub (e' e : Env) : Prop := dfs e' = dfs e ∧ ∀ i v, look e' i = some v → look e i = some v
theorem Sub.refl (e : Env) : Sub e e := ⟨rfl, fun _ _ h => h⟩
theorem Sub.nil (e : Env) (hd : dfs e = [] := by rfl) : Sub [] e := ⟨hd.symm, fun _ _ h => by cases h⟩
theorem Sub.cons {e' e : Env} {i : Nat} {v u : Value} (h : look e i = some u) (hv : u = v) (hs : Sub e' e) : Sub ((i, v) :: e') e := by
  subst hv
  refine ⟨?_, ?_⟩
  · simp only [dfs]
    cases hb : Nat.beq i 1000000 with
    | true =>
      have : i = 1000000 := by simpa using hb
      subst this
      rw [look_none] at h
      cases h
    | false => exact hs.1
  intro j w hj
  simp only [look] at hj
  cases hb : Nat.beq i j with
  | true =>
    rw [hb] at hj
    have : i = j := by simpa using hb
    subst this
    cases hc : Nat.beq i 1000000 with
    | true =>
      rw [hc] at hj
      cases hj
    | false =>
      rw [hc] at hj
      simp only [cond_true, cond_false] at hj
      rw [h, hj]
  | false =>
    rw [hb] at hj
    exact hs.2 j w hj
theorem look_app (e1 e2 : Env) (i : Nat) : look (e1 ++ e2) i = (look e1 i).or (look e2 i) := by
  induction e1 with
  | nil => simp [look]
  | cons p e1 ih =>
    obtain ⟨j, v⟩ := p
    simp only [List.cons_append, look]
    cases hb : Nat.beq j i with
    | true =>
      have h1 : j = i := by simpa using hb
      subst h1
      cases hc : Nat.beq j 1000000 with
      | true =>
        have h2 : j = 1000000 := by simpa using hc
        subst h2
        simp [look_none]
      | false => simp
    | false => simpa using ih
theorem Sub.app {e1 e2 e : Env} (h1 : Sub e1 e) (h2 : Sub e2 e) : Sub (e1 ++ e2) e := ⟨(dfs_app e1 e2).elim (fun h => h.trans h1.1) (fun h => h.trans h2.1), fun i v h => by
  rw [look_app] at h
  cases hl : look e1 i with
  | none => rw [hl] at h; exact h2.2 i v (by simpa using h)
  | some u => rw [hl] at h; simp only [Option.some_or] at h; exact h1.2 i v (by rw [hl, h])⟩
theorem Fits.sub {N : Nat} {e e' : Env} {a : Act} (h : Fits N e a) (hs : Sub e' e) : Fits N e' a := ⟨h.defers.trans hs.1.symm, h.small, h.size, fun i v hv => h.vals i v (hs.2 i v hv)⟩

abbrev Post := Exit → Env → World → Prop
def lift (N : Nat) (Q : Post) : Exit → Act → World → Prop
  | .outgrown, _, _ => False
  | e, a, w => ∃ env, Fits N env a ∧ Q e env w
def thenQ (K : Env → World → Prop) (Q : Post) : Post
  | .normal, e, w => K e w
  | x, e, w => Q x e w
def inB (id : Nat) (Q : Post) : Post
  | .exit i, e, w => if i = id then Q .normal e w else Q (.exit i) e w
  | x, e, w => Q x e w

/-- What a return is asked, behind the ways that it goes through. -/
class RetP (Q : Post) (Q0 : outParam Post) : Prop where
  ret : ∀ env w, Q0 .ret env w → Q .ret env w
instance (Q : Post) : RetP Q Q := ⟨fun _ _ h => h⟩
instance (K : Env → World → Prop) (Q Q0 : Post) [h : RetP Q Q0] : RetP (thenQ K Q) Q0 := ⟨h.ret⟩
instance (id : Nat) (Q Q0 : Post) [h : RetP Q Q0] : RetP (inB id Q) Q0 := ⟨h.ret⟩
theorem ur {Q Q0 : Post} [h : RetP Q Q0] {env : Env} {w : World} (hq : Q0 .ret env w) : Q .ret env w := h.ret env w hq

section
variable {P : Program} {N : Nat} {Q : Post} {env : Env} {w : World}
def T (P : Program) (N : Nat) (c : Code) (Q : Post) (env : Env) (w : World) : Prop := ∀ a, Fits N env a → c.wp P (lift N Q) a w

theorem T_weak {c : Code} {env' : Env} (hs : Sub env' env) (h : T P N c Q env' w) : T P N c Q env w := fun a ha => h a (ha.sub hs)
theorem T_seq {x y : Code} (h : ∀ K : Env → World → Prop, (∀ e w, T P N y Q e w → K e w) → T P N x (thenQ K Q) env w) : T P N (.seq x y) Q env w := fun a ha =>
  wp_seq (Code.wp_mono (by
    intro e a w h
    cases e with
    | normal =>
      obtain ⟨e', h1, h2⟩ := h
      exact h2 a h1
    | panic c => exact h
    | outgrown => exact h.elim
    | exit i => exact h
    | goto l => exact h
    | ret => exact h) (h (fun e w => T P N y Q e w) (fun _ _ h => h) a ha))
/-- What behind the end is asked may be less. -/
theorem T_mono {c : Code} {R R' : Env → World → Prop} (hr : ∀ e w, R e w → R' e w) (h : T P N c (thenQ R Q) env w) : T P N c (thenQ R' Q) env w := fun a ha => Code.wp_mono (by
    intro e a w h
    cases e with
    | normal =>
      obtain ⟨e', h3, h4⟩ := h
      exact ⟨e', h3, hr _ _ h4⟩
    | panic c => exact h
    | outgrown => exact h.elim
    | exit i => exact h
    | goto l => exact h
    | ret => exact h) (h a ha)
theorem T_skip (h : Q .normal env w) : T P N .skip Q env w := fun a ha => wp_skip ⟨env, ha, h⟩
theorem T_ret (h : Q .ret env w) : T P N .ret Q env w := fun a ha => wp_ret ⟨env, ha, h⟩
theorem T_exit {id : Nat} (h : Q (.exit id) env w) : T P N (.exit id) Q env w := fun a ha => wp_exit ⟨env, ha, h⟩
theorem T_block {id : Nat} {c : Code} (h : T P N c (inB id Q) env w) : T P N (.block id c) Q env w := fun a ha =>
  wp_block (Code.wp_mono (by
    intro e a w h
    cases e with
    | normal => exact h
    | panic c => exact h
    | outgrown => exact h.elim
    | exit i =>
      obtain ⟨e', h3, h4⟩ := h
      simp only [inB] at h4
      simp only [Exit.inBlock]
      split
      · rename_i hi
        rw [if_pos hi] at h4
        exact ⟨e', h3, h4⟩
      · rename_i hi
        rw [if_neg hi] at h4
        exact ⟨e', h3, h4⟩
    | goto l => exact h
    | ret => exact h) (h a ha))
theorem T_cond {c : Operand} {x y : Code} {p : Prop} {inst : Decidable p} (hc : ev env c = some (.bool (@decide p inst))) (ht : p → T P N x Q env w) (hf : ¬p → T P N y Q env w) : T P N (.cond c x y) Q env w := fun a ha => by
  refine wp_cond_split (ha.eval hc) (fun h => ht (of_decide_eq_true h) a ha) (fun h => hf (of_decide_eq_false h) a ha)
theorem T_condB {c : Operand} {x y : Code} {b : Bool} (hc : ev env c = some (.bool b)) (ht : b = true → T P N x Q env w) (hf : b = false → T P N y Q env w) : T P N (.cond c x y) Q env w := fun a ha => by
  refine wp_cond_split (ha.eval hc) (fun h => ht h a ha) (fun h => hf h a ha)
theorem T_true {c : Operand} {x y : Code} (hc : ev env c = some (.bool true)) (ht : T P N x Q env w) : T P N (.cond c x y) Q env w := fun a ha => wp_cond_true (ha.eval hc) (ht a ha)
theorem T_false {c : Operand} {x y : Code} (hc : ev env c = some (.bool false)) (ht : T P N y Q env w) : T P N (.cond c x y) Q env w := fun a ha => wp_cond_false (ha.eval hc) (ht a ha)

/-- A loop: the relation bears a number that every round lowers. -/
theorem T_loop {c : Code} (R : Nat → Env → World → Prop) (m : Nat) (h0 : R m env w)
    (round : ∀ m e w, R m e w → T P N c (thenQ (fun e' w' => ∃ m', m' < m ∧ R m' e' w') Q) e w) : T P N (.loop c) Q env w := by
  intro a0 ha0 b k cs
  have key : ∀ n a w, (∃ e, Fits N e a ∧ R n e w) →
      ∃ e a' w', lift N Q e a' w' ∧ Arrives P (lone (b.at a (.code c :: .inLoop c :: k)) cs w) b k cs e a' w' := by
    intro n
    induction n using Nat.strongRecOn with
    | _ n ih =>
      intro a w ⟨e0, he0, hR⟩
      obtain ⟨e, a₁, w₁, hq, harr⟩ := round n e0 w hR a he0 b (.inLoop c :: k) cs
      cases e with
      | normal =>
        obtain ⟨e1, hf1, m', hlt, hR1⟩ := hq
        obtain ⟨e₂, a₂, w₂, hq₂, harr₂⟩ := ih m' hlt a₁ w₁ ⟨e1, hf1, hR1⟩
        exact ⟨e₂, a₂, w₂, hq₂, .of_steps (Steps.trans harr (.one step_inLoop)) harr₂⟩
      | exit id => exact ⟨.exit id, a₁, w₁, hq, .pass (x := .inLoop c) rfl (fun _ _ => .inl (by simp)) harr⟩
      | goto l => exact ⟨.goto l, a₁, w₁, hq, .pass (x := .inLoop c) rfl (fun _ _ => .inl (by simp)) harr⟩
      | ret => exact ⟨.ret, a₁, w₁, hq, .pass (x := .inLoop c) rfl (fun _ _ => .inl (by simp)) harr⟩
      | panic ch => exact ⟨.panic ch, a₁, w₁, hq, .pass (x := .inLoop c) rfl (fun _ _ => .inl (by simp)) harr⟩
      | outgrown => exact hq.elim
  obtain ⟨e, a', w', hq, harr⟩ := key m a0 w ⟨env, ha0, h0⟩
  exact ⟨e, a', w', hq, .of_steps (.one step_loop) harr⟩

/-! ### operations in the text's order -/
def L (P : Program) (N : Nat) (ops : Array Oper) (Q : Post) (rest : List Oper) (env : Env) (w : World) : Prop := ∀ a, Fits N env a → wpList P ops (lift N Q) rest a w
theorem T_region {id : Nat} {l : List Oper} (h : L P N l.toArray Q l env w) : T P N (.region id l.toArray false) Q env w := fun a ha => wp_region_lit (h a ha)
theorem L_nil {ops : Array Oper} (h : Q .normal env w) : L P N ops Q [] env w := fun a ha => ⟨env, ha, h⟩

/-- One operation: what it leads to. -/
def O (P : Program) (N : Nat) (Q : Post) (o : Oper) (env : Env) (w : World) (K : Env → World → Prop) : Prop :=
  ∀ a, Fits N env a → o.wp P a w (fun a' w' => ∃ e', Fits N e' a' ∧ K e' w') (lift N Q)
theorem L_o {ops : Array Oper} {rest : List Oper} {d : Option Tmp} {op : Op} {ty : TypeId} {pos : String} {after : Array Edge}
    (h : O P N Q ⟨d, op, ty, pos, after, none⟩ env w (L P N ops Q rest)) : L P N ops Q (⟨d, op, ty, pos, after, none⟩ :: rest) env w := fun a ha =>
  wpList_plain rfl fun K hK => Oper.wp_mono (fun a w ⟨e', h1, h2⟩ => hK _ _ (h2 a h1)) (h a ha)

/-- All worlds that are as w is in w's own blocks. -/
def Like (w w' : World) : Prop := Below w.heap.size w w'
theorem Like.refl (w : World) : Like w w := Below.refl _ _
theorem Like.drew (w : World) : Like w w.drew := (Below.refl _ _).drew
theorem Like.trans {a b c : World} (h : Like a b) (k : Like b c) : Like a c := Below.trans h (Below.mono k h.size)
theorem Like.cell {w w' : World} (h : Like w w') {p : Addr} {v : Value} (hc : w.cell? p = some v) : w'.cell? p = some v :=
  (Below.cell h (World.block_lt_of_cell? w p hc)).trans hc

/-- The operation yields v in every world of S and leaves it as it is. -/
def Y (P : Program) (S : World → Prop) (env : Env) (o : Oper) (v : Value) : Prop := ∀ N a w, Fits N env a → S w → (execOp a.eval o).run P w = .ok (.value v) w
theorem o_y {d : Tmp} {op : Op} {ty : TypeId} {pos : String} {after : Array Edge} {g : Option (Nat × Bool)} {v : Value} {S : World → Prop} {K : Env → World → Prop}
    (hy : Y P S env ⟨some d, op, ty, pos, after, g⟩ v) (hS : S w) (hd : Nat.blt d N = true) (h : K ((d, v) :: env) w) : O P N Q ⟨some d, op, ty, pos, after, g⟩ env w K := fun a ha => by
  unfold Oper.wp
  rw [hy N a w ha hS]
  exact ⟨_, ha.put d v hd, h⟩
theorem L_y {ops : Array Oper} {rest : List Oper} {d : Tmp} {op : Op} {ty : TypeId} {pos : String} {after : Array Edge} {v : Value}
    (hy : Y P (Like w) env ⟨some d, op, ty, pos, after, none⟩ v) (hd : Nat.blt d N = true) (h : L P N ops Q rest ((d, v) :: env) w) : L P N ops Q (⟨some d, op, ty, pos, after, none⟩ :: rest) env w :=
  L_o (o_y hy (Like.refl w) hd h)
/-! guards -/
theorem L_gyes {ops : Array Oper} {rest : List Oper} {d : Tmp} {op : Op} {ty : TypeId} {pos : String} {after : Array Edge} {j : Nat} {b : Bool} {t : Tmp}
    (hj : (ops[j]?).bind (·.dst) = some t) (ht : look env t = some (.bool b)) (h : L P N ops Q (⟨d, op, ty, pos, after, none⟩ :: rest) env w) : L P N ops Q (⟨d, op, ty, pos, after, some (j, b)⟩ :: rest) env w := fun a ha => by
  have h1 := h a ha
  have hw : yielded ops a.tmps j = some b := by
    simp [yielded, hj, ha.vals t _ ht]
  unfold wpList at h1 ⊢
  simp only [Region.wanted, hw, if_true, beq_self_eq_true] at h1 ⊢
  exact h1
theorem L_gno {ops : Array Oper} {rest : List Oper} {d : Tmp} {op : Op} {ty : TypeId} {pos : String} {after : Array Edge} {j : Nat} {b : Bool} {t : Tmp}
    (hj : (ops[j]?).bind (·.dst) = some t) (ht : look env t = some (.bool (!b))) (hd : Nat.blt d N = true) (h : L P N ops Q rest ((d, undef) :: env) w) : L P N ops Q (⟨some d, op, ty, pos, after, some (j, b)⟩ :: rest) env w := fun a ha => by
  have h1 := h _ (ha.put d undef hd)
  have hw : yielded ops a.tmps j = some (!b) := by
    simp [yielded, hj, ha.vals t _ ht]
  unfold wpList
  have hne : (some (!b) == some b) = false := by cases b <;> rfl
  simp only [Region.wanted, hw, hne, Bool.false_eq_true, if_false]
  exact h1
/-- A test known by a proposition: two ways. -/
theorem L_split {ops : Array Oper} {rest : List Oper} (t : Tmp) {p : Prop} {inst : Decidable p} (ht : look env t = some (.bool (@decide p inst)))
    (h1 : p → L P N ops Q rest ((t, .bool true) :: env) w) (h2 : ¬p → L P N ops Q rest ((t, .bool false) :: env) w) : L P N ops Q rest env w := fun a ha => by
  by_cases hp : p
  · exact h1 hp a (ha.sub (Sub.cons ht (by rw [decide_eq_true hp]) (Sub.refl _)))
  · exact h2 hp a (ha.sub (Sub.cons ht (by rw [decide_eq_false hp]) (Sub.refl _)))
theorem L_splitB {ops : Array Oper} {rest : List Oper} (t : Tmp) {b : Bool} (ht : look env t = some (.bool b))
    (h1 : b = true → L P N ops Q rest ((t, .bool true) :: env) w) (h2 : b = false → L P N ops Q rest ((t, .bool false) :: env) w) : L P N ops Q rest env w := fun a ha => by
  cases b with
  | true => exact h1 rfl a (ha.sub (Sub.cons ht rfl (Sub.refl _)))
  | false => exact h2 rfl a (ha.sub (Sub.cons ht rfl (Sub.refl _)))
/-! ### the function's frame -/
def bodyQ (P : Program) (fn : Func) (R : Ending → World → Prop) : Post
  | .ret, env, w | .normal, env, w => dfs env = [] ∧ ∃ v, (∀ N a, Fits N env a → (results fn a.tmps).run P w = .ok v w) ∧ R (.returned v) w
  | .panic c, env, w => dfs env = [] ∧ R (.panicked c) w
  | _, _, _ => False
/-- Nothing is asked of a panic: no way leads there. -/
class NoP (Q : Post) : Prop where
  no : ∀ c env w, ¬ Q (.panic c) env w
instance {K : Env → World → Prop} {Q : Post} [h : NoP Q] : NoP (thenQ K Q) := ⟨fun c env w => h.no c env w⟩
instance {P : Program} {fn : Func} {A : Value → World → Prop} : NoP (bodyQ P fn fun e w' => ∃ u, e = .returned u ∧ A u w') := ⟨fun c env w h => by obtain ⟨_, u, hu, _⟩ := h; cases hu⟩
instance {P : Program} {fn : Func} {v : Value} {A : World → Prop} : NoP (bodyQ P fn fun e w' => e = .returned v ∧ A w') := ⟨fun c env w h => by obtain ⟨_, hu, _⟩ := h; cases hu⟩
instance {id : Nat} {Q : Post} [h : NoP Q] : NoP (inB id Q) := ⟨fun c env w => h.no c env w⟩
/-- What is known without slot d. -/
def rm (d : Nat) (e : Env) : Env := e.filter fun p => !Nat.beq p.1 d
theorem look_rm (d : Nat) : ∀ (e : Env) (i : Nat) (v : Value), look (rm d e) i = some v → i ≠ d ∧ look e i = some v
  | [], _, _, h => by cases h
  | (j, u) :: e, i, v, h => by
    unfold rm at h
    rw [List.filter_cons] at h
    cases hb : Nat.beq j d with
    | true =>
      simp only [hb, Bool.not_true, Bool.false_eq_true, if_false] at h
      obtain ⟨h1, h2⟩ := look_rm d e i v h
      have e1 : j = d := by simpa using hb
      have e2 : Nat.beq j i = false := by
        cases hc : Nat.beq j i with
        | true => exact absurd (by have : j = i := by simpa using hc
                                   omega) h1
        | false => rfl
      exact ⟨h1, by simp only [look, e2, cond_false]; exact h2⟩
    | false =>
      simp only [hb, Bool.not_false, if_true, look] at h ⊢
      cases hc : Nat.beq j i with
      | true =>
        rw [hc] at h
        have e1 : j = i := by simpa using hc
        refine ⟨fun e => ?_, h⟩
        rw [e1, e] at hb
        simp at hb
      | false =>
        rw [hc] at h
        exact look_rm d e i v h
theorem dfs_rm (d : Nat) (hd : d < 1000000) : ∀ e : Env, dfs (rm d e) = dfs e
  | [] => rfl
  | (j, u) :: e => by
    unfold rm
    rw [List.filter_cons]
    cases hb : Nat.beq j d with
    | true =>
      have e1 : j = d := by simpa using hb
      have e2 : Nat.beq j 1000000 = false := by
        cases hc : Nat.beq j 1000000 with
        | true => have : j = 1000000 := by simpa using hc
                  omega
        | false => rfl
      simp only [Bool.not_true, Bool.false_eq_true, if_false, dfs, e2, cond_false]
      exact dfs_rm d hd e
    | false =>
      simp only [Bool.not_false, if_true, dfs]
      rw [show dfs (List.filter (fun p => !Nat.beq p.1 d) e) = dfs e from dfs_rm d hd e]
/-- What is asked of a panic asks nothing of slot d. -/
class PSt (Q : Post) (d : Nat) : Prop where
  st : d < 1000000 → ∀ c env w, Q (.panic c) env w → Q (.panic c) (rm d env) w
instance {Q : Post} {d : Nat} [h : NoP Q] : PSt Q d := ⟨fun _ c env w k => (h.no c env w k).elim⟩
instance {K : Env → World → Prop} {Q : Post} {d : Nat} [h : PSt Q d] : PSt (thenQ K Q) d := ⟨fun hd c env w => h.st hd c env w⟩
instance {id : Nat} {Q : Post} {d : Nat} [h : PSt Q d] : PSt (inB id Q) d := ⟨fun hd c env w => h.st hd c env w⟩
theorem dfs_rm0 : ∀ e : Env, dfs (rm 1000000 e) = []
  | [] => rfl
  | (j, u) :: e => by
    unfold rm
    rw [List.filter_cons]
    cases hb : Nat.beq j 1000000 with
    | true =>
      simp only [Bool.not_true, Bool.false_eq_true, if_false]
      exact dfs_rm0 e
    | false =>
      simp only [Bool.not_false, if_true, dfs, hb, cond_false]
      exact dfs_rm0 e
theorem dfs_rm1 (d : Nat) (e : Env) (h : dfs e = []) : dfs (rm d e) = [] := by
  by_cases hd : d = 1000000
  · subst hd; exact dfs_rm0 e
  · have : ∀ e : Env, dfs (rm d e) = dfs e := by
      intro e
      induction e with
      | nil => rfl
      | cons p e ih =>
        obtain ⟨j, u⟩ := p
        unfold rm at ih ⊢
        rw [List.filter_cons]
        cases hb : Nat.beq j d with
        | true =>
          have e1 : j = d := by simpa using hb
          have e2 : Nat.beq j 1000000 = false := by
            cases hc : Nat.beq j 1000000 with
            | true => have : j = 1000000 := by simpa using hc
                      omega
            | false => rfl
          simp only [Bool.not_true, Bool.false_eq_true, if_false, dfs, e2, cond_false]
          exact ih
        | false =>
          simp only [Bool.not_false, if_true, dfs]
          rw [ih]
    rw [this, h]
instance {P : Program} {fn : Func} {R : Ending → World → Prop} {d : Nat} : PSt (bodyQ P fn R) d := ⟨fun _ c env w h => ⟨dfs_rm1 d env h.1, h.2⟩⟩
theorem lift_rm {d : Nat} [hp : PSt Q d] (hd : Nat.blt d N = true) {c : List PanicEntry} {a : Act} {v : Value} {w : World} (h : lift N Q (.panic c) (a.put (some d) v) w) : lift N Q (.panic c) a w := by
  obtain ⟨e, he, hq⟩ := h
  have hd' : d < N := by simpa using hd
  have hs := he.small
  refine ⟨rm d e, ⟨he.defers.trans (dfs_rm d (by omega) e).symm, hs, by simpa [Act.put] using he.size, fun i u hu => ?_⟩, hp.st (by omega) c e w hq⟩
  obtain ⟨h1, h2⟩ := look_rm d e i u hu
  have h3 := he.vals i u h2
  simp only [Act.put] at h3
  rwa [Array.getElem?_setIfInBounds_ne (fun e => h1 e.symm)] at h3
theorem enter {f : FuncId} {fn : Func} {c : Code} {args : List Value} {R : Ending → World → Prop} (hf : P.funcs[f]? = some fn) (hb : fn.body = some c) (hn : fn.ntmps = N)
    (hN : Nat.ble args.length N = true) (henv : ∀ i v, look env i = some v → args[i]? = some v) (h : T P N c (bodyQ P fn R) env w) (hd0 : dfs env = [] := by rfl) (hsm : Nat.ble N 1000000 = true := by rfl) : Calls P f args.toArray w R := by
  refine calls_of_wp hf hb ?_
  have hsm' : N ≤ 1000000 := by simpa using hsm
  have hN' : args.length ≤ N := by simpa using hN
  have hfit : Fits N env { tmps := args.toArray ++ Array.replicate (fn.ntmps - args.toArray.size) undef, defers := [] } := by
    refine ⟨hd0.symm, hsm', by simp [hn]; omega, fun i v hv => ?_⟩
    have h1 := henv i v hv
    have h2 := (List.getElem?_eq_some_iff.1 h1).1
    rw [Array.getElem?_append_left (by simpa using h2)]
    simpa using h1
  refine Code.wp_mono (fun e a w hq => ?_) (h _ hfit)
  cases e with
  | normal =>
    obtain ⟨e', h1, h0, v, h2, h3⟩ := hq
    exact ⟨h1.defers.trans h0, v, h2 N a h1, h3⟩
  | ret =>
    obtain ⟨e', h1, h0, v, h2, h3⟩ := hq
    exact ⟨h1.defers.trans h0, v, h2 N a h1, h3⟩
  | panic c =>
    obtain ⟨e', h1, h0, h2⟩ := hq
    exact ⟨h1.defers.trans h0, h2⟩
  | outgrown => exact hq.elim
  | exit i => obtain ⟨_, _, h⟩ := hq; exact h.elim
  | goto i => obtain ⟨_, _, h⟩ := hq; exact h.elim
/-- The parameters in their slots. -/
def envOf : List Value → Nat → Env
  | [], _ => []
  | v :: vs, k => (k, v) :: envOf vs (k + 1)
theorem look_envOf : ∀ (vs : List Value) (k i : Nat) (v : Value), look (envOf vs k) i = some v → k ≤ i ∧ vs[i - k]? = some v
  | [], _, _, _, h => by cases h
  | u :: vs, k, i, v, h => by
    simp only [envOf, look] at h
    cases hb : Nat.beq k i with
    | true =>
      rw [hb] at h
      have : k = i := by simpa using hb
      subst this
      cases hc : Nat.beq k 1000000 with
      | true =>
        rw [hc] at h
        cases h
      | false =>
        rw [hc] at h
        simp only [cond_true, cond_false] at h
        simp [h]
    | false =>
      rw [hb] at h
      have hne : k ≠ i := fun hki => by
        subst hki
        have h1 : Nat.beq k k = true := by simp
        rw [h1] at hb
        cases hb
      obtain ⟨h1, h2⟩ := look_envOf vs (k + 1) i v h
      refine ⟨by omega, ?_⟩
      rw [show i - k = (i - (k + 1)) + 1 by omega]
      simpa using h2
theorem enter1 {f : FuncId} {fn : Func} {c : Code} (args : List Value) {R : Ending → World → Prop} (hf : P.funcs[f]? = some fn) (hb : fn.body = some c) (hn : fn.ntmps = N)
    (hN : Nat.ble args.length N = true) (he : envOf args 0 = env) (h : T P N c (bodyQ P fn R) env w) (hd0 : dfs env = [] := by rfl) (hsm : Nat.ble N 1000000 = true := by rfl) : Calls P f args.toArray w R :=
  enter hf hb hn hN (by subst he; intro i v hv; simpa using (look_envOf _ _ _ _ hv).2) h hd0 hsm
theorem Fits.getD {N : Nat} {e : Env} {a : Act} (h : Fits N e a) {t : Nat} {v : Value} (ht : look e t = some v) : a.tmps.getD t undef = v := by
  simp [h.vals t v ht]
theorem end0 {fn : Func} {R : Ending → World → Prop} (hr : fn.results = #[]) (h : R (.returned (.tuple #[])) w) (hd0 : dfs env = [] := by rfl) : bodyQ P fn R .normal env w :=
  ⟨hd0, _, fun N a ha => results_none hr _ _ _, h⟩
theorem ret1 {fn : Func} {R : Ending → World → Prop} {t : Tmp} {v : Value} (hr : fn.results = #[.tmp t]) (ht : look env t = some v) (h : R (.returned v) w) (hd0 : dfs env = [] := by rfl) : bodyQ P fn R .ret env w :=
  ⟨hd0, _, fun N a ha => by rw [results_tmp hr, ha.getD ht], h⟩
theorem ret2 {fn : Func} {R : Ending → World → Prop} {t u : Tmp} {v x : Value} (hr : fn.results = #[.tmp t, .tmp u]) (ht : look env t = some v) (hu : look env u = some x) (h : R (.returned (.tuple #[v, x])) w) (hd0 : dfs env = [] := by rfl) : bodyQ P fn R .ret env w :=
  ⟨hd0, _, fun N a ha => by rw [results_tmp2 hr, ha.getD ht, ha.getD hu], h⟩
end
end Go.Proofs.Ytpcgldkllnkaeaa.Zx


/-
  What the quiet operations yield. General; nothing here names a program.
-/
namespace Go.Proofs.Ytpcgldkllnkaeaa.Zx
open Go.RowKit Zk
set_option linter.unusedVariables false
set_option linter.unusedSimpArgs false

/-! ### wraps -/
theorem i64w {n : Int} (h : -9223372036854775808 ≤ n ∧ n ≤ 9223372036854775807) : IntKind.i64.wrap n = n := IntWalk.i64_in n h
/-- A whole number that is a natural one. -/
class Nt (j : Int) (k : outParam Nat) : Prop where
  eq : j = (k : Int)
instance (k : Nat) : Nt (k : Int) k := ⟨rfl⟩
instance (n : Nat) : Nt (no_index (OfNat.ofNat n) : Int) (OfNat.ofNat n) := ⟨rfl⟩
instance (x y : Int) (a b : Nat) [h : Nt x a] [k : Nt y b] : Nt (x + y) (a + b) := ⟨by rw [h.eq, k.eq]; omega⟩
instance (x y : Int) (a b : Nat) [h : Nt x a] [k : Nt y b] : Nt (x * y) (a * b) := ⟨by rw [h.eq, k.eq]; simp⟩
instance (x y : Int) (a b : Nat) [h : Nt x a] [k : Nt y b] : Nt (x / y) (a / b) := ⟨by rw [h.eq, k.eq]; simp⟩
instance (x y : Int) (a b : Nat) [h : Nt x a] [k : Nt y b] : Nt (x % y) (a % b) := ⟨by rw [h.eq, k.eq]; simp⟩

section
variable {P : Program} {S : World → Prop} {env : Env} {dst : Option Tmp} {ty : TypeId} {pos : String} {after : Array Edge} {g : Option (Nat × Bool)}

theorem y_move {x : Operand} {v : Value} (hx : ev env x = some v) : Y P S env ⟨dst, .move x, ty, pos, after, g⟩ v := fun N a w ha _ => by simp [execOp, ha.eval hx]
theorem y_assign {x : Operand} {v : Value} (hx : ev env x = some v) : Y P S env ⟨dst, .assign x, ty, pos, after, g⟩ v := fun N a w ha _ => by simp [execOp, ha.eval hx]
theorem y_pickT {c x y : Operand} {v : Value} (hc : ev env c = some (.bool true)) (hx : ev env x = some v) : Y P S env ⟨dst, .pick c x y, ty, pos, after, g⟩ v := fun N a w ha _ => by
  simp [execOp, ha.eval hc, ha.eval hx, asBool]
theorem y_pickF {c x y : Operand} {v : Value} (hc : ev env c = some (.bool false)) (hy : ev env y = some v) : Y P S env ⟨dst, .pick c x y, ty, pos, after, g⟩ v := fun N a w ha _ => by
  simp [execOp, ha.eval hc, ha.eval hy, asBool]
theorem y_pk {c x y : Operand} {b : Bool} {v : Value} (hc : ev env c = some (.bool b)) (hx : (match b with | true => ev env x | false => ev env y) = some v) : Y P S env ⟨dst, .pick c x y, ty, pos, after, g⟩ v := by
  cases b with
  | true => exact y_pickT hc hx
  | false => exact y_pickF hc hx

/-! integers -/
theorem y_add {x y : Operand} {t u : TypeId} {k : IntKind} {m n r : Int} (hx : ev env x = some (.int k m)) (hy : ev env y = some (.int k n)) (hw : k.wrap (m + n) = r) :
    Y P S env ⟨dst, .binOp .add t x y u, ty, pos, after, g⟩ (.int k r) := fun N a w ha _ => by
  subst hw; simp only [execOp, ha.eval hx, ha.eval hy, eqGuard, binOp, Op.intArith, ne_eq, not_true_eq_false, if_false, Sem.run_bind, Sem.run_pure, Result.andThen_ok]
  rfl
theorem y_sub {x y : Operand} {t u : TypeId} {k : IntKind} {m n r : Int} (hx : ev env x = some (.int k m)) (hy : ev env y = some (.int k n)) (hw : k.wrap (m - n) = r) :
    Y P S env ⟨dst, .binOp .sub t x y u, ty, pos, after, g⟩ (.int k r) := fun N a w ha _ => by
  subst hw; simp only [execOp, ha.eval hx, ha.eval hy, eqGuard, binOp, Op.intArith, ne_eq, not_true_eq_false, if_false, Sem.run_bind, Sem.run_pure, Result.andThen_ok]
  rfl
theorem y_bits {op : BinOp} {x y : Operand} {t u : TypeId} {k : IntKind} {m n r : Int} (hop : (op matches .and | .or | .xor | .andNot) = true) (hx : ev env x = some (.int k m)) (hy : ev env y = some (.int k n)) (hw : bits op k m n = r) :
    Y P S env ⟨dst, .binOp op t x y u, ty, pos, after, g⟩ (.int k r) := fun N a w ha _ => by
  subst hw
  cases op <;> simp at hop <;> simp only [execOp, ha.eval hx, ha.eval hy, eqGuard, binOp, Op.intBits, bits, ne_eq, not_true_eq_false, if_false, Sem.run_bind, Sem.run_pure, Result.andThen_ok] <;> rfl
theorem y_lss {x y : Operand} {t u : TypeId} {k : IntKind} {m n : Int} (hx : ev env x = some (.int k m)) (hy : ev env y = some (.int k n)) :
    Y P S env ⟨dst, .binOp .lss t x y u, ty, pos, after, g⟩ (.bool (decide (m < n))) := fun N a w ha _ => by
  simp only [execOp, ha.eval hx, ha.eval hy, eqGuard, binOp, Op.intCmp, ne_eq, not_true_eq_false, if_false, Sem.run_bind, Sem.run_pure, Result.andThen_ok]
  rfl
theorem y_leq {x y : Operand} {t u : TypeId} {k : IntKind} {m n : Int} (hx : ev env x = some (.int k m)) (hy : ev env y = some (.int k n)) :
    Y P S env ⟨dst, .binOp .leq t x y u, ty, pos, after, g⟩ (.bool (decide (m ≤ n))) := fun N a w ha _ => by
  simp only [execOp, ha.eval hx, ha.eval hy, eqGuard, binOp, Op.intCmp, ne_eq, not_true_eq_false, if_false, Sem.run_bind, Sem.run_pure, Result.andThen_ok]
  rfl
theorem y_gtr {x y : Operand} {t u : TypeId} {k : IntKind} {m n : Int} (hx : ev env x = some (.int k m)) (hy : ev env y = some (.int k n)) :
    Y P S env ⟨dst, .binOp .gtr t x y u, ty, pos, after, g⟩ (.bool (decide (n < m))) := fun N a w ha _ => by
  simp only [execOp, ha.eval hx, ha.eval hy, eqGuard, binOp, Op.intCmp, ne_eq, not_true_eq_false, if_false, Sem.run_bind, Sem.run_pure, Result.andThen_ok]
  rfl
theorem y_geq {x y : Operand} {t u : TypeId} {k : IntKind} {m n : Int} (hx : ev env x = some (.int k m)) (hy : ev env y = some (.int k n)) :
    Y P S env ⟨dst, .binOp .geq t x y u, ty, pos, after, g⟩ (.bool (decide (n ≤ m))) := fun N a w ha _ => by
  simp only [execOp, ha.eval hx, ha.eval hy, eqGuard, binOp, Op.intCmp, ne_eq, not_true_eq_false, if_false, Sem.run_bind, Sem.run_pure, Result.andThen_ok]
  rfl
theorem y_eql {x y : Operand} {t u : TypeId} {k : IntKind} {m n : Int} (hx : ev env x = some (.int k m)) (hy : ev env y = some (.int k n)) :
    Y P S env ⟨dst, .binOp .eql t x y u, ty, pos, after, g⟩ (.bool (decide (m = n))) := fun N a w ha _ => by
  simp only [execOp, ha.eval hx, ha.eval hy, eqGuard, binOp, ne_eq, not_true_eq_false, if_false, Op.intCmp, Sem.run_bind, Sem.run_pure, Result.andThen_ok]
  rfl
theorem y_neq {x y : Operand} {t u : TypeId} {k : IntKind} {m n : Int} (hx : ev env x = some (.int k m)) (hy : ev env y = some (.int k n)) :
    Y P S env ⟨dst, .binOp .neq t x y u, ty, pos, after, g⟩ (.bool (decide (m ≠ n))) := fun N a w ha _ => by
  simp only [execOp, ha.eval hx, ha.eval hy, eqGuard, binOp, ne_eq, not_true_eq_false, if_false, Op.intCmp, Sem.run_bind, Sem.run_pure, Result.andThen_ok]
  congr 2
  by_cases h : m = n <;> simp [h]
/-! strings -/
theorem toList_loop (s : ByteArray) : ∀ (n i : Nat) (acc : List UInt8), s.size - i = n → ByteArray.toList.loop s i acc = acc.reverse ++ s.data.toList.drop i := by
  intro n
  induction n with
  | zero =>
    intro i acc h
    rw [ByteArray.toList.loop, if_neg (by omega), List.drop_of_length_le (by rw [size_toList]; omega), List.append_nil]
  | succ n ih =>
    intro i acc h
    have hi : i < s.data.toList.length := by rw [size_toList]; omega
    rw [ByteArray.toList.loop, if_pos (by omega), ih (i + 1) _ (by omega), List.drop_eq_getElem_cons hi]
    have : s.get! i = s.data.toList[i] := by
      rw [ByteArray.get!.eq_def]
      simp at hi
      simp [hi]
    rw [this]
    simp
theorem toList_eq (s : ByteArray) : s.toList = s.data.toList := by
  rw [ByteArray.toList, toList_loop s s.size 0 [] (by omega)]
  simp
theorem beq_str (m n : ByteArray) : (m.toList == n.toList) = decide (m = n) := by
  rw [toList_eq, toList_eq]
  by_cases h : m = n
  · subst h; simp
  · simp only [h, decide_false, beq_eq_false_iff_ne, ne_eq]
    intro h'
    apply h
    cases m; cases n
    simp only [ByteArray.mk.injEq]
    exact Array.toList_inj.1 h'
theorem y_seql {x y : Operand} {t u : TypeId} {m n : ByteArray} (hx : ev env x = some (.string m)) (hy : ev env y = some (.string n)) :
    Y P S env ⟨dst, .binOp .eql t x y u, ty, pos, after, g⟩ (.bool (decide (m = n))) := fun N a w ha _ => by
  simp only [execOp, ha.eval hx, ha.eval hy, eqGuard, binOp, Op.stringOp, Sem.run_bind, Sem.run_pure, Result.andThen_ok, beq_str]
  rfl
/-! bools -/
theorem y_notD {x : Operand} {t : TypeId} {p : Prop} {inst : Decidable p} (hx : ev env x = some (.bool (@decide p inst))) : Y P S env ⟨dst, .unOp .not t x, ty, pos, after, g⟩ (.bool (decide (¬p))) := fun N a w ha _ => by
  simp only [execOp, ha.eval hx, Op.unary, Sem.run_bind, Sem.run_pure, Result.andThen_ok]
  simp
theorem y_not {x : Operand} {t : TypeId} {b : Bool} (hx : ev env x = some (.bool b)) : Y P S env ⟨dst, .unOp .not t x, ty, pos, after, g⟩ (.bool (!b)) := fun N a w ha _ => by
  simp only [execOp, ha.eval hx, Op.unary, Sem.run_bind, Sem.run_pure, Result.andThen_ok]
/-! conversions between integers -/
/-! len, cap -/
theorem y_len {x : Operand} {t e : TypeId} {A : Option Addr} {n c : Nat} (ht : P.underlying t = some (.slice e)) (hx : ev env x = some (.slice A n c)) :
    Y P S env ⟨dst, .call { callee := .builtin .len, args := #[x], argTypes := #[t] }, ty, pos, after, g⟩ (.int .i64 (n : Int)) := fun N a w ha _ => by
  have he : P.elem t = e := by simp [Program.elem, ht]
  have := run_len_slice (P := P) (w := w) t ty A n c (by rw [he]; exact ht)
  simp only [execOp, resolve, invoke, builtin, Sem.run_bind, Sem.run_pure, Result.andThen_ok, List.map_toArray, List.map_cons, List.map_nil, ha.eval hx, this]
  rfl
theorem y_min {x y : Operand} {t u : TypeId} {k : IntKind} {m n : Int} (hx : ev env x = some (.int k m)) (hy : ev env y = some (.int k n)) :
    Y P S env ⟨dst, .call { callee := .builtin .min, args := #[x, y], argTypes := #[t, u] }, ty, pos, after, g⟩ (.int k (min m n)) := fun N a w ha _ => by
  simp only [execOp, resolve, invoke, builtin, Sem.run_bind, Sem.run_pure, Result.andThen_ok, List.map_toArray, List.map_cons, List.map_nil, ha.eval hx, ha.eval hy, Builtin.min_, List.foldlM_cons, List.foldlM_nil, Builtin.min2]
  have : (if n < m then n else m) = min m n := by split <;> omega
  rw [this]
/-! parts of values -/
theorem y_extract {x : Operand} {i : Nat} {vs : Array Value} {v : Value} (hx : ev env x = some (.tuple vs)) (hv : vs[i]? = some v) : Y P S env ⟨dst, .extract x i, ty, pos, after, g⟩ v := fun N a w ha _ => by
  simp only [execOp, ha.eval hx, Instr.extract, hv, Sem.run_bind, Sem.run_pure, Result.andThen_ok]
/-! nil checks -/
end
end Go.Proofs.Ytpcgldkllnkaeaa.Zx


/-
  What is known of the world: old memory as it was, and a list of pieces of memory of the call's own, apart from each other. General; nothing here names a program.
-/
namespace Go.Proofs.Ytpcgldkllnkaeaa.Zx
open Go.RowKit Zk
set_option linter.unusedVariables false
set_option linter.unusedSimpArgs false

/-! ### what slices read as -/
structure Rs (w : World) (size : Nat) (A : Option Addr) (n c : Nat) (xs : List Value) : Prop where
  rd : Reads w w.heap.size size A n xs
  cap : n ≤ c
  max : c ≤ 9223372036854775807
def cutA (A : Option Addr) (c l size : Nat) : Option Addr := if c = l then A else A.map (·.add (l * size))
section
variable {w w' : World} {size n c : Nat} {A : Option Addr} {xs : List Value}
theorem Rs.like (h : Rs w size A n c xs) (hl : Like w w') : Rs w' size A n c xs := ⟨(h.rd.below hl).more hl.size, h.cap, h.max⟩
theorem Rs.len (h : Rs w size A n c xs) : xs.length = n * size := h.rd.1
theorem Rs.nil (w : World) (size : Nat) : Rs w size none 0 0 [] := ⟨Reads.none_, Nat.le_refl _, by omega⟩
theorem Rs.cut (h : Rs w size A n c xs) {l u : Nat} (h1 : l ≤ u) (h2 : u ≤ n) : Rs w size (cutA A c l size) (u - l) (c - l) ((xs.drop (l * size)).take ((u - l) * size)) := by
  have hc := h.cap
  have hx := h.len
  refine ⟨⟨?_, fun hn => ?_⟩, by omega, by have := h.max; omega⟩
  · rw [List.length_take, List.length_drop, hx, ← Nat.sub_mul]
    exact Nat.min_eq_left (Nat.mul_le_mul_right _ (by omega))
  · obtain ⟨ad, rfl, hb, hcell⟩ := h.rd.2 (by omega)
    unfold cutA
    rw [if_neg (by omega)]
    refine ⟨ad.add (l * size), rfl, by rw [block_of_add]; exact hb, fun j u' hu => ?_⟩
    rw [add_of_add]
    rw [List.getElem?_take] at hu
    split at hu
    · rw [List.getElem?_drop] at hu
      exact hcell _ u' hu
    · cases hu
theorem Rs.at_ (h : Rs w 1 A n c xs) {k : Nat} (hk : k < n) : ∃ ad v, A = some ad ∧ xs[k]? = some v ∧ w.cell? (ad.add k) = some v := by
  obtain ⟨ad, u, h1, _, h2, h3⟩ := h.rd.at_ hk
  exact ⟨ad, u, h1, h2, h3⟩
end
theorem Rs.lenb {w : World} {A : Option Addr} {n c : Nat} {xs : List UInt8} (h : Rs w 1 A n c (bL xs)) : xs.length = n := by
  have := h.len
  simpa using this
/-- A byte of a list, as a number. -/
def g8 (l : List UInt8) (k : Nat) : Int := ((l.getD k 0).toNat : Int)
theorem g8_lo (l : List UInt8) (k : Nat) : 0 ≤ g8 l k := by unfold g8; omega
theorem g8_hi (l : List UInt8) (k : Nat) : g8 l k ≤ 255 := by have := (l.getD k 0).toNat_lt; unfold g8; omega
theorem bL_g8 (l : List UInt8) (k : Nat) (h : k < l.length) : (bL l)[k]? = some (.int .u8 (g8 l k)) := by
  rw [bL_get l k l[k] (List.getElem?_eq_getElem h)]
  simp [g8, List.getD_eq_getElem?_getD, List.getElem?_eq_getElem h]

def pR (A : Option Addr) (k size : Nat) : Value := .pointer (A.map (·.add (k * size)))
section
variable {P : Program} {S : World → Prop} {env : Env} {w : World} {dst : Option Tmp} {ty : TypeId} {pos : String} {after : Array Edge} {g : Option (Nat × Bool)}
theorem sizeOf_run {e : TypeId} {size : Nat} (hsz : (P.info? e).map (·.size) = some size) (w : World) : (sizeOf e).run P w = .ok size w := by
  cases hq : P.info? e with
  | none => simp [hq] at hsz
  | some i =>
    have : i.size = size := by simpa [hq] using hsz
    simp [sizeOf, typeInfo, hq, this]
theorem y_idx {x i : Operand} {t e : TypeId} {A : Option Addr} {n c k size : Nat} {q : IntKind} {j : Int} {xs : List Value} (ht : P.underlying t = some (.slice e)) (hsz : (P.info? e).map (·.size) = some size)
    (hx : ev env x = some (.slice A n c)) (hi : ev env i = some (.int q j)) (hr : Rs w size A n c xs) (hj : Nt j k) (hk : k < n) :
    Y P S env ⟨dst, .indexAddr t x i, ty, pos, after, g⟩ (pR A k size) := fun N a w' ha _ => by
  obtain ⟨ad, hA, _⟩ := hr.rd.2 (by omega)
  subst hA
  have hj' := hj.eq
  subst hj'
  have h1 : (0 : Int) ≤ (k : Int) ∧ (k : Int) < (n : Int) := by omega
  simp only [execOp, ha.eval hx, ha.eval hi, Instr.indexAt, asIntOf, Sem.run_bind, run_underlying ht, Sem.run_pure, Result.andThen_ok, h1, and_self, if_true, sizeOf_run hsz, Int.toNat_natCast]
  rfl
theorem run_loadVar1 {p : Addr} {v : Value} {d : TypeDesc} (hd : P.underlying ty = some d) (hrow : d.isRow = false) {w' : World} (hc : w'.cell? p = some v) : (loadVar ty p).run P w' = .ok v w' := by
  have hagg : (isAgg ty).run P w' = .ok false w' := by
    unfold isAgg
    rw [Sem.run_bind, run_underlying hd w']
    cases d <;> simp_all [TypeDesc.isRow]
  simp only [loadVar, Sem.run_bind, hagg, Result.andThen_ok, Bool.false_eq_true, if_false]
  simp [hc]
theorem y_ldc {x : Operand} {p : Addr} {v : Value} {lt : TypeId} {d : TypeDesc} (hd : P.underlying lt = some d) (hrow : d.isRow = false) (hx : ev env x = some (.pointer (some p))) (hc : w.cell? p = some v) :
    Y P (Like w) env ⟨dst, .load lt x, ty, pos, after, g⟩ v := fun N a w' ha hw => by
  simp only [execOp, ha.eval hx, Instr.loadAt, Instr.sureAddr, Sem.run_bind, Sem.run_pure, Result.andThen_ok, run_loadVar1 hd hrow (Like.cell hw hc)]
theorem y_ldr {x : Operand} {A : Option Addr} {n c k : Nat} {xs : List Value} {v : Value} {lt : TypeId} {d : TypeDesc} (hd : P.underlying lt = some d) (hrow : d.isRow = false) (hx : ev env x = some (pR A k 1)) (hr : Rs w 1 A n c xs) (hv : xs[k]? = some v) :
    Y P (Like w) env ⟨dst, .load lt x, ty, pos, after, g⟩ v := by
  have hk : k < n := by
    have h1 := (List.getElem?_eq_some_iff.1 hv).1
    have h2 := hr.len
    omega
  obtain ⟨ad, u, rfl, h2, h3⟩ := hr.at_ hk
  rw [hv] at h2
  cases h2
  refine y_ldc hd hrow (p := ad.add k) ?_ h3
  rw [hx]
  simp [pR]
theorem y_ldb {x : Operand} {A : Option Addr} {n c k : Nat} {l : List UInt8} {lt : TypeId} {d : TypeDesc} (hd : P.underlying lt = some d) (hrow : d.isRow = false) (hx : ev env x = some (pR A k 1)) (hr : Rs w 1 A n c (bL l)) (hk : k < n) :
    Y P (Like w) env ⟨dst, .load lt x, ty, pos, after, g⟩ (.int .u8 (g8 l k)) := y_ldr hd hrow hx hr (bL_g8 l k (by rw [hr.lenb]; exact hk))
/-- An element of many cells. -/
theorem y_ldn {x : Operand} {A : Option Addr} {n c k size : Nat} {xs : List Value} {lt : TypeId} {d : TypeDesc} (hd : P.underlying lt = some d) (hrow : d.isRow = true) (hsz : (P.info? lt).map (·.size) = some size) (hx : ev env x = some (pR A k size)) (hr : Rs w size A n c xs) (hk : k < n) :
    Y P (Like w) env ⟨dst, .load lt x, ty, pos, after, g⟩ (.agg ((xs.drop (k * size)).take size).toArray) := fun N a w' ha hw => by
  obtain ⟨ad, rfl, hb, hcell⟩ := hr.rd.2 (by omega)
  have hagg : (isAgg lt).run P w' = .ok true w' := by
    unfold isAgg
    rw [Sem.run_bind, run_underlying hd w']
    cases d <;> simp_all [TypeDesc.isRow]
  have hl : ((xs.drop (k * size)).take size).length = size := by
    rw [List.length_take, List.length_drop, hr.len]
    have : (k + 1) * size ≤ n * size := Nat.mul_le_mul_right _ hk
    rw [Nat.succ_mul] at this
    omega
  have h1 := run_loadCells_list (P := P) (w := w') (ad.add (k * size)) ((xs.drop (k * size)).take size) (fun j v hj => by
    rw [List.getElem?_take] at hj
    split at hj
    · rw [List.getElem?_drop] at hj
      rw [add_of_add]
      exact Like.cell hw (hcell _ _ hj)
    · cases hj)
  rw [hl] at h1
  simp only [execOp, ha.eval hx, pR, Option.map_some, Instr.loadAt, Instr.sureAddr, loadVar, Sem.run_bind, Sem.run_pure, Result.andThen_ok, hagg, if_true, sizeOf_run hsz, h1]
/-! arrays behind a pointer -/
theorem y_fieldA {x : Operand} {t : TypeId} {fs : Array Field} {f : Field} {i b o size : Nat} (r : Nat) (ht : P.underlying t = some (.struct fs)) (hf : fs[i]? = some f) (hsz : (P.info? f.type).map (·.size) = some size) (h0 : Nat.blt 0 size = true)
    (hx : ev env x = some (.pointer (some ⟨b, o, none⟩))) (hr : o + f.offset = r) : Y P S env ⟨dst, .fieldAddr t x i, ty, pos, after, g⟩ (.pointer (some ⟨b, r, none⟩)) := fun N a w' ha _ => by
  subst hr
  have h1 : ¬ size = 0 := by have : 0 < size := by simpa using h0
                             omega
  simp only [execOp, ha.eval hx, Instr.fieldAt, Instr.sureAddr, Sem.run_bind, run_underlying ht, Sem.run_pure, Result.andThen_ok, hf, fieldPlace, sizeOf_run hsz, if_neg h1, Addr.add_mid]
/-- A field's address of an element of a slice of structs. -/
def pRF (A : Option Addr) (k : Nat) : Value := .pointer (A.map (·.add k))
theorem y_fieldR {x : Operand} {t : TypeId} {fs : Array Field} {f : Field} {A : Option Addr} {n c k i size fsize : Nat} (off : Nat) {xs : List Value} (ht : P.underlying t = some (.struct fs)) (hf : fs[i]? = some f) (hsz : (P.info? f.type).map (·.size) = some fsize) (h0 : Nat.blt 0 fsize = true)
    (hx : ev env x = some (pR A k size)) (hr : Rs w size A n c xs) (hk : k < n) (hoff : f.offset = off) : Y P S env ⟨dst, .fieldAddr t x i, ty, pos, after, g⟩ (pRF A (k * size + off)) := fun N a w' ha _ => by
  subst hoff
  have h1 : ¬ fsize = 0 := by have : 0 < fsize := by simpa using h0
                              omega
  obtain ⟨ad, rfl, hb, hcell⟩ := hr.rd.2 (by omega)
  simp only [execOp, ha.eval hx, pR, pRF, Option.map_some, Instr.fieldAt, Instr.sureAddr, Sem.run_bind, run_underlying ht, Sem.run_pure, Result.andThen_ok, hf, fieldPlace, sizeOf_run hsz, if_neg h1, add_of_add]
theorem y_ldf {x : Operand} {A : Option Addr} {n c k size : Nat} {xs : List Value} {v : Value} {lt : TypeId} {d : TypeDesc} (hd : P.underlying lt = some d) (hrow : d.isRow = false) (hx : ev env x = some (pRF A k)) (hr : Rs w size A n c xs) (hn : 0 < n) (hv : xs[k]? = some v) :
    Y P (Like w) env ⟨dst, .load lt x, ty, pos, after, g⟩ v := by
  obtain ⟨ad, rfl, hb, hcell⟩ := hr.rd.2 hn
  exact y_ldc hd hrow (p := ad.add k) (by rw [hx]; simp [pRF]) (hcell _ _ hv)
theorem run_loadRow {b o : Nat} {vs : List Value} {d : TypeDesc} {lt : TypeId} (hd : P.underlying lt = some d) (hrow : d.isRow = true) (hsz : (P.info? lt).map (·.size) = some vs.length) {w' : World} (hc : w'.rangeAt b o vs) :
    (Instr.loadAt lt (.pointer (some ⟨b, o, none⟩))).run P w' = .ok (.agg vs.toArray) w' := run_loadAt_mid w' b o lt vs d hc hd hrow hsz
theorem y_ldR {x : Operand} {b o : Nat} {vs : List Value} {lt : TypeId} {d : TypeDesc} (hd : P.underlying lt = some d) (hrow : d.isRow = true) (hsz : (P.info? lt).map (·.size) = some vs.length) (hx : ev env x = some (.pointer (some ⟨b, o, none⟩))) (hc : w.rangeAt b o vs) :
    Y P (Like w) env ⟨dst, .load lt x, ty, pos, after, g⟩ (.agg vs.toArray) := fun N a w' ha hw => by
  simp only [execOp, ha.eval hx, Sem.run_bind, run_loadRow hd hrow hsz (w' := w') (fun j v hv => Like.cell hw (hc j v hv)), Sem.run_pure, Result.andThen_ok]
/-! parts -/
theorem y_slice {x : Operand} {t e : TypeId} {A : Option Addr} {n c l u size : Nat} {kl kh : IntKind} {jl jh : Int} {i j : Operand} (ht : P.underlying t = some (.slice e)) (hsz : (P.info? e).map (·.size) = some size) (hx : ev env x = some (.slice A n c))
    (hi : ev env i = some (.int kl jl)) (hj : ev env j = some (.int kh jh)) (hl : Nt jl l) (hu : Nt jh u) (h1 : l ≤ u) (h2 : u ≤ c) :
    Y P S env ⟨dst, .slice t x (some i) (some j) none, ty, pos, after, g⟩ (.slice (cutA A c l size) (u - l) (c - l)) := fun N a w' ha _ => by
  have e1 := hl.eq
  have e2 := hu.eq
  subst e1; subst e2
  have he : P.elem t = e := by simp [Program.elem, ht]
  have h3 := run_slice_lh (P := P) (w := w') (t := t) (a := A) (len := n) (cap := c) (by rw [he]; exact ht) kl kh (l : Int) (u : Int) (by omega) (by omega) (by omega)
  rw [he] at h3
  simp only [execOp, ha.eval hx, Option.map_some, Option.map_none, ha.eval hi, ha.eval hj, Instr.sliceAt, Sem.run_bind, run_underlying ht, Result.andThen_ok, h3, sizeOf_run hsz, Sem.run_pure, Int.toNat_natCast]
  rfl
theorem y_sliceL {x : Operand} {t e : TypeId} {A : Option Addr} {n c l size : Nat} {kl : IntKind} {jl : Int} {i : Operand} (ht : P.underlying t = some (.slice e)) (hsz : (P.info? e).map (·.size) = some size) (hx : ev env x = some (.slice A n c))
    (hi : ev env i = some (.int kl jl)) (hl : Nt jl l) (h1 : l ≤ n) :
    Y P S env ⟨dst, .slice t x (some i) none none, ty, pos, after, g⟩ (.slice (cutA A c l size) (n - l) (c - l)) := fun N a w' ha _ => by
  have e1 := hl.eq
  subst e1
  have he : P.elem t = e := by simp [Program.elem, ht]
  have h3 := run_slice_l (P := P) (w := w') (t := t) (a := A) (len := n) (cap := c) (by rw [he]; exact ht) kl (l : Int) (by omega) (by omega)
  rw [he] at h3
  simp only [execOp, ha.eval hx, Option.map_some, Option.map_none, ha.eval hi, Instr.sliceAt, Sem.run_bind, run_underlying ht, Result.andThen_ok, h3, sizeOf_run hsz, Sem.run_pure, Int.toNat_natCast]
  rfl
theorem y_sliceH {x : Operand} {t e : TypeId} {A : Option Addr} {n c u size : Nat} {kh : IntKind} {jh : Int} {j : Operand} (ht : P.underlying t = some (.slice e)) (hsz : (P.info? e).map (·.size) = some size) (hx : ev env x = some (.slice A n c))
    (hj : ev env j = some (.int kh jh)) (hu : Nt jh u) (h2 : u ≤ c) :
    Y P S env ⟨dst, .slice t x none (some j) none, ty, pos, after, g⟩ (.slice (cutA A c 0 size) (u - 0) (c - 0)) := fun N a w' ha _ => by
  have e2 := hu.eq
  subst e2
  have he : P.elem t = e := by simp [Program.elem, ht]
  have h3 := run_slice_h (P := P) (w := w') (t := t) (a := A) (len := n) (cap := c) (by rw [he]; exact ht) kh (u : Int) (by omega) (by omega)
  rw [he] at h3
  simp only [execOp, ha.eval hx, Option.map_some, Option.map_none, ha.eval hj, Instr.sliceAt, Sem.run_bind, run_underlying ht, Result.andThen_ok, h3, sizeOf_run hsz, Sem.run_pure, Int.toNat_natCast]
  rfl
end
end Go.Proofs.Ytpcgldkllnkaeaa.Zx


/-
  Operations that make memory or write to it, and calls. General; nothing here names a program.
-/
namespace Go.Proofs.Ytpcgldkllnkaeaa.Zx
open Go.RowKit Zk
set_option linter.unusedVariables false
set_option linter.unusedSimpArgs false

/-- A piece of memory of the call's own: its blocks, and what holds of it. -/
structure Res where
  dom : Nat → Prop
  holds : World → Prop
  stable : ∀ w w' : World, (∀ i, dom i → w'.heap[i]? = w.heap[i]?) → holds w → holds w'
/-- M: the old blocks that the call may write to. -/
structure St (w0 : World) (M : Nat → Prop) (rs : List Res) (w : World) : Prop where
  os : w.os = w0.os
  tape : w.tape = w0.tape
  output : w.output = w0.output
  size : w0.heap.size ≤ w.heap.size
  old : ∀ i, i < w0.heap.size → ¬ M i → w.heap[i]? = w0.heap[i]?
  res : ∀ r ∈ rs, r.holds w ∧ ∀ i, r.dom i → i < w.heap.size ∧ (w0.heap.size ≤ i ∨ M i)
  apart : rs.Pairwise fun r s => ∀ i, r.dom i → ¬ s.dom i
def noM : Nat → Prop := fun _ => False

section
variable {w0 w w' : World} {M : Nat → Prop} {rs : List Res}
theorem St.start (w : World) (M : Nat → Prop) : St w M [] w := ⟨rfl, rfl, rfl, Nat.le_refl _, fun _ _ _ => rfl, (fun r hr => by cases hr), List.Pairwise.nil⟩
theorem St.like0 (S : St w0 noM rs w) : Like w0 w := ⟨S.os, S.tape, S.output, S.size, fun k hk => S.old k hk (fun h => h)⟩
theorem St.rd (S : St w0 noM rs w) {size : Nat} {A : Option Addr} {n c : Nat} {xs : List Value} (h : Rs w0 size A n c xs) : Rs w size A n c xs := h.like S.like0
theorem St.rdM (S : St w0 M rs w) {size : Nat} {A : Option Addr} {n c : Nat} {xs : List Value} (h : Rs w0 size A n c xs) (hM : ∀ ad, 0 < n → A = some ad → ¬ M ad.block) : Rs w size A n c xs :=
  ⟨⟨h.rd.1, fun hn => by
    obtain ⟨ad, e, hb, hc⟩ := h.rd.2 hn
    exact ⟨ad, e, Nat.lt_of_lt_of_le hb S.size, fun j u hu => (World.cell?_of_block (a := ad.add j) (by rw [block_of_add]; exact S.old _ hb (hM ad hn e))).trans (hc j u hu)⟩⟩, h.cap, h.max⟩
/-- What a call did that may write to block g. -/
theorem St.only {g : Nat} (S : St w0 (· = g) rs w) : w0.grownBy w (some g) := ⟨S.os, S.tape, S.output, S.size, fun i hi hne => S.old i hi (fun e => hne (by rw [e]))⟩
theorem St.like (S : St w0 M rs w) (h : Like w w') : St w0 M rs w' :=
  ⟨h.os.trans S.os, h.tape.trans S.tape, h.output.trans S.output, Nat.le_trans S.size h.size, fun i hi hM => (h.block i (Nat.lt_of_lt_of_le hi S.size)).trans (S.old i hi hM),
    fun r hr => ⟨r.stable w w' (fun i hi => h.block i ((S.res r hr).2 i hi).1) (S.res r hr).1, fun i hi => ⟨Nat.lt_of_lt_of_le ((S.res r hr).2 i hi).1 h.size, ((S.res r hr).2 i hi).2⟩⟩, S.apart⟩
theorem St.drew (S : St w0 M rs w) : St w0 M rs w.drew := S.like (Like.drew w)
theorem St.get (S : St w0 M rs w) (k : Nat) {r : Res} (hk : rs[k]? = some r) : r.holds w := (S.res r (List.mem_of_getElem? hk)).1
/-- One piece has changed, and maybe moved into a new block. -/
theorem St.upd (S : St w0 M rs w) (k : Nat) {r r' : Res} (hk : rs[k]? = some r) (hos : w'.os = w.os) (htape : w'.tape = w.tape) (hout : w'.output = w.output) (hsz : w.heap.size ≤ w'.heap.size)
    (hb : ∀ i, i < w.heap.size → ¬ r.dom i → w'.heap[i]? = w.heap[i]?) (hr : r'.holds w') (hd : ∀ i, r'.dom i → r.dom i ∨ (w.heap.size ≤ i ∧ i < w'.heap.size)) : St w0 M (rs.set k r') w' := by
  have hkl : k < rs.length := (List.getElem?_eq_some_iff.1 hk).1
  have hke : rs[k] = r := (List.getElem?_eq_some_iff.1 hk).2
  have hmem : r ∈ rs := List.mem_of_getElem? hk
  have hap := List.pairwise_iff_getElem.1 S.apart
  have hap2 : ∀ j (hj : j < rs.length), j ≠ k → ∀ i, rs[j].dom i → ¬ r.dom i := by
    intro j hj hne i hi hri
    rcases Nat.lt_or_gt_of_ne hne with h | h
    · exact hap j k hj hkl h i hi (by rw [hke]; exact hri)
    · exact hap k j hkl hj h i (by rw [hke]; exact hri) hi
  refine ⟨hos.trans S.os, htape.trans S.tape, hout.trans S.output, Nat.le_trans S.size hsz, fun i hi hM => ?_, fun q hq => ?_, ?_⟩
  · refine (hb i (Nat.lt_of_lt_of_le hi S.size) fun hri => ?_).trans (S.old i hi hM)
    rcases ((S.res r hmem).2 i hri).2 with h | h
    · omega
    · exact hM h
  · obtain ⟨j, hj, rfl⟩ := List.getElem_of_mem hq
    have hj' : j < rs.length := by simpa using hj
    rw [List.getElem_set]
    split
    · rename_i hjk
      subst hjk
      refine ⟨hr, fun i hi => ?_⟩
      rcases hd i hi with h | h
      · exact ⟨Nat.lt_of_lt_of_le ((S.res r hmem).2 i h).1 hsz, ((S.res r hmem).2 i h).2⟩
      · exact ⟨h.2, .inl (Nat.le_trans S.size h.1)⟩
    · rename_i hjk
      have h1 := S.res rs[j] (List.getElem_mem hj')
      exact ⟨(rs[j]).stable w w' (fun i hi => hb i (h1.2 i hi).1 (hap2 j hj' (fun e => hjk e.symm) i hi)) h1.1, fun i hi => ⟨Nat.lt_of_lt_of_le (h1.2 i hi).1 hsz, (h1.2 i hi).2⟩⟩
  · rw [List.pairwise_iff_getElem]
    intro i j hi hj hij x hx
    have hi' : i < rs.length := by simpa using hi
    have hj' : j < rs.length := by simpa using hj
    rw [List.getElem_set] at hx ⊢
    split at hx
    · rename_i hki
      subst hki
      rw [if_neg (by omega)]
      intro hxj
      rcases hd x hx with h | h
      · exact hap2 j hj' (by omega) x hxj h
      · have := ((S.res rs[j] (List.getElem_mem hj')).2 x hxj).1
        omega
    · split
      · rename_i hki hkj
        subst hkj
        intro hxk
        rcases hd x hxk with h | h
        · exact hap2 i hi' (by omega) x hx h
        · have := ((S.res rs[i] (List.getElem_mem hi')).2 x hx).1
          omega
      · exact hap i j hi' hj' hij x hx
/-- A piece more, in new blocks. -/
theorem St.new (S : St w0 M rs w) (h : Like w w') (r : Res) (hr : r.holds w') (hd : ∀ i, r.dom i → w.heap.size ≤ i ∧ i < w'.heap.size) : St w0 M (rs ++ [r]) w' := by
  have S' := S.like h
  refine ⟨S'.os, S'.tape, S'.output, S'.size, S'.old, fun q hq => ?_, ?_⟩
  · rcases List.mem_append.1 hq with hq | hq
    · exact S'.res q hq
    · obtain rfl := List.mem_singleton.1 hq
      exact ⟨hr, fun i hi => ⟨(hd i hi).2, .inl (Nat.le_trans S.size (hd i hi).1)⟩⟩
  · rw [List.pairwise_append]
    refine ⟨S.apart, List.pairwise_singleton _ _, fun q hq s hs i hi hsi => ?_⟩
    obtain rfl := List.mem_singleton.1 hs
    have := ((S.res q hq).2 i hi).1
    have := (hd i hsi).1
    omega
theorem St.drop (S : St w0 M rs w) {rs' : List Res} (h : rs'.Sublist rs) : St w0 M rs' w := ⟨S.os, S.tape, S.output, S.size, S.old, fun r hr => S.res r (h.subset hr), S.apart.sublist h⟩
end

/-- A row of the call's own. -/
def row (e size : Nat) (A : Option Addr) (n c : Nat) (xs : List Value) : Res where
  dom i := (Value.slice A n c).ownBlock = some i
  holds w := w.ownsRow 0 e size (.slice A n c) n xs
  stable w w' h hh := by
    refine ⟨hh.1, hh.2.imp id fun ⟨g, cap, cur, h1, h2, h3, h4⟩ => ⟨g, cap, cur, h1, h2, ?_, h4⟩⟩
    rw [← h3]
    exact h g (by rw [h1]; rfl)
/-- A block known whole. -/
def blk (g t : Nat) (cs : Array Value) : Res where
  dom i := i = g
  holds w := Blk w g t cs
  stable w w' h hh := (h g rfl).trans hh
/-- What reads as xs and is not written again. -/
def fixed (size : Nat) (A : Option Addr) (n c : Nat) (xs : List Value) : Res where
  dom i := ∃ ad, 0 < n ∧ A = some ad ∧ ad.block = i
  holds w := Rs w size A n c xs
  stable w w' h hh := ⟨⟨hh.rd.1, fun hn => by
    obtain ⟨ad, e, hb, hc⟩ := hh.rd.2 hn
    have h1 := h ad.block ⟨ad, hn, e, rfl⟩
    have hlt : ad.block < w'.heap.size := by
      rcases Nat.lt_or_ge ad.block w'.heap.size with h2 | h2
      · exact h2
      · rw [Array.getElem?_eq_none h2, Array.getElem?_eq_getElem hb] at h1
        cases h1
    exact ⟨ad, e, hlt, fun j u hu => (World.cell?_of_block (a := ad.add j) (by rw [block_of_add]; exact h1)).trans (hc j u hu)⟩⟩, hh.cap, hh.max⟩
/-- Reads, and lies in blocks that are new since w0. -/
def Fr (w0 w : World) (size : Nat) (A : Option Addr) (n c : Nat) (xs : List Value) : Prop := Rs w size A n c xs ∧ ∀ ad, 0 < n → A = some ad → w0.heap.size ≤ ad.block
section
variable {w0 w w' : World} {M : Nat → Prop} {rs : List Res}
theorem ownsRow_cap {e size n c : Nat} {A : Option Addr} {xs : List Value} (h : w.ownsRow 0 e size (.slice A n c) n xs) : n ≤ c ∧ c ≤ 9223372036854775807 := by
  rcases h.2 with ⟨h1, rfl⟩ | ⟨g, cap, cur, h1, _, _, h2, h3, _⟩
  · injection h1 with _ h1 h2
    omega
  · injection h1 with _ _ h4
    subst h4
    exact ⟨h2, h3⟩
theorem rs_of_row {e size n c : Nat} {A : Option Addr} {xs : List Value} (h : w.ownsRow 0 e size (.slice A n c) n xs) : Rs w size A n c xs := ⟨Reads.of_own h, (ownsRow_cap h).1, (ownsRow_cap h).2⟩
theorem St.row (S : St w0 M rs w) (k : Nat) {e size n c : Nat} {A : Option Addr} {xs : List Value} (hk : rs[k]? = some (row e size A n c xs)) : Rs w size A n c xs := rs_of_row (S.get k hk)
theorem St.fix (S : St w0 M rs w) (k : Nat) {size n c : Nat} {A : Option Addr} {xs : List Value} (hk : rs[k]? = some (fixed size A n c xs)) : Rs w size A n c xs := S.get k hk
theorem St.rdB (S : St w0 noM rs w) {g t : Nat} {cs : Array Value} (h : Blk w0 g t cs) : Blk w g t cs := h.below S.like0 h.lt
theorem St.own (S : St w0 noM rs w) (k : Nat) {e size n c : Nat} {A : Option Addr} {xs : List Value} (hk : rs[k]? = some (Zx.row e size A n c xs)) : w.ownsRow w0.heap.size e size (.slice A n c) n xs := by
  have h : w.ownsRow 0 e size (.slice A n c) n xs := S.get k hk
  refine ⟨h.1, h.2.imp id fun ⟨g, cap, cur, h1, _, h3⟩ => ⟨g, cap, cur, h1, ?_, h3⟩⟩
  have := ((S.res _ (List.mem_of_getElem? hk)).2 g (by simp only [Zx.row]; rw [h1]; rfl)).2
  rcases this with h | h
  · exact h
  · exact h.elim
theorem St.fr (S : St w0 noM rs w) (k : Nat) {size n c : Nat} {A : Option Addr} {xs : List Value} (hk : rs[k]? = some (fixed size A n c xs)) : Fr w0 w size A n c xs :=
  ⟨S.fix k hk, fun ad hn hA => by
    have := ((S.res _ (List.mem_of_getElem? hk)).2 ad.block ⟨ad, hn, hA, rfl⟩).2
    rcases this with h | h
    · exact h
    · exact h.elim⟩
/-- A callee's row becomes the caller's own. -/
theorem St.adopt (S : St w0 M rs w) (l : Like w w') {e size n c : Nat} {A : Option Addr} {xs : List Value} (h : w'.ownsRow w.heap.size e size (.slice A n c) n xs) : St w0 M (rs ++ [Zx.row e size A n c xs]) w' :=
  S.new l _ ⟨h.1, h.2.imp id fun ⟨g, cap, cur, h1, _, h3⟩ => ⟨g, cap, cur, h1, Nat.zero_le _, h3⟩⟩ fun i hi => by
    have := h.lt i hi
    exact ⟨this.1, this.2⟩
theorem St.blk (S : St w0 M rs w) (k : Nat) {g t : Nat} {cs : Array Value} (hk : rs[k]? = some (blk g t cs)) : Blk w g t cs := S.get k hk
theorem St.rowc (S : St w0 M rs w) (k : Nat) {e size n c n' : Nat} {A : Option Addr} {xs xs' : List Value} (hk : rs[k]? = some (Zx.row e size A n c xs)) (hn : n = n') (hx : xs = xs') : St w0 M (rs.set k (Zx.row e size A n' c xs')) w := by
  subst hn; subst hx
  obtain ⟨h1, h2⟩ := List.getElem?_eq_some_iff.1 hk
  rw [← h2, List.set_getElem_self]
  exact S
theorem St.blkc (S : St w0 M rs w) (k : Nat) {g t : Nat} {cs cs' : Array Value} (hk : rs[k]? = some (Zx.blk g t cs)) (hc : cs = cs') : St w0 M (rs.set k (Zx.blk g t cs')) w := by
  subst hc
  obtain ⟨h1, h2⟩ := List.getElem?_eq_some_iff.1 hk
  rw [← h2, List.set_getElem_self]
  exact S
theorem St.nilrow (S : St w0 M rs w) (e size : Nat) : St w0 M (rs ++ [Zx.row e size none 0 0 []]) w := S.new (Like.refl w) _ ⟨by simp, .inl ⟨rfl, rfl⟩⟩ (fun i hi => by simp [Zx.row, Value.ownBlock] at hi)
end

/-- What operands are. -/
def evl (e : Env) : List Operand → Option (List Value)
  | [] => some []
  | x :: xs => match ev e x, evl e xs with
    | some v, some vs => some (v :: vs)
    | _, _ => none
theorem evl_map {N : Nat} {e : Env} {a : Act} (ha : Fits N e a) : ∀ (xs : List Operand) (vs : List Value), evl e xs = some vs → xs.map a.eval = vs
  | [], vs, h => by simp only [evl, Option.some.injEq] at h; subst h; rfl
  | x :: xs, vs, h => by
    simp only [evl] at h
    cases hx : ev e x with
    | none => rw [hx] at h; cases h
    | some v =>
      cases hxs : evl e xs with
      | none => rw [hx, hxs] at h; cases h
      | some us =>
        rw [hx, hxs] at h
        simp only [Option.some.injEq] at h
        subst h
        simp only [List.map_cons, ha.eval hx, evl_map ha xs us hxs]
def evp (e : Env) : List (Nat × Operand) → Option (List (Nat × Value))
  | [] => some []
  | (i, x) :: xs => match ev e x, evp e xs with
    | some v, some vs => some ((i, v) :: vs)
    | _, _ => none
theorem evp_map {N : Nat} {e : Env} {a : Act} (ha : Fits N e a) : ∀ (xs : List (Nat × Operand)) (vs : List (Nat × Value)), evp e xs = some vs → xs.map (fun p => (p.1, a.eval p.2)) = vs
  | [], vs, h => by simp only [evp, Option.some.injEq] at h; subst h; rfl
  | (i, x) :: xs, vs, h => by
    simp only [evp] at h
    cases hx : ev e x with
    | none => rw [hx] at h; cases h
    | some v =>
      cases hxs : evp e xs with
      | none => rw [hx, hxs] at h; cases h
      | some us =>
        rw [hx, hxs] at h
        simp only [Option.some.injEq] at h
        subst h
        simp only [List.map_cons, ha.eval hx, evp_map ha xs us hxs]
section
variable {P : Program} {N : Nat} {Q : Post} {env : Env} {w w0 : World} {M : Nat → Prop} {rs : List Res} {K : Env → World → Prop} {d : Tmp} {ty : TypeId} {pos : String} {after : Array Edge} {g : Option (Nat × Bool)}
theorem like_grown (h : w.grownBy w0 none) : Like w w0 := ⟨h.os, h.tape, h.output, h.size, fun k hk => h.block k hk (by simp)⟩
theorem like_alloc (w : World) (o : Obj) : Like w (w.alloc o) := like_grown (World.grownBy_alloc _ _ _)

/-- append onto a row of the call's own. -/
theorem o_app {s x : Operand} {t e : TypeId} {z : Value} {size bytes : Nat} (TE : Elem P t e z size bytes) (S : St w0 M rs w) (k : Nat) {A : Option Addr} {n c : Nat} {xs : List Value} (hk : rs[k]? = some (row e size A n c xs))
    (hs : ev env s = some (.slice A n c)) {A' : Option Addr} {m c' : Nat} {news : List Value} (hx : ev env x = some (.slice A' m c')) (hr : Rs w size A' m c' news) (h1 : ∀ u ∈ news, u.oneCell' = true)
    (hd : Nat.blt d N = true) (hbytes : (n + m) * bytes ≤ 140737488355328) (h63 : n + m ≤ 9223372036854775807)
    (h : ∀ A2 c2 w', St w0 M (rs.set k (row e size A2 (n + m) c2 (xs ++ news))) w' → K ((d, .slice A2 (n + m) c2) :: env) w') :
    O P N Q ⟨some d, .call { callee := .builtin .append, args := #[s, x], argTypes := #[t, t] }, ty, pos, after, g⟩ env w K := fun a ha => by
  have hown : w.ownsRow 0 e size (.slice A n c) n xs := S.get k hk
  refine wp_app w TE s x rfl 0 (ha.eval hs) hown (ha.eval hx) hr.rd h1 h63 hbytes (Nat.zero_le _) fun A2 c2 w' h2 h3 h4 => ⟨_, ha.put d _ hd, h A2 c2 w' ?_⟩
  refine S.upd k hk h3.os h3.tape h3.output h3.size (fun i hi hn => h3.block i hi (fun e => hn e.symm)) h2 fun i hi => ?_
  change (Value.slice A2 (n + m) c2).ownBlock = some i at hi
  rcases h4 with h4 | h4
  · left; rw [h4] at hi; exact hi
  · right
    rw [h4] at hi
    cases hi
    exact ⟨Nat.le_refl _, (h2.lt _ h4).2⟩
/-- A new variable. -/
theorem o_alloc {el : TypeId} {z : Value} (hz : ∀ W, (zeroValue el).run P W = .ok z W) (S : St w0 M rs w) (hd : Nat.blt d N = true)
    (h : ∀ b w', w0.heap.size ≤ b → St w0 M (rs ++ [blk b el z.cells]) w' → K ((d, .pointer (some ⟨b, 0, none⟩)) :: env) w') :
    O P N Q ⟨some d, .alloc el, ty, pos, after, g⟩ env w K := fun a ha => by
  refine wp_alB el rfl z hz fun w' h2 h3 => ⟨_, ha.put d _ hd, h _ w' S.size (S.new (like_grown h3) _ h2 fun i hi => ?_)⟩
  have hi' : i = w.heap.size := hi
  subst hi'
  exact ⟨Nat.le_refl _, h2.lt⟩
/-- A variable that begins as a value of many cells. -/
theorem o_box {el : TypeId} {x : Operand} {vs : Array Value} (hx : ev env x = some (.agg vs)) (S : St w0 M rs w) (hd : Nat.blt d N = true)
    (h : ∀ b w', w0.heap.size ≤ b → St w0 M (rs ++ [blk b el vs]) w' → K ((d, .pointer (some ⟨b, 0, none⟩)) :: env) w') :
    O P N Q ⟨some d, .box el x, ty, pos, after, g⟩ env w K := fun a ha => by
  refine wp_bxB el x rfl vs (ha.eval hx) fun w' h2 h3 => ⟨_, ha.put d _ hd, h _ w' S.size (S.new (like_grown h3) _ h2 fun i hi => ?_)⟩
  have hi' : i = w.heap.size := hi
  subst hi'
  exact ⟨Nat.le_refl _, h2.lt⟩
theorem cells_one {v : Value} (h : v.oneCell' = true) : v.cells = #[v] := by cases v <;> simp_all [Value.oneCell', Value.cells]
theorem o_box1 {el : TypeId} {x : Operand} {v : Value} (hx : ev env x = some v) (hv : v.oneCell' = true) (S : St w0 M rs w) (hd : Nat.blt d N = true)
    (h : ∀ b w', w0.heap.size ≤ b → St w0 M (rs ++ [blk b el #[v]]) w' → K ((d, .pointer (some ⟨b, 0, none⟩)) :: env) w') :
    O P N Q ⟨some d, .box el x, ty, pos, after, g⟩ env w K := fun a ha => by
  unfold Oper.wp execOp
  simp only [Instr.box, ha.eval hx, Sem.run_bind, newVar, newRow, Sem.run_pure, run_newObj_alloc, cells_one hv, Result.andThen_ok]
  refine ⟨_, ha.put d _ hd, h _ _ S.size (S.new (like_alloc w _) _ (Blk.new w el _) fun i hi => ?_)⟩
  have hi' : i = w.heap.size := hi
  subst hi'
  exact ⟨Nat.le_refl _, by simp⟩
/-- A store of one cell into a block known whole. -/
theorem o_st1 {st : TypeId} {x y : Operand} {b o t : Nat} {cs : Array Value} {v : Value} (S : St w0 M rs w) (k : Nat) (hk : rs[k]? = some (blk b t cs)) (hx : ev env x = some (.pointer (some ⟨b, o, none⟩))) (hy : ev env y = some v)
    (hv : v.oneCell' = true) (hsz : (P.info? st).map (·.size) = some 1) (ho : o < cs.size)
    (h : ∀ w', St w0 M (rs.set k (blk b t (cs.setIfInBounds o v))) w' → K env w') : O P N Q ⟨none, .store st x y, ty, pos, after, g⟩ env w K := fun a ha => by
  have hB := S.blk k hk
  have hc : w.cell? ⟨b, o, none⟩ = some cs[o] := (hB.cell o).trans (Array.getElem?_eq_getElem ho)
  have hr : (storeVar st ⟨b, o, none⟩ v).run P w = .ok () (w.setCell ⟨b, o, none⟩ v) := by
    simp only [storeVar, Sem.run_bind, sizeOf_run hsz, cells_one hv, Result.andThen_ok]
    simp [storeCells, hv, stored, hc, hB.frozen o, run_store, go_sem]
  unfold Oper.wp execOp
  simp only [ha.eval hx, ha.eval hy, Instr.storeAt, Instr.sureAddr, Sem.run_bind, Sem.run_pure, Result.andThen_ok, hr]
  refine ⟨env, ha, h _ (S.upd k hk rfl rfl rfl (by simp) (fun i hi hn => Below.heap_setCell w ⟨b, o, none⟩ v i (fun e => hn e)) (hB.set_ o v) fun i hi => .inl hi)⟩
/-- A store of an array or a struct into a block known whole. -/
theorem o_stR {st : TypeId} {x y : Operand} {b o t : Nat} {cs vs : Array Value} (S : St w0 M rs w) (k : Nat) (hk : rs[k]? = some (blk b t cs)) (hx : ev env x = some (.pointer (some ⟨b, o, none⟩))) (hy : ev env y = some (.agg vs))
    (hsz : (P.info? st).map (·.size) = some vs.size) (ho : o + vs.size ≤ cs.size) (h1 : ∀ u ∈ vs.toList, u.oneCell' = true)
    (h : ∀ w', St w0 M (rs.set k (blk b t (cs.toList.take o ++ vs.toList ++ cs.toList.drop (o + vs.size)).toArray)) w' → K env w') : O P N Q ⟨none, .store st x y, ty, pos, after, g⟩ env w K := fun a ha => by
  refine wp_stB st x y rfl b o (ha.eval hx) vs (ha.eval hy) t cs (S.blk k hk) hsz ho h1 fun w' h2 h3 => ⟨env, ha, h w' (S.upd k hk h3.os h3.tape h3.output h3.size (fun i hi hn => h3.block i hi (fun e => hn (by injection e))) h2 fun i hi => .inl hi)⟩
/-- A call. -/
theorem o_call {f : FuncId} {fn : Func} {xs : Array Operand} {ts : Array TypeId} {args : List Value} {R : Ending → World → Prop} (hf : P.funcs[f]? = some fn) (hn : (fn.name == "runtime.NumGoroutine") = false) (hb : fn.body.isNone = false)
    (hc : Calls P f args.toArray w R) (hargs : evl env xs.toList = some args) (hd : Nat.blt d N = true)
    (h : ∀ e w', R e w' → ∃ v, e = .returned v ∧ K ((d, v) :: env) w') :
    O P N Q ⟨some d, .call { callee := .value (.func f), args := xs, argTypes := ts }, ty, pos, after, g⟩ env w K := fun a ha => by
  have hmap : xs.map a.eval = args.toArray := by
    rw [← evl_map ha xs.toList args hargs]
    apply Array.ext'
    simp
  unfold Oper.wp
  have hrun : (execOp a.eval ⟨some d, .call { callee := .value (.func f), args := xs, argTypes := ts }, ty, pos, after, g⟩).run P w = .ok (.enter f args.toArray) w := by
    simp only [execOp, resolve, hmap, Act.eval, Deferred.ofValue, invoke, callFunc, Sem.run_bind, Sem.run_pure, Result.andThen_ok, run_program, hf, hn, hb, Bool.false_eq_true, if_false, Array.append_empty, Array.empty_append]
  rw [hrun]
  refine hc.mono fun e w' hR => ?_
  obtain ⟨v, rfl, hK⟩ := h e w' hR
  exact ⟨_, ha.put d v hd, hK⟩
end
end Go.Proofs.Ytpcgldkllnkaeaa.Zx


/-
  Regions that draw their order. General; nothing here names a program.
-/
namespace Go.Proofs.Ytpcgldkllnkaeaa.Zx
open Go.RowKit Zk
set_option linter.unusedVariables false
set_option linter.unusedSimpArgs false

/-- An order in which a region may be walked: (number, quiet?). A quiet operation may come up and nobody who may come before it touches its slots; another one is the only one that may come up. -/
def ordB (ops : Array Oper) : Nat → Array Bool → List (Nat × Bool) → Bool
  | _, listed, [] => (Region.ready .any ops listed).isEmpty
  | 0, _, _ :: _ => false
  | f + 1, listed, (i, true) :: r => (Region.ready .any ops listed).contains i && Region.free .any ops listed i && ordB ops f (listed.setIfInBounds i true) r
  | f + 1, listed, (i, false) :: r => (match Region.ready .any ops listed with | [j] => Nat.beq j i | _ => false) && ordB ops f (listed.setIfInBounds i true) r

section
variable {P : Program} {N : Nat} {Q : Post} {env : Env} {w : World} {S : World → Prop} {ops : Array Oper}
def DL (P : Program) (N : Nat) (ops : Array Oper) (Q : Post) (S : World → Prop) (order : List (Nat × Bool)) (env : Env) (w : World) : Prop :=
  Region.noSelect ops = true → S w → ∀ a, Fits N env a → ∀ fuel listed, ordB ops fuel listed order = true → wpAnyH P .any ops (lift N Q) S fuel listed a w
/-- All worlds like the one behind the draw. -/
theorem T_drawnL {id : Nat} {l : List Oper} (order : List (Nat × Bool)) (hm : P.follows .mixedOrders = true) (hB : (Region.noSelect l.toArray && ordB l.toArray l.toArray.size (Array.replicate l.toArray.size false) order) = true)
    (h : ∀ w1, Like w w1 → DL P N l.toArray Q (Like w1) order env w1) : T P N (.region id l.toArray true) Q env w := fun a ha => by
  simp only [Bool.and_eq_true] at hB
  exact wp_region_held hm (h _ (Like.drew w) hB.1 (Like.refl _) a ha _ _ hB.2)
theorem DL_nil (h : Q .normal env w) : DL P N ops Q S [] env w := fun _ _ a ha fuel listed hB => by
  have hr : Region.ready .any ops listed = [] := by
    cases fuel <;> simpa [ordB] using hB
  exact wpAnyH_done hr ⟨env, ha, h⟩ fuel
theorem DL_yi {i : Nat} {o : Oper} {d : Tmp} [PSt Q d] {v : Value} {order : List (Nat × Bool)} (hi : ops[i]? = some o) (hdst : o.dst = some d) (hy : ∀ a, Fits N env a → YieldsIf P ops S o v a) (hd : Nat.blt d N = true)
    (h : DL P N ops Q S order ((d, v) :: env) w) : DL P N ops Q S ((i, true) :: order) env w := fun hs hS a ha fuel listed hB => by
  cases fuel with
  | zero => simp [ordB] at hB
  | succ fuel =>
    simp only [ordB, Bool.and_eq_true] at hB
    refine wpAnyH_take hi hs hB.1.2 hB.1.1 (fun c a w hq => by first | exact lift_rm hd hq | (rw [hdst] at hq; exact lift_rm hd hq)) (hy a ha) hS ?_
    rw [hdst]
    exact h hs hS _ (ha.put d v hd) fuel _ hB.2
theorem DL_y {i : Nat} {d : Tmp} [PSt Q d] {op : Op} {ty : TypeId} {pos : String} {after : Array Edge} {v : Value} {order : List (Nat × Bool)} (hi : ops[i]? = some ⟨some d, op, ty, pos, after, none⟩)
    (hy : Y P S env ⟨some d, op, ty, pos, after, none⟩ v) (hd : Nat.blt d N = true) (h : DL P N ops Q S order ((d, v) :: env) w) : DL P N ops Q S ((i, true) :: order) env w :=
  DL_yi hi rfl (fun a ha => .inl ⟨by simp [Region.wanted], fun w hw => hy N a w ha hw⟩) hd h
theorem DL_gyes {i : Nat} {d : Tmp} [PSt Q d] {op : Op} {ty : TypeId} {pos : String} {after : Array Edge} {v : Value} {order : List (Nat × Bool)} {j : Nat} {b : Bool} {t : Tmp} (hi : ops[i]? = some ⟨some d, op, ty, pos, after, some (j, b)⟩)
    (hj : (ops[j]?).bind (·.dst) = some t) (ht : look env t = some (.bool b))
    (hy : Y P S env ⟨some d, op, ty, pos, after, some (j, b)⟩ v) (hd : Nat.blt d N = true) (h : DL P N ops Q S order ((d, v) :: env) w) : DL P N ops Q S ((i, true) :: order) env w :=
  DL_yi hi rfl (fun a ha => .inl ⟨by simp [Region.wanted, yielded, hj, ha.vals t _ ht], fun w hw => hy N a w ha hw⟩) hd h
theorem DL_o {i : Nat} {d : Option Tmp} {op : Op} {ty : TypeId} {pos : String} {after : Array Edge} {order : List (Nat × Bool)} (hi : ops[i]? = some ⟨d, op, ty, pos, after, none⟩)
    (h : O P N Q ⟨d, op, ty, pos, after, none⟩ env w (fun e' w' => S w' ∧ DL P N ops Q S order e' w')) : DL P N ops Q S ((i, false) :: order) env w := fun hs hS a ha fuel listed hB => by
  cases fuel with
  | zero => simp [ordB] at hB
  | succ fuel =>
    simp only [ordB, Bool.and_eq_true] at hB
    obtain ⟨h1, h2⟩ := hB
    have hr : Region.ready .any ops listed = [i] := by
      split at h1
      · rename_i j hj
        have : j = i := by simpa using h1
        rw [hj, this]
      · cases h1
    refine wpAnyH_all hr (by simp) fun j hj => ?_
    obtain rfl := List.mem_singleton.1 hj
    unfold wpOp
    simp only [hi, Region.wanted, if_true]
    exact .inl (Oper.wp_mono (fun a' w' ⟨e', h3, h4, h5⟩ => ⟨h4, h5 hs h4 a' h3 fuel _ h2⟩) (h a ha))
theorem DL_ogyes {i : Nat} {d : Option Tmp} {op : Op} {ty : TypeId} {pos : String} {after : Array Edge} {order : List (Nat × Bool)} {j : Nat} {b : Bool} {t : Tmp} (hi : ops[i]? = some ⟨d, op, ty, pos, after, some (j, b)⟩)
    (hj : (ops[j]?).bind (·.dst) = some t) (ht : look env t = some (.bool b))
    (h : O P N Q ⟨d, op, ty, pos, after, some (j, b)⟩ env w (fun e' w' => S w' ∧ DL P N ops Q S order e' w')) : DL P N ops Q S ((i, false) :: order) env w := fun hs hS a ha fuel listed hB => by
  cases fuel with
  | zero => simp [ordB] at hB
  | succ fuel =>
    simp only [ordB, Bool.and_eq_true] at hB
    obtain ⟨h1, h2⟩ := hB
    have hr : Region.ready .any ops listed = [i] := by
      split at h1
      · rename_i j hj
        have : j = i := by simpa using h1
        rw [hj, this]
      · cases h1
    have hy : yielded ops a.tmps j = some b := by simp [yielded, hj, ha.vals t _ ht]
    refine wpAnyH_all hr (by simp) fun j hj => ?_
    obtain rfl := List.mem_singleton.1 hj
    unfold wpOp
    simp only [hi, Region.wanted, hy, beq_self_eq_true, if_true]
    exact .inl (Oper.wp_mono (fun a' w' ⟨e', h3, h4, h5⟩ => ⟨h4, h5 hs h4 a' h3 fuel _ h2⟩) (h a ha))
theorem DL_split {order : List (Nat × Bool)} (t : Tmp) {p : Prop} {inst : Decidable p} (ht : look env t = some (.bool (@decide p inst)))
    (h1 : p → DL P N ops Q S order ((t, .bool true) :: env) w) (h2 : ¬p → DL P N ops Q S order ((t, .bool false) :: env) w) : DL P N ops Q S order env w := fun hs hS a ha => by
  by_cases hp : p
  · exact h1 hp hs hS a (ha.sub (Sub.cons ht (by rw [decide_eq_true hp]) (Sub.refl _)))
  · exact h2 hp hs hS a (ha.sub (Sub.cons ht (by rw [decide_eq_false hp]) (Sub.refl _)))
theorem DL_splitB {order : List (Nat × Bool)} (t : Tmp) {b : Bool} (ht : look env t = some (.bool b))
    (h1 : b = true → DL P N ops Q S order ((t, .bool true) :: env) w) (h2 : b = false → DL P N ops Q S order ((t, .bool false) :: env) w) : DL P N ops Q S order env w := fun hs hS a ha => by
  cases b with
  | true => exact h1 rfl hs hS a (ha.sub (Sub.cons ht rfl (Sub.refl _)))
  | false => exact h2 rfl hs hS a (ha.sub (Sub.cons ht rfl (Sub.refl _)))
/-! ### quiet operations, then a tail in the text's order -/
theorem DL_yb {i : Nat} {d : Tmp} [PSt Q d] {op : Op} {ty : TypeId} {pos : String} {after : Array Edge} {l : List UInt8} {k : Nat} {order : List (Nat × Bool)} (hi : ops[i]? = some ⟨some d, op, ty, pos, after, none⟩)
    (hy : Y P S env ⟨some d, op, ty, pos, after, none⟩ (.int .u8 (g8 l k))) (hd : Nat.blt d N = true) (h : 0 ≤ g8 l k → g8 l k ≤ 255 → DL P N ops Q S order ((d, .int .u8 (g8 l k)) :: env) w) : DL P N ops Q S ((i, true) :: order) env w :=
  DL_y hi hy hd (h (g8_lo l k) (g8_hi l k))
/-! ### loops by the number of letters -/
theorem T_loop1 {α : Type} {c : Code} (ks : Env) (V : α → Env) (μ : α → Nat) (Rel : α → World → Prop) (a0 : α) (hs : Sub (V a0) env) (hk : Sub ks env) (h0 : Rel a0 w)
    (round : ∀ a w, Rel a w → T P N c (thenQ (fun e' w' => ∃ a', μ a' < μ a ∧ Rel a' w' ∧ Sub (V a' ++ ks) e') Q) (V a ++ ks) w) : T P N (.loop c) Q env w :=
  T_loop (fun m e w => ∃ a, m = μ a ∧ Rel a w ∧ Sub (V a ++ ks) e) (μ a0) ⟨a0, rfl, h0, Sub.app hs hk⟩ fun m e w ⟨a, hm, hr, hsub⟩ => T_weak hsub (T_mono (fun e w ⟨a', h1, h2, h3⟩ => ⟨μ a', by omega, a', rfl, h2, h3⟩) (round a w hr))
theorem T_loop2 {α β : Type} {c : Code} (ks : Env) (V : α → β → Env) (μ : α → β → Nat) (Rel : α → β → World → Prop) (a0 : α) (b0 : β) (hs : Sub (V a0 b0) env) (hk : Sub ks env) (h0 : Rel a0 b0 w)
    (round : ∀ a b w, Rel a b w → T P N c (thenQ (fun e' w' => ∃ a' b', μ a' b' < μ a b ∧ Rel a' b' w' ∧ Sub (V a' b' ++ ks) e') Q) (V a b ++ ks) w) : T P N (.loop c) Q env w :=
  T_loop (fun m e w => ∃ a b, m = μ a b ∧ Rel a b w ∧ Sub (V a b ++ ks) e) (μ a0 b0) ⟨a0, b0, rfl, h0, Sub.app hs hk⟩ fun m e w ⟨a, b, hm, hr, hsub⟩ => T_weak hsub (T_mono (fun e w ⟨a', b', h1, h2, h3⟩ => ⟨μ a' b', by omega, a', b', rfl, h2, h3⟩) (round a b w hr))
theorem T_loop3 {α β γ : Type} {c : Code} (ks : Env) (V : α → β → γ → Env) (μ : α → β → γ → Nat) (Rel : α → β → γ → World → Prop) (a0 : α) (b0 : β) (c0 : γ) (hs : Sub (V a0 b0 c0) env) (hk : Sub ks env) (h0 : Rel a0 b0 c0 w)
    (round : ∀ a b d w, Rel a b d w → T P N c (thenQ (fun e' w' => ∃ a' b' d', μ a' b' d' < μ a b d ∧ Rel a' b' d' w' ∧ Sub (V a' b' d' ++ ks) e') Q) (V a b d ++ ks) w) : T P N (.loop c) Q env w :=
  T_loop (fun m e w => ∃ a b d, m = μ a b d ∧ Rel a b d w ∧ Sub (V a b d ++ ks) e) (μ a0 b0 c0) ⟨a0, b0, c0, rfl, h0, Sub.app hs hk⟩ fun m e w ⟨a, b, d, hm, hr, hsub⟩ => T_weak hsub (T_mono (fun e w ⟨a', b', d', h1, h2, h3⟩ => ⟨μ a' b' d', by omega, a', b', d', rfl, h2, h3⟩) (round a b d w hr))
theorem T_loop4 {α β γ δ : Type} {c : Code} (ks : Env) (V : α → β → γ → δ → Env) (μ : α → β → γ → δ → Nat) (Rel : α → β → γ → δ → World → Prop) (a0 : α) (b0 : β) (c0 : γ) (d0 : δ) (hs : Sub (V a0 b0 c0 d0) env) (hk : Sub ks env) (h0 : Rel a0 b0 c0 d0 w)
    (round : ∀ a b d f w, Rel a b d f w → T P N c (thenQ (fun e' w' => ∃ a' b' d' f', μ a' b' d' f' < μ a b d f ∧ Rel a' b' d' f' w' ∧ Sub (V a' b' d' f' ++ ks) e') Q) (V a b d f ++ ks) w) : T P N (.loop c) Q env w :=
  T_loop (fun m e w => ∃ a b d f, m = μ a b d f ∧ Rel a b d f w ∧ Sub (V a b d f ++ ks) e) (μ a0 b0 c0 d0) ⟨a0, b0, c0, d0, rfl, h0, Sub.app hs hk⟩ fun m e w ⟨a, b, d, f, hm, hr, hsub⟩ => T_weak hsub (T_mono (fun e w ⟨a', b', d', f', h1, h2, h3⟩ => ⟨μ a' b' d' f', by omega, a', b', d', f', rfl, h2, h3⟩) (round a b d f w hr))
theorem T_loop5 {α β γ δ ε : Type} {c : Code} (ks : Env) (V : α → β → γ → δ → ε → Env) (μ : α → β → γ → δ → ε → Nat) (Rel : α → β → γ → δ → ε → World → Prop) (a0 : α) (b0 : β) (c0 : γ) (d0 : δ) (f0 : ε) (hs : Sub (V a0 b0 c0 d0 f0) env) (hk : Sub ks env) (h0 : Rel a0 b0 c0 d0 f0 w)
    (round : ∀ a b d f g w, Rel a b d f g w → T P N c (thenQ (fun e' w' => ∃ a' b' d' f' g', μ a' b' d' f' g' < μ a b d f g ∧ Rel a' b' d' f' g' w' ∧ Sub (V a' b' d' f' g' ++ ks) e') Q) (V a b d f g ++ ks) w) : T P N (.loop c) Q env w :=
  T_loop (fun m e w => ∃ a b d f g, m = μ a b d f g ∧ Rel a b d f g w ∧ Sub (V a b d f g ++ ks) e) (μ a0 b0 c0 d0 f0) ⟨a0, b0, c0, d0, f0, rfl, h0, Sub.app hs hk⟩ fun m e w ⟨a, b, d, f, g, hm, hr, hsub⟩ => T_weak hsub (T_mono (fun e w ⟨a', b', d', f', g', h1, h2, h3⟩ => ⟨μ a' b' d' f' g', by omega, a', b', d', f', g', rfl, h2, h3⟩) (round a b d f g w hr))
theorem T_loop6 {α β γ δ ε ζ : Type} {c : Code} (ks : Env) (V : α → β → γ → δ → ε → ζ → Env) (μ : α → β → γ → δ → ε → ζ → Nat) (Rel : α → β → γ → δ → ε → ζ → World → Prop) (a0 : α) (b0 : β) (c0 : γ) (d0 : δ) (f0 : ε) (g0 : ζ) (hs : Sub (V a0 b0 c0 d0 f0 g0) env) (hk : Sub ks env) (h0 : Rel a0 b0 c0 d0 f0 g0 w)
    (round : ∀ a b d f g h w, Rel a b d f g h w → T P N c (thenQ (fun e' w' => ∃ a' b' d' f' g' h', μ a' b' d' f' g' h' < μ a b d f g h ∧ Rel a' b' d' f' g' h' w' ∧ Sub (V a' b' d' f' g' h' ++ ks) e') Q) (V a b d f g h ++ ks) w) : T P N (.loop c) Q env w :=
  T_loop (fun m e w => ∃ a b d f g h, m = μ a b d f g h ∧ Rel a b d f g h w ∧ Sub (V a b d f g h ++ ks) e) (μ a0 b0 c0 d0 f0 g0) ⟨a0, b0, c0, d0, f0, g0, rfl, h0, Sub.app hs hk⟩ fun m e w ⟨a, b, d, f, g, h, hm, hr, hsub⟩ => T_weak hsub (T_mono (fun e w ⟨a', b', d', f', g', h', h1, h2, h3⟩ => ⟨μ a' b' d' f' g' h', by omega, a', b', d', f', g', h', rfl, h2, h3⟩) (round a b d f g h w hr))
end
end Go.Proofs.Ytpcgldkllnkaeaa.Zx


/-
  Regions that draw their order and hold ONE operation that breaks what the reads stand on (an append, a store): the barrier. General; nothing here names a program.
-/
namespace Go.Proofs.Ytpcgldkllnkaeaa.Zx
open Go.RowKit Zk
set_option linter.unusedVariables false
set_option linter.unusedSimpArgs false

/-- Whoever is listed has its forerunners listed. -/
structure Cl (ops : Array Oper) (listed : Array Bool) : Prop where
  size : listed.size = ops.size
  closed : ∀ j oj, ops[j]? = some oj → listed.getD j false = true → ∀ e ∈ oj.after, Region.binds .any e = true → listed.getD e.on false = true
theorem Cl.start (ops : Array Oper) : Cl ops (Array.replicate ops.size false) :=
  ⟨by simp, fun j oj _ hl => (by rw [getD_replicate_false] at hl; cases hl)⟩
theorem Cl.set {ops : Array Oper} {listed : Array Bool} {i : Nat} (inv : Cl ops listed) (hi : i ∈ Region.ready .any ops listed) : Cl ops (listed.setIfInBounds i true) := by
  obtain ⟨_, oi, hoi, hall⟩ := mem_ready.1 hi
  refine ⟨by simp [inv.size], fun j oj hj hl e he hb => ?_⟩
  by_cases hij : i = j
  · subst hij
    have : oj = oi := Option.some.inj (hj.symm.trans hoi)
    subst this
    exact getD_set_true (hall e he hb)
  · rw [getD_set_ne false hij] at hl
    exact getD_set_true (inv.closed j oj hj hl e he hb)
/-- Each of the list is waited for by one behind it in the list, or by the barrier. -/
def sinkL (ops : Array Oper) (c : Nat) : List Nat → Bool
  | [] => true
  | i :: r => (Region.waitsFor .any ops c i || r.any fun j => Region.waitsFor .any ops j i) && sinkL ops c r
theorem sink_not {ops : Array Oper} {c : Nat} {listed : Array Bool} (inv : Cl ops listed) : ∀ (B : List Nat), sinkL ops c B = true → ∀ i ∈ B, listed.getD i false = false → c ∉ Region.ready .any ops listed
  | [], _, i, hi, _ => by cases hi
  | b :: r, hs, i, hi, hun => by
    simp only [sinkL, Bool.and_eq_true, Bool.or_eq_true] at hs
    rcases List.mem_cons.1 hi with rfl | hi
    · rcases hs.1 with hw | hw
      · intro hc
        obtain ⟨_, oc, hoc, hall⟩ := mem_ready.1 hc
        obtain ⟨o', ho', e, he, hb, hon⟩ := Region.waitsFor_spec hw
        have : o' = oc := Option.some.inj (ho'.symm.trans hoc)
        subst this
        have h2 := hall e he hb
        rw [hon, hun] at h2
        cases h2
      · obtain ⟨j, hj, hw⟩ := List.any_eq_true.1 hw
        refine sink_not inv r hs.2 j hj ?_
        obtain ⟨oj, hoj, e, he, hb, hon⟩ := Region.waitsFor_spec hw
        cases hl : listed.getD j false with
        | false => rfl
        | true =>
          have h2 := inv.closed j oj hoj hl e he hb
          rw [hon, hun] at h2
          cases h2
    · exact sink_not inv r hs.2 i hi hun

section
variable {P : Program} {ops : Array Oper} {Q : Exit → Act → World → Prop} {S : World → Prop} {c : Nat}
/-- Whatever order is picked from here on; S holds behind every operation, till the barrier comes. -/
def wpAnyZ (P : Program) (ops : Array Oper) (Q : Exit → Act → World → Prop) (S : World → Prop) (c : Nat) : Nat → Array Bool → Act → World → Prop
  | 0, listed, a, w => Region.ready .any ops listed = [] ∧ Q .normal a w
  | fuel + 1, listed, a, w =>
    (Region.ready .any ops listed = [] → Q .normal a w) ∧
    ∀ i ∈ Region.ready .any ops listed, (i = c → wpOp P ops Q i (wpAny P .any ops Q fuel (listed.setIfInBounds i true)) a w) ∧ (i ≠ c → wpOp P ops Q i (fun a' w' => S w' ∧ wpAnyZ P ops Q S c fuel (listed.setIfInBounds i true) a' w') a w)
theorem wpAny_of_Z : ∀ (fuel : Nat) (listed : Array Bool) (a : Act) (w : World), wpAnyZ P ops Q S c fuel listed a w → wpAny P .any ops Q fuel listed a w
  | 0, _, _, _, h => h
  | fuel + 1, _, _, _, h => ⟨h.1, fun i hi => by
    by_cases hc : i = c
    · exact (h.2 i hi).1 hc
    · exact wpOp_mono (fun a' w' h' => wpAny_of_Z fuel _ a' w' h'.2) ((h.2 i hi).2 hc)⟩
theorem wpAnyZ_first {i : Nat} {oi : Oper} {v : Value} {B : List Nat} (hs : sinkL ops c B = true) (hiB : i ∈ B) (hic : i ≠ c) (hi : ops[i]? = some oi) (hsel : ∀ (j : Nat) (o : Oper) cs b, ops[j]? = some o → o.op ≠ .select cs b)
    (hQ : ∀ c a w, Q (.panic c) (a.put oi.dst v) w → Q (.panic c) a w) :
    ∀ (fuel : Nat) (listed : Array Bool) (a : Act) (w : World), Cl ops listed →
      (∀ j oj, ops[j]? = some oj → j ≠ i → listed.getD j true = false → (∀ e ∈ oj.after, Region.binds .any e = true → e.on ≠ i) → oi.apart ops oj = true) →
      i ∈ Region.ready .any ops listed → YieldsIf P ops S oi v a → S w →
      wpAnyZ P ops Q S c fuel (listed.setIfInBounds i true) (a.put oi.dst v) w → wpAnyZ P ops Q S c (fuel + 1) listed a w := by
  intro fuel
  induction fuel with
  | zero =>
    intro listed a w inv _ hr hy hS H
    refine ⟨fun h => (by rw [h] at hr; cases hr), fun j hj => ?_⟩
    have hun : listed.getD i false = false := getD_both (mem_ready.1 hr).1
    have hjc : j ≠ c := fun e => sink_not inv B hs i hiB hun (e ▸ hj)
    refine ⟨fun e => absurd e hjc, fun _ => ?_⟩
    by_cases hji : j = i
    · subst hji; exact hy.wpOp hi hS ⟨hS, H⟩
    · have := ready_mono hj hji
      rw [H.1] at this
      cases this
  | succ fuel ih =>
    intro listed a w inv hfree hr hy hS H
    refine ⟨fun h => (by rw [h] at hr; cases hr), fun j hj => ?_⟩
    have hun : listed.getD i false = false := getD_both (mem_ready.1 hr).1
    have hjc : j ≠ c := fun e => sink_not inv B hs i hiB hun (e ▸ hj)
    refine ⟨fun e => absurd e hjc, fun _ => ?_⟩
    by_cases hji : j = i
    · subst hji; exact hy.wpOp hi hS ⟨hS, H⟩
    · have h1 := (H.2 j (ready_mono hj hji)).2 hjc
      obtain ⟨hjun, oj, hoj, hall⟩ := mem_ready.1 hj
      have hnot : ∀ e ∈ oj.after, Region.binds .any e = true → e.on ≠ i := fun e he hb heq => by
        have h1 := hall e he hb
        rw [heq, hun] at h1
        cases h1
      have h2 := wpOp_putIf hoj (hfree j oj hoj hji hjun hnot) (fun cs b => hsel i oi cs b hi) (fun cs b => hsel j oj cs b hoj) hQ hy h1
      have hfree' : ∀ k ok, ops[k]? = some ok → k ≠ i → (listed.setIfInBounds j true).getD k true = false →
          (∀ e ∈ ok.after, Region.binds .any e = true → e.on ≠ i) → oi.apart ops ok = true := fun k ok hk hki hunk hno => by
        refine hfree k ok hk hki ?_ hno
        by_cases hjk : j = k
        · subst hjk; exact hjun
        · rw [getD_set_ne true hjk] at hunk; exact hunk
      refine wpOp_mono (fun a' w' h3 => ⟨h3.2.1, ih (listed.setIfInBounds j true) a' w' (inv.set hj) hfree' (ready_mono hr (Ne.symm hji)) h3.1 h3.2.1 ?_⟩) h2
      rw [Array.setIfInBounds_comm _ _ hji]
      exact h3.2.2
end

/-- An order: (number, kind). 0: yields in any world; 1: yields in every world of S, and comes ahead of the barrier; 2: the only one that may come up, keeps S; 3: the only one that may come up, the barrier or behind it. -/
def ordZ (ops : Array Oper) (B : List Nat) (c : Nat) : Nat → Array Bool → List (Nat × Nat) → Bool
  | _, listed, [] => (Region.ready .any ops listed).isEmpty
  | 0, _, _ :: _ => false
  | f + 1, listed, (i, 0) :: r => (Region.ready .any ops listed).contains i && Region.free .any ops listed i && ordZ ops B c f (listed.setIfInBounds i true) r
  | f + 1, listed, (i, 1) :: r => (Region.ready .any ops listed).contains i && Region.free .any ops listed i && B.contains i && !Nat.beq i c && ordZ ops B c f (listed.setIfInBounds i true) r
  | f + 1, listed, (i, 2) :: r => (match Region.ready .any ops listed with | [j] => Nat.beq j i | _ => false) && !Nat.beq i c && ordZ ops B c f (listed.setIfInBounds i true) r
  | f + 1, listed, (i, _) :: r => (match Region.ready .any ops listed with | [j] => Nat.beq j i | _ => false) && ordZ ops B c f (listed.setIfInBounds i true) r

section
variable {P : Program} {N : Nat} {Q : Post} {env : Env} {w : World} {S : World → Prop} {ops : Array Oper} {B : List Nat} {c : Nat}
/-- 0: any world. -/
def ZA (P : Program) (N : Nat) (ops : Array Oper) (B : List Nat) (c : Nat) (Q : Post) (order : List (Nat × Nat)) (env : Env) (w : World) : Prop :=
  Region.noSelect ops = true → sinkL ops c B = true → ∀ a, Fits N env a → ∀ fuel listed, Cl ops listed → ordZ ops B c fuel listed order = true → wpAny P .any ops (lift N Q) fuel listed a w
/-- 1, 2: ahead of the barrier. -/
def ZB (P : Program) (N : Nat) (ops : Array Oper) (B : List Nat) (c : Nat) (Q : Post) (S : World → Prop) (order : List (Nat × Nat)) (env : Env) (w : World) : Prop :=
  Region.noSelect ops = true → sinkL ops c B = true → S w → ∀ a, Fits N env a → ∀ fuel listed, Cl ops listed → ordZ ops B c fuel listed order = true → wpAnyZ P ops (lift N Q) S c fuel listed a w
theorem T_zed {id : Nat} {l : List Oper} (B : List Nat) (c : Nat) (order : List (Nat × Nat)) (hm : P.follows .mixedOrders = true)
    (hB : (Region.noSelect l.toArray && sinkL l.toArray c B && ordZ l.toArray B c l.toArray.size (Array.replicate l.toArray.size false) order) = true)
    (h : ∀ w1, Like w w1 → ZA P N l.toArray B c Q order env w1) : T P N (.region id l.toArray true) Q env w := fun a ha => by
  simp only [Bool.and_eq_true] at hB
  exact wp_region_any hm (h _ (Like.drew w) hB.1.1 hB.1.2 a ha _ _ (Cl.start _) hB.2)
theorem ready_one {listed : Array Bool} {i : Nat} (h1 : (match Region.ready .any ops listed with | [j] => Nat.beq j i | _ => false) = true) : Region.ready .any ops listed = [i] := by
  split at h1
  · rename_i j hj
    have : j = i := by simpa using h1
    rw [hj, this]
  · cases h1
theorem mem_of_contains {listed : Array Bool} {i : Nat} (h : (Region.ready .any ops listed).contains i = true) : i ∈ Region.ready .any ops listed := by simpa using h
theorem ZA_B {order : List (Nat × Nat)} (S : World → Prop) (hS : S w) (h : ZB P N ops B c Q S order env w) : ZA P N ops B c Q order env w := fun hs hk a ha fuel listed inv hB =>
  wpAny_of_Z _ _ _ _ (h hs hk hS a ha fuel listed inv hB)
theorem ZB_y {i : Nat} {d : Tmp} [PSt Q d] {op : Op} {ty : TypeId} {pos : String} {after : Array Edge} {v : Value} {order : List (Nat × Nat)} (hi : ops[i]? = some ⟨some d, op, ty, pos, after, none⟩)
    (hy : Y P S env ⟨some d, op, ty, pos, after, none⟩ v) (hd : Nat.blt d N = true) (h : ZB P N ops B c Q S order ((d, v) :: env) w) : ZB P N ops B c Q S ((i, 1) :: order) env w := fun hs hk hS a ha fuel listed inv hB => by
  cases fuel with
  | zero => simp [ordZ] at hB
  | succ fuel =>
    simp only [ordZ, Bool.and_eq_true] at hB
    obtain ⟨⟨⟨⟨h1, h2⟩, h3⟩, h4⟩, h5⟩ := hB
    have hic : i ≠ c := fun e => by subst e; simp at h4
    refine wpAnyZ_first hk (by simpa using h3) hic hi (Region.noSelect_spec hs) (fun c a w hq => lift_rm (v := _) hd hq) fuel listed a w inv (Region.free_spec hi h2) (mem_of_contains h1)
      (.inl ⟨by simp [Region.wanted], fun w hw => hy N a w ha hw⟩) hS ?_
    exact h hs hk hS _ (ha.put d v hd) fuel _ (inv.set (mem_of_contains h1)) h5
theorem ZB_o {i : Nat} {d : Option Tmp} {op : Op} {ty : TypeId} {pos : String} {after : Array Edge} {order : List (Nat × Nat)} (hi : ops[i]? = some ⟨d, op, ty, pos, after, none⟩)
    (h : O P N Q ⟨d, op, ty, pos, after, none⟩ env w (fun e' w' => S w' ∧ ZB P N ops B c Q S order e' w')) : ZB P N ops B c Q S ((i, 2) :: order) env w := fun hs hk hS a ha fuel listed inv hB => by
  cases fuel with
  | zero => simp [ordZ] at hB
  | succ fuel =>
    simp only [ordZ, Bool.and_eq_true] at hB
    obtain ⟨⟨h1, h4⟩, h5⟩ := hB
    have hr := ready_one h1
    have hic : i ≠ c := fun e => by subst e; simp at h4
    refine ⟨fun h0 => (by rw [hr] at h0; cases h0), fun j hj => ?_⟩
    rw [hr] at hj
    obtain rfl := List.mem_singleton.1 hj
    refine ⟨fun e => absurd e hic, fun _ => ?_⟩
    unfold wpOp
    simp only [hi, Region.wanted, if_true]
    exact .inl (Oper.wp_mono (fun a' w' ⟨e', h3, h4, h6⟩ => ⟨h4, h6 hs hk h4 a' h3 fuel _ (inv.set (by rw [hr]; simp)) h5⟩) (h a ha))
/-- The barrier. -/
theorem ZB_c {d : Option Tmp} {op : Op} {ty : TypeId} {pos : String} {after : Array Edge} {order : List (Nat × Nat)} (hi : ops[c]? = some ⟨d, op, ty, pos, after, none⟩)
    (h : O P N Q ⟨d, op, ty, pos, after, none⟩ env w (ZA P N ops B c Q order)) : ZB P N ops B c Q S ((c, 3) :: order) env w := fun hs hk hS a ha fuel listed inv hB => by
  cases fuel with
  | zero => simp [ordZ] at hB
  | succ fuel =>
    simp only [ordZ, Bool.and_eq_true] at hB
    obtain ⟨h1, h5⟩ := hB
    have hr := ready_one h1
    refine ⟨fun h0 => (by rw [hr] at h0; cases h0), fun j hj => ?_⟩
    rw [hr] at hj
    obtain rfl := List.mem_singleton.1 hj
    refine ⟨fun _ => ?_, fun e => absurd rfl e⟩
    unfold wpOp
    simp only [hi, Region.wanted, if_true]
    exact .inl (Oper.wp_mono (fun a' w' ⟨e', h3, h6⟩ => h6 hs hk a' h3 fuel _ (inv.set (by rw [hr]; simp)) h5) (h a ha))
/-- Behind the barrier, or where one alone may come up. -/
theorem ZA_o {i : Nat} {d : Option Tmp} {op : Op} {ty : TypeId} {pos : String} {after : Array Edge} {order : List (Nat × Nat)} (hi : ops[i]? = some ⟨d, op, ty, pos, after, none⟩)
    (h : O P N Q ⟨d, op, ty, pos, after, none⟩ env w (ZA P N ops B c Q order)) : ZA P N ops B c Q ((i, 3) :: order) env w := fun hs hk a ha fuel listed inv hB => by
  cases fuel with
  | zero => simp [ordZ] at hB
  | succ fuel =>
    simp only [ordZ, Bool.and_eq_true] at hB
    obtain ⟨h1, h5⟩ := hB
    have hr := ready_one h1
    refine wpAny_all hr (by simp) fun j hj => ?_
    obtain rfl := List.mem_singleton.1 hj
    unfold wpOp
    simp only [hi, Region.wanted, if_true]
    exact .inl (Oper.wp_mono (fun a' w' ⟨e', h3, h6⟩ => h6 hs hk a' h3 fuel _ (inv.set (by rw [hr]; simp)) h5) (h a ha))
theorem ZA_oy {i : Nat} {d : Tmp} {op : Op} {ty : TypeId} {pos : String} {after : Array Edge} {v : Value} {order : List (Nat × Nat)} (hi : ops[i]? = some ⟨some d, op, ty, pos, after, none⟩)
    (hy : Y P (Like w) env ⟨some d, op, ty, pos, after, none⟩ v) (hd : Nat.blt d N = true) (h : ZA P N ops B c Q order ((d, v) :: env) w) : ZA P N ops B c Q ((i, 3) :: order) env w :=
  ZA_o hi (o_y hy (Like.refl w) hd h)
theorem ZA_nil (h : Q .normal env w) : ZA P N ops B c Q [] env w := fun _ _ a ha fuel listed inv hB => by
  have hr : Region.ready .any ops listed = [] := by
    cases fuel <;> simpa [ordZ] using hB
  exact wpAny_done hr ⟨env, ha, h⟩ fuel
end
end Go.Proofs.Ytpcgldkllnkaeaa.Zx


/-
  More operations: literals, makes, strings, arrays by value. General; nothing here names a program.
-/
namespace Go.Proofs.Ytpcgldkllnkaeaa.Zx
open Go.RowKit Zk
set_option linter.unusedVariables false
set_option linter.unusedSimpArgs false
section
variable {P : Program} {N : Nat} {Q : Post} {env : Env} {w w0 : World} {M : Nat → Prop} {rs : List Res} {K : Env → World → Prop} {d : Tmp} {ty : TypeId} {pos : String} {after : Array Edge} {g : Option (Nat × Bool)}
def idx : Nat → List Value → List (Nat × Value)
  | _, [] => []
  | k, v :: vs => (k, v) :: idx (k + 1) vs
theorem fill_all (size : Nat) : ∀ (vs : List Value) (k : Nat) (pre junk : List Value), (∀ v ∈ vs, v.cells.size = size) → pre.length = k * size → junk.length = vs.length * size →
    Instr.fill (fun i => some (i * size, size)) (pre ++ junk).toArray (idx k vs) = some (pre ++ vs.flatMap fun v => v.cells.toList).toArray
  | [], k, pre, junk, _, _, hj => by
    obtain rfl : junk = [] := List.eq_nil_of_length_eq_zero (by simpa using hj)
    simp [idx, Instr.fill]
  | v :: vs, k, pre, junk, hv, hp, hj => by
    have hvs := hv v (by simp)
    have hj' : junk.length = size + vs.length * size := by rw [hj, List.length_cons, Nat.succ_mul, Nat.add_comm]
    simp only [idx]
    rw [fill_part (fun i => some (i * size, size)) _ k (k * size) size v.cells v rfl _ rfl hvs (by simp; omega)]
    have e1 : (pre ++ junk).toArray.toList.take (k * size) = pre := by simp [hp]
    have e2 : (pre ++ junk).toArray.toList.drop (k * size + size) = junk.drop size := by
      simp only [List.drop_append, hp]
      rw [List.drop_of_length_le (by omega), List.nil_append]
      congr 1
      omega
    rw [e1, e2, fill_all size vs (k + 1) (pre ++ v.cells.toList) (junk.drop size) (fun u hu => hv u (by simp [hu])) (by simp [hp, hvs, Nat.succ_mul]) (by simp; omega)]
    simp
theorem evp_idx (e : Env) : ∀ (parts : List (Nat × Operand)) (vs : List Value) (k : Nat), parts.map (·.1) = List.range' k parts.length → evl e (parts.map (·.2)) = some vs → evp e parts = some (idx k vs)
  | [], vs, k, _, h => by simp only [List.map_nil, evl, Option.some.injEq] at h; subst h; rfl
  | (i, x) :: parts, vs, k, hi, h => by
    simp only [List.map_cons, evl] at h
    simp only [List.map_cons, List.length_cons, List.range'_succ, List.cons.injEq] at hi
    cases hx : ev e x with
    | none => rw [hx] at h; cases h
    | some v =>
      cases hxs : evl e (parts.map (·.2)) with
      | none => rw [hx, hxs] at h; cases h
      | some us =>
        rw [hx, hxs] at h
        simp only [Option.some.injEq] at h
        subst h
        simp only [evp, hx, evp_idx e parts us (k + 1) hi.2 hxs, idx, hi.1]
/-- A slice literal. -/
theorem o_bslL {t e : TypeId} {z : Value} {size bytes len : Nat} {parts : Array (Nat × Operand)} {us : List Value} (vs : List Value) (TE : Elem P t e z size bytes) (hz : ∀ W, (zeroValue e).run P W = .ok z W) (S : St w0 M rs w) (hp : evl env (parts.toList.map (·.2)) = some us)
    (hi : parts.toList.map (·.1) = List.range' 0 parts.toList.length) (hlp : parts.toList.length = len) (hus : us.all (fun v => Nat.beq v.cells.size size) = true) (hvs : us.flatMap (fun v => v.cells.toList) = vs)
    (hl : Nat.ble (len * size) 16777216 = true) (h0 : Nat.blt 0 (len * size) = true) (hd : Nat.blt d N = true)
    (h : ∀ b w', Like w w' → St w0 M (rs ++ [row e size (some ⟨b, 0, none⟩) len len vs]) w' → K ((d, .slice (some ⟨b, 0, none⟩) len len) :: env) w') :
    O P N Q ⟨some d, .buildSlice t len parts, ty, pos, after, g⟩ env w K := fun a ha => by
  have hpe : (parts.map fun (i, x) => (i, a.eval x)).toList = idx 0 us := by
    rw [← evp_map ha parts.toList (idx 0 us) (evp_idx env parts.toList us 0 hi hp)]
    simp
  have hul : us.length = len := by
    have h1 := evl_map ha _ _ hp
    rw [← h1]
    simpa using hlp
  have husz : ∀ v ∈ us, v.cells.size = size := fun v hv => by
    have := List.all_eq_true.1 hus v hv
    simpa using this
  have hvl : vs.length = len * size := by
    rw [← hvs, ← hul]
    clear hvs hus hp hpe hul
    induction us with
    | nil => simp
    | cons u us ih => simp [husz u (by simp), ih (fun v hv => husz v (by simp [hv])), Nat.succ_mul, Nat.add_comm]
  obtain ⟨i, hi, hz', hsize, hby⟩ := info_parts TE.hi
  have hsz : (P.info? e).map (·.size) = some size := by rw [hi]; simp [hsize]
  have hl' : ¬ len * size > 2 ^ 24 := by have : len * size ≤ 16777216 := by simpa using hl
                                         omega
  have h0' : ¬ len * size = 0 := by have : 0 < len * size := by simpa using h0
                                    omega
  have hlen : len ≤ maxLen := by
    have h1 : len * 1 ≤ len * size := Nat.mul_le_mul_left _ TE.hsz
    unfold maxLen
    omega
  have hfill : Instr.fill (fun i => some (i * size, size)) ((Array.range (len * size)).map (z.cells[· % z.cells.size]!)) (idx 0 us) = some vs.toArray := by
    have := fill_all size us 0 [] ((Array.range (len * size)).map (z.cells[· % z.cells.size]!)).toList husz (by simp) (by simp [hul])
    simp only [List.nil_append, hvs] at this
    exact this
  have hrun : (Instr.buildSlice t len (parts.map fun (i, x) => (i, a.eval x))).run P w = .ok (.slice (some ⟨w.heap.size, 0, none⟩) len len) (w.alloc (.cells vs.toArray e)) := by
    simp only [Instr.buildSlice, Sem.run_bind, run_underlying TE.ht, Result.andThen_ok, sizeOf_run hsz, if_neg hl', if_neg h0', hz, Sem.run_pure, hpe, hfill, newRow, run_newObj_alloc]
  unfold Oper.wp execOp
  simp only [Sem.run_bind, hrun, Result.andThen_ok, Sem.run_pure]
  refine ⟨_, ha.put d _ hd, h _ _ (like_alloc w _) (S.new (like_alloc w _) _ (World.ownsRow_lit w vs.toArray len (Nat.zero_le _) hlen (by simpa using hvl)) fun i hi => ?_)⟩
  change (Value.slice (some ⟨w.heap.size, 0, none⟩) len len).ownBlock = some i at hi
  simp only [Value.ownBlock, Option.some.injEq] at hi
  subst hi
  exact ⟨Nat.le_refl _, by simp⟩
theorem o_bsl {t e : TypeId} {z : Value} {size bytes len : Nat} {parts : Array (Nat × Operand)} {us : List Value} (vs : List Value) (TE : Elem P t e z size bytes) (hz : ∀ W, (zeroValue e).run P W = .ok z W) (S : St w0 M rs w) (hp : evl env (parts.toList.map (·.2)) = some us)
    (hi : parts.toList.map (·.1) = List.range' 0 parts.toList.length) (hlp : parts.toList.length = len) (hus : us.all (fun v => Nat.beq v.cells.size size) = true) (hvs : us.flatMap (fun v => v.cells.toList) = vs)
    (hl : Nat.ble (len * size) 16777216 = true) (h0 : Nat.blt 0 (len * size) = true) (hd : Nat.blt d N = true)
    (h : ∀ b w', St w0 M (rs ++ [row e size (some ⟨b, 0, none⟩) len len vs]) w' → K ((d, .slice (some ⟨b, 0, none⟩) len len) :: env) w') :
    O P N Q ⟨some d, .buildSlice t len parts, ty, pos, after, g⟩ env w K := o_bslL vs TE hz S hp hi hlp hus hvs hl h0 hd fun b w' _ => h b w'
/-- An empty slice literal. -/
theorem o_bsl0 {t e : TypeId} {z : Value} {size bytes : Nat} (TE : Elem P t e z size bytes) (S : St w0 M rs w) (hd : Nat.blt d N = true)
    (h : ∀ b w', Like w w' → St w0 M (rs ++ [row e size (some ⟨b, 0, none⟩) 0 0 []]) w' → K ((d, .slice (some ⟨b, 0, none⟩) 0 0) :: env) w') :
    O P N Q ⟨some d, .buildSlice t 0 #[], ty, pos, after, g⟩ env w K := fun a ha => by
  obtain ⟨i, hi, hz', hsize, hby⟩ := info_parts TE.hi
  have hsz : (P.info? e).map (·.size) = some size := by rw [hi]; simp [hsize]
  have hrun : (Instr.buildSlice t 0 ((#[] : Array (Nat × Operand)).map fun (i, x) => (i, a.eval x))).run P w = .ok (.slice (some ⟨w.heap.size, 0, none⟩) 0 0) (w.alloc (.cells #[] e)) := by
    have h1 : ¬ (0 : Nat) > 2 ^ 24 := by omega
    simp only [Instr.buildSlice, Sem.run_bind, run_underlying TE.ht, Result.andThen_ok, sizeOf_run hsz, Nat.zero_mul, if_neg h1, if_true, Sem.run_pure, List.map_toArray, List.map_nil, Instr.fill, newRow, show Array.range 0 = #[] from rfl, Array.map_empty, run_newObj_alloc]
  unfold Oper.wp execOp
  simp only [Sem.run_bind, hrun, Result.andThen_ok, Sem.run_pure]
  refine ⟨_, ha.put d _ hd, h _ _ (like_alloc w _) (S.new (like_alloc w _) _ (World.ownsRow_lit w #[] 0 (Nat.zero_le _) (Nat.zero_le _) (by simp)) fun i hi => ?_)⟩
  change (Value.slice (some ⟨w.heap.size, 0, none⟩) 0 0).ownBlock = some i at hi
  simp only [Value.ownBlock, Option.some.injEq] at hi
  subst hi
  exact ⟨Nat.le_refl _, by simp⟩
/-- make([]T, n, c) with elements of one cell. -/
theorem o_make {t e : TypeId} {z : Value} {bytes : Nat} {x y : Operand} {k k' : IntKind} {jn jc : Int} {n c : Nat} (TE : Elem P t e z 1 bytes) (hone : z.oneCell' = true) (S : St w0 M rs w) (hx : ev env x = some (.int k jn)) (hy : ev env y = some (.int k' jc)) (hn : Nt jn n) (hc : Nt jc c) (hd : Nat.blt d N = true)
    (hnc : n ≤ c) (hbytes : c * bytes ≤ 281474976710656) (hcm : c ≤ 9223372036854775807)
    (h : ∀ b w', St w0 M (rs ++ [row e 1 (some ⟨b, 0, none⟩) n c (List.replicate n z)]) w' → K ((d, .slice (some ⟨b, 0, none⟩) n c) :: env) w') :
    O P N Q ⟨some d, .makeSlice t x y, ty, pos, after, g⟩ env w K := fun a ha => by
  have e1 := hn.eq
  have e2 := hc.eq
  subst e1; subst e2
  obtain ⟨i, hi, hz', hsize, hby⟩ := info_parts TE.hi
  have hb : (i.bytes : Int) * (c : Int) ≤ 281474976710656 := by
    have h : ((i.bytes * c : Nat) : Int) ≤ 281474976710656 := by rw [hby, Nat.mul_comm]; omega
    rwa [Int.natCast_mul] at h
  have hr := run_make (P := P) w t e i z TE.ht hi hz' k k' n c (by omega) (by omega) hb (by omega)
  simp only [Int.toNat_natCast] at hr
  unfold Oper.wp execOp
  simp only [ha.eval hx, ha.eval hy, Sem.run_bind, hr, Result.andThen_ok, Sem.run_pure]
  have hzc : z.cells.size = 1 := TE.hzs
  have hcells : madeCells z.cells (c * i.size) = Array.replicate c z := by
    rw [hsize, Nat.mul_one, cells_one hone]
    apply Array.ext
    · simp [madeCells]
    · intro j h1 h2
      simp [madeCells, Nat.mod_one]
  refine ⟨_, ha.put d _ hd, h _ _ (S.new (like_alloc w _) _ ?_ fun i hi => ?_)⟩
  · refine ⟨by simp, .inr ⟨w.heap.size, c, _, rfl, Nat.zero_le _, heap_alloc_new w _, hnc, by unfold maxLen; omega, ?_, ?_⟩⟩
    · rw [hcells]; simp
    · rw [hcells, Nat.mul_one]
      simp [hnc]
  · change (Value.slice (some ⟨w.heap.size, 0, none⟩) n c).ownBlock = some i at hi
    simp only [Value.ownBlock, Option.some.injEq] at hi
    subst hi
    exact ⟨Nat.le_refl _, by simp⟩
/-- '[]byte("..")' of a constant: the row gets the run-time's mark. -/
theorem freeze_at (w : World) (g : Nat) (C : Array Value) (e : TypeId) (hg : w.heap[g]? = some (.cells C e (0, 0))) :
    w.grownBy (w.freeze ⟨g, C.size, none⟩ 1) (some g) ∧ (w.freeze ⟨g, C.size, none⟩ 1).heap[g]? = some (.cells C e (C.size, C.size + 1)) := by
  unfold World.freeze
  rw [if_neg (by decide)]
  refine ⟨⟨rfl, rfl, rfl, by simp, fun k hk hne => ?_⟩, ?_⟩
  · have : g ≠ k := fun e => hne (by rw [e])
    simp [Array.getElem?_modify, this]
  · simp [Array.getElem?_modify, hg]
theorem o_bconst {t e b n c : Nat} {x : Operand} {xs : List Value} (S : St w0 M rs w) (k : Nat) (hk : rs[k]? = some (row e 1 (some ⟨b, 0, none⟩) n c xs)) (ht : P.underlying t = some (.slice e)) (he : P.underlying e = some (.int .u8)) (hx : ev env x = some (.slice (some ⟨b, 0, none⟩) n c)) (hn : 0 < n) (hd : Nat.blt d N = true)
    (h : ∀ w', St w0 M (rs.set k (fixed 1 (some ⟨b, 0, none⟩) n c xs)) w' → K ((d, .slice (some ⟨b, 0, none⟩) n c) :: env) w') : O P N Q ⟨some d, .convert t t x, ty, pos, after, g⟩ env w K := fun a ha => by
  have hown : w.ownsRow 0 e 1 (.slice (some ⟨b, 0, none⟩) n c) n xs := S.get k hk
  rcases hown.2 with ⟨h1, _⟩ | ⟨g', cap, cur, h1, _, hg, h2, h3, h4, h5⟩
  · cases h1
  · injection h1 with h1 _ h6
    injection h1 with h1
    injection h1 with h1
    subst h1; subst h6
    obtain ⟨f1, f2⟩ := freeze_at w b cur e hg
    have hsh : w.shape? b = some (e, cur.size) := by
      unfold World.shape?
      rw [hg]
    have hr : (convert t t (.slice (some ⟨b, 0, none⟩) n c)).run P w = .ok (.slice (some ⟨b, 0, none⟩) n c) (w.freeze ⟨b, cur.size, none⟩ 1) := by
      simp [convert, run_underlying ht, run_underlying he, markStringish, hsh]
    unfold Oper.wp execOp
    simp only [ha.eval hx, Sem.run_bind, hr, Result.andThen_ok, Sem.run_pure]
    refine ⟨_, ha.put d _ hd, h _ (S.upd k hk f1.os f1.tape f1.output f1.size (fun i hi hne => f1.block i hi (fun e => hne (by injection e with e; subst e; rfl))) ?_ fun i ⟨ad, _, hA, hi⟩ => .inl ?_)⟩
    · have hrs := rs_of_row hown
      refine ⟨⟨hrs.rd.1, fun hn => ⟨_, rfl, ?_, fun j u hu => ?_⟩⟩, hrs.cap, hrs.max⟩
      · exact (Array.getElem?_eq_some_iff.1 f2).1
      · have hc := hrs.rd.2 hn
        obtain ⟨ad, had, _, hcell⟩ := hc
        cases had
        have := hcell j u hu
        rw [Addr.add_mid] at this ⊢
        rw [cell_of_row _ b _ cur e (0, 0) hg] at this
        rw [cell_of_row _ b _ cur e _ f2]
        exact this
    · cases hA
      subst hi
      rfl
/-- A store over a whole block. -/
theorem o_stW {st : TypeId} {x y : Operand} {b t : Nat} {cs vs : Array Value} (S : St w0 M rs w) (k : Nat) (hk : rs[k]? = some (blk b t cs)) (hx : ev env x = some (.pointer (some ⟨b, 0, none⟩))) (hy : ev env y = some (.agg vs))
    (hsz : (P.info? st).map (·.size) = some vs.size) (hl : vs.size = cs.size) (h1 : ∀ u ∈ vs.toList, u.oneCell' = true)
    (h : ∀ w', St w0 M (rs.set k (blk b t vs)) w' → K env w') : O P N Q ⟨none, .store st x y, ty, pos, after, g⟩ env w K :=
  o_stR S k hk hx hy hsz (by omega) h1 fun w' S' => h w' (by
    have : (cs.toList.take 0 ++ vs.toList ++ cs.toList.drop (0 + vs.size)).toArray = vs := by
      rw [Nat.zero_add, hl, ← Array.length_toList, List.drop_length]
      simp
    rwa [this] at S')
/-- 'x[k] = v' in a row of the call's own. -/
theorem o_strow {st : TypeId} {x y : Operand} {e n c k : Nat} {A : Option Addr} {xs : List Value} {v : Value} (S : St w0 M rs w) (i : Nat) (hk : rs[i]? = some (row e 1 A n c xs)) (hx : ev env x = some (pR A k 1)) (hy : ev env y = some v)
    (hv : v.oneCell' = true) (hsz : (P.info? st).map (·.size) = some 1) (hkn : k < n)
    (h : ∀ w', St w0 M (rs.set i (row e 1 A n c (xs.set k v))) w' → K env w') : O P N Q ⟨none, .store st x y, ty, pos, after, g⟩ env w K := fun a ha => by
  have hown : w.ownsRow 0 e 1 (.slice A n c) n xs := S.get i hk
  obtain ⟨b, cap, hv', _, hlt⟩ := hown.form (by omega)
  injection hv' with hA _ hcap
  subst hA; subst hcap
  have hxa : a.eval x = .pointer (some ⟨b, k, none⟩) := by
    rw [ha.eval hx]
    simp [pR, Addr.add_mid]
  have hxl : xs.length = n := by have := hown.1; simpa using this
  have hc : w.cell? ⟨b, k, none⟩ = some (xs[k]'(by omega)) := (hown.cellAt k (by omega)).trans (List.getElem?_eq_getElem (by omega))
  have hf : w.frozen? ⟨b, k, none⟩ = false := hown.frozenAt k
  have hr : (storeVar st ⟨b, k, none⟩ v).run P w = .ok () (w.setCell ⟨b, k, none⟩ v) := by
    simp only [storeVar, Sem.run_bind, sizeOf_run hsz, cells_one hv, Result.andThen_ok]
    simp [storeCells, hv, stored, hc, hf, run_store, go_sem]
  unfold Oper.wp execOp
  simp only [hxa, ha.eval hy, Instr.storeAt, Instr.sureAddr, Sem.run_bind, Sem.run_pure, Result.andThen_ok, hr]
  refine ⟨env, ha, h _ (S.upd i hk rfl rfl rfl (by simp) (fun j hj hn => Below.heap_setCell w ⟨b, k, none⟩ v j (fun e => hn (by simp [row, Value.ownBlock, e]))) ?_ fun j hj => .inl hj)⟩
  exact (hown.stored k v).1
end
section
variable {P : Program} {S : World → Prop} {env : Env} {w : World} {dst : Option Tmp} {ty : TypeId} {pos : String} {after : Array Edge} {g : Option (Nat × Bool)}
/-! strings -/
/-- string(b) -/
theorem y_bstr {x : Operand} {src dt e : TypeId} {A : Option Addr} {n c : Nat} {l : List UInt8} (hs : P.underlying src = some (.slice e)) (he : P.underlying e = some (.int .u8)) (hd : P.underlying dt = some .string) (hx : ev env x = some (.slice A n c)) (hr : Rs w 1 A n c (bL l)) :
    Y P (Like w) env ⟨dst, .convert src dt x, ty, pos, after, g⟩ (.string ⟨l.toArray⟩) := fun N a w' ha hw => by
  simp only [execOp, ha.eval hx, Sem.run_bind, run_conv_reads c hs he hd (hr.rd.below hw), Sem.run_pure, Result.andThen_ok]
/-! arrays behind a pointer, cut -/
/-! values of many cells -/
theorem y_build {t : TypeId} {parts : Array (Nat × Operand)} {ps : List (Nat × Value)} {cs : Array Value} (hp : evp env parts.toList = some ps) (hb : P.built t ps = some cs) :
    Y P S env ⟨dst, .build t parts, ty, pos, after, g⟩ (.agg cs) := fun N a w ha _ => by
  have hpe : (parts.map fun (i, x) => (i, a.eval x)).toList = ps := by
    rw [← evp_map ha parts.toList ps hp]
    simp
  simp only [execOp, Sem.run_bind, run_build (P := P) w t _ cs (by rw [hpe]; exact hb), Result.andThen_ok, Sem.run_pure]
/-- A load of many cells out of a block known whole. -/
theorem y_ldW {x : Operand} {b o t size : Nat} {cs : Array Value} {vs : List Value} {lt : TypeId} {d : TypeDesc} (hd : P.underlying lt = some d) (hrow : d.isRow = true) (hsz : (P.info? lt).map (·.size) = some size) (hx : ev env x = some (.pointer (some ⟨b, o, none⟩))) (hb : Blk w b t cs) (hv : (cs.toList.drop o).take size = vs ∧ vs.length = size) :
    Y P (Like w) env ⟨dst, .load lt x, ty, pos, after, g⟩ (.agg vs.toArray) := by
  obtain ⟨h1, h2⟩ := hv
  refine y_ldR hd hrow (by rw [h2]; exact hsz) hx fun j v hj => ?_
  rw [hb.cell]
  rw [← h1, List.getElem?_take] at hj
  split at hj
  · rw [List.getElem?_drop] at hj
    simpa using hj
  · cases hj
/-! against nil -/
theorem y_seqn {x : Operand} {t e : TypeId} {u : TypeId} {A : Option Addr} {n c : Nat} (ht : P.underlying t = some (.slice e)) (hx : ev env x = some (.slice A n c)) : Y P S env ⟨dst, .binOp .eql t x (.const (.slice none 0 0)) u, ty, pos, after, g⟩ (.bool A.isNone) := fun N a w ha _ => by
  have hy : a.eval (.const (.slice none 0 0)) = .slice none 0 0 := rfl
  simp only [execOp, ha.eval hx, hy, eqGuard, binOp, Bool.not_true, Bool.false_eq_true, if_false, ite_self,  Sem.run_bind, Sem.run_pure, Result.andThen_ok, run_equal_slice_nil w t e A n c ht]
/-! arrays of bytes -/
/-! results that lie in a variable -/
theorem retc {fn : Func} {R : Ending → World → Prop} {p : Tmp} {lt b t : Nat} {cs : Array Value} {d : TypeDesc} (hr : fn.results = #[.cell p lt]) (hp : look env p = some (.pointer (some ⟨b, 0, none⟩))) (hb : Blk w b t cs) (hd : P.underlying lt = some d) (hrow : d.isRow = true)
    (hsz : (P.info? lt).map (·.size) = some cs.size) (h : R (.returned (.agg cs)) w) (hd0 : dfs env = [] := by rfl) : bodyQ P fn R .ret env w :=
  ⟨hd0, _, fun N a ha => resB hr a.tmps (ha.getD hp) hb d hd hrow hsz, h⟩
theorem retct {fn : Func} {R : Ending → World → Prop} {p q : Tmp} {lt b t : Nat} {cs : Array Value} {d : TypeDesc} {v : Value} (hr : fn.results = #[.cell p lt, .tmp q]) (hp : look env p = some (.pointer (some ⟨b, 0, none⟩))) (hq : look env q = some v) (hb : Blk w b t cs) (hd : P.underlying lt = some d) (hrow : d.isRow = true)
    (hsz : (P.info? lt).map (·.size) = some cs.size) (h : R (.returned (.tuple #[.agg cs, v])) w) (hd0 : dfs env = [] := by rfl) : bodyQ P fn R .ret env w :=
  ⟨hd0, _, fun N a ha => by rw [resB_t hr a.tmps (ha.getD hp) hb d hd hrow hsz, ha.getD hq], h⟩
end
end Go.Proofs.Ytpcgldkllnkaeaa.Zx


/-
  General laws, fourth part: what a law's arguments are, read off the row's hypothesis.
-/
namespace Go.Proofs.Ytpcgldkllnkaeaa.Zk
open Go.ChangeShapes Go.WideShapes Go.ChangeAt Go.RowKit
open Go.ChangeMaps (open_string shut_string)
set_option linter.unusedVariables false
section
variable {H : Type} {enc : TypeId × Value → H} {P : Program} {w : World} {base : Nat} {spare : Nat → Bool} {held : Bool}
theorem u8_of (n : Int) (h : (Lit.int .u8 n).wf = true) : ∃ c : UInt8, n = (c.toNat : Int) := by
  have hb := bounds_u8 h
  refine ⟨UInt8.ofNat n.toNat, ?_⟩
  rw [UInt8.toNat_ofNat']
  omega
end
end Go.Proofs.Ytpcgldkllnkaeaa.Zk


/-
  A law's arguments, opened: slices. General; nothing here names a program.
-/
namespace Go.Proofs.Ytpcgldkllnkaeaa.Zx
open Go.ChangeShapes Go.WideShapes Go.ChangeAt Go.RowKit Go.Deep Zk
set_option linter.unusedVariables false
section
variable {H : Type} {enc : TypeId × Value → H} {P : Program} {w : World} {base : Nat} {spare : Nat → Bool} {held : Bool}
/-- A list of letters for a row, from one for each place. -/
theorem list_of {α : Type} (p : Nat → α → Prop) : ∀ n, (∀ i, i < n → ∃ x, p i x) → ∃ l : List α, l.length = n ∧ ∀ i x, l[i]? = some x → p i x
  | 0, _ => ⟨[], rfl, fun i x h => by simp at h⟩
  | n + 1, h => by
    obtain ⟨l, hl, hp⟩ := list_of p n (fun i hi => h i (by omega))
    obtain ⟨x, hx⟩ := h n (by omega)
    refine ⟨l ++ [x], by simp [hl], fun i y hy => ?_⟩
    rw [List.getElem?_append] at hy
    split at hy
    · exact hp i y hy
    · rename_i hi
      have : i = n := by
        have := (List.getElem?_eq_some_iff.1 hy).1
        simp at this
        omega
      subst this
      simp [hl] at hy
      rw [← hy]
      exact hx
/-- A slice whose elements are of one cell. -/
theorem read_row1 {α : Type} (f : α → Value) (φ : α → Prop) {t e : TypeId} (ht : P.underlying t = some (.slice e)) (hc : P.cellsOf e = 1)
    (hread : ∀ n v x, DataW.trod enc P w base spare held n e [v] = some x → ∃ y, v = f y ∧ φ y)
    {fuel : Nat} {cs : List Value} {x : DataW H × List MemPlace} (h : DataW.trod enc P w base spare held fuel t cs = some x) :
    ∃ A n c, ∃ l : List α, cs = [.slice A n c] ∧ Rs w 1 A n c (l.map f) ∧ ∀ y ∈ l, φ y := by
  rcases open_slice1 ht hc h with ⟨rfl, _⟩ | ⟨a, len, cap, m, n, V, D, Pl, rfl, _, hl, hm, hmm, _, hi⟩
  · exact ⟨none, 0, 0, [], rfl, Rs.nil w 1, fun y hy => by cases hy⟩
  · have hle : len ≤ m := by rw [hmm]; split <;> omega
    obtain ⟨l, hll, hp⟩ := list_of (fun i (y : α) => V i = f y ∧ φ y) len (fun i hil => by
      obtain ⟨_, h2⟩ := hi i (by omega)
      obtain ⟨y, h3, h4⟩ := hread n (V i) _ h2
      exact ⟨y, h3, h4⟩)
    refine ⟨some a, len, cap, l, rfl, ⟨⟨by simp [hll], fun h0 => ⟨a, rfl, ?_, fun j u hu => ?_⟩⟩, hl, by unfold maxLen at hm; exact hm⟩, fun y hy => ?_⟩
    · have h1 := (hi 0 (by omega)).1
      have := World.block_lt_of_cell? w _ h1
      rwa [block_of_add] at this
    · rw [List.getElem?_map] at hu
      cases hj : l[j]? with
      | none => rw [hj] at hu; cases hu
      | some y =>
        rw [hj] at hu
        simp only [Option.map_some, Option.some.injEq] at hu
        have hjl : j < len := by rw [← hll]; exact (List.getElem?_eq_some_iff.1 hj).1
        rw [← hu, ← (hp j y hj).1]
        exact (hi j (by omega)).1
    · obtain ⟨i, hi2, rfl⟩ := List.getElem_of_mem hy
      exact (hp i _ (List.getElem?_eq_getElem hi2)).2
theorem read_u8 {e : TypeId} (he : P.underlying e = some (.int .u8)) (n : Nat) (v : Value) (x : DataW H × List MemPlace) (h : DataW.trod enc P w base spare held n e [v] = some x) : ∃ y, v = bV y ∧ True := by
  obtain ⟨a, ha, _, hw⟩ := DataW.trod_int he h
  obtain ⟨c, rfl⟩ := u8_of a hw
  simp only [List.cons.injEq, and_true] at ha
  exact ⟨c, ha, trivial⟩
/-- A slice of bytes. -/
theorem read_bytesS {t e : TypeId} (ht : P.underlying t = some (.slice e)) (he : P.underlying e = some (.int .u8)) (hc : P.cellsOf e = 1)
    {fuel : Nat} {cs : List Value} {x : DataW H × List MemPlace} (h : DataW.trod enc P w base spare held fuel t cs = some x) :
    ∃ A n c l, cs = [.slice A n c] ∧ Rs w 1 A n c (bL l) := by
  obtain ⟨A, n, c, l, h1, h2, _⟩ := read_row1 bV (fun _ => True) ht hc (read_u8 he) h
  exact ⟨A, n, c, l, h1, h2⟩
/-- A slice of bytes, and what it reads as. -/
structure Part where
  A : Option Addr
  n : Nat
  c : Nat
  l : List UInt8
def pv (p : Part) : Value := .slice p.A p.n p.c
def p0 : Part := ⟨none, 0, 0, []⟩
def Part.ok (w : World) (p : Part) : Prop := Rs w 1 p.A p.n p.c (bL p.l)
/-- The value itself. -/
theorem slice_of_cells {r : Reach} {b0 : Nat} {t e : TypeId} {v : Value} {A : Option Addr} {n c : Nat} (ht : P.underlying t = some (.slice e)) (hv : Value.okWide P w r b0 t v) (h : v.cells.toList = [.slice A n c]) : v = .slice A n c := by
  obtain ⟨A', n', c', rfl⟩ := okWide_slice ht hv
  simpa [Value.cells] using h
theorem open_bytesS {r : Reach} {b0 : Nat} {t e : TypeId} {v : Value} {d : DataW H} {p : List MemPlace} (ht : P.underlying t = some (.slice e)) (he : P.underlying e = some (.int .u8)) (hc : P.cellsOf e = 1)
    (hv : Value.okWide P w r b0 t v) (h : DataW.Trod enc P w base spare held t v d p) : ∃ A n c l, v = .slice A n c ∧ Rs w 1 A n c (bL l) := by
  obtain ⟨fuel, hf⟩ := h
  obtain ⟨A, n, c, l, h1, h2⟩ := read_bytesS ht he hc hf
  exact ⟨A, n, c, l, slice_of_cells ht hv h1, h2⟩
end
end Go.Proofs.Ytpcgldkllnkaeaa.Zx


/-
  Calls that turn a piece of the caller's memory; function values; '[]byte(s)'. General; nothing here names a program.
-/
namespace Go.Proofs.Ytpcgldkllnkaeaa.Zx
open Go.RowKit Zk
set_option linter.unusedVariables false
set_option linter.unusedSimpArgs false
/-- From w to w' only the piece r has changed: it is r' now; and there is new memory. -/
structure Turned (w w' : World) (r r' : Res) : Prop where
  os : w'.os = w.os
  tape : w'.tape = w.tape
  output : w'.output = w.output
  size : w.heap.size ≤ w'.heap.size
  old : ∀ i, i < w.heap.size → ¬ r.dom i → w'.heap[i]? = w.heap[i]?
  holds : r'.holds w'
  dom : ∀ i, r'.dom i → r.dom i ∨ (w.heap.size ≤ i ∧ i < w'.heap.size)
section
variable {w0 w w' : World} {M : Nat → Prop} {rs : List Res}
theorem St.turn (S : St w0 M rs w) (k : Nat) {r r' : Res} (hk : rs[k]? = some r) (h : Turned w w' r r') : St w0 M (rs.set k r') w' :=
  S.upd k hk h.os h.tape h.output h.size h.old h.holds h.dom
theorem Turned.refl {w : World} {r : Res} (h : r.holds w) : Turned w w r r := ⟨rfl, rfl, rfl, Nat.le_refl _, fun _ _ _ => rfl, h, fun i hi => .inl hi⟩
theorem Turned.like {r : Res} (l : Like w w') (h : r.holds w) (hd : ∀ i, r.dom i → i < w.heap.size) : Turned w w' r r :=
  ⟨l.os, l.tape, l.output, l.size, fun i hi _ => l.block i hi, r.stable w w' (fun i hi => l.block i (hd i hi)) h, fun i hi => .inl hi⟩
theorem St.borrow1 (r : Res) (hr : r.holds w) (hd : ∀ i, r.dom i → i < w.heap.size) : St w r.dom [r] w :=
  ⟨rfl, rfl, rfl, Nat.le_refl _, fun _ _ _ => rfl, fun q hq => by
    obtain rfl := List.mem_singleton.1 hq
    exact ⟨hr, fun i hi => ⟨hd i hi, .inr hi⟩⟩, List.pairwise_singleton _ _⟩
/-- The callee's end. -/
theorem St.turned1 {r : Res} (S : St w0 r.dom rs w) (k : Nat) {r' : Res} (hk : rs[k]? = some r') : Turned w0 w r r' :=
  ⟨S.os, S.tape, S.output, S.size, S.old, S.get k hk, fun i hi => by
    have h := (S.res r' (List.mem_of_getElem? hk)).2 i hi
    rcases h.2 with h2 | h2
    · exact .inr ⟨h2, h.1⟩
    · exact .inl h2⟩
/-- A piece's blocks are there. -/
theorem St.lt (S : St w0 M rs w) (k : Nat) {r : Res} (hk : rs[k]? = some r) : ∀ i, r.dom i → i < w.heap.size := fun i hi => ((S.res r (List.mem_of_getElem? hk)).2 i hi).1
end
section
variable {P : Program} {S : World → Prop} {env : Env} {w w0 : World} {M : Nat → Prop} {rs : List Res} {N : Nat} {Q : Post} {K : Env → World → Prop} {dst : Option Tmp} {d : Tmp} {ty : TypeId} {pos : String} {after : Array Edge} {g : Option (Nat × Bool)}
/-- A function value with what it has of its own. -/
theorem y_makeFunc {fn : Fn} {first captured : Array Operand} {fs cs : List Value} (hf : evl env first.toList = some fs) (hc : evl env captured.toList = some cs) : Y P S env ⟨dst, .makeFunc fn first captured, ty, pos, after, g⟩ (.func fn fs.toArray cs.toArray) := fun N a w ha _ => by
  have e1 : first.map a.eval = fs.toArray := by
    rw [← evl_map ha first.toList fs hf]
    apply Array.ext'
    simp
  have e2 : captured.map a.eval = cs.toArray := by
    rw [← evl_map ha captured.toList cs hc]
    apply Array.ext'
    simp
  simp only [execOp, e1, e2, Instr.makeFunc, Sem.run_bind, Sem.run_pure, Result.andThen_ok]
/-- A call of a function value. -/
theorem o_callv {f : FuncId} {fn : Func} {v : Operand} {xs : Array Operand} {ts : Array TypeId} {fs cs vs args : List Value} {R : Ending → World → Prop} (hv : ev env v = some (.func (.func f) fs.toArray cs.toArray)) (hf : P.funcs[f]? = some fn) (hn : (fn.name == "runtime.NumGoroutine") = false) (hb : fn.body.isNone = false)
    (hc : Calls P f args.toArray w R) (hargs : evl env xs.toList = some vs) (hall : fs ++ vs ++ cs = args) (hd : ∀ d', dst = some d' → Nat.blt d' N = true)
    (h : ∀ e w', R e w' → ∃ u, e = .returned u ∧ K (match dst with | some d' => (d', u) :: env | none => env) w') :
    O P N Q ⟨dst, .call { callee := .value v, args := xs, argTypes := ts }, ty, pos, after, g⟩ env w K := fun a ha => by
  have hmap : xs.map a.eval = vs.toArray := by
    rw [← evl_map ha xs.toList vs hargs]
    apply Array.ext'
    simp
  unfold Oper.wp
  have hrun : (execOp a.eval ⟨dst, .call { callee := .value v, args := xs, argTypes := ts }, ty, pos, after, g⟩).run P w = .ok (.enter f args.toArray) w := by
    simp only [execOp, resolve, hmap, ha.eval hv, Deferred.ofValue, invoke, callFunc, Sem.run_bind, Sem.run_pure, Result.andThen_ok, run_program, hf, hn, hb, Bool.false_eq_true, if_false]
    rw [← hall]
    simp
  rw [hrun]
  refine hc.mono fun e w' hR => ?_
  obtain ⟨u, rfl, hK⟩ := h e w' hR
  cases dst with
  | none => exact ⟨env, ha, hK⟩
  | some d' => exact ⟨_, ha.put d' u (hd d' rfl), hK⟩
end
section
variable {w0 w : World} {M : Nat → Prop} {rs : List Res}
theorem old_block {size n c : Nat} {A : Option Addr} {xs : List Value} (h : Rs w size A n c xs) {ad : Addr} (hn : 0 < n) (hA : A = some ad) : ad.block < w.heap.size := by
  obtain ⟨ad', hA', hb, _⟩ := h.rd.2 hn
  rw [hA] at hA'
  cases hA'
  exact hb
end
end Go.Proofs.Ytpcgldkllnkaeaa.Zx


/-
  A call that waits for the function's end. General; nothing here names a program.
-/
namespace Go.Proofs.Ytpcgldkllnkaeaa.Zx
open Go.RowKit Zk
set_option linter.unusedVariables false
set_option linter.unusedSimpArgs false
section
variable {P : Program} {N : Nat} {Q : Post} {env : Env} {w : World}
/-- A guard that was itself passed over. -/
theorem L_gnu {ops : Array Oper} {rest : List Oper} {d : Tmp} {op : Op} {ty : TypeId} {pos : String} {after : Array Edge} {j : Nat} {b : Bool} {t : Tmp}
    (hj : (ops[j]?).bind (·.dst) = some t) (ht : look env t = some undef) (hd : Nat.blt d N = true) (h : L P N ops Q rest ((d, undef) :: env) w) : L P N ops Q (⟨some d, op, ty, pos, after, some (j, b)⟩ :: rest) env w := fun a ha => by
  have h1 := h _ (ha.put d undef hd)
  have hw : yielded ops a.tmps j = none := by
    simp [yielded, hj, ha.vals t _ ht, undef]
  unfold wpList
  have hne : ((none : Option Bool) == some b) = false := by cases b <;> rfl
  simp only [Region.wanted, hw, hne, Bool.false_eq_true, if_false]
  exact h1
/-- The end of a function that lets calls wait. -/
def bodyQD (P : Program) (fn : Func) (R : Ending → World → Prop) : Post
  | .ret, env, w | .normal, env, w => ∀ N a, Fits N env a → Leaves P fn a.tmps R (dfs env) .returning w
  | .panic c, env, w => ∃ es : Env, (∀ i v, look es i = some v → i < 4) ∧ Sub es env ∧ ∀ N a, Fits N es a → Leaves P fn a.tmps R (dfs es) (.panicking c) w
  | _, _, _ => False
theorem look_rm_ne {d i : Nat} (h : i ≠ d) : ∀ e : Env, look (rm d e) i = look e i
  | [] => rfl
  | (j, u) :: e => by
    have ih := look_rm_ne h e
    unfold rm at ih ⊢
    rw [List.filter_cons]
    cases hb : Nat.beq j d with
    | true =>
      have e1 : j = d := by simpa using hb
      have e2 : Nat.beq j i = false := by
        cases hc : Nat.beq j i with
        | true => exact absurd (by have : j = i := by simpa using hc
                                   omega) h
        | false => rfl
      simp only [Bool.not_true, Bool.false_eq_true, if_false, look, e2, cond_false]
      exact ih
    | false =>
      simp only [Bool.not_false, if_true, look]
      rw [ih]
/-- What is asked of a panic lies in the first slots: those behind them may be forgotten. -/
instance {P : Program} {fn : Func} {R : Ending → World → Prop} {d : Nat} : PSt (bodyQD P fn R) (d + 4) := ⟨fun hd c env w h => by
  obtain ⟨es, h1, h2, h3⟩ := h
  refine ⟨es, h1, ⟨h2.1.trans (dfs_rm _ hd env).symm, fun i v hi => ?_⟩, h3⟩
  have h4 := h1 i v hi
  rw [look_rm_ne (by omega)]
  exact h2.2 i v hi⟩
end
end Go.Proofs.Ytpcgldkllnkaeaa.Zx


/-
  Maps that the call makes: integer elements. General; nothing here names a program.
-/
namespace Go.Proofs.Ytpcgldkllnkaeaa.Zx
open Go.RowKit Zk
set_option linter.unusedVariables false
set_option linter.unusedSimpArgs false
section
variable {P : Program} {w w' w0 : World} {M : Nat → Prop} {rs : List Res} {k e : TypeId}
/-- Old memory that the call does not write to. -/
theorem St.keepM (S : St w0 M rs w) {r : Res} (h : r.holds w0) (hd : ∀ i, r.dom i → i < w0.heap.size) (hM : ∀ i, r.dom i → ¬ M i) : r.holds w := r.stable w0 w (fun i hi => S.old i (hd i hi) (hM i hi)) h
end
section
variable {P : Program} {N : Nat} {Q : Post} {env : Env} {w w0 : World} {M : Nat → Prop} {rs : List Res} {K : Env → World → Prop} {d : Tmp} {dst : Option Tmp} {ty : TypeId} {pos : String} {after : Array Edge} {g : Option (Nat × Bool)}
end
end Go.Proofs.Ytpcgldkllnkaeaa.Zx


/-
  Appends onto a row of the call's own, where the old slice is still read afterwards. General; nothing here names a program.
-/
namespace Go.Proofs.Ytpcgldkllnkaeaa.Zx
open Go.RowKit Zk
set_option linter.unusedVariables false
set_option linter.unusedSimpArgs false
section
variable {P : Program} {t e : TypeId} {z : Value} {size bytes : Nat}
variable {N : Nat} {Q : Post} {K : Env → World → Prop} {env : Env} {w0 w : World} {M : Nat → Prop} {rs : List Res} {d : Tmp} {ty : TypeId} {pos : String} {after : Array Edge} {g : Option (Nat × Bool)}
end
end Go.Proofs.Ytpcgldkllnkaeaa.Zx


/-
  Many blocks as one piece; two pieces as one, apart from each other; slices with a bound. General; nothing here names a program.
-/
namespace Go.Proofs.Ytpcgldkllnkaeaa.Zx
open Go.RowKit Zk
set_option linter.unusedVariables false
set_option linter.unusedSimpArgs false
def upd (ss : Nat → Option (Array Value)) (b : Nat) (cur : Array Value) : Nat → Option (Array Value) := fun i => if i = b then some cur else ss i
/-- Two pieces as one, apart from each other. -/
def sep (r s : Res) : Res where
  dom i := r.dom i ∨ s.dom i
  holds w := r.holds w ∧ s.holds w ∧ ∀ i, r.dom i → ¬ s.dom i
  stable w w' h hh := ⟨r.stable w w' (fun i hi => h i (.inl hi)) hh.1, s.stable w w' (fun i hi => h i (.inr hi)) hh.2.1, hh.2.2⟩
section
variable {w0 w w' : World} {M : Nat → Prop} {rs : List Res}
theorem St.sepj {r s : Res} (S : St w0 M (rs ++ [r, s]) w) : St w0 M (rs ++ [sep r s]) w :=
  ⟨S.os, S.tape, S.output, S.size, S.old, fun q hq => by
    rcases List.mem_append.1 hq with hq | hq
    · exact S.res q (List.mem_append_left _ hq)
    · obtain rfl := List.mem_singleton.1 hq
      have h1 := S.res r (by simp)
      have h2 := S.res s (by simp)
      have h := S.apart
      rw [List.pairwise_append, List.pairwise_cons] at h
      exact ⟨⟨h1.1, h2.1, h.2.1.1 s (by simp)⟩, fun i hi => by rcases hi with hi | hi; exact h1.2 i hi; exact h2.2 i hi⟩, by
    have h := S.apart
    rw [List.pairwise_append] at h ⊢
    refine ⟨h.1, List.pairwise_singleton _ _, fun a ha b hb i hi => ?_⟩
    obtain rfl := List.mem_singleton.1 hb
    intro hx
    rcases hx with hx | hx
    · exact h.2.2 a ha r (by simp) i hi hx
    · exact h.2.2 a ha s (by simp) i hi hx⟩
theorem St.seps {r s : Res} (S : St w0 M (rs ++ [sep r s]) w) : St w0 M (rs ++ [r, s]) w := by
  have h := S.res (sep r s) (by simp)
  have hp := S.apart
  rw [List.pairwise_append] at hp
  refine ⟨S.os, S.tape, S.output, S.size, S.old, fun q hq => ?_, ?_⟩
  · rcases List.mem_append.1 hq with hq | hq
    · exact S.res q (List.mem_append_left _ hq)
    · rcases List.mem_cons.1 hq with rfl | hq
      · exact ⟨h.1.1, fun i hi => h.2 i (.inl hi)⟩
      · obtain rfl := List.mem_singleton.1 hq
        exact ⟨h.1.2.1, fun i hi => h.2 i (.inr hi)⟩
  · rw [List.pairwise_append, List.pairwise_cons]
    refine ⟨hp.1, ⟨fun b hb => ?_, List.pairwise_singleton _ _⟩, fun a ha b hb i hi hx => ?_⟩
    · obtain rfl := List.mem_singleton.1 hb
      exact h.1.2.2
    · rcases List.mem_cons.1 hb with rfl | hb
      · exact hp.2.2 a ha _ (List.mem_singleton_self _) i hi (.inl hx)
      · obtain rfl := List.mem_singleton.1 hb
        exact hp.2.2 a ha _ (List.mem_singleton_self _) i hi (.inr hx)
end
section
variable {P : Program} {S : World → Prop} {N : Nat} {Q : Post} {K : Env → World → Prop} {env : Env} {w0 w : World} {M : Nat → Prop} {rs : List Res} {dst : Option Tmp} {d : Tmp} {ty : TypeId} {pos : String} {after : Array Edge} {g : Option (Nat × Bool)}
end
end Go.Proofs.Ytpcgldkllnkaeaa.Zx


/-
  Rows of elements of many cells: an element stored whole, a tail cleared, a row cut. General; nothing here names a program.
-/
namespace Go.Proofs.Ytpcgldkllnkaeaa.Zx
open Go.RowKit Zk
set_option linter.unusedVariables false
set_option linter.unusedSimpArgs false
section
variable {P : Program} {N : Nat} {Q : Post} {env : Env} {w w0 : World} {M : Nat → Prop} {rs : List Res} {K : Env → World → Prop} {ty : TypeId} {pos : String} {after : Array Edge} {g : Option (Nat × Bool)}
end
end Go.Proofs.Ytpcgldkllnkaeaa.Zx


/-
  Sizes and zeros of the seat's types.
-/
namespace Go.Proofs.Ytpcgldkllnkaeaa
open Go.RowKit Zk Zx
set_option linter.unusedVariables false
set_option linter.unusedSimpArgs false
theorem hmix : Try.prog.follows .mixedOrders = true := by kernel_rfl
theorem sz3 : (Try.prog.info? 3).map (·.size) = some 1 := by kernel_rfl
theorem zz3 (W : World) : (zeroValue 3).run Try.prog W = .ok (.int .i64 0) W := by kernel_rfl
theorem sz4 : (Try.prog.info? 4).map (·.size) = some 1 := by kernel_rfl
theorem sz5 : (Try.prog.info? 5).map (·.size) = some 1 := by kernel_rfl
theorem zz5 (W : World) : (zeroValue 5).run Try.prog W = .ok (.int .u8 0) W := by kernel_rfl
theorem sz22 : (Try.prog.info? 22).map (·.size) = some 1 := by kernel_rfl
theorem te22 : Elem Try.prog 22 5 (.int .u8 0) 1 1 := ⟨Try.underlying22, by kernel_rfl, rfl, by decide⟩
theorem sz23 : (Try.prog.info? 23).map (·.size) = some 1 := by kernel_rfl
theorem te23 : Elem Try.prog 23 57 (.agg #[.bool false, .int .i64 0, .int .i64 0, .slice none 0 0]) 4 48 := ⟨Try.underlying23, by kernel_rfl, rfl, by decide⟩
theorem sz25 : (Try.prog.info? 25).map (·.size) = some 3 := by kernel_rfl
theorem zz25 (W : World) : (zeroValue 25).run Try.prog W = .ok (.agg #[.int .i64 0, .int .i64 0, .slice none 0 0]) W := by kernel_rfl
theorem sz28 : (Try.prog.info? 28).map (·.size) = some 1 := by kernel_rfl
theorem te28 : Elem Try.prog 28 58 (.agg #[.bool false, .int .i64 0, .int .i64 0, .slice none 0 0]) 4 48 := ⟨Try.underlying28, by kernel_rfl, rfl, by decide⟩
theorem sz30 : (Try.prog.info? 30).map (·.size) = some 3 := by kernel_rfl
theorem zz30 (W : World) : (zeroValue 30).run Try.prog W = .ok (.agg #[.int .i64 0, .int .i64 0, .slice none 0 0]) W := by kernel_rfl
theorem sz57 : (Try.prog.info? 57).map (·.size) = some 4 := by kernel_rfl
theorem zz57 (W : World) : (zeroValue 57).run Try.prog W = .ok (.agg #[.bool false, .int .i64 0, .int .i64 0, .slice none 0 0]) W := by kernel_rfl
theorem sz58 : (Try.prog.info? 58).map (·.size) = some 4 := by kernel_rfl
theorem zz58 (W : World) : (zeroValue 58).run Try.prog W = .ok (.agg #[.bool false, .int .i64 0, .int .i64 0, .slice none 0 0]) W := by kernel_rfl
theorem sz98 : (Try.prog.info? 98).map (·.size) = some 6 := by kernel_rfl
theorem zz98 (W : World) : (zeroValue 98).run Try.prog W = .ok (.agg #[.int .u8 0, .int .u8 0, .int .u8 0, .int .u8 0, .int .u8 0, .int .u8 0]) W := by kernel_rfl
theorem zz99 (W : World) : (zeroValue 99).run Try.prog W = .ok (.slice none 0 0) W := by kernel_rfl
theorem te99 : Elem Try.prog 99 3 (.int .i64 0) 1 8 := ⟨Try.underlying99, by kernel_rfl, rfl, by decide⟩
end Go.Proofs.Ytpcgldkllnkaeaa


/-
  Regions that draw their order and make two variables in either order. General; nothing here names a program.
-/
namespace Go.Proofs.Ytpcgldkllnkaeaa.Zx
open Go.RowKit Zk
set_option linter.unusedVariables false
set_option linter.unusedSimpArgs false

theorem St.perm {w0 w : World} {M : Nat → Prop} {rs rs' : List Res} (S : St w0 M rs w) (h : rs.Perm rs') : St w0 M rs' w :=
  ⟨S.os, S.tape, S.output, S.size, S.old, fun r hr => S.res r (h.mem_iff.2 hr), (h.pairwise_iff (by intro a b hab i hi hj; exact hab i hj hi)).1 S.apart⟩
section
variable {P : Program} {N : Nat} {Q : Post} {env : Env} {w w0 : World} {M : Nat → Prop} {rs : List Res} {S : World → Prop} {ops : Array Oper} {listed : Array Bool} {fuel : Nat}
theorem y_of {o : Oper} {v : Value} (h : ∀ w, S w → Y P (Like w) env o v) : Y P S env o v := fun N a w' ha hw => h w' hw N a w' ha (Like.refl w')
def DX (P : Program) (N : Nat) (ops : Array Oper) (Q : Post) (S : World → Prop) (listed : Array Bool) (fuel : Nat) (env : Env) (w : World) : Prop :=
  Region.noSelect ops = true → S w → ∀ a, Fits N env a → wpAnyH P .any ops (lift N Q) S fuel listed a w
theorem T_drawnX {id : Nat} {l : List Oper} (S : World → Prop) (hm : P.follows .mixedOrders = true) (hB : Region.noSelect l.toArray = true) (hS : ∀ w1, Like w w1 → S w1)
    (h : ∀ w1, Like w w1 → DX P N l.toArray Q S (Array.replicate l.toArray.size false) l.toArray.size env w1) : T P N (.region id l.toArray true) Q env w := fun a ha =>
  wp_region_held hm (h _ (Like.drew w) hB (hS _ (Like.drew w)) a ha)
theorem DX_y {d : Tmp} [PSt Q d] {op : Op} {ty : TypeId} {pos : String} {after : Array Edge} {v : Value} (i : Nat) (hr : ((Region.ready .any ops listed).contains i && Region.free .any ops listed i) = true) (hi : ops[i]? = some ⟨some d, op, ty, pos, after, none⟩)
    (hy : Y P S env ⟨some d, op, ty, pos, after, none⟩ v) (hd : Nat.blt d N = true) (h : DX P N ops Q S (listed.setIfInBounds i true) fuel ((d, v) :: env) w) : DX P N ops Q S listed (fuel + 1) env w := fun hs hS a ha => by
  simp only [Bool.and_eq_true] at hr
  exact wpAnyH_take hi hs hr.2 hr.1 (fun c a w hq => by first | exact lift_rm hd hq | (rw [hdst] at hq; exact lift_rm hd hq)) (.inl ⟨by simp [Region.wanted], fun w hw => hy N a w ha hw⟩) hS (h hs hS _ (ha.put d v hd))
theorem DX_DL (order : List (Nat × Bool)) (hB : ordB ops fuel listed order = true) (h : DL P N ops Q S order env w) : DX P N ops Q S listed fuel env w := fun hs hS a ha => h hs hS a ha fuel listed hB
theorem sub_swap {d1 d2 : Nat} (v1 v2 : Value) (hne : d1 ≠ d2) (h1 : Nat.blt d1 1000000 = true) (h2 : Nat.blt d2 1000000 = true) : Sub ((d2, v2) :: (d1, v1) :: env) ((d1, v1) :: (d2, v2) :: env) := by
  have e1 : d1 < 1000000 := by rw [← Nat.blt_eq]; exact h1
  have e2 : d2 < 1000000 := by rw [← Nat.blt_eq]; exact h2
  have f1 : Nat.beq d1 1000000 = false := by cases h : Nat.beq d1 1000000; rfl; have := Nat.eq_of_beq_eq_true h; omega
  have f2 : Nat.beq d2 1000000 = false := by cases h : Nat.beq d2 1000000; rfl; have := Nat.eq_of_beq_eq_true h; omega
  refine ⟨?_, fun i v h => ?_⟩
  · simp only [dfs, f1, f2, cond_false]
  · simp only [look, f1, f2, cond_false] at h ⊢
    cases h1 : Nat.beq d1 i <;> cases h2 : Nat.beq d2 i <;> simp only [h1, h2, cond_false, cond_true] at h ⊢ <;> first | exact h | (have := Nat.eq_of_beq_eq_true h1; have := Nat.eq_of_beq_eq_true h2; omega)
/-- Two variables, made in either order. -/
theorem DX_allocs {d1 d2 : Tmp} {t1 t2 : TypeId} {z1 z2 : Value} {ty1 ty2 : TypeId} {pos1 pos2 : String} {after1 after2 : Array Edge} (i j : Nat)
    (hr : Region.ready .any ops listed = [i, j]) (hri : Region.ready .any ops (listed.setIfInBounds i true) = [j]) (hrj : Region.ready .any ops (listed.setIfInBounds j true) = [i])
    (hi : ops[i]? = some ⟨some d1, .alloc t1, ty1, pos1, after1, none⟩) (hj : ops[j]? = some ⟨some d2, .alloc t2, ty2, pos2, after2, none⟩) (hij : i ≠ j) (hdd : d1 ≠ d2) (h1 : Nat.blt d1 1000000 = true) (h2 : Nat.blt d2 1000000 = true)
    (hz1 : ∀ W, (zeroValue t1).run P W = .ok z1 W) (hz2 : ∀ W, (zeroValue t2).run P W = .ok z2 W) (S0 : St w0 M rs w) (hd1 : Nat.blt d1 N = true) (hd2 : Nat.blt d2 N = true) (hS : ∀ w', St w0 M rs w' → S w')
    (h : ∀ b1 b2 w', w0.heap.size ≤ b1 → w0.heap.size ≤ b2 → St w0 M (rs ++ [blk b1 t1 z1.cells] ++ [blk b2 t2 z2.cells]) w' →
      DX P N ops Q S ((listed.setIfInBounds i true).setIfInBounds j true) fuel ((d2, .pointer (some ⟨b2, 0, none⟩)) :: (d1, .pointer (some ⟨b1, 0, none⟩)) :: env) w') :
    DX P N ops Q S listed (fuel + 2) env w := fun hs hSw a ha => by
  have sub1 : ∀ (r : Res), rs.Sublist (rs ++ [r]) := fun r => List.sublist_append_left _ _
  refine wpAnyH_all hr (by simp) fun q hq => ?_
  have hq' : q = i ∨ q = j := by simpa using hq
  rcases hq' with rfl | rfl
  · unfold wpOp
    simp only [hi, Region.wanted, if_true]
    refine .inl (Oper.wp_mono (fun a' w' ⟨e', h3, b1, hb1, SS, he'⟩ => ?_) ((o_alloc (K := fun e' w' => ∃ b1, w0.heap.size ≤ b1 ∧ St w0 M (rs ++ [blk b1 t1 z1.cells]) w' ∧ e' = (d1, .pointer (some ⟨b1, 0, none⟩)) :: env) hz1 S0 hd1 fun b w' hb SS => ⟨b, hb, SS, rfl⟩) a ha))
    subst he'
    refine ⟨hS _ (SS.drop (sub1 _)), ?_⟩
    refine wpAnyH_all hri (by simp) fun q' hq' => ?_
    obtain rfl := List.mem_singleton.1 hq'
    unfold wpOp
    simp only [hj, Region.wanted, if_true]
    refine .inl (Oper.wp_mono (fun a2 w2 ⟨e2, h4, b2, hb2, SS2, he2⟩ => ?_) ((o_alloc (K := fun e2 w2 => ∃ b2, w0.heap.size ≤ b2 ∧ St w0 M (rs ++ [blk b1 t1 z1.cells] ++ [blk b2 t2 z2.cells]) w2 ∧ e2 = (d2, .pointer (some ⟨b2, 0, none⟩)) :: (d1, .pointer (some ⟨b1, 0, none⟩)) :: env) hz2 SS hd2 fun b w' hb SS => ⟨b, hb, SS, rfl⟩) a' h3))
    subst he2
    have hS2 : S w2 := hS _ ((SS2.drop (sub1 _ |>.trans (List.sublist_append_left _ _))))
    exact ⟨hS2, h b1 b2 w2 hb1 hb2 SS2 hs hS2 a2 h4⟩
  · unfold wpOp
    simp only [hj, Region.wanted, if_true]
    refine .inl (Oper.wp_mono (fun a' w' ⟨e', h3, b2, hb2, SS, he'⟩ => ?_) ((o_alloc (K := fun e' w' => ∃ b2, w0.heap.size ≤ b2 ∧ St w0 M (rs ++ [blk b2 t2 z2.cells]) w' ∧ e' = (d2, .pointer (some ⟨b2, 0, none⟩)) :: env) hz2 S0 hd2 fun b w' hb SS => ⟨b, hb, SS, rfl⟩) a ha))
    subst he'
    refine ⟨hS _ (SS.drop (sub1 _)), ?_⟩
    refine wpAnyH_all hrj (by simp) fun q' hq' => ?_
    obtain rfl := List.mem_singleton.1 hq'
    unfold wpOp
    simp only [hi, Region.wanted, if_true]
    refine .inl (Oper.wp_mono (fun a2 w2 ⟨e2, h4, b1, hb1, SS2, he2⟩ => ?_) ((o_alloc (K := fun e2 w2 => ∃ b1, w0.heap.size ≤ b1 ∧ St w0 M (rs ++ [blk b2 t2 z2.cells] ++ [blk b1 t1 z1.cells]) w2 ∧ e2 = (d1, .pointer (some ⟨b1, 0, none⟩)) :: (d2, .pointer (some ⟨b2, 0, none⟩)) :: env) hz1 SS hd1 fun b w' hb SS => ⟨b, hb, SS, rfl⟩) a' h3))
    subst he2
    have hS2 : S w2 := hS _ ((SS2.drop (sub1 _ |>.trans (List.sublist_append_left _ _))))
    refine ⟨hS2, ?_⟩
    have := h b1 b2 w2 hb1 hb2 (SS2.perm (by
      rw [List.append_assoc, List.append_assoc]
      exact List.Perm.append_left _ (List.Perm.swap _ _ _))) hs hS2 a2 (h4.sub (sub_swap _ _ hdd h1 h2))
    rwa [Array.setIfInBounds_comm _ _ hij] at this
end
end Go.Proofs.Ytpcgldkllnkaeaa.Zx


/-
  Maps whose keys are bytes in arrays; families of pieces; a choice of pieces. General; nothing here names a program.
-/
namespace Go.Proofs.Ytpcgldkllnkaeaa.Zx
open Go.RowKit Zk
set_option linter.unusedVariables false
set_option linter.unusedSimpArgs false
section
variable {w w0 : World} {M : Nat → Prop} {rs : List Res}
/-- Pieces, chosen by their numbers. -/
theorem St.sel (S : St w0 M rs w) (ix : List Nat) (hnd : ix.Nodup) : St w0 M (ix.filterMap (rs[·]?)) w := by
  refine ⟨S.os, S.tape, S.output, S.size, S.old, fun r hr => ?_, ?_⟩
  · obtain ⟨i, _, hi⟩ := List.mem_filterMap.1 hr
    exact S.res r (List.mem_of_getElem? hi)
  · rw [List.pairwise_filterMap]
    refine List.Pairwise.imp ?_ hnd
    intro i j hij a ha b hb x hx hy
    have hp := List.pairwise_iff_getElem.1 S.apart
    obtain ⟨h1, h2⟩ := List.getElem?_eq_some_iff.1 ha
    obtain ⟨h3, h4⟩ := List.getElem?_eq_some_iff.1 hb
    rcases Nat.lt_or_gt_of_ne hij with h | h
    · exact hp i j h1 h3 h x (by rw [h2]; exact hx) (by rw [h4]; exact hy)
    · exact hp j i h3 h1 h x (by rw [h4]; exact hy) (by rw [h2]; exact hx)
/-- Many pieces as one. -/
def fam (L : List Res) : Res where
  dom i := ∃ r ∈ L, r.dom i
  holds w := (∀ r ∈ L, r.holds w) ∧ L.Pairwise fun (r s : Res) => ∀ i, r.dom i → ¬ s.dom i
  stable w w' h hh := ⟨fun r hr => r.stable w w' (fun i hi => h i ⟨r, hr, hi⟩) (hh.1 r hr), hh.2⟩
theorem St.fam0 (S : St w0 M rs w) : St w0 M (rs ++ [fam []]) w := by
  refine ⟨S.os, S.tape, S.output, S.size, S.old, fun r hr => ?_, ?_⟩
  · rcases List.mem_append.1 hr with hr | hr
    · exact S.res r hr
    · obtain rfl := List.mem_singleton.1 hr
      exact ⟨⟨fun r hr => (List.not_mem_nil hr).elim, List.Pairwise.nil⟩, fun i ⟨r, hr, _⟩ => (List.not_mem_nil hr).elim⟩
  · rw [List.pairwise_append]
    exact ⟨S.apart, List.pairwise_singleton _ _, fun a _ b hb i _ hi => by
      obtain rfl := List.mem_singleton.1 hb
      obtain ⟨r, hr, _⟩ := hi
      cases hr⟩
theorem St.famIn {L1 L2 : List Res} {r : Res} (S : St w0 M (rs ++ [fam (L1 ++ L2), r]) w) : St w0 M (rs ++ [fam (L1 ++ r :: L2)]) w := by
  have hap := S.apart
  rw [List.pairwise_append] at hap
  obtain ⟨a1, a2, a3⟩ := hap
  have hfr := (List.pairwise_cons.1 a2).1 r (by simp)
  have hf := S.res (fam (L1 ++ L2)) (by simp)
  have hr := S.res r (by simp)
  refine ⟨S.os, S.tape, S.output, S.size, S.old, fun q hq => ?_, ?_⟩
  · rcases List.mem_append.1 hq with hq | hq
    · exact S.res q (by simp [hq])
    · obtain rfl := List.mem_singleton.1 hq
      refine ⟨⟨fun q hq => ?_, ?_⟩, fun i ⟨q, hq, hi⟩ => ?_⟩
      · rcases List.mem_append.1 hq with h | h
        · exact hf.1.1 q (by simp [h])
        · rcases List.mem_cons.1 h with rfl | h
          · exact hr.1
          · exact hf.1.1 q (by simp [h])
      · have h2 := hf.1.2
        rw [List.pairwise_append] at h2 ⊢
        refine ⟨h2.1, List.pairwise_cons.2 ⟨fun q hq i hi hqi => hfr i ⟨q, by simp [hq], hqi⟩ hi, h2.2.1⟩, fun a ha b hb i hi hbi => ?_⟩
        rcases List.mem_cons.1 hb with rfl | hb
        · exact hfr i ⟨a, by simp [ha], hi⟩ hbi
        · exact h2.2.2 a ha b hb i hi hbi
      · rcases List.mem_append.1 hq with h | h
        · exact hf.2 i ⟨q, by simp [h], hi⟩
        · rcases List.mem_cons.1 h with rfl | h
          · exact hr.2 i hi
          · exact hf.2 i ⟨q, by simp [h], hi⟩
  · rw [List.pairwise_append]
    refine ⟨a1, List.pairwise_singleton _ _, fun a ha b hb i hi hbi => ?_⟩
    obtain rfl := List.mem_singleton.1 hb
    obtain ⟨q, hq, hqi⟩ := hbi
    rcases List.mem_append.1 hq with h | h
    · exact a3 a ha (fam (L1 ++ L2)) (by simp) i hi ⟨q, by simp [h], hqi⟩
    · rcases List.mem_cons.1 h with rfl | h
      · exact a3 a ha q (by simp) i hi hqi
      · exact a3 a ha (fam (L1 ++ L2)) (by simp) i hi ⟨q, by simp [h], hqi⟩
theorem St.famOut {L1 L2 : List Res} {r : Res} (S : St w0 M (rs ++ [fam (L1 ++ r :: L2)]) w) : St w0 M (rs ++ [fam (L1 ++ L2), r]) w := by
  have hap := S.apart
  rw [List.pairwise_append] at hap
  obtain ⟨a1, _, a3⟩ := hap
  have hf := S.res (fam (L1 ++ r :: L2)) (by simp)
  have hp := hf.1.2
  rw [List.pairwise_append, List.pairwise_cons] at hp
  have hsub : ∀ q, q ∈ L1 ++ L2 → q ∈ L1 ++ r :: L2 := fun q hq => by
    rcases List.mem_append.1 hq with h | h
    · simp [h]
    · simp [h]
  have hfr : ∀ i, (fam (L1 ++ L2)).dom i → ¬ r.dom i := fun i ⟨q, hq, hqi⟩ hri => by
    rcases List.mem_append.1 hq with h | h
    · exact hp.2.2 q h r (by simp) i hqi hri
    · exact hp.2.1.1 q h i hri hqi
  refine ⟨S.os, S.tape, S.output, S.size, S.old, fun q hq => ?_, ?_⟩
  · rcases List.mem_append.1 hq with hq | hq
    · exact S.res q (by simp [hq])
    · rcases List.mem_cons.1 hq with rfl | hq
      · refine ⟨⟨fun q hq => hf.1.1 q (hsub q hq), ?_⟩, fun i ⟨q, hq, hi⟩ => hf.2 i ⟨q, hsub q hq, hi⟩⟩
        rw [List.pairwise_append]
        exact ⟨hp.1, hp.2.1.2, fun a ha b hb => hp.2.2 a ha b (by simp [hb])⟩
      · obtain rfl := List.mem_singleton.1 hq
        exact ⟨hf.1.1 q (by simp), fun i hi => hf.2 i ⟨q, by simp, hi⟩⟩
  · rw [List.pairwise_append]
    refine ⟨a1, List.pairwise_cons.2 ⟨fun b hb => by rw [List.mem_singleton.1 hb]; exact hfr, List.pairwise_singleton _ _⟩, fun a ha b hb i hi hbi => ?_⟩
    rcases List.mem_cons.1 hb with rfl | hb
    · obtain ⟨q, hq, hqi⟩ := hbi
      exact a3 a ha (fam (L1 ++ r :: L2)) (by simp) i hi ⟨q, hsub q hq, hqi⟩
    · rw [List.mem_singleton.1 hb] at hbi
      exact a3 a ha (fam (L1 ++ r :: L2)) (by simp) i hi ⟨r, by simp, hbi⟩
end
section
variable {P : Program}
theorem run_equalB {t e : TypeId} {n : Nat} (ht : P.underlying t = some (.array n e)) (he : P.underlying e = some (.int .u8)) (hs : (P.info? e).map (·.size) = some 1) (a b : List UInt8) (ha : a.length = n) (hb : b.length = n) (w : World) :
    (Op.equal t (.agg (bA a)) (.agg (bA b))).run P w = .ok (a == b) w := by
  unfold Op.equal
  exact run_equalIn_bytes w 9998 ht he hs a b ha hb _ _ (bA_get a) (bA_get b)
theorem run_checkB {t e : TypeId} {n : Nat} (ht : P.underlying t = some (.array n e)) (he : P.underlying e = some (.int .u8)) (hs : (P.info? e).map (·.size) = some 1) (a : List UInt8) (ha : a.length = n) (w : World) (b : Bool) :
    (Instr.checkKey b 10000 t (.agg (bA a))).run P w = .ok () w := by
  have hel : ∀ v, (Instr.checkKey b 9999 e v).run P w = .ok () w := fun v => by
    unfold Instr.checkKey
    simp only [Sem.run_bind, run_underlying he, Result.andThen_ok]
    rfl
  have hsz : (sizeOf e).run P w = .ok 1 w := sizeOf_run hs w
  have hpart : ∀ i, i < n → ∃ v, (part e (bA a) (i * 1)).run P w = .ok v w := fun i hi => by
    have hg : (bA a)[i]? = some (.int .u8 (a[i].toNat : Int)) := bA_get a i _ (List.getElem?_eq_getElem (by omega))
    have hagg : (isAgg e).run P w = .ok false w := by
      unfold isAgg
      rw [Sem.run_bind, run_underlying he w]
      rfl
    exact ⟨.int .u8 (a[i].toNat : Int), by simp [part, Sem.run_bind, hagg, hg]⟩
  have key : ∀ (m s : Nat), s + m ≤ n → (forIn (m := Sem) (List.range' s m) PUnit.unit fun i _ => do
      Instr.checkKey b 9999 e (← part e (bA a) (i * (← sizeOf e)))
      pure (ForInStep.yield PUnit.unit)).run P w = .ok PUnit.unit w := by
    intro m
    induction m with
    | zero => intro s _; simp
    | succ m ih =>
      intro s hs
      obtain ⟨v, hv⟩ := hpart s (by omega)
      simp only [List.range'_succ, List.forIn_cons, Sem.run_bind, hsz, Result.andThen_ok, hv, hel, Sem.run_pure]
      exact ih (s + 1) (by omega)
  unfold Instr.checkKey
  simp only [Sem.run_bind, run_underlying ht, Result.andThen_ok]
  have h := key n 0 (by omega)
  rw [Std.Legacy.Range.forIn_eq_forIn_range']
  have hr : [:n].size = n := by simp [Std.Legacy.Range.size]
  rw [hr]
  rw [h]
  rfl

/-- The entries of a map whose keys are bytes, in the order in which they came. -/
def entB (D : List (List UInt8 × Value)) : List MapEntry := D.zipIdx.map fun p => ⟨.agg (bA p.1.1), p.1.2, p.2⟩
theorem entB_len (D : List (List UInt8 × Value)) : (entB D).length = D.length := by simp [entB]
theorem entB_get (D : List (List UInt8 × Value)) (i : Nat) : (entB D)[i]? = D[i]?.map fun p => ⟨.agg (bA p.1), p.2, i⟩ := by
  unfold entB
  rw [List.getElem?_map, List.getElem?_zipIdx, Option.map_map]
  cases D[i]? <;> simp
/-- Where a key stands. -/
def posB (a : List UInt8) : List (List UInt8 × Value) → Nat → Option (Nat × Value)
  | [], _ => none
  | p :: r, i => if a == p.1 then some (i, p.2) else posB a r (i + 1)
theorem posB_some {a : List UInt8} : ∀ {D : List (List UInt8 × Value)} {i j : Nat} {v : Value}, posB a D i = some (j, v) → i ≤ j ∧ D[j - i]? = some (a, v)
  | [], i, j, v, h => by cases h
  | p :: r, i, j, v, h => by
    unfold posB at h
    split at h
    · rename_i e
      cases h
      have e2 : a = p.1 := by simpa using e
      refine ⟨Nat.le_refl _, ?_⟩
      rw [Nat.sub_self, e2]
      rfl
    · obtain ⟨h1, h2⟩ := posB_some h
      refine ⟨by omega, ?_⟩
      rw [show j - i = j - (i + 1) + 1 by omega, List.getElem?_cons_succ]
      exact h2
theorem posB_none {a : List UInt8} : ∀ {D : List (List UInt8 × Value)} {i : Nat}, posB a D i = none → ∀ p ∈ D, p.1 ≠ a
  | [], i, h => by intro p hp; cases hp
  | q :: r, i, h => by
    unfold posB at h
    split at h
    · cases h
    · rename_i e
      intro p hp
      rcases List.mem_cons.1 hp with rfl | hp
      · intro e2; exact e (by simp [e2])
      · exact posB_none h p hp
theorem findNow_arr {n : Nat} {e : TypeId} (a : List UInt8) (m : MapEntry) (es : List MapEntry) (i : Nat) : Instr.findNow (.array n e) (.agg (bA a)) (m :: es) i = none := rfl
theorem run_asking {t e : TypeId} {n : Nat} (ht : P.underlying t = some (.array n e)) (he : P.underlying e = some (.int .u8)) (hs : (P.info? e).map (·.size) = some 1) (a : List UInt8) (ha : a.length = n) (w : World) :
    ∀ (D : List (List UInt8 × Value)) (i : Nat), (∀ p ∈ D, p.1.length = n) → ∀ es : List MapEntry, es.map (fun m => (m.key, m.val)) = D.map (fun p => (.agg (bA p.1), p.2)) → (Instr.findAsking t (.agg (bA a)) es i).run P w = .ok (posB a D i) w
  | [], i, _, es, h => by
    have : es = [] := by simpa using h
    subst this
    rfl
  | p :: D, i, hD, es, h => by
    cases es with
    | nil => cases h
    | cons m es =>
      simp only [List.map_cons, List.cons.injEq, Prod.mk.injEq] at h
      obtain ⟨⟨h1, h2⟩, h3⟩ := h
      unfold Instr.findAsking posB
      rw [h1, Sem.run_bind, run_equalB ht he hs a p.1 ha (hD p (by simp)) w, Result.andThen_ok]
      cases hap : a == p.1 with
      | true => simp [h2]
      | false =>
        simp only [Bool.false_eq_true, if_false]
        exact run_asking ht he hs a ha w D (i + 1) (fun q hq => hD q (by simp [hq])) es h3
theorem run_findB {t e : TypeId} {n : Nat} (ht : P.underlying t = some (.array n e)) (he : P.underlying e = some (.int .u8)) (hs : (P.info? e).map (·.size) = some 1) (a : List UInt8) (ha : a.length = n) (w : World) (D : List (List UInt8 × Value)) (hD : ∀ p ∈ D, p.1.length = n) :
    (Instr.findKey t (.agg (bA a)) (entB D)).run P w = .ok (posB a D 0) w := by
  have hk := run_asking ht he hs a ha w D 0 hD (entB D) (by
    unfold entB
    rw [List.map_map]
    apply List.ext_getElem?
    intro i
    rw [List.getElem?_map, List.getElem?_map, List.getElem?_zipIdx]
    cases D[i]? <;> simp)
  unfold Instr.findKey
  simp only [Sem.run_bind, run_underlying ht, Result.andThen_ok]
  cases D with
  | nil => rfl
  | cons p D =>
    rw [show entB (p :: D) = ⟨.agg (bA p.1), p.2, 0⟩ :: (entB (p :: D)).tail from rfl, findNow_arr]
    exact hk
def mapB (n b : Nat) (D : List (List UInt8 × Value)) : Res where
  dom i := i = b
  holds w := w.heap[b]? = some (.map (entB D).toArray D.length) ∧ ∀ p ∈ D, p.1.length = n
  stable w w' h hh := ⟨(h b rfl).trans hh.1, hh.2⟩
def getB (a : List UInt8) (D : List (List UInt8 × Value)) (z : Value) : Value := (posB a D 0).elim z (·.2)
end
section
variable {P : Program} {N : Nat} {Q : Post} {env : Env} {w w0 : World} {M : Nat → Prop} {rs : List Res} {K : Env → World → Prop} {d : Tmp} {ty : TypeId} {pos : String} {after : Array Edge} {g : Option (Nat × Bool)} {dst : Option Tmp}
theorem getM {r : Nat} {es : Array MapEntry} {clock : Nat} (hb : w.heap[r]? = some (.map es clock)) : (getObj r).run P w = .ok (.map es clock) w := by
  simp [getObj, Sem.run, hb]
theorem setM {r : Nat} {es : Array MapEntry} {clock : Nat} (o : Obj) (hb : w.heap[r]? = some (.map es clock)) : (setObj r o).run P w = .ok () { w with heap := w.heap.setIfInBounds r o } := by
  simp [setObj, Sem.run, hb]
theorem y_lookB {t k e u : TypeId} {n b : Nat} {D : List (List UInt8 × Value)} {m x : Operand} {a : List UInt8} {z : Value} (hw : (mapB n b D).holds w) (ht : P.underlying t = some (.map k e)) (hk : P.underlying k = some (.array n u)) (hu : P.underlying u = some (.int .u8)) (hs : (P.info? u).map (·.size) = some 1)
    (hz : ∀ W, (zeroValue e).run P W = .ok z W) (hm : ev env m = some (.map (some b))) (hx : ev env x = some (.agg (bA a))) (ha : a.length = n) :
    Y P (Like w) env ⟨dst, .lookup t m x false, ty, pos, after, g⟩ (getB a D z) := fun N c w' hc hl => by
  have hh : w'.heap[b]? = some (.map (entB D).toArray D.length) := by
    have hb : b < w.heap.size := by
      rcases Nat.lt_or_ge b w.heap.size with q | q
      · exact q
      · have := hw.1; rw [Array.getElem?_eq_none q] at this; cases this
    rw [hl.block b hb]; exact hw.1
  have hf := run_findB (P := P) hk hu hs a ha w' D hw.2
  simp only [execOp, hc.eval hm, hc.eval hx, Instr.lookup, Sem.run_bind, run_underlying ht, Result.andThen_ok, getM hh, Sem.run_pure, run_checkB hk hu hs a ha w', hf]
  unfold getB
  cases posB a D 0 with
  | none => simp [hz]
  | some p => rfl
theorem o_makeMapB {t n : Nat} (S : St w0 M rs w) (hd : Nat.blt d N = true)
    (h : ∀ b w', w0.heap.size ≤ b → St w0 M (rs ++ [mapB n b []]) w' → K ((d, .map (some b)) :: env) w') :
    O P N Q ⟨some d, .makeMap t none, ty, pos, after, g⟩ env w K := fun a ha => by
  unfold Oper.wp execOp
  simp only [run_makeMap, Option.map_none, Sem.run_bind, Sem.run_pure, Result.andThen_ok]
  refine ⟨_, ha.put d _ hd, h _ _ S.size (S.new (like_alloc w _) _ ⟨heap_alloc_new w _, fun p hp => by cases hp⟩ fun i hi => ?_)⟩
  have hi' : i = w.heap.size := hi
  subst hi'
  exact ⟨Nat.le_refl _, by simp⟩
theorem set_map_other (w : World) (b : Nat) (o : Obj) (i : Nat) (h : i ≠ b) : ({ w with heap := w.heap.setIfInBounds b o } : World).heap[i]? = w.heap[i]? := by
  show (w.heap.setIfInBounds b o)[i]? = _
  rw [Array.getElem?_setIfInBounds_ne (Ne.symm h)]
theorem same_bits (a : List UInt8) : Instr.sameBits 10000 (.agg (bA a)) (.agg (bA a)) = true := by
  unfold Instr.sameBits
  simp only [BEq.rfl, Bool.true_and]
  rw [List.all_eq_true]
  intro p hp
  obtain ⟨i, hi, rfl⟩ := List.getElem_of_mem hp
  rw [List.getElem_zip]
  have h1 : i < (bA a).toList.length := by rw [List.length_zip] at hi; omega
  have hx : (bA a).toList[i] = .int .u8 ((a[i]'(by simpa [bA, bL] using h1)).toNat : Int) := by simp [bA, bL, bV]
  rw [hx]
  simp [Instr.sameBits]
/-- 'm[k]' as a place: what stood there, and its mark. -/
theorem o_entryB {t k e u : TypeId} {n b : Nat} {D : List (List UInt8 × Value)} {m x : Operand} {a : List UInt8} {z : Value} (S : St w0 M rs w) (j : Nat) (hj : rs[j]? = some (mapB n b D)) (ht : P.underlying t = some (.map k e)) (hk : P.underlying k = some (.array n u)) (hu : P.underlying u = some (.int .u8)) (hs : (P.info? u).map (·.size) = some 1)
    (hz : ∀ W, (zeroValue e).run P W = .ok z W) (hm : ev env m = some (.map (some b))) (hx : ev env x = some (.agg (bA a))) (ha : a.length = n) (hd : Nat.blt d N = true)
    (h1 : ∀ i v, posB a D 0 = some (i, v) → St w0 M rs w → K ((d, .tuple #[v, .int .i64 (i : Int)]) :: env) w)
    (h2 : posB a D 0 = none → ∀ w', St w0 M (rs.set j (mapB n b (D ++ [(a, z)]))) w' → K ((d, .tuple #[z, .int .i64 (D.length : Int)]) :: env) w') :
    O P N Q ⟨some d, .mapEntry t m x, ty, pos, after, g⟩ env w K := fun c hc => by
  have hw := S.get j hj
  have hf := run_findB (P := P) hk hu hs a ha w D hw.2
  unfold Oper.wp execOp
  simp only [hc.eval hm, hc.eval hx, Instr.mapEntry, Sem.run_bind, run_underlying ht, Result.andThen_ok, getM hw.1, Sem.run_pure, run_checkB hk hu hs a ha w, hf]
  cases hp : posB a D 0 with
  | some p =>
    obtain ⟨i, v⟩ := p
    obtain ⟨_, hi⟩ := posB_some hp
    rw [Nat.sub_zero] at hi
    have hg : (entB D).toArray[i]? = some ⟨.agg (bA a), v, i⟩ := by rw [List.getElem?_toArray, entB_get, hi]; rfl
    have hil := (Array.getElem?_eq_some_iff.1 hg).1
    have hget := (Array.getElem?_eq_some_iff.1 hg).2
    have hmod : ((entB D).toArray.modify i fun e => { e with key := Value.agg (bA a) }) = (entB D).toArray := by
      apply Array.ext_getElem?
      intro q
      rw [Array.getElem?_modify]
      split
      · rename_i e; subst e; rw [hg]; rfl
      · rfl
    have hsame : ({ w with heap := w.heap.setIfInBounds b (.map (entB D).toArray D.length) } : World) = w := by
      have : w.heap.setIfInBounds b (.map (entB D).toArray D.length) = w.heap := by
        apply Array.ext_getElem?
        intro q
        by_cases e : q = b
        · subst e
          have hq : q < w.heap.size := (Array.getElem?_eq_some_iff.1 hw.1).1
          rw [Array.getElem?_setIfInBounds_self_of_lt hq, hw.1]
        · rw [Array.getElem?_setIfInBounds_ne (Ne.symm e)]
      rw [this]
    simp only [hg, Option.map_some, Option.getD_some, Instr.keyThatStays, same_bits, if_true, Sem.run_pure, Sem.run_bind, Result.andThen_ok, hmod, setM _ hw.1, hsame]
    exact ⟨_, hc.put d _ hd, h1 i v hp S⟩
  | none =>
    have hnew : (entB D).toArray.push { key := Value.agg (bA a), val := z, born := D.length } = (entB (D ++ [(a, z)])).toArray := by
      unfold entB
      rw [List.zipIdx_append, List.map_append]
      simp
    simp only [hz, Sem.run_bind, Sem.run_pure, Result.andThen_ok, setM _ hw.1, hnew]
    refine ⟨_, hc.put d _ hd, h2 hp _ (S.upd j hj rfl rfl rfl (by simp) (fun i hi hn => set_map_other w b _ i hn) ⟨?_, fun p hp => ?_⟩ fun i hi => .inl hi)⟩
    · have hq : b < w.heap.size := (Array.getElem?_eq_some_iff.1 hw.1).1
      show (w.heap.setIfInBounds b _)[b]? = _
      rw [Array.getElem?_setIfInBounds_self_of_lt hq, List.length_append]
      rfl
    · rcases List.mem_append.1 hp with hp | hp
      · exact hw.2 p hp
      · obtain rfl := List.mem_singleton.1 hp
        exact ha
/-- What the place gets. -/
theorem o_entryStB {t : TypeId} {n b i : Nat} {D : List (List UInt8 × Value)} {m x v : Operand} {a : List UInt8} {old new : Value} (S : St w0 M rs w) (j : Nat) (hj : rs[j]? = some (mapB n b D)) (hi : D[i]? = some (a, old)) (hm : ev env m = some (.map (some b))) (hx : ev env x = some (.int .i64 (i : Int))) (hv : ev env v = some new)
    (h : ∀ w', St w0 M (rs.set j (mapB n b (D.set i (a, new)))) w' → K env w') :
    O P N Q ⟨none, .entryStore t m x v, ty, pos, after, g⟩ env w K := fun c hc => by
  have hw := S.get j hj
  have hil : i < D.length := (List.getElem?_eq_some_iff.1 hi).1
  have hfind : (entB D).toArray.findIdx? (fun e => ((e.born : Int) == (i : Int))) = some i := by
    rw [Array.findIdx?_eq_some_iff_getElem]
    have hg : ∀ q (hq : q < (entB D).toArray.size), ((entB D).toArray[q]).born = q := fun q hq => by
      have h1 : (entB D).toArray[q]? = some (entB D).toArray[q] := Array.getElem?_eq_getElem hq
      rw [List.getElem?_toArray, entB_get] at h1
      cases hD : D[q]? with
      | none => rw [hD] at h1; cases h1
      | some p => rw [hD] at h1; have h2 := Option.some.inj h1; rw [← h2]
    have hes : (entB D).toArray.size = D.length := by simp [entB_len]
    refine ⟨by omega, by rw [hg i (by omega)]; simp, fun q hq => ?_⟩
    rw [hg q (by omega)]
    simp
    omega
  have hnew : ((entB D).toArray.modify i fun e => { e with val := new }) = (entB (D.set i (a, new))).toArray := by
    apply Array.ext_getElem?
    intro q
    rw [Array.getElem?_modify, List.getElem?_toArray, List.getElem?_toArray, entB_get, entB_get, List.getElem?_set]
    split
    · rename_i e; subst e; first | (rw [if_pos hil, hi]; rfl) | (rw [hi]; rfl)
    · rfl
  have hai : (asInt (.int .i64 (i : Int))).run P w = .ok (i : Int) w := rfl
  unfold Oper.wp execOp
  simp only [hc.eval hm, hc.eval hx, hc.eval hv, Instr.entryStore, Sem.run_bind, getM hw.1, Result.andThen_ok, hai, Sem.run_pure, hfind, setM _ hw.1, hnew]
  refine ⟨env, hc, h _ (S.upd j hj rfl rfl rfl (by simp) (fun i hi hn => set_map_other w b _ i hn) ⟨?_, fun p hp => ?_⟩ fun i hi => .inl hi)⟩
  · have hq : b < w.heap.size := (Array.getElem?_eq_some_iff.1 hw.1).1
    show (w.heap.setIfInBounds b _)[b]? = _
    rw [Array.getElem?_setIfInBounds_self_of_lt hq, List.length_set]
  · rcases List.mem_or_eq_of_mem_set hp with hp | rfl
    · exact hw.2 p hp
    · exact hw.2 (a, old) (List.mem_of_getElem? hi)
/-- A slice as a pointer to an array. -/
theorem y_arrAt {t e : TypeId} {n m c : Nat} {A : Option Addr} {x : Operand} {S : World → Prop} (ht : P.underlying t = some (.array n e)) (hx : ev env x = some (.slice A m c)) (hn : n ≤ m) :
    Y P S env ⟨dst, .sliceToArrayPointer t x, ty, pos, after, g⟩ (.pointer A) := fun N c w hc _ => by
  simp only [execOp, hc.eval hx, Instr.arrayAt, Sem.run_bind, run_underlying ht, Result.andThen_ok]
  rw [if_neg (by omega)]
  simp only [Sem.run_bind, Sem.run_pure, Result.andThen_ok]
end
end Go.Proofs.Ytpcgldkllnkaeaa.Zx


/-
  '==' on structs of ints. General; nothing here names a program.
-/
namespace Go.Proofs.Ytpcgldkllnkaeaa.Zx
open Go.RowKit Zk
set_option linter.unusedVariables false
set_option linter.unusedSimpArgs false
section
variable {P : Program}
variable {S : World → Prop} {env : Env} {dst : Option Tmp} {ty : TypeId} {pos : String} {after : Array Edge} {g : Option (Nat × Bool)}
end
section
open Go.ChangeShapes Go.WideShapes Go.ChangeAt Go.Deep
variable {H : Type} {enc : TypeId × Value → H} {P : Program} {w : World} {base : Nat} {spare : Nat → Bool} {held : Bool}
end
end Go.Proofs.Ytpcgldkllnkaeaa.Zx


/-
  A law's arguments, opened: slices of elements of many cells. General; nothing here names a program.
-/
namespace Go.Proofs.Ytpcgldkllnkaeaa.Zx
open Go.ChangeShapes Go.WideShapes Go.ChangeAt Go.RowKit Go.Deep Zk
set_option linter.unusedVariables false
section
variable {H : Type} {enc : TypeId × Value → H} {P : Program} {w : World} {base : Nat} {spare : Nat → Bool} {held : Bool}
theorem flat_len {α : Type} (f : α → List Value) (size : Nat) (hlen : ∀ y, (f y).length = size) : ∀ l : List α, (l.flatMap f).length = l.length * size
  | [] => by simp
  | y :: l => by rw [List.flatMap_cons, List.length_append, hlen, flat_len f size hlen l, List.length_cons, Nat.succ_mul]; omega
theorem flat_get {α : Type} (f : α → List Value) (size : Nat) (hlen : ∀ y, (f y).length = size) : ∀ (l : List α) (j : Nat) (u : Value), (l.flatMap f)[j]? = some u → ∃ i y, l[i]? = some y ∧ i * size ≤ j ∧ (f y)[j - i * size]? = some u
  | [], j, u, h => by simp at h
  | y :: l, j, u, h => by
    rw [List.flatMap_cons, List.getElem?_append, hlen] at h
    split at h
    · exact ⟨0, y, rfl, by omega, by simpa using h⟩
    · obtain ⟨i, z, h1, h2, h3⟩ := flat_get f size hlen l (j - size) u h
      exact ⟨i + 1, z, by simpa using h1, by rw [Nat.succ_mul]; omega, by rw [Nat.succ_mul, show j - (i * size + size) = j - size - i * size by omega]; exact h3⟩
theorem flat_cut {α : Type} (f : α → List Value) (size : Nat) (hlen : ∀ y, (f y).length = size) : ∀ (l : List α) (k : Nat) (y : α), l[k]? = some y → ((l.flatMap f).drop (k * size)).take size = f y
  | [], k, y, h => by simp at h
  | z :: l, 0, y, h => by
    have e : z = y := by simpa using h
    subst e
    rw [Nat.zero_mul, List.drop_zero, List.flatMap_cons, List.take_append_of_le_length (by rw [hlen]; exact Nat.le_refl _), List.take_of_length_le (by rw [hlen]; exact Nat.le_refl _)]
  | z :: l, k + 1, y, h => by
    rw [List.flatMap_cons, Nat.succ_mul, Nat.add_comm, ← List.drop_drop, List.drop_left' (hlen z)]
    exact flat_cut f size hlen l k y (by simpa using h)
end
section
variable {P : Program} {env : Env} {w : World} {dst : Option Tmp} {ty : TypeId} {pos : String} {after : Array Edge} {g : Option (Nat × Bool)}
/-- A load of an element of many cells. -/
theorem y_ldp {α : Type} {f : α → List Value} {l : List α} {y : α} {x : Operand} {A : Option Addr} {n c k size : Nat} {lt : TypeId} {d : TypeDesc} (hlen : ∀ y, (f y).length = size) (hd : P.underlying lt = some d) (hrow : d.isRow = true) (hsz : (P.info? lt).map (·.size) = some size) (hx : ev env x = some (pR A k size)) (hr : Rs w size A n c (l.flatMap f)) (hk : k < n) (hy : l[k]? = some y) :
    Y P (Like w) env ⟨dst, .load lt x, ty, pos, after, g⟩ (.agg (f y).toArray) := by
  have h := y_ldn (dst := dst) (ty := ty) (pos := pos) (after := after) (g := g) hd hrow hsz hx hr hk
  rwa [flat_cut f size hlen l k y hy] at h
end
end Go.Proofs.Ytpcgldkllnkaeaa.Zx


/-
  Delta, in plain Lean: ops, scripts, what they are worth.
-/
namespace Go.Proofs.Ytpcgldkllnkaeaa
open Go.RowKit Zk Zx
set_option linter.unusedVariables false
set_option linter.unusedSimpArgs false
/-- An op's worth. -/
structure OV where
  cp : Bool
  fr : Int
  n : Int
  l : List UInt8
deriving DecidableEq
/-- An op in memory. -/
structure OP where
  cp : Bool
  fr : Int
  n : Int
  p : Part
def OP.v (o : OP) : OV := ⟨o.cp, o.fr, o.n, o.p.l⟩
def opf (o : OP) : List Value := [.bool o.cp, .int .i64 o.fr, .int .i64 o.n, pv o.p]
theorem opf_len (o : OP) : (opf o).length = 4 := rfl
theorem opf_one (o : OP) : ∀ u ∈ opf o, u.oneCell' = true := fun u hu => by
  simp only [opf, pv, List.mem_cons, List.not_mem_nil, or_false] at hu
  rcases hu with rfl | rfl | rfl | rfl <;> rfl
theorem ops_len (l : List OP) : (l.flatMap opf).length = l.length * 4 := flat_len opf 4 opf_len l
theorem ops_n {w : World} {A : Option Addr} {n c : Nat} {l : List OP} (h : Rs w 4 A n c (l.flatMap opf)) : n = l.length := by
  have := h.len
  rw [ops_len] at this
  omega
def OkO (w : World) (l : List OP) : Prop := ∀ o ∈ l, o.p.ok w
theorem OkO.like {w w' : World} {l : List OP} (h : OkO w l) (lk : Like w w') : OkO w' l := fun o ho => Rs.like (h o ho) lk
def scA (b t : Int) (A : Option Addr) (n c : Nat) : Array Value := #[.int .i64 b, .int .i64 t, .slice A n c]
def szV (o : OV) : Int := if o.cp then o.n else (o.l.length : Int)
def rtV (b : Int) (o : OV) : Bool := if o.cp then decide (1 ≤ o.n) && decide (o.n ≤ b) && decide (0 ≤ o.fr) && decide (o.fr ≤ b - o.n) && decide (o.l.length = 0) else decide (1 ≤ o.l.length) && decide (o.fr = 0) && decide (o.n = 0)
def chkL (b : Int) : Int → List OV → Bool
  | left, [] => decide (left = 0)
  | left, o :: r => rtV b o && decide (szV o ≤ left) && chkL b (left - szV o) r
def chkV (b t : Int) (l : List OV) : Bool := decide (0 ≤ b ∧ b ≤ 4000 ∧ 0 ≤ t ∧ t ≤ 4000) && chkL b t l
theorem sz_nonneg {b : Int} {o : OV} (h : rtV b o = true) : 1 ≤ szV o := by
  unfold rtV at h
  unfold szV
  split at h
  · rename_i hc
    rw [if_pos hc]
    simp at h
    omega
  · rename_i hc
    rw [if_neg hc]
    simp at h
    omega
end Go.Proofs.Ytpcgldkllnkaeaa
