import Derived.WalkKit
import Derived.WalkSpells
import Derived.WalkLawsBesides
import Derived.Deep.AppendLies
import Derived.Deep.Draws
import Derived.Deep.QuietTactic
import Derived.BigQuiet
import Derived.StillTailTactics
import Derived.Maps.AppendAt
import Derived.RegionTactic
import Derived.Lib.Hide
import Derived.Deep.RegionHeld3
import Derived.Deep.MidRow
import Derived.Handy
import Derived.Defers
import Derived.ProofKit
import Derived.OpenShut
import Derived.ShutString
import Derived.ChangeOld
import Derived.Below
import Derived.Deep.Slices
import Derived.Test.YtcbnhmcfdpcbhaaRows
import Derived.Deep.CondSized
import Derived.JoinedCond

/-
  General laws for walks over byte rows, arrays and blocks. Nothing here names a program.
-/
namespace Go.Proofs.Ytcbnhmcfdpcbhaa.Zk
open Go.RowKit
set_option linter.unusedVariables false

theorem block_of_add (a : Addr) (n : Nat) : (a.add n).block = a.block := by unfold Addr.add; split <;> rfl
theorem add_of_add (a : Addr) (i j : Nat) : (a.add i).add j = a.add (i + j) := by
  unfold Addr.add
  by_cases hi : i = 0 <;> by_cases hj : j = 0 <;> simp [hi, hj, Nat.add_assoc]

def Reads (w : World) (B size : Nat) (A : Option Addr) (n : Nat) (xs : List Value) : Prop :=
  xs.length = n * size ∧ (0 < n → ∃ ad, A = some ad ∧ ad.block < B ∧ ∀ j u, xs[j]? = some u → w.cell? (ad.add j) = some u)

section
variable {w w' : World} {B B' size n : Nat} {A : Option Addr} {xs : List Value}
theorem Reads.none_ : Reads w B size A 0 [] := ⟨by simp, fun h => absurd h (by omega)⟩
theorem Reads.at_ {k : Nat} (h : Reads w B 1 A n xs) (hk : k < n) : ∃ ad u, A = some ad ∧ ad.block < B ∧ xs[k]? = some u ∧ w.cell? (ad.add k) = some u := by
  obtain ⟨ad, e, hb, hc⟩ := h.2 (by omega)
  have hl : k < xs.length := by have := h.1; omega
  exact ⟨ad, xs[k], e, hb, List.getElem?_eq_getElem hl, hc k _ (List.getElem?_eq_getElem hl)⟩
theorem Reads.keep (h : Reads w B size A n xs) (hk : ∀ p : Addr, p.block < B → w'.cell? p = w.cell? p) : Reads w' B size A n xs :=
  ⟨h.1, fun hn => by
    obtain ⟨ad, e, hb, hc⟩ := h.2 hn
    exact ⟨ad, e, hb, fun j u hu => (hk _ (by rw [block_of_add]; exact hb)).trans (hc j u hu)⟩⟩
theorem Reads.more (h : Reads w B size A n xs) (hB : B ≤ B') : Reads w B' size A n xs :=
  ⟨h.1, fun hn => by
    obtain ⟨ad, e, hb, hc⟩ := h.2 hn
    exact ⟨ad, e, by omega, hc⟩⟩
theorem Reads.below (h : Reads w B size A n xs) (hb : Below B w w') : Reads w' B size A n xs := h.keep fun _ hp => hb.cell hp
theorem Reads.drew (h : Reads w B size A n xs) : Reads w.drew B size A n xs := h
theorem Reads.alloc (h : Reads w B size A n xs) (hB : B ≤ w.heap.size) (o : Obj) : Reads (w.alloc o) B size A n xs := h.keep fun p hp => World.cell?_alloc_lt w o p (by omega)
theorem Reads.setCell (h : Reads w B size A n xs) {p : Addr} (hB : B ≤ p.block) (u : Value) : Reads (w.setCell p u) B size A n xs :=
  h.keep fun q hq => World.cell?_setCell_other w p q u (fun e => by subst e; omega)
theorem Reads.cut (h : Reads w B size A n xs) {k cap : Nat} (hk : k ≤ n) (hc : n ≤ cap) :
    Reads w B size (if cap = k then A else A.map (·.add (k * size))) (n - k) (xs.drop (k * size)) := by
  refine ⟨by rw [List.length_drop, h.1, Nat.sub_mul], fun hn => ?_⟩
  obtain ⟨ad, rfl, hb, hcell⟩ := h.2 (by omega)
  rw [if_neg (by omega)]
  refine ⟨ad.add (k * size), rfl, by rw [block_of_add]; exact hb, fun j u hu => ?_⟩
  rw [add_of_add]
  exact hcell _ u (by rw [← hu, List.getElem?_drop])
theorem Reads.of_own {base : Nat} {e : TypeId} {c : Nat} (h : w.ownsRow base e size (.slice A n c) n xs) : Reads w w.heap.size size A n xs := by
  refine ⟨h.1, fun hn => ?_⟩
  obtain ⟨g, cap, hv, _, hlt⟩ := h.form hn
  have hA : A = some ⟨g, 0, none⟩ := by injection hv
  subst hA
  exact ⟨_, rfl, hlt, h.cells (g := g) rfl⟩
end

def Blk (w : World) (g : Nat) (t : TypeId) (cs : Array Value) : Prop := w.heap[g]? = some (.cells cs t (0, 0))

section
variable {w w' : World} {g : Nat} {t : TypeId} {cs : Array Value}
theorem Blk.lt (h : Blk w g t cs) : g < w.heap.size := by
  rcases Nat.lt_or_ge g w.heap.size with hlt | hge
  · exact hlt
  · unfold Blk at h; rw [Array.getElem?_eq_none hge] at h; cases h
theorem Blk.cell (h : Blk w g t cs) (i : Nat) : w.cell? ⟨g, i, none⟩ = cs[i]? := cell_of_row w g i cs t (0, 0) h
theorem Blk.frozen (h : Blk w g t cs) (i : Nat) : w.frozen? ⟨g, i, none⟩ = false := by
  unfold Blk at h
  simp [World.frozen?, h]
theorem Blk.new (w : World) (t : TypeId) (cs : Array Value) : Blk (w.alloc (.cells cs t)) w.heap.size t cs := heap_alloc_new w _
theorem Blk.drew (h : Blk w g t cs) : Blk w.drew g t cs := h
theorem Blk.alloc (h : Blk w g t cs) (o : Obj) : Blk (w.alloc o) g t cs := (Below.heap_alloc w o g h.lt).trans h
theorem Blk.set_ (h : Blk w g t cs) (i : Nat) (u : Value) : Blk (w.setCell ⟨g, i, none⟩ u) g t (cs.setIfInBounds i u) := by
  unfold Blk at h ⊢
  simp [World.setCell, Array.getElem?_modify, h]
theorem Blk.below {B : Nat} (h : Blk w g t cs) (hb : Below B w w') (hg : g < B) : Blk w' g t cs := (hb.block g hg).trans h
theorem Blk.ne_ {g' : Nat} {t' : TypeId} {cs' : Array Value} (h : Blk w g t cs) (h' : Blk w g' t' cs') (hne : t ≠ t') : g ≠ g' := by
  rintro rfl
  unfold Blk at h h'
  rw [h] at h'
  injection h' with h'
  injection h' with _ ht
  exact hne ht
theorem own_blk_ne {base : Nat} {e : TypeId} {size n : Nat} {v : Value} {xs : List Value} (h : w.ownsRow base e size v n xs) (hg : Blk w g t cs) (hne : e ≠ t) : v.ownBlock ≠ some g := by
  rcases h.2 with ⟨rfl, _⟩ | ⟨g', cap, cur, rfl, _, hh, _⟩
  · simp [Value.ownBlock]
  · intro he
    have : g' = g := by simpa [Value.ownBlock] using he
    subst this
    exact Blk.ne_ (t := e) hh hg hne rfl
end

section
variable {P : Program} (w : World)

theorem run_append_of_nil (base : Nat) (t ty e : TypeId) (i : TypeInfo) (size : Nat) (ht : P.underlying t = some (.slice e)) (hi : P.info? e = some i)
    (v : Value) (n : Nat) (xs : List Value) (hown : w.ownsRow base e size v n xs) (c : Nat) : (Builtin.append_ #[t, t] ty #[v, .slice none 0 c]).run P w = .ok v w := by
  rcases hown.2 with ⟨rfl, rfl⟩ | ⟨g, cap, cur, rfl, _, _, hnc, _⟩
  · simp [Builtin.append_, run_underlying ht, sizeOf, typeInfo, hi, Builtin.lenOf, Builtin.firstCells]
  · simp [Builtin.append_, run_underlying ht, sizeOf, typeInfo, hi, Builtin.lenOf, Builtin.firstCells, hnc, storeCells]

theorem run_append_any (base : Nat) (t ty e : TypeId) (i : TypeInfo) (z : Value) (size bytes : Nat) (ht : P.underlying t = some (.slice e)) (hi : P.info? e = some i) (hz : i.zero = some z)
    (hsize : i.size = size) (hby : i.bytes = bytes) (hzs : z.cells.size = size) (hsz : 0 < size)
    (v : Value) (n : Nat) (xs : List Value) (hown : w.ownsRow base e size v n xs)
    (B : Nat) (A : Option Addr) (m c : Nat) (news : List Value) (hr : Reads w B size A m news) (h1 : ∀ u ∈ news, u.oneCell' = true)
    (h63 : n + m ≤ maxLen) (hbytes : (n + m) * bytes ≤ 140737488355328) (hbase : base ≤ w.heap.size) :
    ∃ v' w', (Builtin.append_ #[t, t] ty #[v, .slice A m c]).run P w = .ok v' w' ∧ w'.ownsRow base e size v' (n + m) (xs ++ news) ∧ w.grownBy w' v.ownBlock ∧
      (v'.ownBlock = v.ownBlock ∨ v'.ownBlock = some w.heap.size) := by
  rcases A with _ | ad
  · have hm : m = 0 := by
      rcases Nat.eq_zero_or_pos m with h0 | h0
      · exact h0
      · obtain ⟨ad, h, _⟩ := hr.2 h0
        cases h
    subst hm
    have hn : news = [] := List.eq_nil_of_length_eq_zero (by simpa using hr.1)
    subst hn
    exact ⟨v, w, run_append_of_nil w base t ty e i size ht hi v n xs hown c, by simpa using hown, World.grownBy.refl w _, .inl rfl⟩
  · have hcells : ∀ j u, news[j]? = some u → w.cell? (ad.add j) = some u := by
      intro j u hu
      rcases Nat.eq_zero_or_pos m with h0 | h0
      · subst h0
        have hn : news = [] := List.eq_nil_of_length_eq_zero (by simpa using hr.1)
        subst hn
        simp at hu
      · obtain ⟨ad', h, _, hc⟩ := hr.2 h0
        injection h with h
        subst h
        exact hc j u hu
    obtain ⟨v', w', hrun, h2, h3, _, h5⟩ := run_append_own_at (P := P) w base t ty e i z size bytes ht hi hz hsize hby hzs hsz v n xs hown ad m c news hr.1 hcells h1 h63 hbytes hbase
    exact ⟨v', w', hrun, h2, h3, h5⟩

theorem wp_append_any {o : Oper} {a : Act} {K : Act → World → Prop} {Q : Exit → Act → World → Prop} (s x : Operand) (t : TypeId)
    (ho : o.op = .call { callee := .builtin .append, args := #[s, x], argTypes := #[t, t] })
    (base : Nat) (e : TypeId) (i : TypeInfo) (z : Value) (size bytes : Nat) (ht : P.underlying t = some (.slice e)) (hi : P.info? e = some i) (hz : i.zero = some z)
    (hsize : i.size = size) (hby : i.bytes = bytes) (hzs : z.cells.size = size) (hsz : 0 < size)
    (v : Value) (n : Nat) (xs : List Value) (hs : a.eval s = v) (hown : w.ownsRow base e size v n xs)
    (B : Nat) (A : Option Addr) (m c : Nat) (news : List Value) (hx : a.eval x = .slice A m c) (hr : Reads w B size A m news) (h1 : ∀ u ∈ news, u.oneCell' = true)
    (h63 : n + m ≤ maxLen) (hbytes : (n + m) * bytes ≤ 140737488355328) (hbase : base ≤ w.heap.size)
    (h : ∀ v' w', w'.ownsRow base e size v' (n + m) (xs ++ news) → w.grownBy w' v.ownBlock → (v'.ownBlock = v.ownBlock ∨ v'.ownBlock = some w.heap.size) → K (a.put o.dst v') w') : o.wp P a w K Q := by
  obtain ⟨v', w', hrun, h2, h3, h4⟩ := run_append_any (P := P) w base t o.type e i z size bytes ht hi hz hsize hby hzs hsz v n xs hown B A m c news hr h1 h63 hbytes hbase
  unfold Oper.wp execOp
  simp only [ho, resolve, invoke, builtin, Sem.run_bind, Sem.run_pure, Result.andThen_ok, List.map_toArray, List.map_cons, List.map_nil, hs, hx, hrun]
  exact h v' w' h2 h3 h4

end

/-! ### bytes -/
theorem size_toList (s : ByteArray) : s.data.toList.length = s.size := rfl
/-- A byte as a value. -/
def bV (c : UInt8) : Value := .int .u8 (c.toNat : Int)
/-- A row of bytes as values. -/
def bL (l : List UInt8) : List Value := l.map bV
/-- The same as an array of values. -/
def bA (l : List UInt8) : Array Value := (bL l).toArray
@[simp] theorem length_bL (l : List UInt8) : (bL l).length = l.length := by simp [bL]
@[simp] theorem size_bA (l : List UInt8) : (bA l).size = l.length := by simp [bA]
theorem bL_get (l : List UInt8) (k : Nat) (c : UInt8) (h : l[k]? = some c) : (bL l)[k]? = some (.int .u8 (c.toNat : Int)) := by simp [bL, h, bV]
theorem bL_one (l : List UInt8) : ∀ u ∈ bL l, u.oneCell' = true := by
  intro u hu
  simp only [bL, List.mem_map] at hu
  obtain ⟨c, _, rfl⟩ := hu
  rfl
/-! ### laws at an operation -/
section
variable {P : Program}
end

section
variable {P : Program}
end

section
variable {P : Program}
/-- 'string(b)' of a slice that reads as the bytes l, nil let in. -/
theorem run_conv_reads {w : World} {src dst e : TypeId} {B : Nat} {A : Option Addr} {n : Nat} (c : Nat) {l : List UInt8} (hs : P.underlying src = some (.slice e)) (he : P.underlying e = some (.int .u8)) (hd : P.underlying dst = some .string)
    (hr : Reads w B 1 A n (bL l)) : (convert src dst (.slice A n c)).run P w = .ok (.string ⟨l.toArray⟩) w := by
  have hn : n = l.length := by have := hr.1; simp at this; omega
  subst hn
  rcases A with _ | ad
  · have hl : l = [] := by
      rcases l with _ | ⟨x, l⟩
      · rfl
      · obtain ⟨ad, h, _⟩ := hr.2 (by simp)
        cases h
    subst hl
    rw [run_convert_bytes_string w src dst e none _ c hs he hd]
    simp [Conv.bytesToString]
    rfl
  · refine run_convert_bytes_back w src dst e ad c l hs he hd fun j hj => ?_
    obtain ⟨ad', h, _, hc⟩ := hr.2 (by omega)
    cases h
    exact hc j _ (bL_get l j _ (List.getElem?_eq_getElem hj))
end

section
variable {P : Program} {w : World}
/-- 'box' of a value of many cells. -/
theorem wp_bxB {o : Oper} {a : Act} {K : Act → World → Prop} {Q : Exit → Act → World → Prop} (ty : TypeId) (x : Operand) (ho : o.op = .box ty x) (vs : Array Value) (hx : a.eval x = .agg vs)
    (h : ∀ w', Blk w' w.heap.size ty vs → w.grownBy w' none → K (a.put o.dst (.pointer (some ⟨w.heap.size, 0, none⟩))) w') : o.wp P a w K Q := by
  unfold Oper.wp execOp
  simp only [ho, Instr.box, hx, Sem.run_bind, newVar, newRow, Sem.run_pure, run_newObj_alloc, Value.cells, Result.andThen_ok]
  exact h _ (Blk.new w ty vs) (World.grownBy_alloc _ _ _)
end

section
variable {P : Program} {w : World}
end

section
variable {P : Program}
end

/-! ### slices: one bundle for the element's type -/
/-- T: a slice type t, its element's type e with zero z, so many cells and bytes. -/
structure Elem (P : Program) (t e : TypeId) (z : Value) (size bytes : Nat) : Prop where
  ht : P.underlying t = some (.slice e)
  hi : (P.info? e).map (fun i => (i.zero, i.size, i.bytes)) = some (some z, size, bytes)
  hzs : z.cells.size = size
  hsz : 0 < size
theorem own_form {w : World} {base : Nat} {e : TypeId} {size n : Nat} {v : Value} {xs : List Value} (h : w.ownsRow base e size v n xs) : ∃ A c, v = .slice A n c := by
  rcases h.2 with ⟨rfl, rfl⟩ | ⟨g, cap, cur, rfl, _⟩
  · exact ⟨none, 0, rfl⟩
  · exact ⟨_, _, rfl⟩
section
variable {P : Program} {t e : TypeId} {z : Value} {size bytes : Nat}
/-- append: onto a row of the call's own, from whatever reads. -/
theorem wp_app (w : World) {o : Oper} {a : Act} {K : Act → World → Prop} {Q : Exit → Act → World → Prop} (T : Elem P t e z size bytes) (s x : Operand)
    (ho : o.op = .call { callee := .builtin .append, args := #[s, x], argTypes := #[t, t] })
    (base : Nat) {A : Option Addr} {n c : Nat} {xs : List Value} (hs : a.eval s = .slice A n c) (hown : w.ownsRow base e size (.slice A n c) n xs)
    {B : Nat} {A' : Option Addr} {m c' : Nat} {news : List Value} (hx : a.eval x = .slice A' m c') (hr : Reads w B size A' m news) (h1 : ∀ u ∈ news, u.oneCell' = true)
    (h63 : n + m ≤ maxLen) (hbytes : (n + m) * bytes ≤ 140737488355328) (hbase : base ≤ w.heap.size)
    (h : ∀ A2 c2 w', w'.ownsRow base e size (.slice A2 (n + m) c2) (n + m) (xs ++ news) → w.grownBy w' (Value.slice A n c).ownBlock → ((Value.slice A2 (n + m) c2).ownBlock = (Value.slice A n c).ownBlock ∨ (Value.slice A2 (n + m) c2).ownBlock = some w.heap.size) → K (a.put o.dst (.slice A2 (n + m) c2)) w') : o.wp P a w K Q := by
  obtain ⟨i, hi, hz, hsize, hby⟩ := info_parts T.hi
  refine wp_append_any w s x t ho base e i z size bytes T.ht hi hz hsize hby T.hzs T.hsz _ n xs hs hown B A' m c' news hx hr h1 h63 hbytes hbase fun v' w' h2 h3 h4 => ?_
  obtain ⟨A2, c2, rfl⟩ := own_form h2
  exact h A2 c2 w' h2 h3 h4
end
/-- ints as values -/
def iL (l : List Int) : List Value := l.map (Value.int .i64)
@[simp] theorem length_iL (l : List Int) : (iL l).length = l.length := by simp [iL]
theorem iL_one (l : List Int) : ∀ u ∈ iL l, u.oneCell' = true := by
  intro u hu
  simp only [iL, List.mem_map] at hu
  obtain ⟨c, _, rfl⟩ := hu
  rfl

section
variable {P : Program}
end
/-- A part of a known block reads. -/
theorem Blk.reads {w : World} {g : Nat} {t : TypeId} {cs : Array Value} (h : Blk w g t cs) (off m : Nat) (hm : off + m ≤ cs.size) : Reads w (g + 1) 1 (some ⟨g, off, none⟩) m ((cs.toList.drop off).take m) :=
  ⟨by simp; omega, fun _ => ⟨_, rfl, by simp, fun j u hu => by
    rw [Addr.add_mid, h.cell]
    rw [List.getElem?_take] at hu
    split at hu
    · rw [List.getElem?_drop] at hu
      simpa using hu
    · cases hu⟩⟩

end Go.Proofs.Ytcbnhmcfdpcbhaa.Zk


/-
  General laws, second part: '==' on arrays.
-/
namespace Go.Proofs.Ytcbnhmcfdpcbhaa.Zk
open Go.RowKit
set_option linter.unusedVariables false

section
variable {P : Program}
end

theorem fold_set : ∀ (vs : List Value) (k off : Nat) (cs : Array Value), off + k + vs.length ≤ cs.size →
    (vs.zipIdx k).foldl (fun cs (p : Value × Nat) => cs.setIfInBounds (off + p.2) p.1) cs = (cs.toList.take (off + k) ++ vs ++ cs.toList.drop (off + k + vs.length)).toArray
  | [], k, off, cs, _ => by simp
  | v :: vs, k, off, cs, h => by
    have hk : off + k < cs.size := by simp at h; omega
    rw [List.zipIdx_cons, List.foldl_cons, fold_set vs (k + 1) off _ (by simp at h ⊢; omega)]
    congr 1
    simp only [Array.toList_setIfInBounds]
    have e1 : off + (k + 1) = (off + k) + 1 := by omega
    rw [e1, List.take_set, List.drop_set, if_pos (by omega)]
    have e2 : (List.take (off + k + 1) cs.toList).set (off + k) v = List.take (off + k) cs.toList ++ [v] := by
      rw [List.take_succ_eq_append_getElem (by simpa using hk), List.set_append_right _ _ (by simp; omega)]
      simp
      have : min (off + k) cs.size = off + k := by omega
      simp [this]
    rw [e2]
    simp
    congr 1
    omega
/-- 'build' of a part into a row of zeros. -/
theorem fill_part (place : Nat → Option (Nat × Nat)) (cells : Array Value) (i off size : Nat) (vs : Array Value) (v : Value) (hv : v.cells = vs) (rest : List (Nat × Value)) (hp : place i = some (off, size)) (hs : vs.size = size) (hl : off + size ≤ cells.size) :
    Instr.fill place cells ((i, v) :: rest) = Instr.fill place (cells.toList.take off ++ vs.toList ++ cells.toList.drop (off + size)).toArray rest := by
  have e : vs.zipIdx.foldl (fun cs (c, j) => cs.setIfInBounds (off + j) c) cells = (cells.toList.take off ++ vs.toList ++ cells.toList.drop (off + size)).toArray := by
    have := fold_set vs.toList 0 off cells (by simp; omega)
    simp only [Nat.add_zero, Array.length_toList, hs] at this
    rw [← this, ← Array.foldl_toList]
    simp
  rw [← e]
  conv => lhs; unfold Instr.fill
  simp only [hp, hv]
  rw [if_neg (by simp [hs]; omega)]

theorem Blk.range {w : World} {g : Nat} {t : TypeId} {cs : Array Value} (h : Blk w g t cs) : w.rangeAt g 0 cs.toList := fun j v hj => by
  rw [h.cell]
  simpa using hj
/-! ### a region that draws its order, reads old memory, and calls what makes memory of its own -/
/-- The worlds that are as w was below w's own blocks. -/
def Ext (w : World) : Type := { w' : World // Below w.heap.size w w' }
instance (w : World) : Inhabited (Ext w) := ⟨⟨w, Below.refl _ _⟩⟩
def ext (w : World) (x : Ext w) : World := x.1
section
variable {P : Program}
end
section
variable {P : Program}
end
section
variable {P : Program} {w : World}
end
end Go.Proofs.Ytcbnhmcfdpcbhaa.Zk


/-
  General laws, third part: which operation stands next? (So that a law is tried there alone.)
-/
namespace Go.Proofs.Ytcbnhmcfdpcbhaa.Zk
open Go.RowKit
set_option linter.unusedVariables false

end Go.Proofs.Ytcbnhmcfdpcbhaa.Zk


/-
  A walk over an association list: the frame is known only at the slots that matter. General; nothing here names a program.
-/
namespace Go.Proofs.Ytcbnhmcfdpcbhaa.Zx
open Go.RowKit Zk
set_option linter.unusedVariables false
set_option linter.unusedSimpArgs false

abbrev Env := List (Nat × Value)
def look : Env → Nat → Option Value
  | [], _ => none
  | (i, v) :: r, n => bif Nat.beq i n then (bif Nat.beq i 1000000 then none else some v) else look r n
def ev (e : Env) : Operand → Option Value
  | .tmp t => look e t
  | .const v => some v
  | .func f => some (.func (.func f) #[] #[])
  | .global g => some (.pointer (some ⟨g, 0, none⟩))

/-- The calls that wait for the end stand in a place of their own, behind all slots. -/
def decD : Value → Deferred
  | .agg #[.int _ f, .agg xs] => ⟨.fn (.func f.toNat) #[], xs⟩
  | .agg #[.int _ f, .agg xs, .agg cs] => ⟨.fn (.func f.toNat) cs, xs⟩
  | .agg #[.int _ r] => ⟨.collected r.toNat, #[]⟩
  | _ => default
def decL : Value → List Deferred
  | .agg xs => xs.toList.map decD
  | _ => []
def dfs : Env → List Deferred
  | [] => []
  | (i, v) :: r => bif Nat.beq i 1000000 then decL v else dfs r
theorem look_none : ∀ e : Env, look e 1000000 = none
  | [] => rfl
  | (i, u) :: r => by
    simp only [look]
    cases hb : Nat.beq i 1000000 with
    | true => rfl
    | false => exact look_none r
theorem dfs_app : ∀ (e1 e2 : Env), dfs (e1 ++ e2) = dfs e1 ∨ dfs (e1 ++ e2) = dfs e2
  | [], e2 => .inr rfl
  | (i, u) :: r, e2 => by
    simp only [List.cons_append, dfs]
    cases Nat.beq i 1000000 with
    | true => exact .inl rfl
    | false => exact dfs_app r e2
theorem dfs_put (e : Env) (d : Nat) (v : Value) (h : d < 1000000) : dfs ((d, v) :: e) = dfs e := by
  have : Nat.beq d 1000000 = false := by
    cases hb : Nat.beq d 1000000 with
    | true => have : d = 1000000 := by simpa using hb
              omega
    | false => rfl
  simp only [dfs, this, cond_false]

structure Fits (N : Nat) (e : Env) (a : Act) : Prop where
  defers : a.defers = dfs e
  small : N ≤ 1000000
  size : a.tmps.size = N
  vals : ∀ i v, look e i = some v → a.tmps[i]? = some v

theorem Fits.eval {N : Nat} {e : Env} {a : Act} (h : Fits N e a) {x : Operand} {v : Value} (hx : ev e x = some v) : a.eval x = v := by
  cases x with
  | tmp t =>
    have := h.vals t v hx
    simp [Act.eval, this]
  | const c => simpa [ev, Act.eval] using hx
  | func f => simpa [ev, Act.eval] using hx
  | global g => simpa [ev, Act.eval] using hx

theorem Fits.put {N : Nat} {e : Env} {a : Act} (h : Fits N e a) (d : Nat) (v : Value) (hd : Nat.blt d N = true) : Fits N ((d, v) :: e) (a.put (some d) v) := by
  have hd' : d < N := by simpa using hd
  refine ⟨by rw [dfs_put _ _ _ (Nat.lt_of_lt_of_le hd' h.small)]; exact h.defers, h.small, by simp [Act.put, h.size], fun i u hu => ?_⟩
  simp only [look] at hu
  by_cases hi : d = i
  · subst hi
    have : Nat.beq d d = true := by simp
    have hk : Nat.beq d 1000000 = false := by
      cases hb : Nat.beq d 1000000 with
      | true =>
        have h3 : d = 1000000 := by simpa using hb
        have := h.small
        omega
      | false => rfl
    rw [this, hk] at hu
    simp only [cond_true, cond_false, Option.some.injEq] at hu
    subst hu
    simp [Act.put, h.size, hd']
  · have : Nat.beq d i = false := by
      cases hb : Nat.beq d i with
      | true => exact absurd (by simpa using hb) hi
      | false => rfl
    rw [this] at hu
    simp only [cond_false] at hu
    simp only [Act.put]
    rw [Array.getElem?_setIfInBounds_ne hi]
    exact h.vals i u hu

/-- e' is known of whatever e is known of. -/
def Sub (e' e : Env) : Prop := dfs e' = dfs e ∧ ∀ i v, look e' i = some v → look e i = some v
theorem Sub.refl (e : Env) : Sub e e := ⟨rfl, fun _ _ h => h⟩
theorem Sub.nil (e : Env) (hd : dfs e = [] := by rfl) : Sub [] e := ⟨hd.symm, fun _ _ h => by cases h⟩
theorem Sub.cons {e' e : Env} {i : Nat} {v u : Value} (h : look e i = some u) (hv : u = v) (hs : Sub e' e) : Sub ((i, v) :: e') e := by
  subst hv
  refine ⟨?_, ?_⟩
  · simp only [dfs]
    cases hb : Nat.beq i 1000000 with
    | true =>
      have : i = 1000000 := by simpa using hb
      subst this
      rw [look_none] at h
      cases h
    | false => exact hs.1
  intro j w hj
  simp only [look] at hj
  cases hb : Nat.beq i j with
  | true =>
    rw [hb] at hj
    have : i = j := by simpa using hb
    subst this
    cases hc : Nat.beq i 1000000 with
    | true =>
      rw [hc] at hj
      cases hj
    | false =>
      rw [hc] at hj
      simp only [cond_true, cond_false] at hj
      rw [h, hj]
  | false =>
    rw [hb] at hj
    exact hs.2 j w hj
theorem look_app (e1 e2 : Env) (i : Nat) : look (e1 ++ e2) i = (look e1 i).or (look e2 i) := by
  induction e1 with
  | nil => simp [look]
  | cons p e1 ih =>
    obtain ⟨j, v⟩ := p
    simp only [List.cons_append, look]
    cases hb : Nat.beq j i with
    | true =>
      have h1 : j = i := by simpa using hb
      subst h1
      cases hc : Nat.beq j 1000000 with
      | true =>
        have h2 : j = 1000000 := by simpa using hc
        subst h2
        simp [look_none]
      | false => simp
    | false => simpa using ih
theorem Sub.app {e1 e2 e : Env} (h1 : Sub e1 e) (h2 : Sub e2 e) : Sub (e1 ++ e2) e := ⟨(dfs_app e1 e2).elim (fun h => h.trans h1.1) (fun h => h.trans h2.1), fun i v h => by
  rw [look_app] at h
  cases hl : look e1 i with
  | none => rw [hl] at h; exact h2.2 i v (by simpa using h)
  | some u => rw [hl] at h; simp only [Option.some_or] at h; exact h1.2 i v (by rw [hl, h])⟩
theorem Fits.sub {N : Nat} {e e' : Env} {a : Act} (h : Fits N e a) (hs : Sub e' e) : Fits N e' a := ⟨h.defers.trans hs.1.symm, h.small, h.size, fun i v hv => h.vals i v (hs.2 i v hv)⟩

abbrev Post := Exit → Env → World → Prop
def lift (N : Nat) (Q : Post) : Exit → Act → World → Prop
  | .outgrown, _, _ => False
  | e, a, w => ∃ env, Fits N env a ∧ Q e env w
def thenQ (K : Env → World → Prop) (Q : Post) : Post
  | .normal, e, w => K e w
  | x, e, w => Q x e w
def inB (id : Nat) (Q : Post) : Post
  | .exit i, e, w => if i = id then Q .normal e w else Q (.exit i) e w
  | x, e, w => Q x e w

/-- What a return is asked, behind the ways that it goes through. -/
class RetP (Q : Post) (Q0 : outParam Post) : Prop where
  ret : ∀ env w, Q0 .ret env w → Q .ret env w
instance (Q : Post) : RetP Q Q := ⟨fun _ _ h => h⟩
instance (K : Env → World → Prop) (Q Q0 : Post) [h : RetP Q Q0] : RetP (thenQ K Q) Q0 := ⟨h.ret⟩
instance (id : Nat) (Q Q0 : Post) [h : RetP Q Q0] : RetP (inB id Q) Q0 := ⟨h.ret⟩
theorem ur {Q Q0 : Post} [h : RetP Q Q0] {env : Env} {w : World} (hq : Q0 .ret env w) : Q .ret env w := h.ret env w hq

section
variable {P : Program} {N : Nat} {Q : Post} {env : Env} {w : World}
def T (P : Program) (N : Nat) (c : Code) (Q : Post) (env : Env) (w : World) : Prop := ∀ a, Fits N env a → c.wp P (lift N Q) a w

theorem T_weak {c : Code} {env' : Env} (hs : Sub env' env) (h : T P N c Q env' w) : T P N c Q env w := fun a ha => h a (ha.sub hs)
theorem T_seq {x y : Code} (h : ∀ K : Env → World → Prop, (∀ e w, T P N y Q e w → K e w) → T P N x (thenQ K Q) env w) : T P N (.seq x y) Q env w := fun a ha =>
  wp_seq (Code.wp_mono (by
    intro e a w h
    cases e with
    | normal =>
      obtain ⟨e', h1, h2⟩ := h
      exact h2 a h1
    | panic c => exact h
    | outgrown => exact h.elim
    | exit i => exact h
    | goto l => exact h
    | ret => exact h) (h (fun e w => T P N y Q e w) (fun _ _ h => h) a ha))
/-- What behind the end is asked may be less. -/
theorem T_mono {c : Code} {R R' : Env → World → Prop} (hr : ∀ e w, R e w → R' e w) (h : T P N c (thenQ R Q) env w) : T P N c (thenQ R' Q) env w := fun a ha => Code.wp_mono (by
    intro e a w h
    cases e with
    | normal =>
      obtain ⟨e', h3, h4⟩ := h
      exact ⟨e', h3, hr _ _ h4⟩
    | panic c => exact h
    | outgrown => exact h.elim
    | exit i => exact h
    | goto l => exact h
    | ret => exact h) (h a ha)
theorem T_skip (h : Q .normal env w) : T P N .skip Q env w := fun a ha => wp_skip ⟨env, ha, h⟩
theorem T_ret (h : Q .ret env w) : T P N .ret Q env w := fun a ha => wp_ret ⟨env, ha, h⟩
theorem T_exit {id : Nat} (h : Q (.exit id) env w) : T P N (.exit id) Q env w := fun a ha => wp_exit ⟨env, ha, h⟩
theorem T_block {id : Nat} {c : Code} (h : T P N c (inB id Q) env w) : T P N (.block id c) Q env w := fun a ha =>
  wp_block (Code.wp_mono (by
    intro e a w h
    cases e with
    | normal => exact h
    | panic c => exact h
    | outgrown => exact h.elim
    | exit i =>
      obtain ⟨e', h3, h4⟩ := h
      simp only [inB] at h4
      simp only [Exit.inBlock]
      split
      · rename_i hi
        rw [if_pos hi] at h4
        exact ⟨e', h3, h4⟩
      · rename_i hi
        rw [if_neg hi] at h4
        exact ⟨e', h3, h4⟩
    | goto l => exact h
    | ret => exact h) (h a ha))
theorem T_cond {c : Operand} {x y : Code} {p : Prop} {inst : Decidable p} (hc : ev env c = some (.bool (@decide p inst))) (ht : p → T P N x Q env w) (hf : ¬p → T P N y Q env w) : T P N (.cond c x y) Q env w := fun a ha => by
  refine wp_cond_split (ha.eval hc) (fun h => ht (of_decide_eq_true h) a ha) (fun h => hf (of_decide_eq_false h) a ha)
theorem T_true {c : Operand} {x y : Code} (hc : ev env c = some (.bool true)) (ht : T P N x Q env w) : T P N (.cond c x y) Q env w := fun a ha => wp_cond_true (ha.eval hc) (ht a ha)
theorem T_false {c : Operand} {x y : Code} (hc : ev env c = some (.bool false)) (ht : T P N y Q env w) : T P N (.cond c x y) Q env w := fun a ha => wp_cond_false (ha.eval hc) (ht a ha)

/-- A loop: the relation bears a number that every round lowers. -/
theorem T_loop {c : Code} (R : Nat → Env → World → Prop) (m : Nat) (h0 : R m env w)
    (round : ∀ m e w, R m e w → T P N c (thenQ (fun e' w' => ∃ m', m' < m ∧ R m' e' w') Q) e w) : T P N (.loop c) Q env w := by
  intro a0 ha0 b k cs
  have key : ∀ n a w, (∃ e, Fits N e a ∧ R n e w) →
      ∃ e a' w', lift N Q e a' w' ∧ Arrives P (lone (b.at a (.code c :: .inLoop c :: k)) cs w) b k cs e a' w' := by
    intro n
    induction n using Nat.strongRecOn with
    | _ n ih =>
      intro a w ⟨e0, he0, hR⟩
      obtain ⟨e, a₁, w₁, hq, harr⟩ := round n e0 w hR a he0 b (.inLoop c :: k) cs
      cases e with
      | normal =>
        obtain ⟨e1, hf1, m', hlt, hR1⟩ := hq
        obtain ⟨e₂, a₂, w₂, hq₂, harr₂⟩ := ih m' hlt a₁ w₁ ⟨e1, hf1, hR1⟩
        exact ⟨e₂, a₂, w₂, hq₂, .of_steps (Steps.trans harr (.one step_inLoop)) harr₂⟩
      | exit id => exact ⟨.exit id, a₁, w₁, hq, .pass (x := .inLoop c) rfl (fun _ _ => .inl (by simp)) harr⟩
      | goto l => exact ⟨.goto l, a₁, w₁, hq, .pass (x := .inLoop c) rfl (fun _ _ => .inl (by simp)) harr⟩
      | ret => exact ⟨.ret, a₁, w₁, hq, .pass (x := .inLoop c) rfl (fun _ _ => .inl (by simp)) harr⟩
      | panic ch => exact ⟨.panic ch, a₁, w₁, hq, .pass (x := .inLoop c) rfl (fun _ _ => .inl (by simp)) harr⟩
      | outgrown => exact hq.elim
  obtain ⟨e, a', w', hq, harr⟩ := key m a0 w ⟨env, ha0, h0⟩
  exact ⟨e, a', w', hq, .of_steps (.one step_loop) harr⟩

/-! ### operations in the text's order -/
def L (P : Program) (N : Nat) (ops : Array Oper) (Q : Post) (rest : List Oper) (env : Env) (w : World) : Prop := ∀ a, Fits N env a → wpList P ops (lift N Q) rest a w
theorem T_region {id : Nat} {l : List Oper} (h : L P N l.toArray Q l env w) : T P N (.region id l.toArray false) Q env w := fun a ha => wp_region_lit (h a ha)
theorem L_nil {ops : Array Oper} (h : Q .normal env w) : L P N ops Q [] env w := fun a ha => ⟨env, ha, h⟩

/-- One operation: what it leads to. -/
def O (P : Program) (N : Nat) (Q : Post) (o : Oper) (env : Env) (w : World) (K : Env → World → Prop) : Prop :=
  ∀ a, Fits N env a → o.wp P a w (fun a' w' => ∃ e', Fits N e' a' ∧ K e' w') (lift N Q)
theorem L_o {ops : Array Oper} {rest : List Oper} {d : Option Tmp} {op : Op} {ty : TypeId} {pos : String} {after : Array Edge}
    (h : O P N Q ⟨d, op, ty, pos, after, none⟩ env w (L P N ops Q rest)) : L P N ops Q (⟨d, op, ty, pos, after, none⟩ :: rest) env w := fun a ha =>
  wpList_plain rfl fun K hK => Oper.wp_mono (fun a w ⟨e', h1, h2⟩ => hK _ _ (h2 a h1)) (h a ha)

/-- All worlds that are as w is in w's own blocks. -/
def Like (w w' : World) : Prop := Below w.heap.size w w'
theorem Like.refl (w : World) : Like w w := Below.refl _ _
theorem Like.drew (w : World) : Like w w.drew := (Below.refl _ _).drew
theorem Like.trans {a b c : World} (h : Like a b) (k : Like b c) : Like a c := Below.trans h (Below.mono k h.size)
theorem Like.cell {w w' : World} (h : Like w w') {p : Addr} {v : Value} (hc : w.cell? p = some v) : w'.cell? p = some v :=
  (Below.cell h (World.block_lt_of_cell? w p hc)).trans hc

/-- The operation yields v in every world of S and leaves it as it is. -/
def Y (P : Program) (S : World → Prop) (env : Env) (o : Oper) (v : Value) : Prop := ∀ N a w, Fits N env a → S w → (execOp a.eval o).run P w = .ok (.value v) w
theorem o_y {d : Tmp} {op : Op} {ty : TypeId} {pos : String} {after : Array Edge} {g : Option (Nat × Bool)} {v : Value} {S : World → Prop} {K : Env → World → Prop}
    (hy : Y P S env ⟨some d, op, ty, pos, after, g⟩ v) (hS : S w) (hd : Nat.blt d N = true) (h : K ((d, v) :: env) w) : O P N Q ⟨some d, op, ty, pos, after, g⟩ env w K := fun a ha => by
  unfold Oper.wp
  rw [hy N a w ha hS]
  exact ⟨_, ha.put d v hd, h⟩
theorem L_y {ops : Array Oper} {rest : List Oper} {d : Tmp} {op : Op} {ty : TypeId} {pos : String} {after : Array Edge} {v : Value}
    (hy : Y P (Like w) env ⟨some d, op, ty, pos, after, none⟩ v) (hd : Nat.blt d N = true) (h : L P N ops Q rest ((d, v) :: env) w) : L P N ops Q (⟨some d, op, ty, pos, after, none⟩ :: rest) env w :=
  L_o (o_y hy (Like.refl w) hd h)
/-! guards -/
theorem L_gyes {ops : Array Oper} {rest : List Oper} {d : Tmp} {op : Op} {ty : TypeId} {pos : String} {after : Array Edge} {j : Nat} {b : Bool} {t : Tmp}
    (hj : (ops[j]?).bind (·.dst) = some t) (ht : look env t = some (.bool b)) (h : L P N ops Q (⟨d, op, ty, pos, after, none⟩ :: rest) env w) : L P N ops Q (⟨d, op, ty, pos, after, some (j, b)⟩ :: rest) env w := fun a ha => by
  have h1 := h a ha
  have hw : yielded ops a.tmps j = some b := by
    simp [yielded, hj, ha.vals t _ ht]
  unfold wpList at h1 ⊢
  simp only [Region.wanted, hw, if_true, beq_self_eq_true] at h1 ⊢
  exact h1
theorem L_gno {ops : Array Oper} {rest : List Oper} {d : Tmp} {op : Op} {ty : TypeId} {pos : String} {after : Array Edge} {j : Nat} {b : Bool} {t : Tmp}
    (hj : (ops[j]?).bind (·.dst) = some t) (ht : look env t = some (.bool (!b))) (hd : Nat.blt d N = true) (h : L P N ops Q rest ((d, undef) :: env) w) : L P N ops Q (⟨some d, op, ty, pos, after, some (j, b)⟩ :: rest) env w := fun a ha => by
  have h1 := h _ (ha.put d undef hd)
  have hw : yielded ops a.tmps j = some (!b) := by
    simp [yielded, hj, ha.vals t _ ht]
  unfold wpList
  have hne : (some (!b) == some b) = false := by cases b <;> rfl
  simp only [Region.wanted, hw, hne, Bool.false_eq_true, if_false]
  exact h1
/-- A test known by a proposition: two ways. -/
theorem L_split {ops : Array Oper} {rest : List Oper} (t : Tmp) {p : Prop} {inst : Decidable p} (ht : look env t = some (.bool (@decide p inst)))
    (h1 : p → L P N ops Q rest ((t, .bool true) :: env) w) (h2 : ¬p → L P N ops Q rest ((t, .bool false) :: env) w) : L P N ops Q rest env w := fun a ha => by
  by_cases hp : p
  · exact h1 hp a (ha.sub (Sub.cons ht (by rw [decide_eq_true hp]) (Sub.refl _)))
  · exact h2 hp a (ha.sub (Sub.cons ht (by rw [decide_eq_false hp]) (Sub.refl _)))
/-! ### the function's frame -/
def bodyQ (P : Program) (fn : Func) (R : Ending → World → Prop) : Post
  | .ret, env, w | .normal, env, w => dfs env = [] ∧ ∃ v, (∀ N a, Fits N env a → (results fn a.tmps).run P w = .ok v w) ∧ R (.returned v) w
  | .panic c, env, w => dfs env = [] ∧ R (.panicked c) w
  | _, _, _ => False
/-- Nothing is asked of a panic: no way leads there. -/
class NoP (Q : Post) : Prop where
  no : ∀ c env w, ¬ Q (.panic c) env w
instance {K : Env → World → Prop} {Q : Post} [h : NoP Q] : NoP (thenQ K Q) := ⟨fun c env w => h.no c env w⟩
instance {P : Program} {fn : Func} {A : Value → World → Prop} : NoP (bodyQ P fn fun e w' => ∃ u, e = .returned u ∧ A u w') := ⟨fun c env w h => by obtain ⟨_, u, hu, _⟩ := h; cases hu⟩
instance {P : Program} {fn : Func} {v : Value} {A : World → Prop} : NoP (bodyQ P fn fun e w' => e = .returned v ∧ A w') := ⟨fun c env w h => by obtain ⟨_, hu, _⟩ := h; cases hu⟩
instance {id : Nat} {Q : Post} [h : NoP Q] : NoP (inB id Q) := ⟨fun c env w => h.no c env w⟩
/-- What is known without slot d. -/
def rm (d : Nat) (e : Env) : Env := e.filter fun p => !Nat.beq p.1 d
theorem look_rm (d : Nat) : ∀ (e : Env) (i : Nat) (v : Value), look (rm d e) i = some v → i ≠ d ∧ look e i = some v
  | [], _, _, h => by cases h
  | (j, u) :: e, i, v, h => by
    unfold rm at h
    rw [List.filter_cons] at h
    cases hb : Nat.beq j d with
    | true =>
      simp only [hb, Bool.not_true, Bool.false_eq_true, if_false] at h
      obtain ⟨h1, h2⟩ := look_rm d e i v h
      have e1 : j = d := by simpa using hb
      have e2 : Nat.beq j i = false := by
        cases hc : Nat.beq j i with
        | true => exact absurd (by have : j = i := by simpa using hc
                                   omega) h1
        | false => rfl
      exact ⟨h1, by simp only [look, e2, cond_false]; exact h2⟩
    | false =>
      simp only [hb, Bool.not_false, if_true, look] at h ⊢
      cases hc : Nat.beq j i with
      | true =>
        rw [hc] at h
        have e1 : j = i := by simpa using hc
        refine ⟨fun e => ?_, h⟩
        rw [e1, e] at hb
        simp at hb
      | false =>
        rw [hc] at h
        exact look_rm d e i v h
theorem dfs_rm (d : Nat) (hd : d < 1000000) : ∀ e : Env, dfs (rm d e) = dfs e
  | [] => rfl
  | (j, u) :: e => by
    unfold rm
    rw [List.filter_cons]
    cases hb : Nat.beq j d with
    | true =>
      have e1 : j = d := by simpa using hb
      have e2 : Nat.beq j 1000000 = false := by
        cases hc : Nat.beq j 1000000 with
        | true => have : j = 1000000 := by simpa using hc
                  omega
        | false => rfl
      simp only [Bool.not_true, Bool.false_eq_true, if_false, dfs, e2, cond_false]
      exact dfs_rm d hd e
    | false =>
      simp only [Bool.not_false, if_true, dfs]
      rw [show dfs (List.filter (fun p => !Nat.beq p.1 d) e) = dfs e from dfs_rm d hd e]
/-- What is asked of a panic asks nothing of slot d. -/
class PSt (Q : Post) (d : Nat) : Prop where
  st : d < 1000000 → ∀ c env w, Q (.panic c) env w → Q (.panic c) (rm d env) w
instance {Q : Post} {d : Nat} [h : NoP Q] : PSt Q d := ⟨fun _ c env w k => (h.no c env w k).elim⟩
instance {K : Env → World → Prop} {Q : Post} {d : Nat} [h : PSt Q d] : PSt (thenQ K Q) d := ⟨fun hd c env w => h.st hd c env w⟩
instance {id : Nat} {Q : Post} {d : Nat} [h : PSt Q d] : PSt (inB id Q) d := ⟨fun hd c env w => h.st hd c env w⟩
theorem dfs_rm0 : ∀ e : Env, dfs (rm 1000000 e) = []
  | [] => rfl
  | (j, u) :: e => by
    unfold rm
    rw [List.filter_cons]
    cases hb : Nat.beq j 1000000 with
    | true =>
      simp only [Bool.not_true, Bool.false_eq_true, if_false]
      exact dfs_rm0 e
    | false =>
      simp only [Bool.not_false, if_true, dfs, hb, cond_false]
      exact dfs_rm0 e
theorem dfs_rm1 (d : Nat) (e : Env) (h : dfs e = []) : dfs (rm d e) = [] := by
  by_cases hd : d = 1000000
  · subst hd; exact dfs_rm0 e
  · have : ∀ e : Env, dfs (rm d e) = dfs e := by
      intro e
      induction e with
      | nil => rfl
      | cons p e ih =>
        obtain ⟨j, u⟩ := p
        unfold rm at ih ⊢
        rw [List.filter_cons]
        cases hb : Nat.beq j d with
        | true =>
          have e1 : j = d := by simpa using hb
          have e2 : Nat.beq j 1000000 = false := by
            cases hc : Nat.beq j 1000000 with
            | true => have : j = 1000000 := by simpa using hc
                      omega
            | false => rfl
          simp only [Bool.not_true, Bool.false_eq_true, if_false, dfs, e2, cond_false]
          exact ih
        | false =>
          simp only [Bool.not_false, if_true, dfs]
          rw [ih]
    rw [this, h]
instance {P : Program} {fn : Func} {R : Ending → World → Prop} {d : Nat} : PSt (bodyQ P fn R) d := ⟨fun _ c env w h => ⟨dfs_rm1 d env h.1, h.2⟩⟩
theorem lift_rm {d : Nat} [hp : PSt Q d] (hd : Nat.blt d N = true) {c : List PanicEntry} {a : Act} {v : Value} {w : World} (h : lift N Q (.panic c) (a.put (some d) v) w) : lift N Q (.panic c) a w := by
  obtain ⟨e, he, hq⟩ := h
  have hd' : d < N := by simpa using hd
  have hs := he.small
  refine ⟨rm d e, ⟨he.defers.trans (dfs_rm d (by omega) e).symm, hs, by simpa [Act.put] using he.size, fun i u hu => ?_⟩, hp.st (by omega) c e w hq⟩
  obtain ⟨h1, h2⟩ := look_rm d e i u hu
  have h3 := he.vals i u h2
  simp only [Act.put] at h3
  rwa [Array.getElem?_setIfInBounds_ne (fun e => h1 e.symm)] at h3
theorem enter {f : FuncId} {fn : Func} {c : Code} {args : List Value} {R : Ending → World → Prop} (hf : P.funcs[f]? = some fn) (hb : fn.body = some c) (hn : fn.ntmps = N)
    (hN : Nat.ble args.length N = true) (henv : ∀ i v, look env i = some v → args[i]? = some v) (h : T P N c (bodyQ P fn R) env w) (hd0 : dfs env = [] := by rfl) (hsm : Nat.ble N 1000000 = true := by rfl) : Calls P f args.toArray w R := by
  refine calls_of_wp hf hb ?_
  have hsm' : N ≤ 1000000 := by simpa using hsm
  have hN' : args.length ≤ N := by simpa using hN
  have hfit : Fits N env { tmps := args.toArray ++ Array.replicate (fn.ntmps - args.toArray.size) undef, defers := [] } := by
    refine ⟨hd0.symm, hsm', by simp [hn]; omega, fun i v hv => ?_⟩
    have h1 := henv i v hv
    have h2 := (List.getElem?_eq_some_iff.1 h1).1
    rw [Array.getElem?_append_left (by simpa using h2)]
    simpa using h1
  refine Code.wp_mono (fun e a w hq => ?_) (h _ hfit)
  cases e with
  | normal =>
    obtain ⟨e', h1, h0, v, h2, h3⟩ := hq
    exact ⟨h1.defers.trans h0, v, h2 N a h1, h3⟩
  | ret =>
    obtain ⟨e', h1, h0, v, h2, h3⟩ := hq
    exact ⟨h1.defers.trans h0, v, h2 N a h1, h3⟩
  | panic c =>
    obtain ⟨e', h1, h0, h2⟩ := hq
    exact ⟨h1.defers.trans h0, h2⟩
  | outgrown => exact hq.elim
  | exit i => obtain ⟨_, _, h⟩ := hq; exact h.elim
  | goto i => obtain ⟨_, _, h⟩ := hq; exact h.elim
/-- The parameters in their slots. -/
def envOf : List Value → Nat → Env
  | [], _ => []
  | v :: vs, k => (k, v) :: envOf vs (k + 1)
theorem look_envOf : ∀ (vs : List Value) (k i : Nat) (v : Value), look (envOf vs k) i = some v → k ≤ i ∧ vs[i - k]? = some v
  | [], _, _, _, h => by cases h
  | u :: vs, k, i, v, h => by
    simp only [envOf, look] at h
    cases hb : Nat.beq k i with
    | true =>
      rw [hb] at h
      have : k = i := by simpa using hb
      subst this
      cases hc : Nat.beq k 1000000 with
      | true =>
        rw [hc] at h
        cases h
      | false =>
        rw [hc] at h
        simp only [cond_true, cond_false] at h
        simp [h]
    | false =>
      rw [hb] at h
      have hne : k ≠ i := fun hki => by
        subst hki
        have h1 : Nat.beq k k = true := by simp
        rw [h1] at hb
        cases hb
      obtain ⟨h1, h2⟩ := look_envOf vs (k + 1) i v h
      refine ⟨by omega, ?_⟩
      rw [show i - k = (i - (k + 1)) + 1 by omega]
      simpa using h2
theorem enter1 {f : FuncId} {fn : Func} {c : Code} (args : List Value) {R : Ending → World → Prop} (hf : P.funcs[f]? = some fn) (hb : fn.body = some c) (hn : fn.ntmps = N)
    (hN : Nat.ble args.length N = true) (he : envOf args 0 = env) (h : T P N c (bodyQ P fn R) env w) (hd0 : dfs env = [] := by rfl) (hsm : Nat.ble N 1000000 = true := by rfl) : Calls P f args.toArray w R :=
  enter hf hb hn hN (by subst he; intro i v hv; simpa using (look_envOf _ _ _ _ hv).2) h hd0 hsm
theorem Fits.getD {N : Nat} {e : Env} {a : Act} (h : Fits N e a) {t : Nat} {v : Value} (ht : look e t = some v) : a.tmps.getD t undef = v := by
  simp [h.vals t v ht]
theorem end0 {fn : Func} {R : Ending → World → Prop} (hr : fn.results = #[]) (h : R (.returned (.tuple #[])) w) (hd0 : dfs env = [] := by rfl) : bodyQ P fn R .normal env w :=
  ⟨hd0, _, fun N a ha => results_none hr _ _ _, h⟩
theorem ret1 {fn : Func} {R : Ending → World → Prop} {t : Tmp} {v : Value} (hr : fn.results = #[.tmp t]) (ht : look env t = some v) (h : R (.returned v) w) (hd0 : dfs env = [] := by rfl) : bodyQ P fn R .ret env w :=
  ⟨hd0, _, fun N a ha => by rw [results_tmp hr, ha.getD ht], h⟩
end
end Go.Proofs.Ytcbnhmcfdpcbhaa.Zx


/-
  What the quiet operations yield. General; nothing here names a program.
-/
namespace Go.Proofs.Ytcbnhmcfdpcbhaa.Zx
open Go.RowKit Zk
set_option linter.unusedVariables false
set_option linter.unusedSimpArgs false

/-! ### wraps -/
theorem i64w {n : Int} (h : -9223372036854775808 ≤ n ∧ n ≤ 9223372036854775807) : IntKind.i64.wrap n = n := IntWalk.i64_in n h
theorem u64w {n : Int} (h : 0 ≤ n ∧ n ≤ 18446744073709551615) : IntKind.u64.wrap n = n := by rw [IntKind.wrap_u64]; omega
/-- A whole number that is a natural one. -/
class Nt (j : Int) (k : outParam Nat) : Prop where
  eq : j = (k : Int)
instance (k : Nat) : Nt (k : Int) k := ⟨rfl⟩
instance (n : Nat) : Nt (no_index (OfNat.ofNat n) : Int) (OfNat.ofNat n) := ⟨rfl⟩
instance (x y : Int) (a b : Nat) [h : Nt x a] [k : Nt y b] : Nt (x + y) (a + b) := ⟨by rw [h.eq, k.eq]; omega⟩
instance (x y : Int) (a b : Nat) [h : Nt x a] [k : Nt y b] : Nt (x * y) (a * b) := ⟨by rw [h.eq, k.eq]; simp⟩
instance (x y : Int) (a b : Nat) [h : Nt x a] [k : Nt y b] : Nt (x / y) (a / b) := ⟨by rw [h.eq, k.eq]; simp⟩
instance (x y : Int) (a b : Nat) [h : Nt x a] [k : Nt y b] : Nt (x % y) (a % b) := ⟨by rw [h.eq, k.eq]; simp⟩

section
variable {P : Program} {S : World → Prop} {env : Env} {dst : Option Tmp} {ty : TypeId} {pos : String} {after : Array Edge} {g : Option (Nat × Bool)}

theorem y_move {x : Operand} {v : Value} (hx : ev env x = some v) : Y P S env ⟨dst, .move x, ty, pos, after, g⟩ v := fun N a w ha _ => by simp [execOp, ha.eval hx]
theorem y_assign {x : Operand} {v : Value} (hx : ev env x = some v) : Y P S env ⟨dst, .assign x, ty, pos, after, g⟩ v := fun N a w ha _ => by simp [execOp, ha.eval hx]
theorem y_pickT {c x y : Operand} {v : Value} (hc : ev env c = some (.bool true)) (hx : ev env x = some v) : Y P S env ⟨dst, .pick c x y, ty, pos, after, g⟩ v := fun N a w ha _ => by
  simp [execOp, ha.eval hc, ha.eval hx, asBool]
theorem y_pickF {c x y : Operand} {v : Value} (hc : ev env c = some (.bool false)) (hy : ev env y = some v) : Y P S env ⟨dst, .pick c x y, ty, pos, after, g⟩ v := fun N a w ha _ => by
  simp [execOp, ha.eval hc, ha.eval hy, asBool]
theorem y_pk {c x y : Operand} {b : Bool} {v : Value} (hc : ev env c = some (.bool b)) (hx : (match b with | true => ev env x | false => ev env y) = some v) : Y P S env ⟨dst, .pick c x y, ty, pos, after, g⟩ v := by
  cases b with
  | true => exact y_pickT hc hx
  | false => exact y_pickF hc hx

/-! integers -/
theorem y_add {x y : Operand} {t u : TypeId} {k : IntKind} {m n r : Int} (hx : ev env x = some (.int k m)) (hy : ev env y = some (.int k n)) (hw : k.wrap (m + n) = r) :
    Y P S env ⟨dst, .binOp .add t x y u, ty, pos, after, g⟩ (.int k r) := fun N a w ha _ => by
  subst hw; simp only [execOp, ha.eval hx, ha.eval hy, eqGuard, binOp, Op.intArith, ne_eq, not_true_eq_false, if_false, Sem.run_bind, Sem.run_pure, Result.andThen_ok]
  rfl
theorem y_sub {x y : Operand} {t u : TypeId} {k : IntKind} {m n r : Int} (hx : ev env x = some (.int k m)) (hy : ev env y = some (.int k n)) (hw : k.wrap (m - n) = r) :
    Y P S env ⟨dst, .binOp .sub t x y u, ty, pos, after, g⟩ (.int k r) := fun N a w ha _ => by
  subst hw; simp only [execOp, ha.eval hx, ha.eval hy, eqGuard, binOp, Op.intArith, ne_eq, not_true_eq_false, if_false, Sem.run_bind, Sem.run_pure, Result.andThen_ok]
  rfl
theorem y_bits {op : BinOp} {x y : Operand} {t u : TypeId} {k : IntKind} {m n r : Int} (hop : (op matches .and | .or | .xor | .andNot) = true) (hx : ev env x = some (.int k m)) (hy : ev env y = some (.int k n)) (hw : bits op k m n = r) :
    Y P S env ⟨dst, .binOp op t x y u, ty, pos, after, g⟩ (.int k r) := fun N a w ha _ => by
  subst hw
  cases op <;> simp at hop <;> simp only [execOp, ha.eval hx, ha.eval hy, eqGuard, binOp, Op.intBits, bits, ne_eq, not_true_eq_false, if_false, Sem.run_bind, Sem.run_pure, Result.andThen_ok] <;> rfl
theorem y_shr {x y : Operand} {t u : TypeId} {k k' : IntKind} {m n r : Int} (hx : ev env x = some (.int k m)) (hy : ev env y = some (.int k' n)) (hn : 0 ≤ n) (hw : m.fdiv (2 ^ (min n.toNat k.bits)) = r) :
    Y P S env ⟨dst, .binOp .shr t x y u, ty, pos, after, g⟩ (.int k r) := fun N a w ha _ => by
  subst hw
  have hn' : ¬ n < 0 := by omega
  simp only [execOp, ha.eval hx, ha.eval hy, eqGuard_shr, binOp, Op.shift, if_neg hn', Sem.run_bind, Sem.run_pure, Result.andThen_ok]
theorem y_lss {x y : Operand} {t u : TypeId} {k : IntKind} {m n : Int} (hx : ev env x = some (.int k m)) (hy : ev env y = some (.int k n)) :
    Y P S env ⟨dst, .binOp .lss t x y u, ty, pos, after, g⟩ (.bool (decide (m < n))) := fun N a w ha _ => by
  simp only [execOp, ha.eval hx, ha.eval hy, eqGuard, binOp, Op.intCmp, ne_eq, not_true_eq_false, if_false, Sem.run_bind, Sem.run_pure, Result.andThen_ok]
  rfl
theorem y_gtr {x y : Operand} {t u : TypeId} {k : IntKind} {m n : Int} (hx : ev env x = some (.int k m)) (hy : ev env y = some (.int k n)) :
    Y P S env ⟨dst, .binOp .gtr t x y u, ty, pos, after, g⟩ (.bool (decide (n < m))) := fun N a w ha _ => by
  simp only [execOp, ha.eval hx, ha.eval hy, eqGuard, binOp, Op.intCmp, ne_eq, not_true_eq_false, if_false, Sem.run_bind, Sem.run_pure, Result.andThen_ok]
  rfl
theorem y_geq {x y : Operand} {t u : TypeId} {k : IntKind} {m n : Int} (hx : ev env x = some (.int k m)) (hy : ev env y = some (.int k n)) :
    Y P S env ⟨dst, .binOp .geq t x y u, ty, pos, after, g⟩ (.bool (decide (n ≤ m))) := fun N a w ha _ => by
  simp only [execOp, ha.eval hx, ha.eval hy, eqGuard, binOp, Op.intCmp, ne_eq, not_true_eq_false, if_false, Sem.run_bind, Sem.run_pure, Result.andThen_ok]
  rfl
theorem y_eql {x y : Operand} {t u : TypeId} {k : IntKind} {m n : Int} (hx : ev env x = some (.int k m)) (hy : ev env y = some (.int k n)) :
    Y P S env ⟨dst, .binOp .eql t x y u, ty, pos, after, g⟩ (.bool (decide (m = n))) := fun N a w ha _ => by
  simp only [execOp, ha.eval hx, ha.eval hy, eqGuard, binOp, ne_eq, not_true_eq_false, if_false, Op.intCmp, Sem.run_bind, Sem.run_pure, Result.andThen_ok]
  rfl
theorem y_neq {x y : Operand} {t u : TypeId} {k : IntKind} {m n : Int} (hx : ev env x = some (.int k m)) (hy : ev env y = some (.int k n)) :
    Y P S env ⟨dst, .binOp .neq t x y u, ty, pos, after, g⟩ (.bool (decide (m ≠ n))) := fun N a w ha _ => by
  simp only [execOp, ha.eval hx, ha.eval hy, eqGuard, binOp, ne_eq, not_true_eq_false, if_false, Op.intCmp, Sem.run_bind, Sem.run_pure, Result.andThen_ok]
  congr 2
  by_cases h : m = n <;> simp [h]
/-! strings -/
theorem toList_loop (s : ByteArray) : ∀ (n i : Nat) (acc : List UInt8), s.size - i = n → ByteArray.toList.loop s i acc = acc.reverse ++ s.data.toList.drop i := by
  intro n
  induction n with
  | zero =>
    intro i acc h
    rw [ByteArray.toList.loop, if_neg (by omega), List.drop_of_length_le (by rw [size_toList]; omega), List.append_nil]
  | succ n ih =>
    intro i acc h
    have hi : i < s.data.toList.length := by rw [size_toList]; omega
    rw [ByteArray.toList.loop, if_pos (by omega), ih (i + 1) _ (by omega), List.drop_eq_getElem_cons hi]
    have : s.get! i = s.data.toList[i] := by
      rw [ByteArray.get!.eq_def]
      simp at hi
      simp [hi]
    rw [this]
    simp
theorem toList_eq (s : ByteArray) : s.toList = s.data.toList := by
  rw [ByteArray.toList, toList_loop s s.size 0 [] (by omega)]
  simp
theorem beq_str (m n : ByteArray) : (m.toList == n.toList) = decide (m = n) := by
  rw [toList_eq, toList_eq]
  by_cases h : m = n
  · subst h; simp
  · simp only [h, decide_false, beq_eq_false_iff_ne, ne_eq]
    intro h'
    apply h
    cases m; cases n
    simp only [ByteArray.mk.injEq]
    exact Array.toList_inj.1 h'
theorem y_seql {x y : Operand} {t u : TypeId} {m n : ByteArray} (hx : ev env x = some (.string m)) (hy : ev env y = some (.string n)) :
    Y P S env ⟨dst, .binOp .eql t x y u, ty, pos, after, g⟩ (.bool (decide (m = n))) := fun N a w ha _ => by
  simp only [execOp, ha.eval hx, ha.eval hy, eqGuard, binOp, Op.stringOp, Sem.run_bind, Sem.run_pure, Result.andThen_ok, beq_str]
  rfl
theorem y_sneq {x y : Operand} {t u : TypeId} {m n : ByteArray} (hx : ev env x = some (.string m)) (hy : ev env y = some (.string n)) :
    Y P S env ⟨dst, .binOp .neq t x y u, ty, pos, after, g⟩ (.bool (decide (m ≠ n))) := fun N a w ha _ => by
  simp only [execOp, ha.eval hx, ha.eval hy, eqGuard, binOp, Op.stringOp, Sem.run_bind, Sem.run_pure, Result.andThen_ok, beq_str]
  simp
/-! bools -/
theorem y_notD {x : Operand} {t : TypeId} {p : Prop} {inst : Decidable p} (hx : ev env x = some (.bool (@decide p inst))) : Y P S env ⟨dst, .unOp .not t x, ty, pos, after, g⟩ (.bool (decide (¬p))) := fun N a w ha _ => by
  simp only [execOp, ha.eval hx, Op.unary, Sem.run_bind, Sem.run_pure, Result.andThen_ok]
  simp
theorem y_not {x : Operand} {t : TypeId} {b : Bool} (hx : ev env x = some (.bool b)) : Y P S env ⟨dst, .unOp .not t x, ty, pos, after, g⟩ (.bool (!b)) := fun N a w ha _ => by
  simp only [execOp, ha.eval hx, Op.unary, Sem.run_bind, Sem.run_pure, Result.andThen_ok]
/-! conversions between integers -/
theorem y_conv {x : Operand} {src dt : TypeId} {k q : IntKind} {n r : Int} (hs : (P.underlying src).isSome = true) (hd : P.underlying dt = some (.int k)) (hx : ev env x = some (.int q n)) (hw : k.wrap n = r) :
    Y P S env ⟨dst, .convert src dt x, ty, pos, after, g⟩ (.int k r) := fun N a w ha _ => by
  subst hw
  have hk : P.intKind dt = k := by simp [Program.intKind, hd]
  have h1 := run_convert_int (P := P) (w := w) src dt q n hs (by rw [hk]; exact hd)
  rw [hk] at h1
  simp only [execOp, ha.eval hx, Sem.run_bind, h1, Sem.run_pure, Result.andThen_ok]
/-! len, cap -/
theorem y_len {x : Operand} {t e : TypeId} {A : Option Addr} {n c : Nat} (ht : P.underlying t = some (.slice e)) (hx : ev env x = some (.slice A n c)) :
    Y P S env ⟨dst, .call { callee := .builtin .len, args := #[x], argTypes := #[t] }, ty, pos, after, g⟩ (.int .i64 (n : Int)) := fun N a w ha _ => by
  have he : P.elem t = e := by simp [Program.elem, ht]
  have := run_len_slice (P := P) (w := w) t ty A n c (by rw [he]; exact ht)
  simp only [execOp, resolve, invoke, builtin, Sem.run_bind, Sem.run_pure, Result.andThen_ok, List.map_toArray, List.map_cons, List.map_nil, ha.eval hx, this]
  rfl
theorem y_lens {x : Operand} {t : TypeId} {s : ByteArray} (ht : P.underlying t = some .string) (hx : ev env x = some (.string s)) :
    Y P S env ⟨dst, .call { callee := .builtin .len, args := #[x], argTypes := #[t] }, ty, pos, after, g⟩ (.int .i64 (s.size : Int)) := fun N a w ha _ => by
  have := run_len_string (P := P) (w := w) t ty s ht
  simp only [execOp, resolve, invoke, builtin, Sem.run_bind, Sem.run_pure, Result.andThen_ok, List.map_toArray, List.map_cons, List.map_nil, ha.eval hx, this]
  rfl
/-! parts of values -/
/-! nil checks -/
theorem y_nilp {x : Operand} {p : Addr} (hx : ev env x = some (.pointer (some p))) : Y P S env ⟨dst, .nilCheck x, ty, pos, after, g⟩ (.pointer (some p)) := fun N a w ha _ => by
  simp only [execOp, ha.eval hx, Sem.run_pure]
end
end Go.Proofs.Ytcbnhmcfdpcbhaa.Zx


/-
  What is known of the world: old memory as it was, and a list of pieces of memory of the call's own, apart from each other. General; nothing here names a program.
-/
namespace Go.Proofs.Ytcbnhmcfdpcbhaa.Zx
open Go.RowKit Zk
set_option linter.unusedVariables false
set_option linter.unusedSimpArgs false

/-! ### what slices read as -/
structure Rs (w : World) (size : Nat) (A : Option Addr) (n c : Nat) (xs : List Value) : Prop where
  rd : Reads w w.heap.size size A n xs
  cap : n ≤ c
  max : c ≤ 9223372036854775807
def cutA (A : Option Addr) (c l size : Nat) : Option Addr := if c = l then A else A.map (·.add (l * size))
section
variable {w w' : World} {size n c : Nat} {A : Option Addr} {xs : List Value}
theorem Rs.like (h : Rs w size A n c xs) (hl : Like w w') : Rs w' size A n c xs := ⟨(h.rd.below hl).more hl.size, h.cap, h.max⟩
theorem Rs.len (h : Rs w size A n c xs) : xs.length = n * size := h.rd.1
theorem Rs.nil (w : World) (size : Nat) : Rs w size none 0 0 [] := ⟨Reads.none_, Nat.le_refl _, by omega⟩
theorem Rs.cut (h : Rs w size A n c xs) {l u : Nat} (h1 : l ≤ u) (h2 : u ≤ n) : Rs w size (cutA A c l size) (u - l) (c - l) ((xs.drop (l * size)).take ((u - l) * size)) := by
  have hc := h.cap
  have hx := h.len
  refine ⟨⟨?_, fun hn => ?_⟩, by omega, by have := h.max; omega⟩
  · rw [List.length_take, List.length_drop, hx, ← Nat.sub_mul]
    exact Nat.min_eq_left (Nat.mul_le_mul_right _ (by omega))
  · obtain ⟨ad, rfl, hb, hcell⟩ := h.rd.2 (by omega)
    unfold cutA
    rw [if_neg (by omega)]
    refine ⟨ad.add (l * size), rfl, by rw [block_of_add]; exact hb, fun j u' hu => ?_⟩
    rw [add_of_add]
    rw [List.getElem?_take] at hu
    split at hu
    · rw [List.getElem?_drop] at hu
      exact hcell _ u' hu
    · cases hu
theorem Rs.at_ (h : Rs w 1 A n c xs) {k : Nat} (hk : k < n) : ∃ ad v, A = some ad ∧ xs[k]? = some v ∧ w.cell? (ad.add k) = some v := by
  obtain ⟨ad, u, h1, _, h2, h3⟩ := h.rd.at_ hk
  exact ⟨ad, u, h1, h2, h3⟩
end
theorem bL_drop (l : List UInt8) (k : Nat) : (bL l).drop k = bL (l.drop k) := by simp [bL]
theorem bL_take (l : List UInt8) (k : Nat) : (bL l).take k = bL (l.take k) := by simp [bL]
theorem Rs.cutb {w : World} {A : Option Addr} {n c : Nat} {xs : List UInt8} (h : Rs w 1 A n c (bL xs)) {l u : Nat} (h1 : l ≤ u) (h2 : u ≤ n) : Rs w 1 (cutA A c l 1) (u - l) (c - l) (bL ((xs.drop l).take (u - l))) := by
  have := h.cut h1 h2
  rwa [Nat.mul_one, Nat.mul_one, bL_drop, bL_take] at this
theorem Rs.lenb {w : World} {A : Option Addr} {n c : Nat} {xs : List UInt8} (h : Rs w 1 A n c (bL xs)) : xs.length = n := by
  have := h.len
  simpa using this
def pR (A : Option Addr) (k size : Nat) : Value := .pointer (A.map (·.add (k * size)))
section
variable {P : Program} {S : World → Prop} {env : Env} {w : World} {dst : Option Tmp} {ty : TypeId} {pos : String} {after : Array Edge} {g : Option (Nat × Bool)}
theorem sizeOf_run {e : TypeId} {size : Nat} (hsz : (P.info? e).map (·.size) = some size) (w : World) : (sizeOf e).run P w = .ok size w := by
  cases hq : P.info? e with
  | none => simp [hq] at hsz
  | some i =>
    have : i.size = size := by simpa [hq] using hsz
    simp [sizeOf, typeInfo, hq, this]
theorem y_idx {x i : Operand} {t e : TypeId} {A : Option Addr} {n c k size : Nat} {q : IntKind} {j : Int} {xs : List Value} (ht : P.underlying t = some (.slice e)) (hsz : (P.info? e).map (·.size) = some size)
    (hx : ev env x = some (.slice A n c)) (hi : ev env i = some (.int q j)) (hr : Rs w size A n c xs) (hj : Nt j k) (hk : k < n) :
    Y P S env ⟨dst, .indexAddr t x i, ty, pos, after, g⟩ (pR A k size) := fun N a w' ha _ => by
  obtain ⟨ad, hA, _⟩ := hr.rd.2 (by omega)
  subst hA
  have hj' := hj.eq
  subst hj'
  have h1 : (0 : Int) ≤ (k : Int) ∧ (k : Int) < (n : Int) := by omega
  simp only [execOp, ha.eval hx, ha.eval hi, Instr.indexAt, asIntOf, Sem.run_bind, run_underlying ht, Sem.run_pure, Result.andThen_ok, h1, and_self, if_true, sizeOf_run hsz, Int.toNat_natCast]
  rfl
theorem run_loadVar1 {p : Addr} {v : Value} {d : TypeDesc} (hd : P.underlying ty = some d) (hrow : d.isRow = false) {w' : World} (hc : w'.cell? p = some v) : (loadVar ty p).run P w' = .ok v w' := by
  have hagg : (isAgg ty).run P w' = .ok false w' := by
    unfold isAgg
    rw [Sem.run_bind, run_underlying hd w']
    cases d <;> simp_all [TypeDesc.isRow]
  simp only [loadVar, Sem.run_bind, hagg, Result.andThen_ok, Bool.false_eq_true, if_false]
  simp [hc]
theorem y_ldc {x : Operand} {p : Addr} {v : Value} {lt : TypeId} {d : TypeDesc} (hd : P.underlying lt = some d) (hrow : d.isRow = false) (hx : ev env x = some (.pointer (some p))) (hc : w.cell? p = some v) :
    Y P (Like w) env ⟨dst, .load lt x, ty, pos, after, g⟩ v := fun N a w' ha hw => by
  simp only [execOp, ha.eval hx, Instr.loadAt, Instr.sureAddr, Sem.run_bind, Sem.run_pure, Result.andThen_ok, run_loadVar1 hd hrow (Like.cell hw hc)]
theorem y_ldr {x : Operand} {A : Option Addr} {n c k : Nat} {xs : List Value} {v : Value} {lt : TypeId} {d : TypeDesc} (hd : P.underlying lt = some d) (hrow : d.isRow = false) (hx : ev env x = some (pR A k 1)) (hr : Rs w 1 A n c xs) (hv : xs[k]? = some v) :
    Y P (Like w) env ⟨dst, .load lt x, ty, pos, after, g⟩ v := by
  have hk : k < n := by
    have h1 := (List.getElem?_eq_some_iff.1 hv).1
    have h2 := hr.len
    omega
  obtain ⟨ad, u, rfl, h2, h3⟩ := hr.at_ hk
  rw [hv] at h2
  cases h2
  refine y_ldc hd hrow (p := ad.add k) ?_ h3
  rw [hx]
  simp [pR]
/-! arrays behind a pointer -/
theorem y_fieldA {x : Operand} {t : TypeId} {fs : Array Field} {f : Field} {i b o size : Nat} (r : Nat) (ht : P.underlying t = some (.struct fs)) (hf : fs[i]? = some f) (hsz : (P.info? f.type).map (·.size) = some size) (h0 : Nat.blt 0 size = true)
    (hx : ev env x = some (.pointer (some ⟨b, o, none⟩))) (hr : o + f.offset = r) : Y P S env ⟨dst, .fieldAddr t x i, ty, pos, after, g⟩ (.pointer (some ⟨b, r, none⟩)) := fun N a w' ha _ => by
  subst hr
  have h1 : ¬ size = 0 := by have : 0 < size := by simpa using h0
                             omega
  simp only [execOp, ha.eval hx, Instr.fieldAt, Instr.sureAddr, Sem.run_bind, run_underlying ht, Sem.run_pure, Result.andThen_ok, hf, fieldPlace, sizeOf_run hsz, if_neg h1, Addr.add_mid]
/-! parts -/
theorem y_slice {x : Operand} {t e : TypeId} {A : Option Addr} {n c l u size : Nat} {kl kh : IntKind} {jl jh : Int} {i j : Operand} (ht : P.underlying t = some (.slice e)) (hsz : (P.info? e).map (·.size) = some size) (hx : ev env x = some (.slice A n c))
    (hi : ev env i = some (.int kl jl)) (hj : ev env j = some (.int kh jh)) (hl : Nt jl l) (hu : Nt jh u) (h1 : l ≤ u) (h2 : u ≤ c) :
    Y P S env ⟨dst, .slice t x (some i) (some j) none, ty, pos, after, g⟩ (.slice (cutA A c l size) (u - l) (c - l)) := fun N a w' ha _ => by
  have e1 := hl.eq
  have e2 := hu.eq
  subst e1; subst e2
  have he : P.elem t = e := by simp [Program.elem, ht]
  have h3 := run_slice_lh (P := P) (w := w') (t := t) (a := A) (len := n) (cap := c) (by rw [he]; exact ht) kl kh (l : Int) (u : Int) (by omega) (by omega) (by omega)
  rw [he] at h3
  simp only [execOp, ha.eval hx, Option.map_some, Option.map_none, ha.eval hi, ha.eval hj, Instr.sliceAt, Sem.run_bind, run_underlying ht, Result.andThen_ok, h3, sizeOf_run hsz, Sem.run_pure, Int.toNat_natCast]
  rfl
end
end Go.Proofs.Ytcbnhmcfdpcbhaa.Zx


/-
  Operations that make memory or write to it, and calls. General; nothing here names a program.
-/
namespace Go.Proofs.Ytcbnhmcfdpcbhaa.Zx
open Go.RowKit Zk
set_option linter.unusedVariables false
set_option linter.unusedSimpArgs false

/-- A piece of memory of the call's own: its blocks, and what holds of it. -/
structure Res where
  dom : Nat → Prop
  holds : World → Prop
  stable : ∀ w w' : World, (∀ i, dom i → w'.heap[i]? = w.heap[i]?) → holds w → holds w'
/-- M: the old blocks that the call may write to. -/
structure St (w0 : World) (M : Nat → Prop) (rs : List Res) (w : World) : Prop where
  os : w.os = w0.os
  tape : w.tape = w0.tape
  output : w.output = w0.output
  size : w0.heap.size ≤ w.heap.size
  old : ∀ i, i < w0.heap.size → ¬ M i → w.heap[i]? = w0.heap[i]?
  res : ∀ r ∈ rs, r.holds w ∧ ∀ i, r.dom i → i < w.heap.size ∧ (w0.heap.size ≤ i ∨ M i)
  apart : rs.Pairwise fun r s => ∀ i, r.dom i → ¬ s.dom i
def noM : Nat → Prop := fun _ => False

section
variable {w0 w w' : World} {M : Nat → Prop} {rs : List Res}
theorem St.start (w : World) (M : Nat → Prop) : St w M [] w := ⟨rfl, rfl, rfl, Nat.le_refl _, fun _ _ _ => rfl, (fun r hr => by cases hr), List.Pairwise.nil⟩
theorem St.like0 (S : St w0 noM rs w) : Like w0 w := ⟨S.os, S.tape, S.output, S.size, fun k hk => S.old k hk (fun h => h)⟩
theorem St.rd (S : St w0 noM rs w) {size : Nat} {A : Option Addr} {n c : Nat} {xs : List Value} (h : Rs w0 size A n c xs) : Rs w size A n c xs := h.like S.like0
/-- What a call did that may write to block g. -/
theorem St.only {g : Nat} (S : St w0 (· = g) rs w) : w0.grownBy w (some g) := ⟨S.os, S.tape, S.output, S.size, fun i hi hne => S.old i hi (fun e => hne (by rw [e]))⟩
theorem St.like (S : St w0 M rs w) (h : Like w w') : St w0 M rs w' :=
  ⟨h.os.trans S.os, h.tape.trans S.tape, h.output.trans S.output, Nat.le_trans S.size h.size, fun i hi hM => (h.block i (Nat.lt_of_lt_of_le hi S.size)).trans (S.old i hi hM),
    fun r hr => ⟨r.stable w w' (fun i hi => h.block i ((S.res r hr).2 i hi).1) (S.res r hr).1, fun i hi => ⟨Nat.lt_of_lt_of_le ((S.res r hr).2 i hi).1 h.size, ((S.res r hr).2 i hi).2⟩⟩, S.apart⟩
theorem St.drew (S : St w0 M rs w) : St w0 M rs w.drew := S.like (Like.drew w)
theorem St.get (S : St w0 M rs w) (k : Nat) {r : Res} (hk : rs[k]? = some r) : r.holds w := (S.res r (List.mem_of_getElem? hk)).1
/-- One piece has changed, and maybe moved into a new block. -/
theorem St.upd (S : St w0 M rs w) (k : Nat) {r r' : Res} (hk : rs[k]? = some r) (hos : w'.os = w.os) (htape : w'.tape = w.tape) (hout : w'.output = w.output) (hsz : w.heap.size ≤ w'.heap.size)
    (hb : ∀ i, i < w.heap.size → ¬ r.dom i → w'.heap[i]? = w.heap[i]?) (hr : r'.holds w') (hd : ∀ i, r'.dom i → r.dom i ∨ (w.heap.size ≤ i ∧ i < w'.heap.size)) : St w0 M (rs.set k r') w' := by
  have hkl : k < rs.length := (List.getElem?_eq_some_iff.1 hk).1
  have hke : rs[k] = r := (List.getElem?_eq_some_iff.1 hk).2
  have hmem : r ∈ rs := List.mem_of_getElem? hk
  have hap := List.pairwise_iff_getElem.1 S.apart
  have hap2 : ∀ j (hj : j < rs.length), j ≠ k → ∀ i, rs[j].dom i → ¬ r.dom i := by
    intro j hj hne i hi hri
    rcases Nat.lt_or_gt_of_ne hne with h | h
    · exact hap j k hj hkl h i hi (by rw [hke]; exact hri)
    · exact hap k j hkl hj h i (by rw [hke]; exact hri) hi
  refine ⟨hos.trans S.os, htape.trans S.tape, hout.trans S.output, Nat.le_trans S.size hsz, fun i hi hM => ?_, fun q hq => ?_, ?_⟩
  · refine (hb i (Nat.lt_of_lt_of_le hi S.size) fun hri => ?_).trans (S.old i hi hM)
    rcases ((S.res r hmem).2 i hri).2 with h | h
    · omega
    · exact hM h
  · obtain ⟨j, hj, rfl⟩ := List.getElem_of_mem hq
    have hj' : j < rs.length := by simpa using hj
    rw [List.getElem_set]
    split
    · rename_i hjk
      subst hjk
      refine ⟨hr, fun i hi => ?_⟩
      rcases hd i hi with h | h
      · exact ⟨Nat.lt_of_lt_of_le ((S.res r hmem).2 i h).1 hsz, ((S.res r hmem).2 i h).2⟩
      · exact ⟨h.2, .inl (Nat.le_trans S.size h.1)⟩
    · rename_i hjk
      have h1 := S.res rs[j] (List.getElem_mem hj')
      exact ⟨(rs[j]).stable w w' (fun i hi => hb i (h1.2 i hi).1 (hap2 j hj' (fun e => hjk e.symm) i hi)) h1.1, fun i hi => ⟨Nat.lt_of_lt_of_le (h1.2 i hi).1 hsz, (h1.2 i hi).2⟩⟩
  · rw [List.pairwise_iff_getElem]
    intro i j hi hj hij x hx
    have hi' : i < rs.length := by simpa using hi
    have hj' : j < rs.length := by simpa using hj
    rw [List.getElem_set] at hx ⊢
    split at hx
    · rename_i hki
      subst hki
      rw [if_neg (by omega)]
      intro hxj
      rcases hd x hx with h | h
      · exact hap2 j hj' (by omega) x hxj h
      · have := ((S.res rs[j] (List.getElem_mem hj')).2 x hxj).1
        omega
    · split
      · rename_i hki hkj
        subst hkj
        intro hxk
        rcases hd x hxk with h | h
        · exact hap2 i hi' (by omega) x hx h
        · have := ((S.res rs[i] (List.getElem_mem hi')).2 x hx).1
          omega
      · exact hap i j hi' hj' hij x hx
/-- A piece more, in new blocks. -/
theorem St.new (S : St w0 M rs w) (h : Like w w') (r : Res) (hr : r.holds w') (hd : ∀ i, r.dom i → w.heap.size ≤ i ∧ i < w'.heap.size) : St w0 M (rs ++ [r]) w' := by
  have S' := S.like h
  refine ⟨S'.os, S'.tape, S'.output, S'.size, S'.old, fun q hq => ?_, ?_⟩
  · rcases List.mem_append.1 hq with hq | hq
    · exact S'.res q hq
    · obtain rfl := List.mem_singleton.1 hq
      exact ⟨hr, fun i hi => ⟨(hd i hi).2, .inl (Nat.le_trans S.size (hd i hi).1)⟩⟩
  · rw [List.pairwise_append]
    refine ⟨S.apart, List.pairwise_singleton _ _, fun q hq s hs i hi hsi => ?_⟩
    obtain rfl := List.mem_singleton.1 hs
    have := ((S.res q hq).2 i hi).1
    have := (hd i hsi).1
    omega
theorem St.drop (S : St w0 M rs w) {rs' : List Res} (h : rs'.Sublist rs) : St w0 M rs' w := ⟨S.os, S.tape, S.output, S.size, S.old, fun r hr => S.res r (h.subset hr), S.apart.sublist h⟩
end

/-- A row of the call's own. -/
def row (e size : Nat) (A : Option Addr) (n c : Nat) (xs : List Value) : Res where
  dom i := (Value.slice A n c).ownBlock = some i
  holds w := w.ownsRow 0 e size (.slice A n c) n xs
  stable w w' h hh := by
    refine ⟨hh.1, hh.2.imp id fun ⟨g, cap, cur, h1, h2, h3, h4⟩ => ⟨g, cap, cur, h1, h2, ?_, h4⟩⟩
    rw [← h3]
    exact h g (by rw [h1]; rfl)
/-- A block known whole. -/
def blk (g t : Nat) (cs : Array Value) : Res where
  dom i := i = g
  holds w := Blk w g t cs
  stable w w' h hh := (h g rfl).trans hh
/-- What reads as xs and is not written again. -/
def fixed (size : Nat) (A : Option Addr) (n c : Nat) (xs : List Value) : Res where
  dom i := ∃ ad, 0 < n ∧ A = some ad ∧ ad.block = i
  holds w := Rs w size A n c xs
  stable w w' h hh := ⟨⟨hh.rd.1, fun hn => by
    obtain ⟨ad, e, hb, hc⟩ := hh.rd.2 hn
    have h1 := h ad.block ⟨ad, hn, e, rfl⟩
    have hlt : ad.block < w'.heap.size := by
      rcases Nat.lt_or_ge ad.block w'.heap.size with h2 | h2
      · exact h2
      · rw [Array.getElem?_eq_none h2, Array.getElem?_eq_getElem hb] at h1
        cases h1
    exact ⟨ad, e, hlt, fun j u hu => (World.cell?_of_block (a := ad.add j) (by rw [block_of_add]; exact h1)).trans (hc j u hu)⟩⟩, hh.cap, hh.max⟩
section
variable {w0 w w' : World} {M : Nat → Prop} {rs : List Res}
theorem ownsRow_cap {e size n c : Nat} {A : Option Addr} {xs : List Value} (h : w.ownsRow 0 e size (.slice A n c) n xs) : n ≤ c ∧ c ≤ 9223372036854775807 := by
  rcases h.2 with ⟨h1, rfl⟩ | ⟨g, cap, cur, h1, _, _, h2, h3, _⟩
  · injection h1 with _ h1 h2
    omega
  · injection h1 with _ _ h4
    subst h4
    exact ⟨h2, h3⟩
theorem rs_of_row {e size n c : Nat} {A : Option Addr} {xs : List Value} (h : w.ownsRow 0 e size (.slice A n c) n xs) : Rs w size A n c xs := ⟨Reads.of_own h, (ownsRow_cap h).1, (ownsRow_cap h).2⟩
theorem St.row (S : St w0 M rs w) (k : Nat) {e size n c : Nat} {A : Option Addr} {xs : List Value} (hk : rs[k]? = some (row e size A n c xs)) : Rs w size A n c xs := rs_of_row (S.get k hk)
theorem St.rdB (S : St w0 noM rs w) {g t : Nat} {cs : Array Value} (h : Blk w0 g t cs) : Blk w g t cs := h.below S.like0 h.lt
theorem St.own (S : St w0 noM rs w) (k : Nat) {e size n c : Nat} {A : Option Addr} {xs : List Value} (hk : rs[k]? = some (Zx.row e size A n c xs)) : w.ownsRow w0.heap.size e size (.slice A n c) n xs := by
  have h : w.ownsRow 0 e size (.slice A n c) n xs := S.get k hk
  refine ⟨h.1, h.2.imp id fun ⟨g, cap, cur, h1, _, h3⟩ => ⟨g, cap, cur, h1, ?_, h3⟩⟩
  have := ((S.res _ (List.mem_of_getElem? hk)).2 g (by simp only [Zx.row]; rw [h1]; rfl)).2
  rcases this with h | h
  · exact h
  · exact h.elim
/-- A callee's row becomes the caller's own. -/
theorem St.adopt (S : St w0 M rs w) (l : Like w w') {e size n c : Nat} {A : Option Addr} {xs : List Value} (h : w'.ownsRow w.heap.size e size (.slice A n c) n xs) : St w0 M (rs ++ [Zx.row e size A n c xs]) w' :=
  S.new l _ ⟨h.1, h.2.imp id fun ⟨g, cap, cur, h1, _, h3⟩ => ⟨g, cap, cur, h1, Nat.zero_le _, h3⟩⟩ fun i hi => by
    have := h.lt i hi
    exact ⟨this.1, this.2⟩
theorem St.blk (S : St w0 M rs w) (k : Nat) {g t : Nat} {cs : Array Value} (hk : rs[k]? = some (blk g t cs)) : Blk w g t cs := S.get k hk
theorem St.rowc (S : St w0 M rs w) (k : Nat) {e size n c n' : Nat} {A : Option Addr} {xs xs' : List Value} (hk : rs[k]? = some (Zx.row e size A n c xs)) (hn : n = n') (hx : xs = xs') : St w0 M (rs.set k (Zx.row e size A n' c xs')) w := by
  subst hn; subst hx
  obtain ⟨h1, h2⟩ := List.getElem?_eq_some_iff.1 hk
  rw [← h2, List.set_getElem_self]
  exact S
end

/-- What operands are. -/
def evl (e : Env) : List Operand → Option (List Value)
  | [] => some []
  | x :: xs => match ev e x, evl e xs with
    | some v, some vs => some (v :: vs)
    | _, _ => none
theorem evl_map {N : Nat} {e : Env} {a : Act} (ha : Fits N e a) : ∀ (xs : List Operand) (vs : List Value), evl e xs = some vs → xs.map a.eval = vs
  | [], vs, h => by simp only [evl, Option.some.injEq] at h; subst h; rfl
  | x :: xs, vs, h => by
    simp only [evl] at h
    cases hx : ev e x with
    | none => rw [hx] at h; cases h
    | some v =>
      cases hxs : evl e xs with
      | none => rw [hx, hxs] at h; cases h
      | some us =>
        rw [hx, hxs] at h
        simp only [Option.some.injEq] at h
        subst h
        simp only [List.map_cons, ha.eval hx, evl_map ha xs us hxs]
def evp (e : Env) : List (Nat × Operand) → Option (List (Nat × Value))
  | [] => some []
  | (i, x) :: xs => match ev e x, evp e xs with
    | some v, some vs => some ((i, v) :: vs)
    | _, _ => none
theorem evp_map {N : Nat} {e : Env} {a : Act} (ha : Fits N e a) : ∀ (xs : List (Nat × Operand)) (vs : List (Nat × Value)), evp e xs = some vs → xs.map (fun p => (p.1, a.eval p.2)) = vs
  | [], vs, h => by simp only [evp, Option.some.injEq] at h; subst h; rfl
  | (i, x) :: xs, vs, h => by
    simp only [evp] at h
    cases hx : ev e x with
    | none => rw [hx] at h; cases h
    | some v =>
      cases hxs : evp e xs with
      | none => rw [hx, hxs] at h; cases h
      | some us =>
        rw [hx, hxs] at h
        simp only [Option.some.injEq] at h
        subst h
        simp only [List.map_cons, ha.eval hx, evp_map ha xs us hxs]
section
variable {P : Program} {N : Nat} {Q : Post} {env : Env} {w w0 : World} {M : Nat → Prop} {rs : List Res} {K : Env → World → Prop} {d : Tmp} {ty : TypeId} {pos : String} {after : Array Edge} {g : Option (Nat × Bool)}
theorem like_grown (h : w.grownBy w0 none) : Like w w0 := ⟨h.os, h.tape, h.output, h.size, fun k hk => h.block k hk (by simp)⟩
theorem like_alloc (w : World) (o : Obj) : Like w (w.alloc o) := like_grown (World.grownBy_alloc _ _ _)

/-- append onto a row of the call's own. -/
theorem o_app {s x : Operand} {t e : TypeId} {z : Value} {size bytes : Nat} (TE : Elem P t e z size bytes) (S : St w0 M rs w) (k : Nat) {A : Option Addr} {n c : Nat} {xs : List Value} (hk : rs[k]? = some (row e size A n c xs))
    (hs : ev env s = some (.slice A n c)) {A' : Option Addr} {m c' : Nat} {news : List Value} (hx : ev env x = some (.slice A' m c')) (hr : Rs w size A' m c' news) (h1 : ∀ u ∈ news, u.oneCell' = true)
    (hd : Nat.blt d N = true) (hbytes : (n + m) * bytes ≤ 140737488355328) (h63 : n + m ≤ 9223372036854775807)
    (h : ∀ A2 c2 w', St w0 M (rs.set k (row e size A2 (n + m) c2 (xs ++ news))) w' → K ((d, .slice A2 (n + m) c2) :: env) w') :
    O P N Q ⟨some d, .call { callee := .builtin .append, args := #[s, x], argTypes := #[t, t] }, ty, pos, after, g⟩ env w K := fun a ha => by
  have hown : w.ownsRow 0 e size (.slice A n c) n xs := S.get k hk
  refine wp_app w TE s x rfl 0 (ha.eval hs) hown (ha.eval hx) hr.rd h1 h63 hbytes (Nat.zero_le _) fun A2 c2 w' h2 h3 h4 => ⟨_, ha.put d _ hd, h A2 c2 w' ?_⟩
  refine S.upd k hk h3.os h3.tape h3.output h3.size (fun i hi hn => h3.block i hi (fun e => hn e.symm)) h2 fun i hi => ?_
  change (Value.slice A2 (n + m) c2).ownBlock = some i at hi
  rcases h4 with h4 | h4
  · left; rw [h4] at hi; exact hi
  · right
    rw [h4] at hi
    cases hi
    exact ⟨Nat.le_refl _, (h2.lt _ h4).2⟩
/-- append onto nil. -/
theorem o_app0 {s x : Operand} {t e : TypeId} {z : Value} {size bytes : Nat} (TE : Elem P t e z size bytes) (S : St w0 M rs w) 
    (hs : ev env s = some (.slice none 0 0)) {A' : Option Addr} {m c' : Nat} {news : List Value} (hx : ev env x = some (.slice A' m c')) (hr : Rs w size A' m c' news) (h1 : ∀ u ∈ news, u.oneCell' = true)
    (hd : Nat.blt d N = true) (hbytes : m * bytes ≤ 140737488355328) (h63 : m ≤ 9223372036854775807)
    (h : ∀ A2 c2 w', St w0 M (rs ++ [row e size A2 m c2 news]) w' → K ((d, .slice A2 m c2) :: env) w') :
    O P N Q ⟨some d, .call { callee := .builtin .append, args := #[s, x], argTypes := #[t, t] }, ty, pos, after, g⟩ env w K := fun a ha => by
  refine wp_app w TE s x rfl 0 (ha.eval hs) (xs := []) ⟨by simp, .inl ⟨rfl, rfl⟩⟩ (ha.eval hx) hr.rd h1 (by unfold maxLen; omega) (by simpa using hbytes) (Nat.zero_le _) fun A2 c2 w' h2 h3 h4 => ?_
  rw [Nat.zero_add] at h2 h4 ⊢
  rw [List.nil_append] at h2
  refine ⟨_, ha.put d _ hd, h A2 c2 w' (S.new ⟨h3.os, h3.tape, h3.output, h3.size, fun k hk => h3.block k hk (by simp [Value.ownBlock])⟩ _ h2 fun i hi => ?_)⟩
  change (Value.slice A2 m c2).ownBlock = some i at hi
  rcases h4 with h4 | h4
  · rw [h4] at hi; simp [Value.ownBlock] at hi
  · rw [h4] at hi
    cases hi
    exact ⟨Nat.le_refl _, (h2.lt _ h4).2⟩
/-- A variable that begins as a value of many cells. -/
theorem o_box {el : TypeId} {x : Operand} {vs : Array Value} (hx : ev env x = some (.agg vs)) (S : St w0 M rs w) (hd : Nat.blt d N = true)
    (h : ∀ b w', w0.heap.size ≤ b → St w0 M (rs ++ [blk b el vs]) w' → K ((d, .pointer (some ⟨b, 0, none⟩)) :: env) w') :
    O P N Q ⟨some d, .box el x, ty, pos, after, g⟩ env w K := fun a ha => by
  refine wp_bxB el x rfl vs (ha.eval hx) fun w' h2 h3 => ⟨_, ha.put d _ hd, h _ w' S.size (S.new (like_grown h3) _ h2 fun i hi => ?_)⟩
  have hi' : i = w.heap.size := hi
  subst hi'
  exact ⟨Nat.le_refl _, h2.lt⟩
theorem cells_one {v : Value} (h : v.oneCell' = true) : v.cells = #[v] := by cases v <;> simp_all [Value.oneCell', Value.cells]
/-- A store of one cell into a block known whole. -/
theorem o_st1 {st : TypeId} {x y : Operand} {b o t : Nat} {cs : Array Value} {v : Value} (S : St w0 M rs w) (k : Nat) (hk : rs[k]? = some (blk b t cs)) (hx : ev env x = some (.pointer (some ⟨b, o, none⟩))) (hy : ev env y = some v)
    (hv : v.oneCell' = true) (hsz : (P.info? st).map (·.size) = some 1) (ho : o < cs.size)
    (h : ∀ w', St w0 M (rs.set k (blk b t (cs.setIfInBounds o v))) w' → K env w') : O P N Q ⟨none, .store st x y, ty, pos, after, g⟩ env w K := fun a ha => by
  have hB := S.blk k hk
  have hc : w.cell? ⟨b, o, none⟩ = some cs[o] := (hB.cell o).trans (Array.getElem?_eq_getElem ho)
  have hr : (storeVar st ⟨b, o, none⟩ v).run P w = .ok () (w.setCell ⟨b, o, none⟩ v) := by
    simp only [storeVar, Sem.run_bind, sizeOf_run hsz, cells_one hv, Result.andThen_ok]
    simp [storeCells, hv, stored, hc, hB.frozen o, run_store, go_sem]
  unfold Oper.wp execOp
  simp only [ha.eval hx, ha.eval hy, Instr.storeAt, Instr.sureAddr, Sem.run_bind, Sem.run_pure, Result.andThen_ok, hr]
  refine ⟨env, ha, h _ (S.upd k hk rfl rfl rfl (by simp) (fun i hi hn => Below.heap_setCell w ⟨b, o, none⟩ v i (fun e => hn e)) (hB.set_ o v) fun i hi => .inl hi)⟩
/-- A call. -/
theorem o_call {f : FuncId} {fn : Func} {xs : Array Operand} {ts : Array TypeId} {args : List Value} {R : Ending → World → Prop} (hf : P.funcs[f]? = some fn) (hn : (fn.name == "runtime.NumGoroutine") = false) (hb : fn.body.isNone = false)
    (hc : Calls P f args.toArray w R) (hargs : evl env xs.toList = some args) (hd : Nat.blt d N = true)
    (h : ∀ e w', R e w' → ∃ v, e = .returned v ∧ K ((d, v) :: env) w') :
    O P N Q ⟨some d, .call { callee := .value (.func f), args := xs, argTypes := ts }, ty, pos, after, g⟩ env w K := fun a ha => by
  have hmap : xs.map a.eval = args.toArray := by
    rw [← evl_map ha xs.toList args hargs]
    apply Array.ext'
    simp
  unfold Oper.wp
  have hrun : (execOp a.eval ⟨some d, .call { callee := .value (.func f), args := xs, argTypes := ts }, ty, pos, after, g⟩).run P w = .ok (.enter f args.toArray) w := by
    simp only [execOp, resolve, hmap, Act.eval, Deferred.ofValue, invoke, callFunc, Sem.run_bind, Sem.run_pure, Result.andThen_ok, run_program, hf, hn, hb, Bool.false_eq_true, if_false, Array.append_empty, Array.empty_append]
  rw [hrun]
  refine hc.mono fun e w' hR => ?_
  obtain ⟨v, rfl, hK⟩ := h e w' hR
  exact ⟨_, ha.put d v hd, hK⟩
end
end Go.Proofs.Ytcbnhmcfdpcbhaa.Zx


/-
  Regions that draw their order. General; nothing here names a program.
-/
namespace Go.Proofs.Ytcbnhmcfdpcbhaa.Zx
open Go.RowKit Zk
set_option linter.unusedVariables false
set_option linter.unusedSimpArgs false

/-- An order in which a region may be walked: (number, quiet?). A quiet operation may come up and nobody who may come before it touches its slots; another one is the only one that may come up. -/
def ordB (ops : Array Oper) : Nat → Array Bool → List (Nat × Bool) → Bool
  | _, listed, [] => (Region.ready .any ops listed).isEmpty
  | 0, _, _ :: _ => false
  | f + 1, listed, (i, true) :: r => (Region.ready .any ops listed).contains i && Region.free .any ops listed i && ordB ops f (listed.setIfInBounds i true) r
  | f + 1, listed, (i, false) :: r => (match Region.ready .any ops listed with | [j] => Nat.beq j i | _ => false) && ordB ops f (listed.setIfInBounds i true) r

section
variable {P : Program} {N : Nat} {Q : Post} {env : Env} {w : World} {S : World → Prop} {ops : Array Oper}
def DL (P : Program) (N : Nat) (ops : Array Oper) (Q : Post) (S : World → Prop) (order : List (Nat × Bool)) (env : Env) (w : World) : Prop :=
  Region.noSelect ops = true → S w → ∀ a, Fits N env a → ∀ fuel listed, ordB ops fuel listed order = true → wpAnyH P .any ops (lift N Q) S fuel listed a w
/-- All worlds like the one behind the draw. -/
theorem T_drawnL {id : Nat} {l : List Oper} (order : List (Nat × Bool)) (hm : P.follows .mixedOrders = true) (hB : (Region.noSelect l.toArray && ordB l.toArray l.toArray.size (Array.replicate l.toArray.size false) order) = true)
    (h : ∀ w1, Like w w1 → DL P N l.toArray Q (Like w1) order env w1) : T P N (.region id l.toArray true) Q env w := fun a ha => by
  simp only [Bool.and_eq_true] at hB
  exact wp_region_held hm (h _ (Like.drew w) hB.1 (Like.refl _) a ha _ _ hB.2)
theorem DL_nil (h : Q .normal env w) : DL P N ops Q S [] env w := fun _ _ a ha fuel listed hB => by
  have hr : Region.ready .any ops listed = [] := by
    cases fuel <;> simpa [ordB] using hB
  exact wpAnyH_done hr ⟨env, ha, h⟩ fuel
theorem DL_yi {i : Nat} {o : Oper} {d : Tmp} [PSt Q d] {v : Value} {order : List (Nat × Bool)} (hi : ops[i]? = some o) (hdst : o.dst = some d) (hy : ∀ a, Fits N env a → YieldsIf P ops S o v a) (hd : Nat.blt d N = true)
    (h : DL P N ops Q S order ((d, v) :: env) w) : DL P N ops Q S ((i, true) :: order) env w := fun hs hS a ha fuel listed hB => by
  cases fuel with
  | zero => simp [ordB] at hB
  | succ fuel =>
    simp only [ordB, Bool.and_eq_true] at hB
    refine wpAnyH_take hi hs hB.1.2 hB.1.1 (fun c a w hq => by first | exact lift_rm hd hq | (rw [hdst] at hq; exact lift_rm hd hq)) (hy a ha) hS ?_
    rw [hdst]
    exact h hs hS _ (ha.put d v hd) fuel _ hB.2
theorem DL_y {i : Nat} {d : Tmp} [PSt Q d] {op : Op} {ty : TypeId} {pos : String} {after : Array Edge} {v : Value} {order : List (Nat × Bool)} (hi : ops[i]? = some ⟨some d, op, ty, pos, after, none⟩)
    (hy : Y P S env ⟨some d, op, ty, pos, after, none⟩ v) (hd : Nat.blt d N = true) (h : DL P N ops Q S order ((d, v) :: env) w) : DL P N ops Q S ((i, true) :: order) env w :=
  DL_yi hi rfl (fun a ha => .inl ⟨by simp [Region.wanted], fun w hw => hy N a w ha hw⟩) hd h
/-! ### quiet operations, then a tail in the text's order -/
/-! ### loops by the number of letters -/
theorem T_loop1 {α : Type} {c : Code} (ks : Env) (V : α → Env) (μ : α → Nat) (Rel : α → World → Prop) (a0 : α) (hs : Sub (V a0) env) (hk : Sub ks env) (h0 : Rel a0 w)
    (round : ∀ a w, Rel a w → T P N c (thenQ (fun e' w' => ∃ a', μ a' < μ a ∧ Rel a' w' ∧ Sub (V a' ++ ks) e') Q) (V a ++ ks) w) : T P N (.loop c) Q env w :=
  T_loop (fun m e w => ∃ a, m = μ a ∧ Rel a w ∧ Sub (V a ++ ks) e) (μ a0) ⟨a0, rfl, h0, Sub.app hs hk⟩ fun m e w ⟨a, hm, hr, hsub⟩ => T_weak hsub (T_mono (fun e w ⟨a', h1, h2, h3⟩ => ⟨μ a', by omega, a', rfl, h2, h3⟩) (round a w hr))
theorem T_loop2 {α β : Type} {c : Code} (ks : Env) (V : α → β → Env) (μ : α → β → Nat) (Rel : α → β → World → Prop) (a0 : α) (b0 : β) (hs : Sub (V a0 b0) env) (hk : Sub ks env) (h0 : Rel a0 b0 w)
    (round : ∀ a b w, Rel a b w → T P N c (thenQ (fun e' w' => ∃ a' b', μ a' b' < μ a b ∧ Rel a' b' w' ∧ Sub (V a' b' ++ ks) e') Q) (V a b ++ ks) w) : T P N (.loop c) Q env w :=
  T_loop (fun m e w => ∃ a b, m = μ a b ∧ Rel a b w ∧ Sub (V a b ++ ks) e) (μ a0 b0) ⟨a0, b0, rfl, h0, Sub.app hs hk⟩ fun m e w ⟨a, b, hm, hr, hsub⟩ => T_weak hsub (T_mono (fun e w ⟨a', b', h1, h2, h3⟩ => ⟨μ a' b', by omega, a', b', rfl, h2, h3⟩) (round a b w hr))
end
end Go.Proofs.Ytcbnhmcfdpcbhaa.Zx


/-
  Regions that draw their order and hold ONE operation that breaks what the reads stand on (an append, a store): the barrier. General; nothing here names a program.
-/
namespace Go.Proofs.Ytcbnhmcfdpcbhaa.Zx
open Go.RowKit Zk
set_option linter.unusedVariables false
set_option linter.unusedSimpArgs false

/-- Whoever is listed has its forerunners listed. -/
structure Cl (ops : Array Oper) (listed : Array Bool) : Prop where
  size : listed.size = ops.size
  closed : ∀ j oj, ops[j]? = some oj → listed.getD j false = true → ∀ e ∈ oj.after, Region.binds .any e = true → listed.getD e.on false = true
theorem Cl.start (ops : Array Oper) : Cl ops (Array.replicate ops.size false) :=
  ⟨by simp, fun j oj _ hl => (by rw [getD_replicate_false] at hl; cases hl)⟩
theorem Cl.set {ops : Array Oper} {listed : Array Bool} {i : Nat} (inv : Cl ops listed) (hi : i ∈ Region.ready .any ops listed) : Cl ops (listed.setIfInBounds i true) := by
  obtain ⟨_, oi, hoi, hall⟩ := mem_ready.1 hi
  refine ⟨by simp [inv.size], fun j oj hj hl e he hb => ?_⟩
  by_cases hij : i = j
  · subst hij
    have : oj = oi := Option.some.inj (hj.symm.trans hoi)
    subst this
    exact getD_set_true (hall e he hb)
  · rw [getD_set_ne false hij] at hl
    exact getD_set_true (inv.closed j oj hj hl e he hb)
/-- Each of the list is waited for by one behind it in the list, or by the barrier. -/
def sinkL (ops : Array Oper) (c : Nat) : List Nat → Bool
  | [] => true
  | i :: r => (Region.waitsFor .any ops c i || r.any fun j => Region.waitsFor .any ops j i) && sinkL ops c r
theorem sink_not {ops : Array Oper} {c : Nat} {listed : Array Bool} (inv : Cl ops listed) : ∀ (B : List Nat), sinkL ops c B = true → ∀ i ∈ B, listed.getD i false = false → c ∉ Region.ready .any ops listed
  | [], _, i, hi, _ => by cases hi
  | b :: r, hs, i, hi, hun => by
    simp only [sinkL, Bool.and_eq_true, Bool.or_eq_true] at hs
    rcases List.mem_cons.1 hi with rfl | hi
    · rcases hs.1 with hw | hw
      · intro hc
        obtain ⟨_, oc, hoc, hall⟩ := mem_ready.1 hc
        obtain ⟨o', ho', e, he, hb, hon⟩ := Region.waitsFor_spec hw
        have : o' = oc := Option.some.inj (ho'.symm.trans hoc)
        subst this
        have h2 := hall e he hb
        rw [hon, hun] at h2
        cases h2
      · obtain ⟨j, hj, hw⟩ := List.any_eq_true.1 hw
        refine sink_not inv r hs.2 j hj ?_
        obtain ⟨oj, hoj, e, he, hb, hon⟩ := Region.waitsFor_spec hw
        cases hl : listed.getD j false with
        | false => rfl
        | true =>
          have h2 := inv.closed j oj hoj hl e he hb
          rw [hon, hun] at h2
          cases h2
    · exact sink_not inv r hs.2 i hi hun

section
variable {P : Program} {ops : Array Oper} {Q : Exit → Act → World → Prop} {S : World → Prop} {c : Nat}
/-- Whatever order is picked from here on; S holds behind every operation, till the barrier comes. -/
def wpAnyZ (P : Program) (ops : Array Oper) (Q : Exit → Act → World → Prop) (S : World → Prop) (c : Nat) : Nat → Array Bool → Act → World → Prop
  | 0, listed, a, w => Region.ready .any ops listed = [] ∧ Q .normal a w
  | fuel + 1, listed, a, w =>
    (Region.ready .any ops listed = [] → Q .normal a w) ∧
    ∀ i ∈ Region.ready .any ops listed, (i = c → wpOp P ops Q i (wpAny P .any ops Q fuel (listed.setIfInBounds i true)) a w) ∧ (i ≠ c → wpOp P ops Q i (fun a' w' => S w' ∧ wpAnyZ P ops Q S c fuel (listed.setIfInBounds i true) a' w') a w)
theorem wpAny_of_Z : ∀ (fuel : Nat) (listed : Array Bool) (a : Act) (w : World), wpAnyZ P ops Q S c fuel listed a w → wpAny P .any ops Q fuel listed a w
  | 0, _, _, _, h => h
  | fuel + 1, _, _, _, h => ⟨h.1, fun i hi => by
    by_cases hc : i = c
    · exact (h.2 i hi).1 hc
    · exact wpOp_mono (fun a' w' h' => wpAny_of_Z fuel _ a' w' h'.2) ((h.2 i hi).2 hc)⟩
theorem wpAnyZ_first {i : Nat} {oi : Oper} {v : Value} {B : List Nat} (hs : sinkL ops c B = true) (hiB : i ∈ B) (hic : i ≠ c) (hi : ops[i]? = some oi) (hsel : ∀ (j : Nat) (o : Oper) cs b, ops[j]? = some o → o.op ≠ .select cs b)
    (hQ : ∀ c a w, Q (.panic c) (a.put oi.dst v) w → Q (.panic c) a w) :
    ∀ (fuel : Nat) (listed : Array Bool) (a : Act) (w : World), Cl ops listed →
      (∀ j oj, ops[j]? = some oj → j ≠ i → listed.getD j true = false → (∀ e ∈ oj.after, Region.binds .any e = true → e.on ≠ i) → oi.apart ops oj = true) →
      i ∈ Region.ready .any ops listed → YieldsIf P ops S oi v a → S w →
      wpAnyZ P ops Q S c fuel (listed.setIfInBounds i true) (a.put oi.dst v) w → wpAnyZ P ops Q S c (fuel + 1) listed a w := by
  intro fuel
  induction fuel with
  | zero =>
    intro listed a w inv _ hr hy hS H
    refine ⟨fun h => (by rw [h] at hr; cases hr), fun j hj => ?_⟩
    have hun : listed.getD i false = false := getD_both (mem_ready.1 hr).1
    have hjc : j ≠ c := fun e => sink_not inv B hs i hiB hun (e ▸ hj)
    refine ⟨fun e => absurd e hjc, fun _ => ?_⟩
    by_cases hji : j = i
    · subst hji; exact hy.wpOp hi hS ⟨hS, H⟩
    · have := ready_mono hj hji
      rw [H.1] at this
      cases this
  | succ fuel ih =>
    intro listed a w inv hfree hr hy hS H
    refine ⟨fun h => (by rw [h] at hr; cases hr), fun j hj => ?_⟩
    have hun : listed.getD i false = false := getD_both (mem_ready.1 hr).1
    have hjc : j ≠ c := fun e => sink_not inv B hs i hiB hun (e ▸ hj)
    refine ⟨fun e => absurd e hjc, fun _ => ?_⟩
    by_cases hji : j = i
    · subst hji; exact hy.wpOp hi hS ⟨hS, H⟩
    · have h1 := (H.2 j (ready_mono hj hji)).2 hjc
      obtain ⟨hjun, oj, hoj, hall⟩ := mem_ready.1 hj
      have hnot : ∀ e ∈ oj.after, Region.binds .any e = true → e.on ≠ i := fun e he hb heq => by
        have h1 := hall e he hb
        rw [heq, hun] at h1
        cases h1
      have h2 := wpOp_putIf hoj (hfree j oj hoj hji hjun hnot) (fun cs b => hsel i oi cs b hi) (fun cs b => hsel j oj cs b hoj) hQ hy h1
      have hfree' : ∀ k ok, ops[k]? = some ok → k ≠ i → (listed.setIfInBounds j true).getD k true = false →
          (∀ e ∈ ok.after, Region.binds .any e = true → e.on ≠ i) → oi.apart ops ok = true := fun k ok hk hki hunk hno => by
        refine hfree k ok hk hki ?_ hno
        by_cases hjk : j = k
        · subst hjk; exact hjun
        · rw [getD_set_ne true hjk] at hunk; exact hunk
      refine wpOp_mono (fun a' w' h3 => ⟨h3.2.1, ih (listed.setIfInBounds j true) a' w' (inv.set hj) hfree' (ready_mono hr (Ne.symm hji)) h3.1 h3.2.1 ?_⟩) h2
      rw [Array.setIfInBounds_comm _ _ hji]
      exact h3.2.2
end

/-- An order: (number, kind). 0: yields in any world; 1: yields in every world of S, and comes ahead of the barrier; 2: the only one that may come up, keeps S; 3: the only one that may come up, the barrier or behind it. -/
def ordZ (ops : Array Oper) (B : List Nat) (c : Nat) : Nat → Array Bool → List (Nat × Nat) → Bool
  | _, listed, [] => (Region.ready .any ops listed).isEmpty
  | 0, _, _ :: _ => false
  | f + 1, listed, (i, 0) :: r => (Region.ready .any ops listed).contains i && Region.free .any ops listed i && ordZ ops B c f (listed.setIfInBounds i true) r
  | f + 1, listed, (i, 1) :: r => (Region.ready .any ops listed).contains i && Region.free .any ops listed i && B.contains i && !Nat.beq i c && ordZ ops B c f (listed.setIfInBounds i true) r
  | f + 1, listed, (i, 2) :: r => (match Region.ready .any ops listed with | [j] => Nat.beq j i | _ => false) && !Nat.beq i c && ordZ ops B c f (listed.setIfInBounds i true) r
  | f + 1, listed, (i, _) :: r => (match Region.ready .any ops listed with | [j] => Nat.beq j i | _ => false) && ordZ ops B c f (listed.setIfInBounds i true) r

section
variable {P : Program} {N : Nat} {Q : Post} {env : Env} {w : World} {S : World → Prop} {ops : Array Oper} {B : List Nat} {c : Nat}
/-- 0: any world. -/
def ZA (P : Program) (N : Nat) (ops : Array Oper) (B : List Nat) (c : Nat) (Q : Post) (order : List (Nat × Nat)) (env : Env) (w : World) : Prop :=
  Region.noSelect ops = true → sinkL ops c B = true → ∀ a, Fits N env a → ∀ fuel listed, Cl ops listed → ordZ ops B c fuel listed order = true → wpAny P .any ops (lift N Q) fuel listed a w
/-- 1, 2: ahead of the barrier. -/
def ZB (P : Program) (N : Nat) (ops : Array Oper) (B : List Nat) (c : Nat) (Q : Post) (S : World → Prop) (order : List (Nat × Nat)) (env : Env) (w : World) : Prop :=
  Region.noSelect ops = true → sinkL ops c B = true → S w → ∀ a, Fits N env a → ∀ fuel listed, Cl ops listed → ordZ ops B c fuel listed order = true → wpAnyZ P ops (lift N Q) S c fuel listed a w
theorem T_zed {id : Nat} {l : List Oper} (B : List Nat) (c : Nat) (order : List (Nat × Nat)) (hm : P.follows .mixedOrders = true)
    (hB : (Region.noSelect l.toArray && sinkL l.toArray c B && ordZ l.toArray B c l.toArray.size (Array.replicate l.toArray.size false) order) = true)
    (h : ∀ w1, Like w w1 → ZA P N l.toArray B c Q order env w1) : T P N (.region id l.toArray true) Q env w := fun a ha => by
  simp only [Bool.and_eq_true] at hB
  exact wp_region_any hm (h _ (Like.drew w) hB.1.1 hB.1.2 a ha _ _ (Cl.start _) hB.2)
theorem ready_one {listed : Array Bool} {i : Nat} (h1 : (match Region.ready .any ops listed with | [j] => Nat.beq j i | _ => false) = true) : Region.ready .any ops listed = [i] := by
  split at h1
  · rename_i j hj
    have : j = i := by simpa using h1
    rw [hj, this]
  · cases h1
theorem mem_of_contains {listed : Array Bool} {i : Nat} (h : (Region.ready .any ops listed).contains i = true) : i ∈ Region.ready .any ops listed := by simpa using h
theorem ZA_B {order : List (Nat × Nat)} (S : World → Prop) (hS : S w) (h : ZB P N ops B c Q S order env w) : ZA P N ops B c Q order env w := fun hs hk a ha fuel listed inv hB =>
  wpAny_of_Z _ _ _ _ (h hs hk hS a ha fuel listed inv hB)
theorem ZB_y {i : Nat} {d : Tmp} [PSt Q d] {op : Op} {ty : TypeId} {pos : String} {after : Array Edge} {v : Value} {order : List (Nat × Nat)} (hi : ops[i]? = some ⟨some d, op, ty, pos, after, none⟩)
    (hy : Y P S env ⟨some d, op, ty, pos, after, none⟩ v) (hd : Nat.blt d N = true) (h : ZB P N ops B c Q S order ((d, v) :: env) w) : ZB P N ops B c Q S ((i, 1) :: order) env w := fun hs hk hS a ha fuel listed inv hB => by
  cases fuel with
  | zero => simp [ordZ] at hB
  | succ fuel =>
    simp only [ordZ, Bool.and_eq_true] at hB
    obtain ⟨⟨⟨⟨h1, h2⟩, h3⟩, h4⟩, h5⟩ := hB
    have hic : i ≠ c := fun e => by subst e; simp at h4
    refine wpAnyZ_first hk (by simpa using h3) hic hi (Region.noSelect_spec hs) (fun c a w hq => lift_rm (v := _) hd hq) fuel listed a w inv (Region.free_spec hi h2) (mem_of_contains h1)
      (.inl ⟨by simp [Region.wanted], fun w hw => hy N a w ha hw⟩) hS ?_
    exact h hs hk hS _ (ha.put d v hd) fuel _ (inv.set (mem_of_contains h1)) h5
theorem ZB_o {i : Nat} {d : Option Tmp} {op : Op} {ty : TypeId} {pos : String} {after : Array Edge} {order : List (Nat × Nat)} (hi : ops[i]? = some ⟨d, op, ty, pos, after, none⟩)
    (h : O P N Q ⟨d, op, ty, pos, after, none⟩ env w (fun e' w' => S w' ∧ ZB P N ops B c Q S order e' w')) : ZB P N ops B c Q S ((i, 2) :: order) env w := fun hs hk hS a ha fuel listed inv hB => by
  cases fuel with
  | zero => simp [ordZ] at hB
  | succ fuel =>
    simp only [ordZ, Bool.and_eq_true] at hB
    obtain ⟨⟨h1, h4⟩, h5⟩ := hB
    have hr := ready_one h1
    have hic : i ≠ c := fun e => by subst e; simp at h4
    refine ⟨fun h0 => (by rw [hr] at h0; cases h0), fun j hj => ?_⟩
    rw [hr] at hj
    obtain rfl := List.mem_singleton.1 hj
    refine ⟨fun e => absurd e hic, fun _ => ?_⟩
    unfold wpOp
    simp only [hi, Region.wanted, if_true]
    exact .inl (Oper.wp_mono (fun a' w' ⟨e', h3, h4, h6⟩ => ⟨h4, h6 hs hk h4 a' h3 fuel _ (inv.set (by rw [hr]; simp)) h5⟩) (h a ha))
/-- The barrier. -/
theorem ZB_c {d : Option Tmp} {op : Op} {ty : TypeId} {pos : String} {after : Array Edge} {order : List (Nat × Nat)} (hi : ops[c]? = some ⟨d, op, ty, pos, after, none⟩)
    (h : O P N Q ⟨d, op, ty, pos, after, none⟩ env w (ZA P N ops B c Q order)) : ZB P N ops B c Q S ((c, 3) :: order) env w := fun hs hk hS a ha fuel listed inv hB => by
  cases fuel with
  | zero => simp [ordZ] at hB
  | succ fuel =>
    simp only [ordZ, Bool.and_eq_true] at hB
    obtain ⟨h1, h5⟩ := hB
    have hr := ready_one h1
    refine ⟨fun h0 => (by rw [hr] at h0; cases h0), fun j hj => ?_⟩
    rw [hr] at hj
    obtain rfl := List.mem_singleton.1 hj
    refine ⟨fun _ => ?_, fun e => absurd rfl e⟩
    unfold wpOp
    simp only [hi, Region.wanted, if_true]
    exact .inl (Oper.wp_mono (fun a' w' ⟨e', h3, h6⟩ => h6 hs hk a' h3 fuel _ (inv.set (by rw [hr]; simp)) h5) (h a ha))
/-- Behind the barrier, or where one alone may come up. -/
theorem ZA_o {i : Nat} {d : Option Tmp} {op : Op} {ty : TypeId} {pos : String} {after : Array Edge} {order : List (Nat × Nat)} (hi : ops[i]? = some ⟨d, op, ty, pos, after, none⟩)
    (h : O P N Q ⟨d, op, ty, pos, after, none⟩ env w (ZA P N ops B c Q order)) : ZA P N ops B c Q ((i, 3) :: order) env w := fun hs hk a ha fuel listed inv hB => by
  cases fuel with
  | zero => simp [ordZ] at hB
  | succ fuel =>
    simp only [ordZ, Bool.and_eq_true] at hB
    obtain ⟨h1, h5⟩ := hB
    have hr := ready_one h1
    refine wpAny_all hr (by simp) fun j hj => ?_
    obtain rfl := List.mem_singleton.1 hj
    unfold wpOp
    simp only [hi, Region.wanted, if_true]
    exact .inl (Oper.wp_mono (fun a' w' ⟨e', h3, h6⟩ => h6 hs hk a' h3 fuel _ (inv.set (by rw [hr]; simp)) h5) (h a ha))
theorem ZA_oy {i : Nat} {d : Tmp} {op : Op} {ty : TypeId} {pos : String} {after : Array Edge} {v : Value} {order : List (Nat × Nat)} (hi : ops[i]? = some ⟨some d, op, ty, pos, after, none⟩)
    (hy : Y P (Like w) env ⟨some d, op, ty, pos, after, none⟩ v) (hd : Nat.blt d N = true) (h : ZA P N ops B c Q order ((d, v) :: env) w) : ZA P N ops B c Q ((i, 3) :: order) env w :=
  ZA_o hi (o_y hy (Like.refl w) hd h)
theorem ZA_nil (h : Q .normal env w) : ZA P N ops B c Q [] env w := fun _ _ a ha fuel listed inv hB => by
  have hr : Region.ready .any ops listed = [] := by
    cases fuel <;> simpa [ordZ] using hB
  exact wpAny_done hr ⟨env, ha, h⟩ fuel
end
end Go.Proofs.Ytcbnhmcfdpcbhaa.Zx


/-
  More operations: literals, makes, strings, arrays by value. General; nothing here names a program.
-/
namespace Go.Proofs.Ytcbnhmcfdpcbhaa.Zx
open Go.RowKit Zk
set_option linter.unusedVariables false
set_option linter.unusedSimpArgs false
section
variable {P : Program} {N : Nat} {Q : Post} {env : Env} {w w0 : World} {M : Nat → Prop} {rs : List Res} {K : Env → World → Prop} {d : Tmp} {ty : TypeId} {pos : String} {after : Array Edge} {g : Option (Nat × Bool)}
def idx : Nat → List Value → List (Nat × Value)
  | _, [] => []
  | k, v :: vs => (k, v) :: idx (k + 1) vs
theorem fill_all (size : Nat) : ∀ (vs : List Value) (k : Nat) (pre junk : List Value), (∀ v ∈ vs, v.cells.size = size) → pre.length = k * size → junk.length = vs.length * size →
    Instr.fill (fun i => some (i * size, size)) (pre ++ junk).toArray (idx k vs) = some (pre ++ vs.flatMap fun v => v.cells.toList).toArray
  | [], k, pre, junk, _, _, hj => by
    obtain rfl : junk = [] := List.eq_nil_of_length_eq_zero (by simpa using hj)
    simp [idx, Instr.fill]
  | v :: vs, k, pre, junk, hv, hp, hj => by
    have hvs := hv v (by simp)
    have hj' : junk.length = size + vs.length * size := by rw [hj, List.length_cons, Nat.succ_mul, Nat.add_comm]
    simp only [idx]
    rw [fill_part (fun i => some (i * size, size)) _ k (k * size) size v.cells v rfl _ rfl hvs (by simp; omega)]
    have e1 : (pre ++ junk).toArray.toList.take (k * size) = pre := by simp [hp]
    have e2 : (pre ++ junk).toArray.toList.drop (k * size + size) = junk.drop size := by
      simp only [List.drop_append, hp]
      rw [List.drop_of_length_le (by omega), List.nil_append]
      congr 1
      omega
    rw [e1, e2, fill_all size vs (k + 1) (pre ++ v.cells.toList) (junk.drop size) (fun u hu => hv u (by simp [hu])) (by simp [hp, hvs, Nat.succ_mul]) (by simp; omega)]
    simp
theorem evp_idx (e : Env) : ∀ (parts : List (Nat × Operand)) (vs : List Value) (k : Nat), parts.map (·.1) = List.range' k parts.length → evl e (parts.map (·.2)) = some vs → evp e parts = some (idx k vs)
  | [], vs, k, _, h => by simp only [List.map_nil, evl, Option.some.injEq] at h; subst h; rfl
  | (i, x) :: parts, vs, k, hi, h => by
    simp only [List.map_cons, evl] at h
    simp only [List.map_cons, List.length_cons, List.range'_succ, List.cons.injEq] at hi
    cases hx : ev e x with
    | none => rw [hx] at h; cases h
    | some v =>
      cases hxs : evl e (parts.map (·.2)) with
      | none => rw [hx, hxs] at h; cases h
      | some us =>
        rw [hx, hxs] at h
        simp only [Option.some.injEq] at h
        subst h
        simp only [evp, hx, evp_idx e parts us (k + 1) hi.2 hxs, idx, hi.1]
/-- A slice literal. -/
theorem o_bslL {t e : TypeId} {z : Value} {size bytes len : Nat} {parts : Array (Nat × Operand)} {us : List Value} (vs : List Value) (TE : Elem P t e z size bytes) (hz : ∀ W, (zeroValue e).run P W = .ok z W) (S : St w0 M rs w) (hp : evl env (parts.toList.map (·.2)) = some us)
    (hi : parts.toList.map (·.1) = List.range' 0 parts.toList.length) (hlp : parts.toList.length = len) (hus : us.all (fun v => Nat.beq v.cells.size size) = true) (hvs : us.flatMap (fun v => v.cells.toList) = vs)
    (hl : Nat.ble (len * size) 16777216 = true) (h0 : Nat.blt 0 (len * size) = true) (hd : Nat.blt d N = true)
    (h : ∀ b w', Like w w' → St w0 M (rs ++ [row e size (some ⟨b, 0, none⟩) len len vs]) w' → K ((d, .slice (some ⟨b, 0, none⟩) len len) :: env) w') :
    O P N Q ⟨some d, .buildSlice t len parts, ty, pos, after, g⟩ env w K := fun a ha => by
  have hpe : (parts.map fun (i, x) => (i, a.eval x)).toList = idx 0 us := by
    rw [← evp_map ha parts.toList (idx 0 us) (evp_idx env parts.toList us 0 hi hp)]
    simp
  have hul : us.length = len := by
    have h1 := evl_map ha _ _ hp
    rw [← h1]
    simpa using hlp
  have husz : ∀ v ∈ us, v.cells.size = size := fun v hv => by
    have := List.all_eq_true.1 hus v hv
    simpa using this
  have hvl : vs.length = len * size := by
    rw [← hvs, ← hul]
    clear hvs hus hp hpe hul
    induction us with
    | nil => simp
    | cons u us ih => simp [husz u (by simp), ih (fun v hv => husz v (by simp [hv])), Nat.succ_mul, Nat.add_comm]
  obtain ⟨i, hi, hz', hsize, hby⟩ := info_parts TE.hi
  have hsz : (P.info? e).map (·.size) = some size := by rw [hi]; simp [hsize]
  have hl' : ¬ len * size > 2 ^ 24 := by have : len * size ≤ 16777216 := by simpa using hl
                                         omega
  have h0' : ¬ len * size = 0 := by have : 0 < len * size := by simpa using h0
                                    omega
  have hlen : len ≤ maxLen := by
    have h1 : len * 1 ≤ len * size := Nat.mul_le_mul_left _ TE.hsz
    unfold maxLen
    omega
  have hfill : Instr.fill (fun i => some (i * size, size)) ((Array.range (len * size)).map (z.cells[· % z.cells.size]!)) (idx 0 us) = some vs.toArray := by
    have := fill_all size us 0 [] ((Array.range (len * size)).map (z.cells[· % z.cells.size]!)).toList husz (by simp) (by simp [hul])
    simp only [List.nil_append, hvs] at this
    exact this
  have hrun : (Instr.buildSlice t len (parts.map fun (i, x) => (i, a.eval x))).run P w = .ok (.slice (some ⟨w.heap.size, 0, none⟩) len len) (w.alloc (.cells vs.toArray e)) := by
    simp only [Instr.buildSlice, Sem.run_bind, run_underlying TE.ht, Result.andThen_ok, sizeOf_run hsz, if_neg hl', if_neg h0', hz, Sem.run_pure, hpe, hfill, newRow, run_newObj_alloc]
  unfold Oper.wp execOp
  simp only [Sem.run_bind, hrun, Result.andThen_ok, Sem.run_pure]
  refine ⟨_, ha.put d _ hd, h _ _ (like_alloc w _) (S.new (like_alloc w _) _ (World.ownsRow_lit w vs.toArray len (Nat.zero_le _) hlen (by simpa using hvl)) fun i hi => ?_)⟩
  change (Value.slice (some ⟨w.heap.size, 0, none⟩) len len).ownBlock = some i at hi
  simp only [Value.ownBlock, Option.some.injEq] at hi
  subst hi
  exact ⟨Nat.le_refl _, by simp⟩
theorem o_bsl {t e : TypeId} {z : Value} {size bytes len : Nat} {parts : Array (Nat × Operand)} {us : List Value} (vs : List Value) (TE : Elem P t e z size bytes) (hz : ∀ W, (zeroValue e).run P W = .ok z W) (S : St w0 M rs w) (hp : evl env (parts.toList.map (·.2)) = some us)
    (hi : parts.toList.map (·.1) = List.range' 0 parts.toList.length) (hlp : parts.toList.length = len) (hus : us.all (fun v => Nat.beq v.cells.size size) = true) (hvs : us.flatMap (fun v => v.cells.toList) = vs)
    (hl : Nat.ble (len * size) 16777216 = true) (h0 : Nat.blt 0 (len * size) = true) (hd : Nat.blt d N = true)
    (h : ∀ b w', St w0 M (rs ++ [row e size (some ⟨b, 0, none⟩) len len vs]) w' → K ((d, .slice (some ⟨b, 0, none⟩) len len) :: env) w') :
    O P N Q ⟨some d, .buildSlice t len parts, ty, pos, after, g⟩ env w K := o_bslL vs TE hz S hp hi hlp hus hvs hl h0 hd fun b w' _ => h b w'
/-- An empty slice literal. -/
theorem o_bsl0 {t e : TypeId} {z : Value} {size bytes : Nat} (TE : Elem P t e z size bytes) (S : St w0 M rs w) (hd : Nat.blt d N = true)
    (h : ∀ b w', Like w w' → St w0 M (rs ++ [row e size (some ⟨b, 0, none⟩) 0 0 []]) w' → K ((d, .slice (some ⟨b, 0, none⟩) 0 0) :: env) w') :
    O P N Q ⟨some d, .buildSlice t 0 #[], ty, pos, after, g⟩ env w K := fun a ha => by
  obtain ⟨i, hi, hz', hsize, hby⟩ := info_parts TE.hi
  have hsz : (P.info? e).map (·.size) = some size := by rw [hi]; simp [hsize]
  have hrun : (Instr.buildSlice t 0 ((#[] : Array (Nat × Operand)).map fun (i, x) => (i, a.eval x))).run P w = .ok (.slice (some ⟨w.heap.size, 0, none⟩) 0 0) (w.alloc (.cells #[] e)) := by
    have h1 : ¬ (0 : Nat) > 2 ^ 24 := by omega
    simp only [Instr.buildSlice, Sem.run_bind, run_underlying TE.ht, Result.andThen_ok, sizeOf_run hsz, Nat.zero_mul, if_neg h1, if_true, Sem.run_pure, List.map_toArray, List.map_nil, Instr.fill, newRow, show Array.range 0 = #[] from rfl, Array.map_empty, run_newObj_alloc]
  unfold Oper.wp execOp
  simp only [Sem.run_bind, hrun, Result.andThen_ok, Sem.run_pure]
  refine ⟨_, ha.put d _ hd, h _ _ (like_alloc w _) (S.new (like_alloc w _) _ (World.ownsRow_lit w #[] 0 (Nat.zero_le _) (Nat.zero_le _) (by simp)) fun i hi => ?_)⟩
  change (Value.slice (some ⟨w.heap.size, 0, none⟩) 0 0).ownBlock = some i at hi
  simp only [Value.ownBlock, Option.some.injEq] at hi
  subst hi
  exact ⟨Nat.le_refl _, by simp⟩
/-- 'x[k] = v' in a row of the call's own. -/
theorem o_strow {st : TypeId} {x y : Operand} {e n c k : Nat} {A : Option Addr} {xs : List Value} {v : Value} (S : St w0 M rs w) (i : Nat) (hk : rs[i]? = some (row e 1 A n c xs)) (hx : ev env x = some (pR A k 1)) (hy : ev env y = some v)
    (hv : v.oneCell' = true) (hsz : (P.info? st).map (·.size) = some 1) (hkn : k < n)
    (h : ∀ w', St w0 M (rs.set i (row e 1 A n c (xs.set k v))) w' → K env w') : O P N Q ⟨none, .store st x y, ty, pos, after, g⟩ env w K := fun a ha => by
  have hown : w.ownsRow 0 e 1 (.slice A n c) n xs := S.get i hk
  obtain ⟨b, cap, hv', _, hlt⟩ := hown.form (by omega)
  injection hv' with hA _ hcap
  subst hA; subst hcap
  have hxa : a.eval x = .pointer (some ⟨b, k, none⟩) := by
    rw [ha.eval hx]
    simp [pR, Addr.add_mid]
  have hxl : xs.length = n := by have := hown.1; simpa using this
  have hc : w.cell? ⟨b, k, none⟩ = some (xs[k]'(by omega)) := (hown.cellAt k (by omega)).trans (List.getElem?_eq_getElem (by omega))
  have hf : w.frozen? ⟨b, k, none⟩ = false := hown.frozenAt k
  have hr : (storeVar st ⟨b, k, none⟩ v).run P w = .ok () (w.setCell ⟨b, k, none⟩ v) := by
    simp only [storeVar, Sem.run_bind, sizeOf_run hsz, cells_one hv, Result.andThen_ok]
    simp [storeCells, hv, stored, hc, hf, run_store, go_sem]
  unfold Oper.wp execOp
  simp only [hxa, ha.eval hy, Instr.storeAt, Instr.sureAddr, Sem.run_bind, Sem.run_pure, Result.andThen_ok, hr]
  refine ⟨env, ha, h _ (S.upd i hk rfl rfl rfl (by simp) (fun j hj hn => Below.heap_setCell w ⟨b, k, none⟩ v j (fun e => hn (by simp [row, Value.ownBlock, e]))) ?_ fun j hj => .inl hj)⟩
  exact (hown.stored k v).1
end
section
variable {P : Program} {S : World → Prop} {env : Env} {w : World} {dst : Option Tmp} {ty : TypeId} {pos : String} {after : Array Edge} {g : Option (Nat × Bool)}
/-! strings -/
/-- string(b) -/
theorem y_bstr {x : Operand} {src dt e : TypeId} {A : Option Addr} {n c : Nat} {l : List UInt8} (hs : P.underlying src = some (.slice e)) (he : P.underlying e = some (.int .u8)) (hd : P.underlying dt = some .string) (hx : ev env x = some (.slice A n c)) (hr : Rs w 1 A n c (bL l)) :
    Y P (Like w) env ⟨dst, .convert src dt x, ty, pos, after, g⟩ (.string ⟨l.toArray⟩) := fun N a w' ha hw => by
  simp only [execOp, ha.eval hx, Sem.run_bind, run_conv_reads c hs he hd (hr.rd.below hw), Sem.run_pure, Result.andThen_ok]
/-! arrays behind a pointer, cut -/
/-! values of many cells -/
theorem y_build {t : TypeId} {parts : Array (Nat × Operand)} {ps : List (Nat × Value)} {cs : Array Value} (hp : evp env parts.toList = some ps) (hb : P.built t ps = some cs) :
    Y P S env ⟨dst, .build t parts, ty, pos, after, g⟩ (.agg cs) := fun N a w ha _ => by
  have hpe : (parts.map fun (i, x) => (i, a.eval x)).toList = ps := by
    rw [← evp_map ha parts.toList ps hp]
    simp
  simp only [execOp, Sem.run_bind, run_build (P := P) w t _ cs (by rw [hpe]; exact hb), Result.andThen_ok, Sem.run_pure]
/-! against nil -/
theorem y_peqn {x : Operand} {t e : TypeId} {u : TypeId} {p : Option Addr} (ht : P.underlying t = some (.pointer e)) (hx : ev env x = some (.pointer p)) : Y P S env ⟨dst, .binOp .eql t x (.const (.pointer none)) u, ty, pos, after, g⟩ (.bool p.isNone) := fun N a w ha _ => by
  have hy : a.eval (.const (.pointer none)) = .pointer none := rfl
  have hr : (Op.equal t (.pointer p) (.pointer none)).run P w = .ok p.isNone w := by
    have : ∀ d, (Op.equalIn (d + 1) t (.pointer p) (.pointer none)).run P w = .ok p.isNone w := fun d => by cases p <;> simp [Op.equalIn, run_underlying ht]
    exact this 9999
  simp only [execOp, ha.eval hx, hy, eqGuard, binOp, Bool.not_true, Bool.false_eq_true, if_false, ite_self,  Sem.run_bind, Sem.run_pure, Result.andThen_ok, hr]
theorem y_pneqn {x : Operand} {t e : TypeId} {u : TypeId} {p : Option Addr} (ht : P.underlying t = some (.pointer e)) (hx : ev env x = some (.pointer p)) : Y P S env ⟨dst, .binOp .neq t x (.const (.pointer none)) u, ty, pos, after, g⟩ (.bool (!p.isNone)) := fun N a w ha _ => by
  have hy : a.eval (.const (.pointer none)) = .pointer none := rfl
  have hr : (Op.equal t (.pointer p) (.pointer none)).run P w = .ok p.isNone w := by
    have : ∀ d, (Op.equalIn (d + 1) t (.pointer p) (.pointer none)).run P w = .ok p.isNone w := fun d => by cases p <;> simp [Op.equalIn, run_underlying ht]
    exact this 9999
  simp only [execOp, ha.eval hx, hy, eqGuard, binOp, Bool.not_true, Bool.false_eq_true, if_false, ite_self,  Sem.run_bind, Sem.run_pure, Result.andThen_ok, hr]
/-! arrays of bytes -/
/-! results that lie in a variable -/
end
end Go.Proofs.Ytcbnhmcfdpcbhaa.Zx


/-
  General laws, fourth part: what a law's arguments are, read off the row's hypothesis.
-/
namespace Go.Proofs.Ytcbnhmcfdpcbhaa.Zk
open Go.ChangeShapes Go.WideShapes Go.ChangeAt Go.RowKit
open Go.ChangeMaps (open_string shut_string)
set_option linter.unusedVariables false
section
variable {H : Type} {enc : TypeId × Value → H} {P : Program} {w : World} {base : Nat} {spare : Nat → Bool} {held : Bool}
theorem u8_of (n : Int) (h : (Lit.int .u8 n).wf = true) : ∃ c : UInt8, n = (c.toNat : Int) := by
  have hb := bounds_u8 h
  refine ⟨UInt8.ofNat n.toNat, ?_⟩
  rw [UInt8.toNat_ofNat']
  omega
end
end Go.Proofs.Ytcbnhmcfdpcbhaa.Zk


/-
  A law's arguments, opened: slices. General; nothing here names a program.
-/
namespace Go.Proofs.Ytcbnhmcfdpcbhaa.Zx
open Go.ChangeShapes Go.WideShapes Go.ChangeAt Go.RowKit Go.Deep Zk
set_option linter.unusedVariables false
section
variable {H : Type} {enc : TypeId × Value → H} {P : Program} {w : World} {base : Nat} {spare : Nat → Bool} {held : Bool}
/-- A list of letters for a row, from one for each place. -/
theorem list_of {α : Type} (p : Nat → α → Prop) : ∀ n, (∀ i, i < n → ∃ x, p i x) → ∃ l : List α, l.length = n ∧ ∀ i x, l[i]? = some x → p i x
  | 0, _ => ⟨[], rfl, fun i x h => by simp at h⟩
  | n + 1, h => by
    obtain ⟨l, hl, hp⟩ := list_of p n (fun i hi => h i (by omega))
    obtain ⟨x, hx⟩ := h n (by omega)
    refine ⟨l ++ [x], by simp [hl], fun i y hy => ?_⟩
    rw [List.getElem?_append] at hy
    split at hy
    · exact hp i y hy
    · rename_i hi
      have : i = n := by
        have := (List.getElem?_eq_some_iff.1 hy).1
        simp at this
        omega
      subst this
      simp [hl] at hy
      rw [← hy]
      exact hx
/-- A slice of bytes, and what it reads as. -/
structure Part where
  A : Option Addr
  n : Nat
  c : Nat
  l : List UInt8
def p0 : Part := ⟨none, 0, 0, []⟩
def Part.ok (w : World) (p : Part) : Prop := Rs w 1 p.A p.n p.c (bL p.l)
/-- The value itself. -/
theorem slice_of_cells {r : Reach} {b0 : Nat} {t e : TypeId} {v : Value} {A : Option Addr} {n c : Nat} (ht : P.underlying t = some (.slice e)) (hv : Value.okWide P w r b0 t v) (h : v.cells.toList = [.slice A n c]) : v = .slice A n c := by
  obtain ⟨A', n', c', rfl⟩ := okWide_slice ht hv
  simpa [Value.cells] using h
end
end Go.Proofs.Ytcbnhmcfdpcbhaa.Zx


/-
  Calls that turn a piece of the caller's memory; function values; '[]byte(s)'. General; nothing here names a program.
-/
namespace Go.Proofs.Ytcbnhmcfdpcbhaa.Zx
open Go.RowKit Zk
set_option linter.unusedVariables false
set_option linter.unusedSimpArgs false
/-- From w to w' only the piece r has changed: it is r' now; and there is new memory. -/
structure Turned (w w' : World) (r r' : Res) : Prop where
  os : w'.os = w.os
  tape : w'.tape = w.tape
  output : w'.output = w.output
  size : w.heap.size ≤ w'.heap.size
  old : ∀ i, i < w.heap.size → ¬ r.dom i → w'.heap[i]? = w.heap[i]?
  holds : r'.holds w'
  dom : ∀ i, r'.dom i → r.dom i ∨ (w.heap.size ≤ i ∧ i < w'.heap.size)
/-- Two pieces as one. -/
def both (r s : Res) : Res where
  dom i := r.dom i ∨ s.dom i
  holds w := r.holds w ∧ s.holds w
  stable w w' h hh := ⟨r.stable w w' (fun i hi => h i (.inl hi)) hh.1, s.stable w w' (fun i hi => h i (.inr hi)) hh.2⟩
section
variable {w0 w w' : World} {M : Nat → Prop} {rs : List Res}
theorem St.turn (S : St w0 M rs w) (k : Nat) {r r' : Res} (hk : rs[k]? = some r) (h : Turned w w' r r') : St w0 M (rs.set k r') w' :=
  S.upd k hk h.os h.tape h.output h.size h.old h.holds h.dom
theorem Turned.refl {w : World} {r : Res} (h : r.holds w) : Turned w w r r := ⟨rfl, rfl, rfl, Nat.le_refl _, fun _ _ _ => rfl, h, fun i hi => .inl hi⟩
theorem Turned.like {r : Res} (l : Like w w') (h : r.holds w) (hd : ∀ i, r.dom i → i < w.heap.size) : Turned w w' r r :=
  ⟨l.os, l.tape, l.output, l.size, fun i hi _ => l.block i hi, r.stable w w' (fun i hi => l.block i (hd i hi)) h, fun i hi => .inl hi⟩
/-- A piece that the callee turned, and one that it made. -/
theorem St.newT (S : St w0 M rs w) (k : Nat) {r r' : Res} (hk : rs[k]? = some r) (h : Turned w w' r r') (hdom : ∀ i, r'.dom i → r.dom i) {new : Res} (hn : new.holds w') (hd : ∀ i, new.dom i → w.heap.size ≤ i ∧ i < w'.heap.size) : St w0 M (rs.set k r' ++ [new]) w' := by
  have S' := S.turn k hk h
  have hin : ∀ q ∈ rs.set k r', ∀ i, q.dom i → i < w.heap.size := fun q hq i hi => by
    rcases List.mem_or_eq_of_mem_set hq with hq | rfl
    · exact ((S.res q hq).2 i hi).1
    · exact ((S.res r (List.mem_of_getElem? hk)).2 i (hdom i hi)).1
  refine ⟨S'.os, S'.tape, S'.output, S'.size, S'.old, fun q hq => ?_, ?_⟩
  · rcases List.mem_append.1 hq with hq | hq
    · exact S'.res q hq
    · obtain rfl := List.mem_singleton.1 hq
      exact ⟨hn, fun i hi => ⟨(hd i hi).2, .inl (Nat.le_trans S.size (hd i hi).1)⟩⟩
  · rw [List.pairwise_append]
    refine ⟨S'.apart, List.pairwise_singleton _ _, fun q hq s hs i hi hsi => ?_⟩
    obtain rfl := List.mem_singleton.1 hs
    have h1 := hin q hq i hi
    have h2 := (hd i hsi).1
    omega
/-- The callee's start: two pieces that it may write to. -/
theorem St.borrow2 (r s : Res) (hr : r.holds w) (hs : s.holds w) (hd : ∀ i, r.dom i ∨ s.dom i → i < w.heap.size) (hap : ∀ i, r.dom i → ¬ s.dom i) : St w (fun i => r.dom i ∨ s.dom i) [r, s] w :=
  ⟨rfl, rfl, rfl, Nat.le_refl _, fun _ _ _ => rfl, fun q hq => by
    rcases List.mem_cons.1 hq with rfl | hq
    · exact ⟨hr, fun i hi => ⟨hd i (.inl hi), .inr (.inl hi)⟩⟩
    · obtain rfl := List.mem_singleton.1 hq
      exact ⟨hs, fun i hi => ⟨hd i (.inr hi), .inr (.inr hi)⟩⟩, List.pairwise_cons.2 ⟨fun s' hs' => by obtain rfl := List.mem_singleton.1 hs'; exact hap, List.pairwise_singleton _ _⟩⟩
theorem St.borrow1 (r : Res) (hr : r.holds w) (hd : ∀ i, r.dom i → i < w.heap.size) : St w r.dom [r] w :=
  ⟨rfl, rfl, rfl, Nat.le_refl _, fun _ _ _ => rfl, fun q hq => by
    obtain rfl := List.mem_singleton.1 hq
    exact ⟨hr, fun i hi => ⟨hd i hi, .inr hi⟩⟩, List.pairwise_singleton _ _⟩
/-- The callee's end. -/
theorem St.turned1 {r : Res} (S : St w0 r.dom rs w) (k : Nat) {r' : Res} (hk : rs[k]? = some r') : Turned w0 w r r' :=
  ⟨S.os, S.tape, S.output, S.size, S.old, S.get k hk, fun i hi => by
    have h := (S.res r' (List.mem_of_getElem? hk)).2 i hi
    rcases h.2 with h2 | h2
    · exact .inr ⟨h2, h.1⟩
    · exact .inl h2⟩
theorem St.turned2 {r s : Res} (S : St w0 (fun i => r.dom i ∨ s.dom i) rs w) (j k : Nat) {r' s' : Res} (hj : rs[j]? = some r') (hk : rs[k]? = some s') : Turned w0 w (both r s) (both r' s') :=
  ⟨S.os, S.tape, S.output, S.size, S.old, ⟨S.get j hj, S.get k hk⟩, fun i hi => by
    have h : i < w.heap.size ∧ (w0.heap.size ≤ i ∨ (r.dom i ∨ s.dom i)) := by
      rcases hi with hi | hi
      · exact (S.res r' (List.mem_of_getElem? hj)).2 i hi
      · exact (S.res s' (List.mem_of_getElem? hk)).2 i hi
    rcases h.2 with h2 | h2
    · exact .inr ⟨h2, h.1⟩
    · exact .inl h2⟩
/-- A piece's blocks are there. -/
theorem St.lt (S : St w0 M rs w) (k : Nat) {r : Res} (hk : rs[k]? = some r) : ∀ i, r.dom i → i < w.heap.size := fun i hi => ((S.res r (List.mem_of_getElem? hk)).2 i hi).1
/-- Two of the list are apart. -/
theorem St.apart_ (S : St w0 M rs w) (i j : Nat) {r s : Res} (hi : rs[i]? = some r) (hj : rs[j]? = some s) (hij : Nat.beq i j = false) : ∀ x, r.dom x → ¬ s.dom x := fun x hx hsx => by
  have hap := List.pairwise_iff_getElem.1 S.apart
  obtain ⟨hil, hie⟩ := List.getElem?_eq_some_iff.1 hi
  obtain ⟨hjl, hje⟩ := List.getElem?_eq_some_iff.1 hj
  have hne : i ≠ j := fun e => by subst e; simp at hij
  rcases Nat.lt_or_gt_of_ne hne with h | h
  · exact hap i j hil hjl h x (by rw [hie]; exact hx) (by rw [hje]; exact hsx)
  · exact hap j i hjl hil h x (by rw [hje]; exact hsx) (by rw [hie]; exact hx)
end
section
variable {P : Program} {S : World → Prop} {env : Env} {w w0 : World} {M : Nat → Prop} {rs : List Res} {N : Nat} {Q : Post} {K : Env → World → Prop} {dst : Option Tmp} {d : Tmp} {ty : TypeId} {pos : String} {after : Array Edge} {g : Option (Nat × Bool)}
/-- A function value with what it has of its own. -/
theorem y_makeFunc {fn : Fn} {first captured : Array Operand} {fs cs : List Value} (hf : evl env first.toList = some fs) (hc : evl env captured.toList = some cs) : Y P S env ⟨dst, .makeFunc fn first captured, ty, pos, after, g⟩ (.func fn fs.toArray cs.toArray) := fun N a w ha _ => by
  have e1 : first.map a.eval = fs.toArray := by
    rw [← evl_map ha first.toList fs hf]
    apply Array.ext'
    simp
  have e2 : captured.map a.eval = cs.toArray := by
    rw [← evl_map ha captured.toList cs hc]
    apply Array.ext'
    simp
  simp only [execOp, e1, e2, Instr.makeFunc, Sem.run_bind, Sem.run_pure, Result.andThen_ok]
/-- A call of a function value. -/
theorem o_callv {f : FuncId} {fn : Func} {v : Operand} {xs : Array Operand} {ts : Array TypeId} {fs cs vs args : List Value} {R : Ending → World → Prop} (hv : ev env v = some (.func (.func f) fs.toArray cs.toArray)) (hf : P.funcs[f]? = some fn) (hn : (fn.name == "runtime.NumGoroutine") = false) (hb : fn.body.isNone = false)
    (hc : Calls P f args.toArray w R) (hargs : evl env xs.toList = some vs) (hall : fs ++ vs ++ cs = args) (hd : ∀ d', dst = some d' → Nat.blt d' N = true)
    (h : ∀ e w', R e w' → ∃ u, e = .returned u ∧ K (match dst with | some d' => (d', u) :: env | none => env) w') :
    O P N Q ⟨dst, .call { callee := .value v, args := xs, argTypes := ts }, ty, pos, after, g⟩ env w K := fun a ha => by
  have hmap : xs.map a.eval = vs.toArray := by
    rw [← evl_map ha xs.toList vs hargs]
    apply Array.ext'
    simp
  unfold Oper.wp
  have hrun : (execOp a.eval ⟨dst, .call { callee := .value v, args := xs, argTypes := ts }, ty, pos, after, g⟩).run P w = .ok (.enter f args.toArray) w := by
    simp only [execOp, resolve, hmap, ha.eval hv, Deferred.ofValue, invoke, callFunc, Sem.run_bind, Sem.run_pure, Result.andThen_ok, run_program, hf, hn, hb, Bool.false_eq_true, if_false]
    rw [← hall]
    simp
  rw [hrun]
  refine hc.mono fun e w' hR => ?_
  obtain ⟨u, rfl, hK⟩ := h e w' hR
  cases dst with
  | none => exact ⟨env, ha, hK⟩
  | some d' => exact ⟨_, ha.put d' u (hd d' rfl), hK⟩
/-- '[]byte(s)' -/
theorem o_sbytes {src dt e : TypeId} {x : Operand} {s : ByteArray} (hs : P.underlying src = some .string) (hd : P.underlying dt = some (.slice e)) (he : P.underlying e = some (.int .u8)) (hx : ev env x = some (.string s)) (hlen : s.size ≤ 4611686018427387904) (S : St w0 M rs w) (hdN : Nat.blt d N = true)
    (h : ∀ b c w', Like w w' → St w0 M (rs ++ [fixed 1 (some ⟨b, 0, none⟩) s.size c (bL s.data.toList)]) w' → K ((d, .slice (some ⟨b, 0, none⟩) s.size c) :: env) w') :
    O P N Q ⟨some d, .convert src dt x, ty, pos, after, g⟩ env w K := fun a ha => by
  have hr := run_bytes_of_string (P := P) w src dt e s hs hd he
  have hcap := grownCap_ge w s.size 0 e
  have hmax := grownCap_le_maxLen w s.size 0 e (by unfold maxLen; omega)
  generalize grownCap w s.size 0 e = cap at *
  generalize hC : bytesRow s cap = C at *
  have hl : Like w (w.drew.alloc (.cells C e (C.size, C.size + 1))) := Like.trans (Like.drew w) (like_alloc _ _)
  have hblk : (w.drew.alloc (.cells C e (C.size, C.size + 1))).heap[w.heap.size]? = some (.cells C e (C.size, C.size + 1)) := heap_alloc_new w.drew _
  unfold Oper.wp execOp
  simp only [ha.eval hx, Sem.run_bind, hr, Result.andThen_ok, Sem.run_pure]
  refine ⟨_, ha.put d _ hdN, h _ _ _ hl (S.new hl _ ⟨⟨by simp [size_toList], fun h0 => ⟨_, rfl, (Array.getElem?_eq_some_iff.1 hblk).1, fun j u hu => ?_⟩⟩, hcap, by unfold maxLen at hmax; exact hmax⟩ fun i ⟨ad, _, hA, hi⟩ => ?_)⟩
  · rw [Addr.add_mid, cell_of_row _ _ _ C e _ hblk, Nat.zero_add, ← hC]
    have hj : j < s.data.toList.length := by have := (List.getElem?_eq_some_iff.1 hu).1; simpa using this
    have hj2 : j < s.data.size := by simpa using hj
    unfold bytesRow
    rw [Array.getElem?_append_left (by simpa using hj2), ← hu]
    simp [bL]
    rfl
  · cases hA
    subst hi
    exact ⟨Nat.le_refl _, (Array.getElem?_eq_some_iff.1 hblk).1⟩
/-- 'make', what was there unchanged. -/
theorem o_makeL {t e : TypeId} {z : Value} {bytes : Nat} {x y : Operand} {k k' : IntKind} {jn jc : Int} {n c : Nat} (TE : Elem P t e z 1 bytes) (hone : z.oneCell' = true) (S : St w0 M rs w) (hx : ev env x = some (.int k jn)) (hy : ev env y = some (.int k' jc)) (hn : Nt jn n) (hc : Nt jc c) (hd : Nat.blt d N = true)
    (hnc : n ≤ c) (hbytes : c * bytes ≤ 281474976710656) (hcm : c ≤ 9223372036854775807)
    (h : ∀ b w', Like w w' → St w0 M (rs ++ [row e 1 (some ⟨b, 0, none⟩) n c (List.replicate n z)]) w' → K ((d, .slice (some ⟨b, 0, none⟩) n c) :: env) w') :
    O P N Q ⟨some d, .makeSlice t x y, ty, pos, after, g⟩ env w K := fun a ha => by
  have e1 := hn.eq
  have e2 := hc.eq
  subst e1; subst e2
  obtain ⟨i, hi, hz', hsize, hby⟩ := info_parts TE.hi
  have hb : (i.bytes : Int) * (c : Int) ≤ 281474976710656 := by
    have h : ((i.bytes * c : Nat) : Int) ≤ 281474976710656 := by rw [hby, Nat.mul_comm]; omega
    rwa [Int.natCast_mul] at h
  have hr := run_make (P := P) w t e i z TE.ht hi hz' k k' n c (by omega) (by omega) hb (by omega)
  simp only [Int.toNat_natCast] at hr
  unfold Oper.wp execOp
  simp only [ha.eval hx, ha.eval hy, Sem.run_bind, hr, Result.andThen_ok, Sem.run_pure]
  have hzc : z.cells.size = 1 := TE.hzs
  have hcells : madeCells z.cells (c * i.size) = Array.replicate c z := by
    rw [hsize, Nat.mul_one, cells_one hone]
    apply Array.ext
    · simp [madeCells]
    · intro j h1 h2
      simp [madeCells, Nat.mod_one]
  refine ⟨_, ha.put d _ hd, h _ _ (like_alloc w _) (S.new (like_alloc w _) _ ?_ fun i hi => ?_)⟩
  · refine ⟨by simp, .inr ⟨w.heap.size, c, _, rfl, Nat.zero_le _, heap_alloc_new w _, hnc, by unfold maxLen; omega, ?_, ?_⟩⟩
    · rw [hcells]; simp
    · rw [hcells, Nat.mul_one]
      simp [hnc]
  · change (Value.slice (some ⟨w.heap.size, 0, none⟩) n c).ownBlock = some i at hi
    simp only [Value.ownBlock, Option.some.injEq] at hi
    subst hi
    exact ⟨Nat.le_refl _, by simp⟩
end
section
variable {w0 w : World} {M : Nat → Prop} {rs : List Res}
end
end Go.Proofs.Ytcbnhmcfdpcbhaa.Zx


/-
  A call that waits for the function's end. General; nothing here names a program.
-/
namespace Go.Proofs.Ytcbnhmcfdpcbhaa.Zx
open Go.RowKit Zk
set_option linter.unusedVariables false
set_option linter.unusedSimpArgs false
section
variable {P : Program} {N : Nat} {Q : Post} {env : Env} {w : World}
/-- The end of a function that lets calls wait. -/
def bodyQD (P : Program) (fn : Func) (R : Ending → World → Prop) : Post
  | .ret, env, w | .normal, env, w => ∀ N a, Fits N env a → Leaves P fn a.tmps R (dfs env) .returning w
  | .panic c, env, w => ∃ es : Env, (∀ i v, look es i = some v → i < 4) ∧ Sub es env ∧ ∀ N a, Fits N es a → Leaves P fn a.tmps R (dfs es) (.panicking c) w
  | _, _, _ => False
theorem look_rm_ne {d i : Nat} (h : i ≠ d) : ∀ e : Env, look (rm d e) i = look e i
  | [] => rfl
  | (j, u) :: e => by
    have ih := look_rm_ne h e
    unfold rm at ih ⊢
    rw [List.filter_cons]
    cases hb : Nat.beq j d with
    | true =>
      have e1 : j = d := by simpa using hb
      have e2 : Nat.beq j i = false := by
        cases hc : Nat.beq j i with
        | true => exact absurd (by have : j = i := by simpa using hc
                                   omega) h
        | false => rfl
      simp only [Bool.not_true, Bool.false_eq_true, if_false, look, e2, cond_false]
      exact ih
    | false =>
      simp only [Bool.not_false, if_true, look]
      rw [ih]
/-- What is asked of a panic lies in the first slots: those behind them may be forgotten. -/
instance {P : Program} {fn : Func} {R : Ending → World → Prop} {d : Nat} : PSt (bodyQD P fn R) (d + 4) := ⟨fun hd c env w h => by
  obtain ⟨es, h1, h2, h3⟩ := h
  refine ⟨es, h1, ⟨h2.1.trans (dfs_rm _ hd env).symm, fun i v hi => ?_⟩, h3⟩
  have h4 := h1 i v hi
  rw [look_rm_ne (by omega)]
  exact h2.2 i v hi⟩
theorem enterD1 {f : FuncId} {fn : Func} {c : Code} (args : List Value) {R : Ending → World → Prop} (hf : P.funcs[f]? = some fn) (hb : fn.body = some c) (hn : fn.ntmps = N)
    (hN : Nat.ble args.length N = true) (he : envOf args 0 = env) (h : T P N c (bodyQD P fn R) env w) (hd0 : dfs env = [] := by rfl) (hsm : Nat.ble N 1000000 = true := by rfl) : Calls P f args.toArray w R := by
  refine calls_of_wp_defers hf hb ?_
  have hsm' : N ≤ 1000000 := by simpa using hsm
  have hN' : args.length ≤ N := by simpa using hN
  have hfit : Fits N env { tmps := args.toArray ++ Array.replicate (fn.ntmps - args.toArray.size) undef, defers := [] } := by
    refine ⟨hd0.symm, hsm', by simp [hn]; omega, fun i v hv => ?_⟩
    have h1 : args[i]? = some v := by subst he; simpa using (look_envOf _ _ _ _ hv).2
    have h2 := (List.getElem?_eq_some_iff.1 h1).1
    rw [Array.getElem?_append_left (by simpa using h2)]
    simpa using h1
  refine Code.wp_mono (fun e a w hq => ?_) (h _ hfit)
  cases e with
  | normal =>
    obtain ⟨e', h1, h2⟩ := hq
    have h3 := h2 N a h1
    rw [← h1.defers] at h3
    exact h3
  | ret =>
    obtain ⟨e', h1, h2⟩ := hq
    have h3 := h2 N a h1
    rw [← h1.defers] at h3
    exact h3
  | panic c =>
    obtain ⟨e', h1, es, _, h2, h3⟩ := hq
    have h4 := h3 N a (h1.sub h2)
    rw [← (h1.sub h2).defers] at h4
    exact h4
  | outgrown => exact hq.elim
  | exit i => obtain ⟨_, _, h⟩ := hq; exact h.elim
  | goto i => obtain ⟨_, _, h⟩ := hq; exact h.elim
/-- The end without a waiting call. -/
theorem retd1 {fn : Func} {R : Ending → World → Prop} {t : Tmp} {v : Value} (hr : fn.results = #[.tmp t]) (ht : look env t = some v) (h : R (.returned v) w) (hd0 : dfs env = [] := by rfl) : bodyQD P fn R .ret env w := fun N a ha => by
  rw [hd0]
  exact ⟨v, by rw [results_tmp hr, ha.getD ht], h⟩
end
end Go.Proofs.Ytcbnhmcfdpcbhaa.Zx


/-
  Sizes and zeros of the seat's types.
-/
namespace Go.Proofs.Ytcbnhmcfdpcbhaa
open Go.RowKit Zk Zx
set_option linter.unusedVariables false
set_option linter.unusedSimpArgs false
theorem hmix : Try.prog.follows .mixedOrders = true := by kernel_rfl
theorem is3 : (Try.prog.underlying 3).isSome = true := by kernel_rfl
theorem sz3 : (Try.prog.info? 3).map (·.size) = some 1 := by kernel_rfl
theorem sz5 : (Try.prog.info? 5).map (·.size) = some 1 := by kernel_rfl
theorem zz5 (W : World) : (zeroValue 5).run Try.prog W = .ok (.int .u8 0) W := by kernel_rfl
theorem sz25 : (Try.prog.info? 25).map (·.size) = some 1 := by kernel_rfl
theorem te25 : Elem Try.prog 25 5 (.int .u8 0) 1 1 := ⟨Try.underlying25, by kernel_rfl, rfl, by decide⟩
theorem is27 : (Try.prog.underlying 27).isSome = true := by kernel_rfl
theorem sz40 : (Try.prog.info? 40).map (·.size) = some 1 := by kernel_rfl
theorem is54 : (Try.prog.underlying 54).isSome = true := by kernel_rfl
end Go.Proofs.Ytcbnhmcfdpcbhaa


/-
  The Writer.
-/
namespace Go.Proofs.Ytcbnhmcfdpcbhaa
open Go.RowKit Zk Zx
set_option linter.unusedVariables false
set_option linter.unusedSimpArgs false

/-- A Writer at block g that has laid l. -/
def wt (g : Nat) (A : Option Addr) (n c : Nat) (l : List UInt8) : Res := both (blk g 63 #[.slice A n c]) (row 5 1 A n c (bL l))
theorem wt_apart {w : World} {g n c : Nat} {A : Option Addr} {l : List UInt8} (h : (wt g A n c l).holds w) : ∀ i, (blk g 63 #[.slice A n c]).dom i → ¬ (row 5 1 A n c (bL l)).dom i := fun i hi hr => by
  have hi' : i = g := hi
  subst hi'
  exact own_blk_ne (e := 5) h.2 h.1 (by decide) hr
theorem wt_lt {w : World} {g n c : Nat} {A : Option Addr} {l : List UInt8} (h : (wt g A n c l).holds w) : ∀ i, (wt g A n c l).dom i → i < w.heap.size := fun i hi => by
  rcases hi with hi | hi
  · have hi' : i = g := hi
    subst hi'
    exact Blk.lt h.1
  · exact (World.ownsRow.lt h.2 i hi).2
theorem wt_len {w : World} {g n c : Nat} {A : Option Addr} {l : List UInt8} (h : (wt g A n c l).holds w) : l.length = n := by
  have := h.2.1
  simpa using this
/-- From w to w' the Writer at g, which had laid l, has laid m. -/
def Laid (w w' : World) (g : Nat) (A : Option Addr) (n c : Nat) (l m : List UInt8) : Prop := ∃ A' n' c', Turned w w' (wt g A n c l) (wt g A' n' c' m)
theorem Laid.of {w w' : World} {g n c n' c' : Nat} {A A' : Option Addr} {l m : List UInt8} {X : Array Value} {ys : List Value} (h : Turned w w' (wt g A n c l) (both (blk g 63 X) (row 5 1 A' n' c' ys))) (hX : X = #[.slice A' n' c']) (hy : ys = bL m) : Laid w w' g A n c l m := by
  subst hX
  subst hy
  exact ⟨A', n', c', h⟩
theorem Laid.refl {w : World} {g n c : Nat} {A : Option Addr} {l : List UInt8} (h : (wt g A n c l).holds w) : Laid w w g A n c l l := ⟨A, n, c, Turned.refl h⟩
/-- With the length. -/
theorem Laid.same {w w' : World} {g n c : Nat} {A : Option Addr} {l m : List UInt8} (h : Laid w w' g A n c l m) : ∃ A' c', Turned w w' (wt g A n c l) (wt g A' m.length c' m) := by
  obtain ⟨A', n', c', h⟩ := h
  have := wt_len h.holds
  subst this
  exact ⟨A', c', h⟩


set_option maxRecDepth 100000 in
theorem wbyte (g : Nat) (A : Option Addr) (n c : Nat) (l : List UInt8) (x : UInt8) (w0 : World) (hw : (wt g A n c l).holds w0) (hn : l.length ≤ 140737488355300) :
    Calls Try.prog 30 #[.pointer (some ⟨g, 0, none⟩), .int .u8 (x.toNat : Int)] w0 fun e w' => ∃ u, e = .returned u ∧ Laid w0 w' g A n c l (l ++ [x]) := by
  refine enter1 (env := [(0, .pointer (some ⟨g, 0, none⟩)), (1, .int .u8 (x.toNat : Int))]) [.pointer (some ⟨g, 0, none⟩), .int .u8 (x.toNat : Int)] Try.func30 rfl Try.ntmps30 rfl rfl ?_
  have hln := wt_len hw; have S0 := St.borrow2 (blk g 63 #[.slice A n c]) (row 5 1 A n c (bL l)) hw.1 hw.2 (wt_lt hw) (wt_apart hw)
  refine T_seq fun K1 hK1 => ?_
  refine T_region ?_
  refine L_y (y_move rfl) rfl ?_
  refine L_y (y_pneqn Try.underlying23 rfl) rfl ?_
  refine L_nil ?_
  refine hK1 _ _ ?_
  refine T_true rfl ?_
  refine T_region ?_
  refine L_y (y_move rfl) rfl ?_
  refine L_y (y_move rfl) rfl ?_
  refine L_y (y_nilp rfl) rfl ?_
  refine L_y (y_fieldA 0 Try.underlying63 rfl sz25 rfl rfl rfl) rfl ?_
  refine L_y (y_ldc Try.underlying25 rfl rfl (((S0.blk 0 rfl).cell _).trans (show (#[Value.slice A n c] : Array Value)[0]? = some (Value.slice A n c) from rfl))) rfl ?_
  refine L_y (y_move rfl) rfl ?_
  refine L_o (o_bsl [_] te25 zz5 S0 rfl rfl rfl rfl rfl rfl rfl rfl fun b1 w1 S1 => ?_)
  refine L_o (o_app te25 S1 1 rfl rfl rfl (by first | exact S1.row 1 rfl | exact S1.row 2 rfl) (by first | exact bL_one _ | exact iL_one _ | (intro u hu; simp at hu; subst hu; rfl) | (simp; done) | (simp [Value.oneCell']; done)) rfl (by omega) (by omega) fun A2 c2 w2 S2 => ?_)
  have S2d := S2.drop (rs' := [_, _]) (.cons_cons _ (.cons_cons _ (.cons _ (.refl _))))
  refine L_y (y_nilp rfl) rfl ?_
  refine L_y (y_fieldA 0 Try.underlying63 rfl sz25 rfl rfl rfl) rfl ?_
  refine L_o (o_st1 S2d 0 rfl rfl rfl rfl sz25 (by simp; done) fun w3 S3 => ?_)
  refine L_nil ?_
  first | refine end0 (fn := Try.f30) rfl ?_ | (simp only [thenQ, inB, if_true]; refine end0 (fn := Try.f30) rfl ?_)
  exact ⟨_, rfl, Laid.of (S3.turned2 0 1 rfl rfl) rfl (by simp [bL, bV])⟩


set_option maxRecDepth 100000 in
theorem wraw (g : Nat) (A : Option Addr) (n c : Nat) (l : List UInt8) (B : Option Addr) (m d : Nat) (q : List UInt8) (w0 : World) (hw : (wt g A n c l).holds w0) (hp : Rs w0 1 B m d (bL q)) (hn : l.length + m ≤ 140737488355300) :
    Calls Try.prog 29 #[.pointer (some ⟨g, 0, none⟩), .slice B m d] w0 fun e w' => ∃ u, e = .returned u ∧ Laid w0 w' g A n c l (l ++ q) := by
  refine enter1 (env := [(0, .pointer (some ⟨g, 0, none⟩)), (1, .slice B m d)]) [.pointer (some ⟨g, 0, none⟩), .slice B m d] Try.func29 rfl Try.ntmps29 rfl rfl ?_
  have hln := wt_len hw; have S0 := St.borrow2 (blk g 63 #[.slice A n c]) (row 5 1 A n c (bL l)) hw.1 hw.2 (wt_lt hw) (wt_apart hw)
  refine T_seq fun K1 hK1 => ?_
  refine T_region ?_
  refine L_y (y_move rfl) rfl ?_
  refine L_y (y_pneqn Try.underlying23 rfl) rfl ?_
  refine L_nil ?_
  refine hK1 _ _ ?_
  refine T_true rfl ?_
  refine T_region ?_
  refine L_y (y_move rfl) rfl ?_
  refine L_y (y_move rfl) rfl ?_
  refine L_y (y_nilp rfl) rfl ?_
  refine L_y (y_fieldA 0 Try.underlying63 rfl sz25 rfl rfl rfl) rfl ?_
  refine L_y (y_ldc Try.underlying25 rfl rfl (((S0.blk 0 rfl).cell _).trans (show (#[Value.slice A n c] : Array Value)[0]? = some (Value.slice A n c) from rfl))) rfl ?_
  refine L_y (y_move rfl) rfl ?_
  refine L_o (o_app te25 S0 1 rfl rfl rfl (hp) (bL_one _) rfl (by omega) (by omega) fun A1 c1 w1 S1 => ?_)
  refine L_y (y_nilp rfl) rfl ?_
  refine L_y (y_fieldA 0 Try.underlying63 rfl sz25 rfl rfl rfl) rfl ?_
  refine L_o (o_st1 S1 0 rfl rfl rfl rfl sz25 (by simp; done) fun w2 S2 => ?_)
  refine L_nil ?_
  first | refine end0 (fn := Try.f29) rfl ?_ | (simp only [thenQ, inB, if_true]; refine end0 (fn := Try.f29) rfl ?_)
  have hE := S2.turned2 0 1 rfl rfl
  exact ⟨_, rfl, Laid.of hE rfl (by simp [bL])⟩


set_option maxRecDepth 100000 in
theorem wlen (g : Nat) (A : Option Addr) (n c : Nat) (l : List UInt8) (w0 : World) (hw : (wt g A n c l).holds w0) :
    Calls Try.prog 11 #[.pointer (some ⟨g, 0, none⟩)] w0 fun e w' => ∃ u, e = .returned u ∧ Like w0 w' ∧ u = .int .i64 (n : Int) := by
  refine enter1 (env := [(0, .pointer (some ⟨g, 0, none⟩))]) [.pointer (some ⟨g, 0, none⟩)] Try.func11 rfl Try.ntmps11 rfl rfl ?_
  have S0 := St.start w0 noM
  refine T_seq fun K1 hK1 => ?_
  refine T_region ?_
  refine L_y (y_assign rfl) rfl ?_
  refine L_nil ?_
  refine hK1 _ _ ?_
  refine T_seq fun K2 hK2 => ?_
  refine T_seq fun K3 hK3 => ?_
  refine T_region ?_
  refine L_y (y_move rfl) rfl ?_
  refine L_y (y_peqn Try.underlying23 rfl) rfl ?_
  refine L_nil ?_
  refine hK3 _ _ ?_
  refine T_false rfl ?_
  refine T_skip ?_
  refine hK2 _ _ ?_
  refine T_seq fun K4 hK4 => ?_
  refine T_region ?_
  refine L_y (y_move rfl) rfl ?_
  refine L_y (y_nilp rfl) rfl ?_
  refine L_y (y_fieldA 0 Try.underlying63 rfl sz25 rfl rfl rfl) rfl ?_
  refine L_y (y_ldc Try.underlying25 rfl rfl ((hw.1.cell _).trans (show (#[Value.slice A n c] : Array Value)[0]? = some (Value.slice A n c) from rfl))) rfl ?_
  refine L_y (y_len Try.underlying25 rfl) rfl ?_
  refine L_y (y_assign rfl) rfl ?_
  refine L_nil ?_
  refine hK4 _ _ ?_
  refine T_ret ?_
  refine ur ?_
  refine ret1 rfl rfl ?_
  exact ⟨_, rfl, S0.like0, rfl⟩


set_option maxRecDepth 100000 in
theorem wnew  (w0 : World)  :
    Calls Try.prog 8 #[] w0 fun e w' => ∃ u, e = .returned u ∧ Like w0 w' ∧ ∃ b, u = .pointer (some ⟨b, 0, none⟩) ∧ w0.heap.size ≤ b ∧ (wt b none 0 0 []).holds w' := by
  refine enter1 (env := []) [] Try.func8 rfl Try.ntmps8 rfl rfl ?_
  have S0 := St.start w0 noM
  refine T_seq fun K1 hK1 => ?_
  refine T_region ?_
  refine L_y (y_assign rfl) rfl ?_
  refine L_nil ?_
  refine hK1 _ _ ?_
  refine T_seq fun K2 hK2 => ?_
  refine T_region ?_
  refine L_y (y_build rfl (show _ = some #[Value.slice none 0 0] by kernel_rfl)) rfl ?_
  refine L_o (o_box rfl S0 rfl fun b1 w1 hb1 S1 => ?_)
  refine L_y (y_assign rfl) rfl ?_
  refine L_nil ?_
  refine hK2 _ _ ?_
  refine T_ret ?_
  refine ur ?_
  refine ret1 rfl rfl ?_
  exact ⟨_, rfl, S1.like0, b1, rfl, hb1, (S1.get 0 rfl), ⟨by simp [bL], .inl ⟨rfl, rfl⟩⟩⟩
end Go.Proofs.Ytcbnhmcfdpcbhaa


/-
  U32, U64, Var, Text, Bytes.
-/
namespace Go.Proofs.Ytcbnhmcfdpcbhaa
open Go.RowKit Zk Zx
set_option linter.unusedVariables false
set_option linter.unusedSimpArgs false

theorem w32 (y : Nat) : IntKind.u32.wrap (y : Int) = ((y % 4294967296 : Nat) : Int) := by
  rw [IntKind.wrap_u32]
  omega
/-- A number by sevens, the lowest first. -/
def vr (x : Nat) : List UInt8 := if h : 128 ≤ x then UInt8.ofNat (x % 128 + 128) :: vr (x / 128) else [UInt8.ofNat x]
termination_by x
decreasing_by omega
theorem vr_big (x : Nat) (h : 128 ≤ x) : vr x = UInt8.ofNat (x % 128 + 128) :: vr (x / 128) := by rw [vr, dif_pos h]
theorem vr_low (x : Nat) (h : x < 128) : vr x = [UInt8.ofNat x] := by rw [vr, dif_neg (by omega)]
set_option maxRecDepth 100000 in
theorem orBits : ∀ m : Fin 256, bits .or .u8 (m.val : Int) 128 = ((UInt8.ofNat (m.val % 128 + 128)).toNat : Int) := by decide
theorem shr7 (x : Nat) : Int.fdiv (x : Int) (2 ^ (min (7 : Int).toNat IntKind.u64.bits)) = ((x / 128 : Nat) : Int) := by
  have e1 : min (7 : Int).toNat IntKind.u64.bits = 7 := by decide
  rw [e1, Int.fdiv_eq_ediv_of_nonneg _ (Int.pow_nonneg (by omega)), Int.natCast_ediv]
  rfl


theorem orB (x : Nat) : bits .or .u8 ((x % 256 : Nat) : Int) 128 = ((UInt8.ofNat (x % 128 + 128)).toNat : Int) := by
  have h := orBits ⟨x % 256, by omega⟩
  rw [show (⟨x % 256, by omega⟩ : Fin 256).val = x % 256 from rfl] at h
  rw [h, show x % 256 % 128 = x % 128 by omega]
theorem w8 (y : Nat) : IntKind.u8.wrap (y : Int) = ((y % 256 : Nat) : Int) := by
  rw [IntKind.wrap_u8]
  omega
theorem w8low (y : Nat) (h : y < 128) : IntKind.u8.wrap (y : Int) = ((UInt8.ofNat y).toNat : Int) := by
  rw [IntKind.wrap_u8, UInt8.toNat_ofNat']
  omega
theorem vr_len (x : Nat) : ∀ k, x < 128 ^ (k + 1) → (vr x).length ≤ k + 1 := by
  intro k
  induction k generalizing x with
  | zero => intro h; rw [vr_low x (by simpa using h)]; simp
  | succ k ih =>
    intro h
    by_cases hb : 128 ≤ x
    · rw [vr_big x hb, List.length_cons]
      have := ih (x / 128) (by rw [Nat.pow_succ] at h; omega)
      omega
    · rw [vr_low x (by omega)]; simp
theorem vr_len10 (x : Nat) (h : x ≤ 18446744073709551615) : (vr x).length ≤ 10 := vr_len x 9 (by omega)


set_option maxRecDepth 100000 in
theorem wvar (g : Nat) (A : Option Addr) (n c : Nat) (l : List UInt8) (x : Nat) (w0 : World) (hw : (wt g A n c l).holds w0) (hx : x ≤ 18446744073709551615) (hn : l.length ≤ 140737488355100) :
    Calls Try.prog 20 #[.pointer (some ⟨g, 0, none⟩), .int .u64 (x : Int)] w0 fun e w' => ∃ u, e = .returned u ∧ Laid w0 w' g A n c l (l ++ vr x) := by
  refine enter1 (env := [(0, .pointer (some ⟨g, 0, none⟩)), (1, .int .u64 (x : Int))]) [.pointer (some ⟨g, 0, none⟩), .int .u64 (x : Int)] Try.func20 rfl Try.ntmps20 rfl rfl ?_
  have hln := wt_len hw; have S0 := St.borrow1 (wt g A n c l) hw (wt_lt hw)
  refine T_seq fun K1 hK1 => ?_
  refine T_region ?_
  refine L_y (y_move rfl) rfl ?_
  refine L_y (y_makeFunc rfl rfl) rfl ?_
  refine L_y (y_assign rfl) rfl ?_
  refine L_nil ?_
  refine hK1 _ _ ?_
  refine T_seq fun K2 hK2 => ?_
  refine T_block ?_
  refine T_loop2 [(4, _)] (fun (y : Nat) (m : List UInt8) => [(1, .int .u64 (y : Int))]) (fun (y : Nat) (m : List UInt8) => y) (fun (y : Nat) (m : List UInt8) (w : World) => (m ++ vr y = l ++ vr x ∧ y ≤ x ∧ m.length + (vr y).length ≤ 140737488355200) ∧ ∃ A1 n1 c1, St w0 (wt g A n c l).dom [wt g A1 n1 c1 m] w) x l (Sub.cons rfl (by first | rfl | exact congrArg (Value.int _) (by omega)) (Sub.nil _)) (Sub.cons rfl rfl (Sub.nil _)) ?_ ?_
  ·
    have := vr_len10 x hx
    exact ⟨⟨rfl, Nat.le_refl _, by omega⟩, _, _, _, S0⟩
  ·
    intro y m w1 hrel
    obtain ⟨⟨hm, hy, hml⟩, A1, n1, c1, S1⟩ := hrel
    have hg : m.length ≤ 140737488355200 := by omega
    refine T_seq fun K3 hK3 => ?_
    refine T_seq fun K4 hK4 => ?_
    refine T_region ?_
    refine L_y (y_move rfl) rfl ?_
    refine L_y (y_geq rfl rfl) rfl ?_
    refine L_nil ?_
    refine hK4 _ _ ?_
    refine T_cond rfl (fun h8 => ?_) (fun h8 => ?_)
    ·
      refine T_skip ?_
      refine hK3 _ _ ?_
      refine T_block ?_
      refine T_seq fun K5 hK5 => ?_
      refine T_region ?_
      refine L_y (y_move rfl) rfl ?_
      refine L_y (y_move rfl) rfl ?_
      refine L_y (y_conv is27 Try.underlying5 rfl (w8 _)) rfl ?_
      refine L_y (y_bits rfl rfl rfl (orB _)) rfl ?_
      refine L_o (o_callv rfl Try.func30 rfl rfl (wbyte g _ _ _ _ (UInt8.ofNat (y % 128 + 128)) w1 (S1.get 0 rfl) (by omega)) rfl rfl (fun d' hd => by cases hd <;> rfl) ?_)
      rintro e2 w2 ⟨v2, rfl, ⟨A2, n2, c2, T2⟩⟩
      refine ⟨_, rfl, ?_⟩
      have S2 := S1.turn 0 rfl T2
      refine L_nil ?_
      refine hK5 _ _ ?_
      refine T_region ?_
      refine L_y (y_move rfl) rfl ?_
      refine L_y (y_shr rfl rfl (by omega) (shr7 _)) rfl ?_
      refine L_y (y_assign rfl) rfl ?_
      refine L_nil ?_
      refine ⟨y / 128, m ++ [UInt8.ofNat (y % 128 + 128)], by omega, ⟨⟨by rw [← hm, vr_big y (by omega)]; simp, by omega, by rw [vr_big y (by omega)] at hml; simp at hml ⊢; omega⟩, _, _, _, S2⟩, ?_⟩
      exact (Sub.cons rfl (by first | rfl | exact congrArg (Value.int _) (by omega)) (Sub.cons rfl rfl (Sub.nil _)))
    ·
      refine T_exit ?_
      refine hK2 _ _ ?_
      refine T_region ?_
      refine L_y (y_move rfl) rfl ?_
      refine L_y (y_move rfl) rfl ?_
      refine L_y (y_conv is27 Try.underlying5 rfl (w8low _ (by omega))) rfl ?_
      refine L_o (o_callv rfl Try.func30 rfl rfl (wbyte g _ _ _ _ (UInt8.ofNat y) w1 (S1.get 0 rfl) (by omega)) rfl rfl (fun d' hd => by cases hd <;> rfl) ?_)
      rintro e3 w3 ⟨v3, rfl, ⟨A3, n3, c3, T3⟩⟩
      refine ⟨_, rfl, ?_⟩
      have S3 := S1.turn 0 rfl T3
      refine L_nil ?_
      first | refine end0 (fn := Try.f20) rfl ?_ | (simp only [thenQ, inB, if_true]; refine end0 (fn := Try.f20) rfl ?_)
      exact ⟨_, rfl, _, _, _, by rw [← hm, vr_low y (by omega)]; exact S3.turned1 0 rfl⟩


set_option maxRecDepth 100000 in
theorem wtext (g : Nat) (A : Option Addr) (n c : Nat) (l : List UInt8) (s : ByteArray) (w0 : World) (hw : (wt g A n c l).holds w0) (hn : l.length + s.size ≤ 140737488355000) :
    Calls Try.prog 21 #[.pointer (some ⟨g, 0, none⟩), .string s] w0 fun e w' => ∃ u, e = .returned u ∧ Laid w0 w' g A n c l (l ++ (vr s.size ++ s.data.toList)) := by
  refine enter1 (env := [(0, .pointer (some ⟨g, 0, none⟩)), (1, .string s)]) [.pointer (some ⟨g, 0, none⟩), .string s] Try.func21 rfl Try.ntmps21 rfl rfl ?_
  have hln := wt_len hw; have S0 := St.borrow1 (wt g A n c l) hw (wt_lt hw)
  refine T_seq fun K1 hK1 => ?_
  refine T_region ?_
  refine L_y (y_move rfl) rfl ?_
  refine L_y (y_move rfl) rfl ?_
  refine L_y (y_lens Try.underlying9 rfl) rfl ?_
  refine L_y (y_conv is3 Try.underlying27 rfl (u64w (by omega))) rfl ?_
  refine L_o (o_call Try.func20 rfl rfl (wvar g _ _ _ _ s.size w0 (S0.get 0 rfl) (by omega) (by omega)) rfl rfl ?_)
  rintro e1 w1 ⟨v1, rfl, ⟨A1, n1, c1, T1⟩⟩
  refine ⟨_, rfl, ?_⟩
  have S1 := S0.turn 0 rfl T1
  refine L_nil ?_
  refine hK1 _ _ ?_
  refine T_region ?_
  refine L_y (y_move rfl) rfl ?_
  refine L_y (y_move rfl) rfl ?_
  refine L_o (o_sbytes Try.underlying9 Try.underlying25 Try.underlying5 rfl (by omega) S1 rfl fun b2 c2 w2 l2 S2 => ?_)
  refine L_o (o_call Try.func29 rfl rfl (wraw g _ _ _ _ _ _ _ _ w2 (S2.get 0 rfl) (S2.get 1 rfl) (by have := vr_len10 s.size (by omega); simp; omega)) rfl rfl ?_)
  rintro e3 w3 ⟨v3, rfl, ⟨A3, n3, c3, T3⟩⟩
  refine ⟨_, rfl, ?_⟩
  have S3 := S2.turn 0 rfl T3
  refine L_nil ?_
  first | refine end0 (fn := Try.f21) rfl ?_ | (simp only [thenQ, inB, if_true]; refine end0 (fn := Try.f21) rfl ?_)
  exact ⟨_, rfl, _, _, _, by have h := S3.turned1 0 rfl; rwa [List.append_assoc] at h⟩


set_option maxRecDepth 100000 in
theorem wbytes (g : Nat) (A : Option Addr) (n c : Nat) (l : List UInt8) (w0 : World) (hw : (wt g A n c l).holds w0) (hn : l.length ≤ 140737488355200) :
    Calls Try.prog 13 #[.pointer (some ⟨g, 0, none⟩)] w0 fun e w' => ∃ u, e = .returned u ∧ Like w0 w' ∧ ∃ A' m c', u = .slice A' m c' ∧ w'.ownsRow w0.heap.size 5 1 (.slice A' m c') m (bL l) := by
  refine enter1 (env := [(0, .pointer (some ⟨g, 0, none⟩))]) [.pointer (some ⟨g, 0, none⟩)] Try.func13 rfl Try.ntmps13 rfl rfl ?_
  have hln := wt_len hw; have S0 := St.start w0 noM
  refine T_seq fun K1 hK1 => ?_
  refine T_region ?_
  refine L_y (y_assign rfl) rfl ?_
  refine L_nil ?_
  refine hK1 _ _ ?_
  refine T_seq fun K2 hK2 => ?_
  refine T_seq fun K3 hK3 => ?_
  refine T_region ?_
  refine L_y (y_move rfl) rfl ?_
  refine L_y (y_peqn Try.underlying23 rfl) rfl ?_
  refine L_y (y_move rfl) rfl ?_
  refine L_gyes rfl rfl ?_
  refine L_y (y_move rfl) rfl ?_
  refine L_gyes rfl rfl ?_
  refine L_y (y_nilp rfl) rfl ?_
  refine L_gyes rfl rfl ?_
  refine L_y (y_fieldA 0 Try.underlying63 rfl sz25 rfl rfl rfl) rfl ?_
  refine L_gyes rfl rfl ?_
  refine L_y (y_ldc Try.underlying25 rfl rfl (((S0.rdB hw.1).cell _).trans (show (#[Value.slice A n c] : Array Value)[0]? = some (Value.slice A n c) from rfl))) rfl ?_
  refine L_gyes rfl rfl ?_
  refine L_y (y_len Try.underlying25 rfl) rfl ?_
  refine L_gyes rfl rfl ?_
  refine L_y (y_eql rfl rfl) rfl ?_
  refine L_y (y_pk rfl rfl) rfl ?_
  refine L_nil ?_
  refine hK3 _ _ ?_
  refine T_cond rfl (fun h12 => ?_) (fun h12 => ?_)
  ·
    refine T_seq fun K4 hK4 => ?_
    refine T_region ?_
    refine L_y (y_assign rfl) rfl ?_
    refine L_nil ?_
    refine hK4 _ _ ?_
    refine T_ret ?_
    refine ur ?_
    refine ret1 rfl rfl ?_
    first | exact ⟨_, rfl, S0.like0, none, 0, 0, rfl, by have hn0 : n = 0 := (by omega); subst hn0; have hl0 := List.length_eq_zero_iff.1 hln; subst hl0; exact ⟨by simp [bL], .inl ⟨rfl, rfl⟩⟩⟩ | exact ⟨_, rfl, S0.like0, _, _, _, rfl, by have := S0.own 0 rfl; simpa using this⟩
  ·
    refine T_skip ?_
    refine hK2 _ _ ?_
    refine T_seq fun K5 hK5 => ?_
    refine T_zed [0, 1, 2, 3, 4, 6, 7, 8, 9, 5] 10 [(0, 1), (1, 1), (2, 1), (3, 1), (4, 1), (6, 1), (7, 1), (8, 1), (9, 1), (5, 2), (10, 3), (11, 3)] hmix (by kernel_rfl) fun w1 l1 => ?_
    have S1 := S0.like l1
    refine ZA_B (Like w1) (Like.refl _) ?_
    refine ZB_y rfl (y_move rfl) rfl ?_
    refine ZB_y rfl (y_nilp rfl) rfl ?_
    refine ZB_y rfl (y_fieldA 0 Try.underlying63 rfl sz25 rfl rfl rfl) rfl ?_
    refine ZB_y rfl (y_ldc Try.underlying25 rfl rfl (((S1.rdB hw.1).cell _).trans (show (#[Value.slice A n c] : Array Value)[0]? = some (Value.slice A n c) from rfl))) rfl ?_
    refine ZB_y rfl (y_len Try.underlying25 rfl) rfl ?_
    refine ZB_y rfl (y_move rfl) rfl ?_
    refine ZB_y rfl (y_nilp rfl) rfl ?_
    refine ZB_y rfl (y_fieldA 0 Try.underlying63 rfl sz25 rfl rfl rfl) rfl ?_
    refine ZB_y rfl (y_ldc Try.underlying25 rfl rfl (((S1.rdB hw.1).cell _).trans (show (#[Value.slice A n c] : Array Value)[0]? = some (Value.slice A n c) from rfl))) rfl ?_
    refine ZB_o rfl (o_makeL te25 rfl S1 rfl rfl inferInstance inferInstance rfl (by omega) (by omega) (by omega) fun b2 w2 l2 S2 => ?_)
    have q2 := l2
    refine ⟨q2, ?_⟩
    refine ZB_c rfl (o_app te25 S2 0 rfl rfl rfl (S2.rd (rs_of_row hw.2)) (bL_one _) rfl (by omega) (by omega) fun A3 c3 w3 S3 => ?_)
    refine ZA_oy rfl (y_assign rfl) rfl ?_
    refine ZA_nil ?_
    refine hK5 _ _ ?_
    refine T_ret ?_
    refine ur ?_
    refine ret1 rfl rfl ?_
    first | exact ⟨_, rfl, S3.like0, none, 0, 0, rfl, by have hn0 : n = 0 := (by omega); subst hn0; have hl0 := List.length_eq_zero_iff.1 hln; subst hl0; exact ⟨by simp [bL], .inl ⟨rfl, rfl⟩⟩⟩ | exact ⟨_, rfl, S3.like0, _, _, _, rfl, by have := S3.own 0 rfl; simpa using this⟩
end Go.Proofs.Ytcbnhmcfdpcbhaa


/-
  The document: Big, Var, Text, Same.
-/
namespace Go.Proofs.Ytcbnhmcfdpcbhaa
open Go.RowKit Zk Zx
set_option linter.unusedVariables false
set_option linter.unusedSimpArgs false

theorem byt_inj (l k : List UInt8) : decide ((⟨l.toArray⟩ : ByteArray) = ⟨k.toArray⟩) = decide (l = k) := by
  by_cases h : l = k
  · subst h; simp
  · have : (⟨l.toArray⟩ : ByteArray) ≠ ⟨k.toArray⟩ := fun e => h (by simpa using e)
    simp [h]


set_option maxRecDepth 100000 in
theorem same (A B : Option Addr) (n c m d : Nat) (a b : List UInt8) (w0 : World) (ha : Rs w0 1 A n c (bL a)) (hb : Rs w0 1 B m d (bL b)) :
    Calls Try.prog 12 #[.slice A n c, .slice B m d] w0 fun e w' => ∃ u, e = .returned u ∧ Like w0 w' ∧ u = .bool (decide (a = b)) := by
  refine enter1 (env := [(0, .slice A n c), (1, .slice B m d)]) [.slice A n c, .slice B m d] Try.func12 rfl Try.ntmps12 rfl rfl ?_
  have S0 := St.start w0 noM
  refine T_seq fun K1 hK1 => ?_
  refine T_region ?_
  refine L_y (y_assign rfl) rfl ?_
  refine L_nil ?_
  refine hK1 _ _ ?_
  refine T_seq fun K2 hK2 => ?_
  refine T_region ?_
  refine L_y (y_move rfl) rfl ?_
  refine L_y (y_bstr Try.underlying25 Try.underlying5 Try.underlying9 rfl (S0.rd ha)) rfl ?_
  refine L_y (y_move rfl) rfl ?_
  refine L_y (y_bstr Try.underlying25 Try.underlying5 Try.underlying9 rfl (S0.rd hb)) rfl ?_
  refine L_y (y_seql rfl rfl) rfl ?_
  refine L_y (y_assign rfl) rfl ?_
  refine L_nil ?_
  refine hK2 _ _ ?_
  refine T_ret ?_
  refine ur ?_
  refine ret1 rfl rfl ?_
  exact ⟨_, rfl, S0.like0, by rw [byt_inj]⟩


end Go.Proofs.Ytcbnhmcfdpcbhaa


/-
  The law: works, laid, lay.
-/
namespace Go.Proofs.Ytcbnhmcfdpcbhaa
open Go.RowKit Zk Zx
set_option linter.unusedVariables false
set_option linter.unusedSimpArgs false

theorem wt_fresh {w w' : World} {b : Nat} (h : w.heap.size ≤ b) (hw : (wt b none 0 0 []).holds w') : ∀ i, (wt b none 0 0 []).dom i → w.heap.size ≤ i ∧ i < w'.heap.size := fun i hi => by
  refine ⟨?_, wt_lt hw i hi⟩
  rcases hi with hi | hi
  · have hi' : i = b := hi
    omega
  · cases hi
theorem vr300 : vr 300 = [172, 2] := by
  rw [vr_big 300 (by omega), vr_low _ (by omega)]
  rfl
theorem vr2 : vr 2 = [2] := vr_low 2 (by omega)
theorem vr2s : vr (ByteArray.size { data := #[97, 98] }) = [2] := vr2
set_option maxRecDepth 100000 in
theorem works  (w0 : World)  :
    Calls Try.prog 14 #[] w0 fun e w' => ∃ u, e = .returned u ∧ Like w0 w' ∧ u = .bool true := by
  refine enter1 (env := []) [] Try.func14 rfl Try.ntmps14 rfl rfl ?_
  have S0 := St.start w0 noM
  refine T_seq fun K1 hK1 => ?_
  refine T_region ?_
  refine L_y (y_assign rfl) rfl ?_
  refine L_nil ?_
  refine hK1 _ _ ?_
  refine T_seq fun K2 hK2 => ?_
  refine T_region ?_
  refine L_o (o_call Try.func8 rfl rfl (wnew w0) rfl rfl ?_)
  rintro e1 w1 ⟨v1, rfl, l1, b1, rfl, hb1, hh1⟩
  refine ⟨_, rfl, ?_⟩
  have S1 := S0.new l1 _ hh1 (wt_fresh hb1 hh1)
  refine L_y (y_assign rfl) rfl ?_
  refine L_nil ?_
  refine hK2 _ _ ?_
  refine T_seq fun K3 hK3 => ?_
  refine T_region ?_
  refine L_y (y_move rfl) rfl ?_
  refine L_o (o_call Try.func20 rfl rfl (wvar _ _ _ _ _ 300 w1 (S1.get 0 rfl) (by omega) (by simp)) rfl rfl ?_)
  rintro e2 w2 ⟨v2, rfl, ⟨A2, n2, c2, T2⟩⟩
  refine ⟨_, rfl, ?_⟩
  have S2 := S1.turn 0 rfl T2
  refine L_nil ?_
  refine hK3 _ _ ?_
  refine T_seq fun K4 hK4 => ?_
  refine T_region ?_
  refine L_y (y_move rfl) rfl ?_
  refine L_o (o_call Try.func21 rfl rfl (wtext _ _ _ _ _ _ w2 (S2.get 0 rfl) (by have := vr_len10 300 (by omega); simp [ByteArray.size]; omega)) rfl rfl ?_)
  rintro e3 w3 ⟨v3, rfl, ⟨A3, n3, c3, T3⟩⟩
  refine ⟨_, rfl, ?_⟩
  have S3 := S2.turn 0 rfl T3
  refine L_nil ?_
  refine hK4 _ _ ?_
  refine T_seq fun K5 hK5 => ?_
  refine T_region ?_
  refine L_y (y_move rfl) rfl ?_
  refine L_o (o_call Try.func11 rfl rfl (wlen _ _ _ _ _ w3 (S3.get 0 rfl)) rfl rfl ?_)
  rintro e4 w4 ⟨v4, rfl, l4, rfl⟩
  refine ⟨_, rfl, ?_⟩
  have S4 := S3.like l4
  refine L_y (y_eql rfl rfl) rfl ?_
  refine L_y (y_move rfl) rfl ?_
  refine L_split 10 rfl (fun h10 => ?_) (fun h10 => ?_)
  ·
    refine L_gyes rfl rfl ?_
    refine L_y (y_move rfl) rfl ?_
    refine L_gyes rfl rfl ?_
    refine L_o (o_call Try.func13 rfl rfl (wbytes _ _ _ _ _ w4 (S4.get 0 rfl) (by have := vr_len10 300 (by omega); have := vr_len10 2 (by omega); simp [ByteArray.size]; omega)) rfl rfl ?_)
    rintro e6 w6 ⟨v6, rfl, l6, A6, m6, c6, rfl, O6⟩
    refine ⟨_, rfl, ?_⟩
    have S6 := S4.adopt l6 O6
    refine L_gyes rfl rfl ?_
    refine L_y (y_bstr Try.underlying25 Try.underlying5 Try.underlying9 rfl (S6.row 1 rfl)) rfl ?_
    refine L_gyes rfl rfl ?_
    refine L_y (y_seql rfl rfl) rfl ?_
    refine L_y (y_pk rfl rfl) rfl ?_
    refine L_y (y_assign rfl) rfl ?_
    refine L_nil ?_
    refine hK5 _ _ ?_
    refine T_ret ?_
    refine ur ?_
    refine ret1 rfl rfl ?_
    first | exact ⟨_, rfl, S6.like0, by rw [vr300, vr2s]; rfl⟩ | (have hl := wt_len (S6.get 0 rfl); rw [vr300, vr2s] at hl; exact absurd (by simp at hl; omega) h10)
  ·
    refine L_gno rfl rfl rfl ?_
    refine L_gno rfl rfl rfl ?_
    refine L_gno rfl rfl rfl ?_
    refine L_gno rfl rfl rfl ?_
    refine L_y (y_pk rfl rfl) rfl ?_
    refine L_y (y_assign rfl) rfl ?_
    refine L_nil ?_
    refine hK5 _ _ ?_
    refine T_ret ?_
    refine ur ?_
    refine ret1 rfl rfl ?_
    first | exact ⟨_, rfl, S4.like0, by rw [vr300, vr2s]; rfl⟩ | (have hl := wt_len (S4.get 0 rfl); rw [vr300, vr2s] at hl; exact absurd (by simp at hl; omega) h10)


end Go.Proofs.Ytcbnhmcfdpcbhaa


/-
  The law: lay.
-/
namespace Go.Proofs.Ytcbnhmcfdpcbhaa
open Go.RowKit Zk Zx
set_option linter.unusedVariables false
set_option linter.unusedSimpArgs false

end Go.Proofs.Ytcbnhmcfdpcbhaa


/-
  The Reader.
-/
namespace Go.Proofs.Ytcbnhmcfdpcbhaa
open Go.RowKit Zk Zx
set_option linter.unusedVariables false
set_option linter.unusedSimpArgs false

def rdr (g : Nat) (A : Option Addr) (n c : Nat) (l : List UInt8) (p q : Nat) : Res := both (blk g 68 #[.slice A n c, .int .i64 (p : Int), .int .i64 (q : Int)]) (row 5 1 A n c (bL l))
theorem rdr_apart {w : World} {g n c p q : Nat} {A : Option Addr} {l : List UInt8} (h : (rdr g A n c l p q).holds w) : ∀ i, (blk g 68 #[.slice A n c, .int .i64 (p : Int), .int .i64 (q : Int)]).dom i → ¬ (row 5 1 A n c (bL l)).dom i := fun i hi hr => by
  have hi' : i = g := hi
  subst hi'
  exact own_blk_ne (e := 5) h.2 h.1 (by decide) hr
theorem rdr_lt {w : World} {g n c p q : Nat} {A : Option Addr} {l : List UInt8} (h : (rdr g A n c l p q).holds w) : ∀ i, (rdr g A n c l p q).dom i → i < w.heap.size := fun i hi => by
  rcases hi with hi | hi
  · have hi' : i = g := hi
    subst hi'
    exact Blk.lt h.1
  · exact (World.ownsRow.lt h.2 i hi).2
theorem rdr_len {w : World} {g n c p q : Nat} {A : Option Addr} {l : List UInt8} (h : (rdr g A n c l p q).holds w) : l.length = n := by
  have := h.2.1
  simpa using this
/-- What so many bytes are, where they begin, and what is wrong. -/
def tkL (l : List UInt8) (p k : Nat) : List UInt8 := if k ≤ l.length - p then (l.drop p).take k else []
def tkP (l : List UInt8) (p k : Nat) : Nat := if k ≤ l.length - p then p + k else p
def tkE (l : List UInt8) (p k q : Nat) : Nat := if k ≤ l.length - p then q else 10
theorem fresh_ {w0 w : World} {rs : List Res} (S : St w0 noM rs w) (k : Nat) {r : Res} (hk : rs[k]? = some r) : ∀ i, r.dom i → w0.heap.size ≤ i ∧ i < w.heap.size := fun i hi => by
  have := (S.res r (List.mem_of_getElem? hk)).2 i hi
  rcases this.2 with h | h
  · exact ⟨h, this.1⟩
  · exact h.elim
theorem Rdd.of {w w' : World} {g n c p q : Nat} {A : Option Addr} {l : List UInt8} {r : Res} {X : Array Value} (h : Turned w w' r (both (blk g 68 X) (row 5 1 A n c (bL l)))) (hX : X = #[.slice A n c, .int .i64 (p : Int), .int .i64 (q : Int)]) : Turned w w' r (rdr g A n c l p q) := by
  subst hX
  exact h


set_option maxRecDepth 100000 in
theorem rdead (g : Nat) (A : Option Addr) (n c : Nat) (l : List UInt8) (p q : Nat) (w0 : World) (hw : (rdr g A n c l p q).holds w0) (hp : p ≤ l.length) :
    Calls Try.prog 36 #[.pointer (some ⟨g, 0, none⟩)] w0 fun e w' => ∃ u, e = .returned u ∧ Like w0 w' ∧ u = .bool (decide ((q : Int) ≠ 0)) := by
  refine enter1 (env := [(0, .pointer (some ⟨g, 0, none⟩))]) [.pointer (some ⟨g, 0, none⟩)] Try.func36 rfl Try.ntmps36 rfl rfl ?_
  have hnl := rdr_len hw; have hnc := ownsRow_cap hw.2; have S0 := St.start w0 noM
  refine T_seq fun K1 hK1 => ?_
  refine T_region ?_
  refine L_y (y_assign rfl) rfl ?_
  refine L_nil ?_
  refine hK1 _ _ ?_
  refine T_seq fun K2 hK2 => ?_
  refine T_region ?_
  refine L_y (y_move rfl) rfl ?_
  refine L_y (y_peqn Try.underlying36 rfl) rfl ?_
  refine L_y (y_move rfl) rfl ?_
  refine L_gyes rfl rfl ?_
  refine L_y (y_move rfl) rfl ?_
  refine L_gyes rfl rfl ?_
  refine L_y (y_nilp rfl) rfl ?_
  refine L_gyes rfl rfl ?_
  refine L_y (y_fieldA 2 Try.underlying68 rfl sz40 rfl rfl rfl) rfl ?_
  refine L_gyes rfl rfl ?_
  refine L_y (y_ldc Try.underlying40 rfl rfl (((S0.rdB hw.1).cell _).trans (show (#[.slice A n c, .int .i64 (p : Int), .int .i64 (q : Int)] : Array Value)[2]? = some (Value.int .i64 (q : Int)) from rfl))) rfl ?_
  refine L_gyes rfl rfl ?_
  refine L_y (y_neq rfl rfl) rfl ?_
  refine L_y (y_pickF rfl rfl) rfl ?_
  refine L_y (y_assign rfl) rfl ?_
  refine L_nil ?_
  refine hK2 _ _ ?_
  refine T_ret ?_
  refine ur ?_
  refine ret1 rfl rfl ?_
  exact ⟨_, rfl, S0.like0, rfl⟩


set_option maxRecDepth 100000 in
theorem rtake (g : Nat) (A : Option Addr) (n c : Nat) (l : List UInt8) (p q : Nat) (k : Nat) (w0 : World) (hw : (rdr g A n c l p q).holds w0) (hp : p ≤ l.length) (hk63 : k ≤ 9223372036854775807) (hn62 : n ≤ 4611686018427387904) :
    Calls Try.prog 39 #[.pointer (some ⟨g, 0, none⟩), .int .i64 (k : Int)] w0 fun e w' => ∃ u, e = .returned u ∧ ∃ B c2, u = .slice B (tkL l p k).length c2 ∧ Rs w' 1 B (tkL l p k).length c2 (bL (tkL l p k)) ∧ Turned w0 w' (rdr g A n c l p q) (rdr g A n c l (tkP l p k) (tkE l p k q)) := by
  refine enter1 (env := [(0, .pointer (some ⟨g, 0, none⟩)), (1, .int .i64 (k : Int))]) [.pointer (some ⟨g, 0, none⟩), .int .i64 (k : Int)] Try.func39 rfl Try.ntmps39 rfl rfl ?_
  have hnl := rdr_len hw; have hnc := ownsRow_cap hw.2; have S0 := St.borrow2 (blk g 68 #[.slice A n c, .int .i64 (p : Int), .int .i64 (q : Int)]) (row 5 1 A n c (bL l)) hw.1 hw.2 (rdr_lt hw) (rdr_apart hw)
  refine T_seq fun K1 hK1 => ?_
  refine T_region ?_
  refine L_y (y_assign rfl) rfl ?_
  refine L_nil ?_
  refine hK1 _ _ ?_
  refine T_seq fun K2 hK2 => ?_
  refine T_seq fun K3 hK3 => ?_
  refine T_drawnL [(0, true), (1, true), (2, true), (3, true), (4, true), (5, true), (6, true), (7, true), (8, true), (9, true), (10, true), (11, true)] hmix (by kernel_rfl) fun w1 l1 => ?_
  have S1 := S0.like l1
  refine DL_y rfl (y_move rfl) rfl ?_
  refine DL_y rfl (y_move rfl) rfl ?_
  refine DL_y rfl (y_nilp rfl) rfl ?_
  refine DL_y rfl (y_fieldA 0 Try.underlying68 rfl sz25 rfl rfl rfl) rfl ?_
  refine DL_y rfl (y_ldc Try.underlying25 rfl rfl (((S1.blk 0 rfl).cell _).trans (by rfl))) rfl ?_
  refine DL_y rfl (y_len Try.underlying25 rfl) rfl ?_
  refine DL_y rfl (y_move rfl) rfl ?_
  refine DL_y rfl (y_nilp rfl) rfl ?_
  refine DL_y rfl (y_fieldA 1 Try.underlying68 rfl sz3 rfl rfl rfl) rfl ?_
  refine DL_y rfl (y_ldc Try.underlying3 rfl rfl (((S1.blk 0 rfl).cell _).trans (by rfl))) rfl ?_
  refine DL_y rfl (y_sub rfl rfl (i64w (by omega))) rfl ?_
  refine DL_y rfl (y_gtr rfl rfl) rfl ?_
  refine DL_nil ?_
  refine hK3 _ _ ?_
  refine T_cond rfl (fun h17 => ?_) (fun h17 => ?_)
  ·
    have hk : ¬ k ≤ l.length - p := by omega
    refine T_seq fun K4 hK4 => ?_
    refine T_region ?_
    refine L_y (y_move rfl) rfl ?_
    refine L_y (y_nilp rfl) rfl ?_
    refine L_y (y_fieldA 2 Try.underlying68 rfl sz40 rfl rfl rfl) rfl ?_
    refine L_o (o_st1 S1 0 rfl rfl rfl rfl sz40 (by simp; done) fun w2 S2 => ?_)
    refine L_nil ?_
    refine hK4 _ _ ?_
    refine T_seq fun K5 hK5 => ?_
    refine T_region ?_
    refine L_y (y_assign rfl) rfl ?_
    refine L_nil ?_
    refine hK5 _ _ ?_
    refine T_ret ?_
    refine ur ?_
    refine ret1 rfl rfl ?_
    first | exact ⟨_, rfl, none, 0, (by rw [tkL, if_neg hk]; rfl), (by rw [tkL, if_neg hk]; exact Rs.nil _ _), Rdd.of (S2.turned2 0 1 rfl rfl) (by rw [tkP, tkE, if_neg hk, if_neg hk]; rfl)⟩ | exact ⟨_, rfl, cutA A c p 1, c - p, (by rw [e2]), (by rw [e2, e1]; exact (S2.row 1 rfl).cutb (by omega) (by omega)), Rdd.of (S2.turned2 0 1 rfl rfl) (by rw [tkP, tkE, if_pos hk, if_pos hk]; rfl)⟩
  ·
    have hk : k ≤ l.length - p := by omega
    have e1 : (tkL l p k) = (l.drop p).take (p + k - p) := by rw [tkL, if_pos hk]; congr 1; omega
    have e2 : (tkL l p k).length = p + k - p := by rw [e1, List.length_take, List.length_drop]; omega
    refine T_skip ?_
    refine hK2 _ _ ?_
    refine T_seq fun K6 hK6 => ?_
    refine T_drawnL [(0, true), (1, true), (2, true), (3, true), (4, true), (5, true), (6, true), (7, true), (8, true), (9, true), (10, true), (11, true), (12, true), (13, true), (14, true), (15, true)] hmix (by kernel_rfl) fun w3 l3 => ?_
    have S3 := S1.like l3
    refine DL_y rfl (y_move rfl) rfl ?_
    refine DL_y rfl (y_nilp rfl) rfl ?_
    refine DL_y rfl (y_fieldA 0 Try.underlying68 rfl sz25 rfl rfl rfl) rfl ?_
    refine DL_y rfl (y_ldc Try.underlying25 rfl rfl (((S3.blk 0 rfl).cell _).trans (by rfl))) rfl ?_
    refine DL_y rfl (y_move rfl) rfl ?_
    refine DL_y rfl (y_nilp rfl) rfl ?_
    refine DL_y rfl (y_fieldA 1 Try.underlying68 rfl sz3 rfl rfl rfl) rfl ?_
    refine DL_y rfl (y_ldc Try.underlying3 rfl rfl (((S3.blk 0 rfl).cell _).trans (by rfl))) rfl ?_
    refine DL_y rfl (y_move rfl) rfl ?_
    refine DL_y rfl (y_nilp rfl) rfl ?_
    refine DL_y rfl (y_fieldA 1 Try.underlying68 rfl sz3 rfl rfl rfl) rfl ?_
    refine DL_y rfl (y_ldc Try.underlying3 rfl rfl (((S3.blk 0 rfl).cell _).trans (by rfl))) rfl ?_
    refine DL_y rfl (y_move rfl) rfl ?_
    refine DL_y rfl (y_add rfl rfl (i64w (by omega))) rfl ?_
    refine DL_y rfl (y_slice Try.underlying25 sz5 rfl rfl rfl inferInstance inferInstance (by omega) (by omega)) rfl ?_
    refine DL_y rfl (y_assign rfl) rfl ?_
    refine DL_nil ?_
    refine hK6 _ _ ?_
    refine T_seq fun K7 hK7 => ?_
    refine T_region ?_
    refine L_y (y_move rfl) rfl ?_
    refine L_y (y_nilp rfl) rfl ?_
    refine L_y (y_fieldA 1 Try.underlying68 rfl sz3 rfl rfl rfl) rfl ?_
    refine L_y (y_ldc Try.underlying3 rfl rfl (((S3.blk 0 rfl).cell _).trans (by rfl))) rfl ?_
    refine L_y (y_move rfl) rfl ?_
    refine L_y (y_add rfl rfl (i64w (by omega))) rfl ?_
    refine L_y (y_nilp rfl) rfl ?_
    refine L_y (y_fieldA 1 Try.underlying68 rfl sz3 rfl rfl rfl) rfl ?_
    refine L_o (o_st1 S3 0 rfl rfl rfl rfl sz3 (by simp; done) fun w4 S4 => ?_)
    refine L_nil ?_
    refine hK7 _ _ ?_
    refine T_seq fun K8 hK8 => ?_
    refine T_region ?_
    refine L_y (y_move rfl) rfl ?_
    refine L_y (y_assign rfl) rfl ?_
    refine L_nil ?_
    refine hK8 _ _ ?_
    refine T_ret ?_
    refine ur ?_
    refine ret1 rfl rfl ?_
    first | exact ⟨_, rfl, none, 0, (by rw [tkL, if_neg hk]; rfl), (by rw [tkL, if_neg hk]; exact Rs.nil _ _), Rdd.of (S4.turned2 0 1 rfl rfl) (by rw [tkP, tkE, if_neg hk, if_neg hk]; rfl)⟩ | exact ⟨_, rfl, cutA A c p 1, c - p, (by rw [e2]), (by rw [e2, e1]; exact (S4.row 1 rfl).cutb (by omega) (by omega)), Rdd.of (S4.turned2 0 1 rfl rfl) (by rw [tkP, tkE, if_pos hk, if_pos hk]; rfl)⟩


set_option maxRecDepth 100000 in
theorem rfail (g : Nat) (A : Option Addr) (n c : Nat) (l : List UInt8) (p q : Nat) (p0 q0 : Nat) (w0 : World) (hw : (rdr g A n c l p q).holds w0) (hp : p ≤ l.length) :
    Calls Try.prog 45 #[.pointer (some ⟨g, 0, none⟩), .int .i64 (p0 : Int), .int .i64 (q0 : Int)] w0 fun e w' => ∃ u, e = .returned u ∧ Turned w0 w' (rdr g A n c l p q) (rdr g A n c l p0 q0) := by
  refine enter1 (env := [(0, .pointer (some ⟨g, 0, none⟩)), (1, .int .i64 (p0 : Int)), (2, .int .i64 (q0 : Int))]) [.pointer (some ⟨g, 0, none⟩), .int .i64 (p0 : Int), .int .i64 (q0 : Int)] Try.func45 rfl Try.ntmps45 rfl rfl ?_
  have hnl := rdr_len hw; have hnc := ownsRow_cap hw.2; have S0 := St.borrow2 (blk g 68 #[.slice A n c, .int .i64 (p : Int), .int .i64 (q : Int)]) (row 5 1 A n c (bL l)) hw.1 hw.2 (rdr_lt hw) (rdr_apart hw)
  refine T_seq fun K1 hK1 => ?_
  refine T_region ?_
  refine L_y (y_move rfl) rfl ?_
  refine L_y (y_move rfl) rfl ?_
  refine L_y (y_nilp rfl) rfl ?_
  refine L_y (y_fieldA 1 Try.underlying68 rfl sz3 rfl rfl rfl) rfl ?_
  refine L_o (o_st1 S0 0 rfl rfl rfl rfl sz3 (by simp; done) fun w1 S1 => ?_)
  refine L_nil ?_
  refine hK1 _ _ ?_
  refine T_region ?_
  refine L_y (y_move rfl) rfl ?_
  refine L_y (y_move rfl) rfl ?_
  refine L_y (y_nilp rfl) rfl ?_
  refine L_y (y_fieldA 2 Try.underlying68 rfl sz40 rfl rfl rfl) rfl ?_
  refine L_o (o_st1 S1 0 rfl rfl rfl rfl sz40 (by simp; done) fun w2 S2 => ?_)
  refine L_nil ?_
  first | refine end0 (fn := Try.f45) rfl ?_ | (simp only [thenQ, inB, if_true]; refine end0 (fn := Try.f45) rfl ?_)
  exact ⟨_, rfl, Rdd.of (S2.turned2 0 1 rfl rfl) rfl⟩


set_option maxRecDepth 100000 in
theorem rnew (B : Option Addr) (m d : Nat) (l : List UInt8) (w0 : World) (hb : Rs w0 1 B m d (bL l)) (hm : m ≤ 140737488355300) :
    Calls Try.prog 15 #[.slice B m d] w0 fun e w' => ∃ u, e = .returned u ∧ Like w0 w' ∧ ∃ g A c, u = .pointer (some ⟨g, 0, none⟩) ∧ (rdr g A m c l 0 0).holds w' ∧ ∀ i, (rdr g A m c l 0 0).dom i → w0.heap.size ≤ i ∧ i < w'.heap.size := by
  refine enter1 (env := [(0, .slice B m d)]) [.slice B m d] Try.func15 rfl Try.ntmps15 rfl rfl ?_
  have S0 := St.start w0 noM
  refine T_seq fun K1 hK1 => ?_
  refine T_region ?_
  refine L_y (y_assign rfl) rfl ?_
  refine L_nil ?_
  refine hK1 _ _ ?_
  refine T_seq fun K2 hK2 => ?_
  refine T_region ?_
  refine L_y (y_move rfl) rfl ?_
  refine L_o (o_app0 te25 S0 rfl rfl (S0.rd hb) (bL_one _) rfl (by omega) (by omega) fun A1 c1 w1 S1 => ?_)
  refine L_y (y_build rfl (show _ = some #[Value.slice A1 m c1, Value.int .i64 0, Value.int .i64 0] by kernel_rfl)) rfl ?_
  refine L_o (o_box rfl S1 rfl fun b2 w2 hb2 S2 => ?_)
  refine L_y (y_assign rfl) rfl ?_
  refine L_nil ?_
  refine hK2 _ _ ?_
  refine T_ret ?_
  refine ur ?_
  refine ret1 rfl rfl ?_
  exact ⟨_, rfl, S2.like0, _, _, _, rfl, ⟨S2.get 1 rfl, S2.get 0 rfl⟩, fun i hi => by rcases hi with hi | hi; exact fresh_ S2 1 rfl i hi; exact fresh_ S2 0 rfl i hi⟩
end Go.Proofs.Ytcbnhmcfdpcbhaa


/-
  The Reader: numbers.
-/
namespace Go.Proofs.Ytcbnhmcfdpcbhaa
open Go.RowKit Zk Zx
set_option linter.unusedVariables false
set_option linter.unusedSimpArgs false

/-- What reading so many bytes gives, where it ends, and what is wrong then. -/
def rwL (l : List UInt8) (p q k : Nat) : List UInt8 := if q = 0 then tkL l p k else []
def rwP (l : List UInt8) (p q k : Nat) : Nat := if q = 0 then tkP l p k else p
def rwE (l : List UInt8) (p q k : Nat) : Nat := if q = 0 then tkE l p k q else q
theorem tkE_ok {l : List UInt8} {p k q : Nat} (h : k ≤ l.length - p) : tkE l p k q = q := by rw [tkE, if_pos h]
theorem tk_le (l : List UInt8) (p k : Nat) : (tkL l p k).length ≤ k := by unfold tkL; split <;> simp <;> omega
theorem bL_getX {l : List UInt8} {k : Nat} {x : UInt8} (h : l[k]? = some x) : (bL l)[k]? = some (Value.int .u8 (x.toNat : Int)) := bL_get l k x h


/-- What reading so many bytes gives. -/
def rnL (l : List UInt8) (p q : Nat) (m : Int) : List UInt8 := if m < 0 then [] else rwL l p q m.toNat
def rnP (l : List UInt8) (p q : Nat) (m : Int) : Nat := if m < 0 then p else rwP l p q m.toNat
def rnE (l : List UInt8) (p q : Nat) (m : Int) : Nat := if m < 0 then (if q ≠ 0 then q else 3) else rwE l p q m.toNat


theorem rdr_same {g n c p q p' q' : Nat} {A : Option Addr} {l : List UInt8} {i : Nat} (h : (rdr g A n c l p q).dom i) : (rdr g A n c l p' q').dom i := h


set_option maxRecDepth 100000 in
theorem rraw (g : Nat) (A : Option Addr) (n c : Nat) (l : List UInt8) (p q : Nat) (m : Int) (w0 : World) (hw : (rdr g A n c l p q).holds w0) (hp : p ≤ l.length) (hn62 : n ≤ 140737488355300) (hm : m ≤ 9223372036854775807) :
    Calls Try.prog 27 #[.pointer (some ⟨g, 0, none⟩), .int .i64 m] w0 fun e w' => ∃ u, e = .returned u ∧ Turned w0 w' (rdr g A n c l p q) (rdr g A n c l (rnP l p q m) (rnE l p q m)) ∧ ∃ B c2, u = .slice B (rnL l p q m).length c2 ∧ (row 5 1 B (rnL l p q m).length c2 (bL (rnL l p q m))).holds w' ∧ ∀ i, (row 5 1 B (rnL l p q m).length c2 (bL (rnL l p q m))).dom i → w0.heap.size ≤ i := by
  refine enter1 (env := [(0, .pointer (some ⟨g, 0, none⟩)), (1, .int .i64 m)]) [.pointer (some ⟨g, 0, none⟩), .int .i64 m] Try.func27 rfl Try.ntmps27 rfl rfl ?_
  have hnl := rdr_len hw; have hnc := ownsRow_cap hw.2; have S0 := St.borrow1 (rdr g A n c l p q) hw (rdr_lt hw)
  refine T_seq fun K1 hK1 => ?_
  refine T_region ?_
  refine L_y (y_assign rfl) rfl ?_
  refine L_nil ?_
  refine hK1 _ _ ?_
  refine T_seq fun K2 hK2 => ?_
  refine T_seq fun K3 hK3 => ?_
  refine T_region ?_
  refine L_y (y_move rfl) rfl ?_
  refine L_o (o_call Try.func36 rfl rfl (rdead g A n c l p _ w0 (S0.get 0 rfl) hp) rfl rfl ?_)
  rintro e1 w1 ⟨v1, rfl, l1, rfl⟩
  refine ⟨_, rfl, ?_⟩
  have S1 := S0.like l1
  refine L_nil ?_
  refine hK3 _ _ ?_
  refine T_cond rfl (fun h6 => ?_) (fun h6 => ?_)
  ·
    refine T_seq fun K4 hK4 => ?_
    refine T_region ?_
    refine L_y (y_assign rfl) rfl ?_
    refine L_nil ?_
    refine hK4 _ _ ?_
    refine T_ret ?_
    refine ur ?_
    refine ret1 rfl rfl ?_
    have e1 : rnL l p q m = [] := by unfold rnL rwL; split; rfl; rw [if_neg (by omega)]
    have e2 : rnP l p q m = p := by unfold rnP rwP; split; rfl; rw [if_neg (by omega)]
    have e3 : rnE l p q m = q := by unfold rnE rwE; split; rw [if_pos (by omega)]; rw [if_neg (by omega)]
    exact ⟨_, rfl, by rw [e2, e3]; exact S1.turned1 0 rfl, none, 0, by rw [e1]; rfl, by rw [e1]; exact ⟨by simp [bL], .inl ⟨rfl, rfl⟩⟩, fun i hi => by rw [e1] at hi; simp [row, Value.ownBlock] at hi⟩
  ·
    have hq : q = 0 := by omega
    subst hq
    refine T_skip ?_
    refine hK2 _ _ ?_
    refine T_seq fun K5 hK5 => ?_
    refine T_seq fun K6 hK6 => ?_
    refine T_region ?_
    refine L_y (y_move rfl) rfl ?_
    refine L_y (y_lss rfl rfl) rfl ?_
    refine L_nil ?_
    refine hK6 _ _ ?_
    refine T_cond rfl (fun h8 => ?_) (fun h8 => ?_)
    ·
      refine T_seq fun K7 hK7 => ?_
      refine T_region ?_
      refine L_y (y_move rfl) rfl ?_
      refine L_y (y_move rfl) rfl ?_
      refine L_y (y_nilp rfl) rfl ?_
      refine L_y (y_fieldA 1 Try.underlying68 rfl sz3 rfl rfl rfl) rfl ?_
      refine L_y (y_ldc Try.underlying3 rfl rfl (((S1.get 0 rfl).1.cell _).trans (by rfl))) rfl ?_
      refine L_o (o_call Try.func45 rfl rfl (rfail g A n c l _ _ p 3 w1 (S1.get 0 rfl) hp) rfl rfl ?_)
      rintro e2 w2 ⟨v2, rfl, T2⟩
      refine ⟨_, rfl, ?_⟩
      have S2 := S1.turn 0 rfl T2
      refine L_nil ?_
      refine hK7 _ _ ?_
      refine T_seq fun K8 hK8 => ?_
      refine T_region ?_
      refine L_y (y_assign rfl) rfl ?_
      refine L_nil ?_
      refine hK8 _ _ ?_
      refine T_ret ?_
      refine ur ?_
      refine ret1 rfl rfl ?_
      have e1 : rnL l p 0 m = [] := by rw [rnL, if_pos (by omega)]
      have e2 : rnP l p 0 m = p := by rw [rnP, if_pos (by omega)]
      have e3 : rnE l p 0 m = 3 := by rw [rnE, if_pos (by omega)]; rfl
      exact ⟨_, rfl, by rw [e2, e3]; exact S2.turned1 0 rfl, none, 0, by rw [e1]; rfl, by rw [e1]; exact ⟨by simp [bL], .inl ⟨rfl, rfl⟩⟩, fun i hi => by rw [e1] at hi; simp [row, Value.ownBlock] at hi⟩
    ·
      obtain ⟨k, rfl⟩ : ∃ k : Nat, m = (k : Int) := ⟨m.toNat, by omega⟩
      refine T_skip ?_
      refine hK5 _ _ ?_
      refine T_seq fun K9 hK9 => ?_
      refine T_region ?_
      refine L_y (y_move rfl) rfl ?_
      refine L_y (y_move rfl) rfl ?_
      refine L_o (o_call Try.func39 rfl rfl (rtake g A n c l p _ k w1 (S1.get 0 rfl) hp (by omega) (by omega)) rfl rfl ?_)
      rintro e3 w3 ⟨v3, rfl, B3, d3, rfl, RR, T3⟩
      refine ⟨_, rfl, ?_⟩
      have S3 := S1.turn 0 rfl T3
      have htl := tk_le l p k
      have htn : (tkL l p k).length ≤ l.length := by unfold tkL; split; simp; omega; simp
      refine L_o (o_app0 te25 S3 rfl rfl (RR) (bL_one _) rfl (by omega) (by omega) fun A4 c4 w4 S4 => ?_)
      refine L_y (y_assign rfl) rfl ?_
      refine L_nil ?_
      refine hK9 _ _ ?_
      refine T_ret ?_
      refine ur ?_
      refine ret1 rfl rfl ?_
      have e1 : rnL l p 0 (k : Int) = tkL l p k := by rw [rnL, if_neg (by omega), rwL, if_pos rfl, Int.toNat_natCast]
      have e2 : rnP l p 0 (k : Int) = tkP l p k := by rw [rnP, if_neg (by omega), rwP, if_pos rfl, Int.toNat_natCast]
      have e3 : rnE l p 0 (k : Int) = tkE l p k 0 := by rw [rnE, if_neg (by omega), rwE, if_pos rfl, Int.toNat_natCast]
      exact ⟨_, rfl, by rw [e2, e3]; exact S4.turned1 0 rfl, _, _, by rw [e1], by rw [e1]; exact S4.get 1 rfl, fun i hi => by rw [e1] at hi; have h9 := (S4.res _ (List.mem_of_getElem? (show _ = some _ from (rfl : [rdr g A n c l (tkP l p k) (tkE l p k 0), _][1]? = some _)))).2 i hi; rcases h9.2 with h9 | h9; exact h9; exact absurd hi (St.apart_ S4 0 1 rfl rfl rfl i (rdr_same h9))⟩


end Go.Proofs.Ytcbnhmcfdpcbhaa


/-
  Numbers by sevens: what is read is what is written, and the other way round.
-/
namespace Go.Proofs.Ytcbnhmcfdpcbhaa
open Go.RowKit Zk Zx
set_option linter.unusedVariables false
end Go.Proofs.Ytcbnhmcfdpcbhaa


/-
  The document: the Reader.
-/
namespace Go.Proofs.Ytcbnhmcfdpcbhaa
open Go.RowKit Zk Zx
set_option linter.unusedVariables false
set_option linter.unusedSimpArgs false

end Go.Proofs.Ytcbnhmcfdpcbhaa


/-
  A law's arguments, opened: slices of elements of many cells. General; nothing here names a program.
-/
namespace Go.Proofs.Ytcbnhmcfdpcbhaa.Zx
open Go.ChangeShapes Go.WideShapes Go.ChangeAt Go.RowKit Go.Deep Zk
set_option linter.unusedVariables false
section
variable {H : Type} {enc : TypeId × Value → H} {P : Program} {w : World} {base : Nat} {spare : Nat → Bool} {held : Bool}
theorem flat_len {α : Type} (f : α → List Value) (size : Nat) (hlen : ∀ y, (f y).length = size) : ∀ l : List α, (l.flatMap f).length = l.length * size
  | [] => by simp
  | y :: l => by rw [List.flatMap_cons, List.length_append, hlen, flat_len f size hlen l, List.length_cons, Nat.succ_mul]; omega
theorem flat_get {α : Type} (f : α → List Value) (size : Nat) (hlen : ∀ y, (f y).length = size) : ∀ (l : List α) (j : Nat) (u : Value), (l.flatMap f)[j]? = some u → ∃ i y, l[i]? = some y ∧ i * size ≤ j ∧ (f y)[j - i * size]? = some u
  | [], j, u, h => by simp at h
  | y :: l, j, u, h => by
    rw [List.flatMap_cons, List.getElem?_append, hlen] at h
    split at h
    · exact ⟨0, y, rfl, by omega, by simpa using h⟩
    · obtain ⟨i, z, h1, h2, h3⟩ := flat_get f size hlen l (j - size) u h
      exact ⟨i + 1, z, by simpa using h1, by rw [Nat.succ_mul]; omega, by rw [Nat.succ_mul, show j - (i * size + size) = j - size - i * size by omega]; exact h3⟩
end
section
variable {P : Program} {env : Env} {w : World} {dst : Option Tmp} {ty : TypeId} {pos : String} {after : Array Edge} {g : Option (Nat × Bool)}
end
end Go.Proofs.Ytcbnhmcfdpcbhaa.Zx


/-
  The second form's bound: what it gives of a law's arguments. General; nothing here names a program.
-/
namespace Go.Proofs.Ytcbnhmcfdpcbhaa.Zx
open Go.ChangeShapes Go.WideShapes Go.ChangeAt Go.RowKit Go.Deep Zk
set_option linter.unusedVariables false
section
variable {H : Type} {enc : TypeId × Value → H} {P : Program} {w : World} {base : Nat} {spare : Nat → Bool} {held : Bool}
theorem flat_one {α : Type} (f : α → Value) : ∀ l : List α, l.flatMap (fun y => [f y]) = l.map f
  | [] => rfl
  | y :: l => by rw [List.flatMap_cons, flat_one f l]; rfl
end
end Go.Proofs.Ytcbnhmcfdpcbhaa.Zx


/-
  The law OctetJust.
-/
namespace Go.Proofs.Ytcbnhmcfdpcbhaa
open Go.RowKit Zk Zx
set_option linter.unusedVariables false
set_option linter.unusedSimpArgs false

end Go.Proofs.Ytcbnhmcfdpcbhaa


/-
  The law: took.
-/
namespace Go.Proofs.Ytcbnhmcfdpcbhaa
open Go.RowKit Zk Zx
set_option linter.unusedVariables false
set_option linter.unusedSimpArgs false

end Go.Proofs.Ytcbnhmcfdpcbhaa


/-
  The law OctetTakes.
-/
namespace Go.Proofs.Ytcbnhmcfdpcbhaa
open Go.RowKit Zk Zx
set_option linter.unusedVariables false
set_option linter.unusedSimpArgs false

end Go.Proofs.Ytcbnhmcfdpcbhaa


/-
  The law OctetLays.
-/
namespace Go.Proofs.Ytcbnhmcfdpcbhaa
open Go.RowKit Zk Zx
set_option linter.unusedVariables false
set_option linter.unusedSimpArgs false

end Go.Proofs.Ytcbnhmcfdpcbhaa


/-
  The law's argument: a list of calls, opened.
-/
namespace Go.Proofs.Ytcbnhmcfdpcbhaa
open Go.RowKit Zk Zx
open Go.ChangeShapes Go.WideShapes Go.ChangeAt Go.Deep
set_option linter.unusedVariables false
section
variable {H : Type} {enc : TypeId × Value → H} {w : World} {base : Nat} {spare : Nat → Bool} {held : Bool}
end
end Go.Proofs.Ytcbnhmcfdpcbhaa


/-
  The law's argument: a list of reads, opened.
-/
namespace Go.Proofs.Ytcbnhmcfdpcbhaa
open Go.RowKit Zk Zx
open Go.ChangeShapes Go.WideShapes Go.ChangeAt Go.Deep
set_option linter.unusedVariables false
section
variable {H : Type} {enc : TypeId × Value → H} {w : World} {base : Nat} {spare : Nat → Bool} {held : Bool}
end
end Go.Proofs.Ytcbnhmcfdpcbhaa
