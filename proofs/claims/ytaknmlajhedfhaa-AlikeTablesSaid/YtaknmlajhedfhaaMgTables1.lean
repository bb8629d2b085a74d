import Derived.WalkKit
import Derived.WalkSpells
import Derived.WalkLawsBesides
import Derived.Deep.AppendLies
import Derived.Deep.Draws
import Derived.Deep.QuietTactic
import Derived.BigQuiet
import Derived.StillTailTactics
import Derived.Maps.AppendAt
import Derived.RegionTactic
import Derived.Lib.Hide
import Derived.Deep.RegionHeld3
import Derived.Deep.MidRow
import Derived.Handy
import Derived.Defers
import Derived.Maps.RangeWalk
import Derived.Maps.OwnOps
import Derived.Maps.OwnSet
import Derived.ProofKit
import Derived.OpenShut
import Derived.ShutString
import Derived.ChangeOld
import Derived.Below
import Derived.Deep.Slices
import Derived.Test.YtaknmlajhedfhaaRows

/-
  General laws for walks over byte rows, arrays and blocks. Nothing here names a program.
-/
namespace Go.Proofs.Ytaknmlajhedfhaa.Zk
open Go.RowKit
set_option linter.unusedVariables false

theorem block_of_add (a : Addr) (n : Nat) : (a.add n).block = a.block := by unfold Addr.add; split <;> rfl
theorem add_of_add (a : Addr) (i j : Nat) : (a.add i).add j = a.add (i + j) := by
  unfold Addr.add
  by_cases hi : i = 0 <;> by_cases hj : j = 0 <;> simp [hi, hj, Nat.add_assoc]

def Reads (w : World) (B size : Nat) (A : Option Addr) (n : Nat) (xs : List Value) : Prop :=
  xs.length = n * size ∧ (0 < n → ∃ ad, A = some ad ∧ ad.block < B ∧ ∀ j u, xs[j]? = some u → w.cell? (ad.add j) = some u)

section
variable {w w' : World} {B B' size n : Nat} {A : Option Addr} {xs : List Value}
theorem Reads.none_ : Reads w B size A 0 [] := ⟨by simp, fun h => absurd h (by omega)⟩
theorem Reads.at_ {k : Nat} (h : Reads w B 1 A n xs) (hk : k < n) : ∃ ad u, A = some ad ∧ ad.block < B ∧ xs[k]? = some u ∧ w.cell? (ad.add k) = some u := by
  obtain ⟨ad, e, hb, hc⟩ := h.2 (by omega)
  have hl : k < xs.length := by have := h.1; omega
  exact ⟨ad, xs[k], e, hb, List.getElem?_eq_getElem hl, hc k _ (List.getElem?_eq_getElem hl)⟩
theorem Reads.keep (h : Reads w B size A n xs) (hk : ∀ p : Addr, p.block < B → w'.cell? p = w.cell? p) : Reads w' B size A n xs :=
  ⟨h.1, fun hn => by
    obtain ⟨ad, e, hb, hc⟩ := h.2 hn
    exact ⟨ad, e, hb, fun j u hu => (hk _ (by rw [block_of_add]; exact hb)).trans (hc j u hu)⟩⟩
theorem Reads.more (h : Reads w B size A n xs) (hB : B ≤ B') : Reads w B' size A n xs :=
  ⟨h.1, fun hn => by
    obtain ⟨ad, e, hb, hc⟩ := h.2 hn
    exact ⟨ad, e, by omega, hc⟩⟩
theorem Reads.below (h : Reads w B size A n xs) (hb : Below B w w') : Reads w' B size A n xs := h.keep fun _ hp => hb.cell hp
theorem Reads.drew (h : Reads w B size A n xs) : Reads w.drew B size A n xs := h
theorem Reads.drewN (h : Reads w B size A n xs) (k : Nat) : Reads (w.drewN k) B size A n xs := h
theorem Reads.alloc (h : Reads w B size A n xs) (hB : B ≤ w.heap.size) (o : Obj) : Reads (w.alloc o) B size A n xs := h.keep fun p hp => World.cell?_alloc_lt w o p (by omega)
theorem Reads.setCell (h : Reads w B size A n xs) {p : Addr} (hB : B ≤ p.block) (u : Value) : Reads (w.setCell p u) B size A n xs :=
  h.keep fun q hq => World.cell?_setCell_other w p q u (fun e => by subst e; omega)
theorem Reads.cut (h : Reads w B size A n xs) {k cap : Nat} (hk : k ≤ n) (hc : n ≤ cap) :
    Reads w B size (if cap = k then A else A.map (·.add (k * size))) (n - k) (xs.drop (k * size)) := by
  refine ⟨by rw [List.length_drop, h.1, Nat.sub_mul], fun hn => ?_⟩
  obtain ⟨ad, rfl, hb, hcell⟩ := h.2 (by omega)
  rw [if_neg (by omega)]
  refine ⟨ad.add (k * size), rfl, by rw [block_of_add]; exact hb, fun j u hu => ?_⟩
  rw [add_of_add]
  exact hcell _ u (by rw [← hu, List.getElem?_drop])
theorem Reads.of_own {base : Nat} {e : TypeId} {c : Nat} (h : w.ownsRow base e size (.slice A n c) n xs) : Reads w w.heap.size size A n xs := by
  refine ⟨h.1, fun hn => ?_⟩
  obtain ⟨g, cap, hv, _, hlt⟩ := h.form hn
  have hA : A = some ⟨g, 0, none⟩ := by injection hv
  subst hA
  exact ⟨_, rfl, hlt, h.cells (g := g) rfl⟩
end

def Blk (w : World) (g : Nat) (t : TypeId) (cs : Array Value) : Prop := w.heap[g]? = some (.cells cs t (0, 0))

section
variable {w w' : World} {g : Nat} {t : TypeId} {cs : Array Value}
theorem Blk.lt (h : Blk w g t cs) : g < w.heap.size := by
  rcases Nat.lt_or_ge g w.heap.size with hlt | hge
  · exact hlt
  · unfold Blk at h; rw [Array.getElem?_eq_none hge] at h; cases h
theorem Blk.cell (h : Blk w g t cs) (i : Nat) : w.cell? ⟨g, i, none⟩ = cs[i]? := cell_of_row w g i cs t (0, 0) h
theorem Blk.frozen (h : Blk w g t cs) (i : Nat) : w.frozen? ⟨g, i, none⟩ = false := by
  unfold Blk at h
  simp [World.frozen?, h]
theorem Blk.new (w : World) (t : TypeId) (cs : Array Value) : Blk (w.alloc (.cells cs t)) w.heap.size t cs := heap_alloc_new w _
theorem Blk.drew (h : Blk w g t cs) : Blk w.drew g t cs := h
theorem Blk.drewN (h : Blk w g t cs) (n : Nat) : Blk (w.drewN n) g t cs := h
theorem Blk.alloc (h : Blk w g t cs) (o : Obj) : Blk (w.alloc o) g t cs := (Below.heap_alloc w o g h.lt).trans h
theorem Blk.below {B : Nat} (h : Blk w g t cs) (hb : Below B w w') (hg : g < B) : Blk w' g t cs := (hb.block g hg).trans h
end

section
variable {P : Program} (w : World)

theorem run_append_of_nil (base : Nat) (t ty e : TypeId) (i : TypeInfo) (size : Nat) (ht : P.underlying t = some (.slice e)) (hi : P.info? e = some i)
    (v : Value) (n : Nat) (xs : List Value) (hown : w.ownsRow base e size v n xs) (c : Nat) : (Builtin.append_ #[t, t] ty #[v, .slice none 0 c]).run P w = .ok v w := by
  rcases hown.2 with ⟨rfl, rfl⟩ | ⟨g, cap, cur, rfl, _, _, hnc, _⟩
  · simp [Builtin.append_, run_underlying ht, sizeOf, typeInfo, hi, Builtin.lenOf, Builtin.firstCells]
  · simp [Builtin.append_, run_underlying ht, sizeOf, typeInfo, hi, Builtin.lenOf, Builtin.firstCells, hnc, storeCells]

theorem run_append_any (base : Nat) (t ty e : TypeId) (i : TypeInfo) (z : Value) (size bytes : Nat) (ht : P.underlying t = some (.slice e)) (hi : P.info? e = some i) (hz : i.zero = some z)
    (hsize : i.size = size) (hby : i.bytes = bytes) (hzs : z.cells.size = size) (hsz : 0 < size)
    (v : Value) (n : Nat) (xs : List Value) (hown : w.ownsRow base e size v n xs)
    (B : Nat) (A : Option Addr) (m c : Nat) (news : List Value) (hr : Reads w B size A m news) (h1 : ∀ u ∈ news, u.oneCell' = true)
    (h63 : n + m ≤ maxLen) (hbytes : (n + m) * bytes ≤ 140737488355328) (hbase : base ≤ w.heap.size) :
    ∃ v' w', (Builtin.append_ #[t, t] ty #[v, .slice A m c]).run P w = .ok v' w' ∧ w'.ownsRow base e size v' (n + m) (xs ++ news) ∧ w.grownBy w' v.ownBlock ∧
      (v'.ownBlock = v.ownBlock ∨ v'.ownBlock = some w.heap.size) := by
  rcases A with _ | ad
  · have hm : m = 0 := by
      rcases Nat.eq_zero_or_pos m with h0 | h0
      · exact h0
      · obtain ⟨ad, h, _⟩ := hr.2 h0
        cases h
    subst hm
    have hn : news = [] := List.eq_nil_of_length_eq_zero (by simpa using hr.1)
    subst hn
    exact ⟨v, w, run_append_of_nil w base t ty e i size ht hi v n xs hown c, by simpa using hown, World.grownBy.refl w _, .inl rfl⟩
  · have hcells : ∀ j u, news[j]? = some u → w.cell? (ad.add j) = some u := by
      intro j u hu
      rcases Nat.eq_zero_or_pos m with h0 | h0
      · subst h0
        have hn : news = [] := List.eq_nil_of_length_eq_zero (by simpa using hr.1)
        subst hn
        simp at hu
      · obtain ⟨ad', h, _, hc⟩ := hr.2 h0
        injection h with h
        subst h
        exact hc j u hu
    obtain ⟨v', w', hrun, h2, h3, _, h5⟩ := run_append_own_at (P := P) w base t ty e i z size bytes ht hi hz hsize hby hzs hsz v n xs hown ad m c news hr.1 hcells h1 h63 hbytes hbase
    exact ⟨v', w', hrun, h2, h3, h5⟩

theorem wp_append_any {o : Oper} {a : Act} {K : Act → World → Prop} {Q : Exit → Act → World → Prop} (s x : Operand) (t : TypeId)
    (ho : o.op = .call { callee := .builtin .append, args := #[s, x], argTypes := #[t, t] })
    (base : Nat) (e : TypeId) (i : TypeInfo) (z : Value) (size bytes : Nat) (ht : P.underlying t = some (.slice e)) (hi : P.info? e = some i) (hz : i.zero = some z)
    (hsize : i.size = size) (hby : i.bytes = bytes) (hzs : z.cells.size = size) (hsz : 0 < size)
    (v : Value) (n : Nat) (xs : List Value) (hs : a.eval s = v) (hown : w.ownsRow base e size v n xs)
    (B : Nat) (A : Option Addr) (m c : Nat) (news : List Value) (hx : a.eval x = .slice A m c) (hr : Reads w B size A m news) (h1 : ∀ u ∈ news, u.oneCell' = true)
    (h63 : n + m ≤ maxLen) (hbytes : (n + m) * bytes ≤ 140737488355328) (hbase : base ≤ w.heap.size)
    (h : ∀ v' w', w'.ownsRow base e size v' (n + m) (xs ++ news) → w.grownBy w' v.ownBlock → (v'.ownBlock = v.ownBlock ∨ v'.ownBlock = some w.heap.size) → K (a.put o.dst v') w') : o.wp P a w K Q := by
  obtain ⟨v', w', hrun, h2, h3, h4⟩ := run_append_any (P := P) w base t o.type e i z size bytes ht hi hz hsize hby hzs hsz v n xs hown B A m c news hr h1 h63 hbytes hbase
  unfold Oper.wp execOp
  simp only [ho, resolve, invoke, builtin, Sem.run_bind, Sem.run_pure, Result.andThen_ok, List.map_toArray, List.map_cons, List.map_nil, hs, hx, hrun]
  exact h v' w' h2 h3 h4

end

/-! ### bytes -/
theorem size_toList (s : ByteArray) : s.data.toList.length = s.size := rfl
/-- A byte as a value. -/
def bV (c : UInt8) : Value := .int .u8 (c.toNat : Int)
/-- A row of bytes as values. -/
def bL (l : List UInt8) : List Value := l.map bV
/-- The same as an array of values. -/
def bA (l : List UInt8) : Array Value := (bL l).toArray
@[simp] theorem length_bL (l : List UInt8) : (bL l).length = l.length := by simp [bL]
@[simp] theorem size_bA (l : List UInt8) : (bA l).size = l.length := by simp [bA]
theorem bL_get (l : List UInt8) (k : Nat) (c : UInt8) (h : l[k]? = some c) : (bL l)[k]? = some (.int .u8 (c.toNat : Int)) := by simp [bL, h, bV]
theorem bL_one (l : List UInt8) : ∀ u ∈ bL l, u.oneCell' = true := by
  intro u hu
  simp only [bL, List.mem_map] at hu
  obtain ⟨c, _, rfl⟩ := hu
  rfl
/-! ### laws at an operation -/
section
variable {P : Program}
end

section
variable {P : Program}
end

section
variable {P : Program}
/-- 'string(b)' of a slice that reads as the bytes l, nil let in. -/
theorem run_conv_reads {w : World} {src dst e : TypeId} {B : Nat} {A : Option Addr} {n : Nat} (c : Nat) {l : List UInt8} (hs : P.underlying src = some (.slice e)) (he : P.underlying e = some (.int .u8)) (hd : P.underlying dst = some .string)
    (hr : Reads w B 1 A n (bL l)) : (convert src dst (.slice A n c)).run P w = .ok (.string ⟨l.toArray⟩) w := by
  have hn : n = l.length := by have := hr.1; simp at this; omega
  subst hn
  rcases A with _ | ad
  · have hl : l = [] := by
      rcases l with _ | ⟨x, l⟩
      · rfl
      · obtain ⟨ad, h, _⟩ := hr.2 (by simp)
        cases h
    subst hl
    rw [run_convert_bytes_string w src dst e none _ c hs he hd]
    simp [Conv.bytesToString]
    rfl
  · refine run_convert_bytes_back w src dst e ad c l hs he hd fun j hj => ?_
    obtain ⟨ad', h, _, hc⟩ := hr.2 (by omega)
    cases h
    exact hc j _ (bL_get l j _ (List.getElem?_eq_getElem hj))
end

section
variable {P : Program} {w : World}
end

section
variable {P : Program} {w : World}
end

section
variable {P : Program}
end

/-! ### slices: one bundle for the element's type -/
/-- T: a slice type t, its element's type e with zero z, so many cells and bytes. -/
structure Elem (P : Program) (t e : TypeId) (z : Value) (size bytes : Nat) : Prop where
  ht : P.underlying t = some (.slice e)
  hi : (P.info? e).map (fun i => (i.zero, i.size, i.bytes)) = some (some z, size, bytes)
  hzs : z.cells.size = size
  hsz : 0 < size
theorem own_form {w : World} {base : Nat} {e : TypeId} {size n : Nat} {v : Value} {xs : List Value} (h : w.ownsRow base e size v n xs) : ∃ A c, v = .slice A n c := by
  rcases h.2 with ⟨rfl, rfl⟩ | ⟨g, cap, cur, rfl, _⟩
  · exact ⟨none, 0, rfl⟩
  · exact ⟨_, _, rfl⟩
section
variable {P : Program} {t e : TypeId} {z : Value} {size bytes : Nat}
/-- append: onto a row of the call's own, from whatever reads. -/
theorem wp_app (w : World) {o : Oper} {a : Act} {K : Act → World → Prop} {Q : Exit → Act → World → Prop} (T : Elem P t e z size bytes) (s x : Operand)
    (ho : o.op = .call { callee := .builtin .append, args := #[s, x], argTypes := #[t, t] })
    (base : Nat) {A : Option Addr} {n c : Nat} {xs : List Value} (hs : a.eval s = .slice A n c) (hown : w.ownsRow base e size (.slice A n c) n xs)
    {B : Nat} {A' : Option Addr} {m c' : Nat} {news : List Value} (hx : a.eval x = .slice A' m c') (hr : Reads w B size A' m news) (h1 : ∀ u ∈ news, u.oneCell' = true)
    (h63 : n + m ≤ maxLen) (hbytes : (n + m) * bytes ≤ 140737488355328) (hbase : base ≤ w.heap.size)
    (h : ∀ A2 c2 w', w'.ownsRow base e size (.slice A2 (n + m) c2) (n + m) (xs ++ news) → w.grownBy w' (Value.slice A n c).ownBlock → ((Value.slice A2 (n + m) c2).ownBlock = (Value.slice A n c).ownBlock ∨ (Value.slice A2 (n + m) c2).ownBlock = some w.heap.size) → K (a.put o.dst (.slice A2 (n + m) c2)) w') : o.wp P a w K Q := by
  obtain ⟨i, hi, hz, hsize, hby⟩ := info_parts T.hi
  refine wp_append_any w s x t ho base e i z size bytes T.ht hi hz hsize hby T.hzs T.hsz _ n xs hs hown B A' m c' news hx hr h1 h63 hbytes hbase fun v' w' h2 h3 h4 => ?_
  obtain ⟨A2, c2, rfl⟩ := own_form h2
  exact h A2 c2 w' h2 h3 h4
end
/-- ints as values -/
def iL (l : List Int) : List Value := l.map (Value.int .i64)
@[simp] theorem length_iL (l : List Int) : (iL l).length = l.length := by simp [iL]
theorem iL_one (l : List Int) : ∀ u ∈ iL l, u.oneCell' = true := by
  intro u hu
  simp only [iL, List.mem_map] at hu
  obtain ⟨c, _, rfl⟩ := hu
  rfl

section
variable {P : Program}
end
/-- A part of a known block reads. -/
theorem Blk.reads {w : World} {g : Nat} {t : TypeId} {cs : Array Value} (h : Blk w g t cs) (off m : Nat) (hm : off + m ≤ cs.size) : Reads w (g + 1) 1 (some ⟨g, off, none⟩) m ((cs.toList.drop off).take m) :=
  ⟨by simp; omega, fun _ => ⟨_, rfl, by simp, fun j u hu => by
    rw [Addr.add_mid, h.cell]
    rw [List.getElem?_take] at hu
    split at hu
    · rw [List.getElem?_drop] at hu
      simpa using hu
    · cases hu⟩⟩

end Go.Proofs.Ytaknmlajhedfhaa.Zk


/-
  General laws, second part: '==' on arrays.
-/
namespace Go.Proofs.Ytaknmlajhedfhaa.Zk
open Go.RowKit
set_option linter.unusedVariables false

section
variable {P : Program}
end

theorem fold_set : ∀ (vs : List Value) (k off : Nat) (cs : Array Value), off + k + vs.length ≤ cs.size →
    (vs.zipIdx k).foldl (fun cs (p : Value × Nat) => cs.setIfInBounds (off + p.2) p.1) cs = (cs.toList.take (off + k) ++ vs ++ cs.toList.drop (off + k + vs.length)).toArray
  | [], k, off, cs, _ => by simp
  | v :: vs, k, off, cs, h => by
    have hk : off + k < cs.size := by simp at h; omega
    rw [List.zipIdx_cons, List.foldl_cons, fold_set vs (k + 1) off _ (by simp at h ⊢; omega)]
    congr 1
    simp only [Array.toList_setIfInBounds]
    have e1 : off + (k + 1) = (off + k) + 1 := by omega
    rw [e1, List.take_set, List.drop_set, if_pos (by omega)]
    have e2 : (List.take (off + k + 1) cs.toList).set (off + k) v = List.take (off + k) cs.toList ++ [v] := by
      rw [List.take_succ_eq_append_getElem (by simpa using hk), List.set_append_right _ _ (by simp; omega)]
      simp
      have : min (off + k) cs.size = off + k := by omega
      simp [this]
    rw [e2]
    simp
    congr 1
    omega
/-- 'build' of a part into a row of zeros. -/
theorem fill_part (place : Nat → Option (Nat × Nat)) (cells : Array Value) (i off size : Nat) (vs : Array Value) (v : Value) (hv : v.cells = vs) (rest : List (Nat × Value)) (hp : place i = some (off, size)) (hs : vs.size = size) (hl : off + size ≤ cells.size) :
    Instr.fill place cells ((i, v) :: rest) = Instr.fill place (cells.toList.take off ++ vs.toList ++ cells.toList.drop (off + size)).toArray rest := by
  have e : vs.zipIdx.foldl (fun cs (c, j) => cs.setIfInBounds (off + j) c) cells = (cells.toList.take off ++ vs.toList ++ cells.toList.drop (off + size)).toArray := by
    have := fold_set vs.toList 0 off cells (by simp; omega)
    simp only [Nat.add_zero, Array.length_toList, hs] at this
    rw [← this, ← Array.foldl_toList]
    simp
  rw [← e]
  conv => lhs; unfold Instr.fill
  simp only [hp, hv]
  rw [if_neg (by simp [hs]; omega)]

theorem Blk.range {w : World} {g : Nat} {t : TypeId} {cs : Array Value} (h : Blk w g t cs) : w.rangeAt g 0 cs.toList := fun j v hj => by
  rw [h.cell]
  simpa using hj
/-! ### a region that draws its order, reads old memory, and calls what makes memory of its own -/
/-- The worlds that are as w was below w's own blocks. -/
def Ext (w : World) : Type := { w' : World // Below w.heap.size w w' }
instance (w : World) : Inhabited (Ext w) := ⟨⟨w, Below.refl _ _⟩⟩
def ext (w : World) (x : Ext w) : World := x.1
section
variable {P : Program}
end
section
variable {P : Program}
end
section
variable {P : Program} {w : World}
end
end Go.Proofs.Ytaknmlajhedfhaa.Zk


/-
  General laws, third part: which operation stands next? (So that a law is tried there alone.)
-/
namespace Go.Proofs.Ytaknmlajhedfhaa.Zk
open Go.RowKit
set_option linter.unusedVariables false

end Go.Proofs.Ytaknmlajhedfhaa.Zk


/-
  A walk over an association list: the frame is known only at the slots that matter. General; nothing here names a program.
-/
namespace Go.Proofs.Ytaknmlajhedfhaa.Zx
open Go.RowKit Zk
set_option linter.unusedVariables false
set_option linter.unusedSimpArgs false

abbrev Env := List (Nat × Value)
def look : Env → Nat → Option Value
  | [], _ => none
  | (i, v) :: r, n => bif Nat.beq i n then (bif Nat.beq i 1000000 then none else some v) else look r n
def ev (e : Env) : Operand → Option Value
  | .tmp t => look e t
  | .const v => some v
  | .func f => some (.func (.func f) #[] #[])
  | .global g => some (.pointer (some ⟨g, 0, none⟩))

/-- The calls that wait for the end stand in a place of their own, behind all slots. -/
def decD : Value → Deferred
  | .agg #[.int _ f, .agg xs] => ⟨.fn (.func f.toNat) #[], xs⟩
  | _ => default
def decL : Value → List Deferred
  | .agg xs => xs.toList.map decD
  | _ => []
def dfs : Env → List Deferred
  | [] => []
  | (i, v) :: r => bif Nat.beq i 1000000 then decL v else dfs r
theorem look_none : ∀ e : Env, look e 1000000 = none
  | [] => rfl
  | (i, u) :: r => by
    simp only [look]
    cases hb : Nat.beq i 1000000 with
    | true => rfl
    | false => exact look_none r
theorem dfs_app : ∀ (e1 e2 : Env), dfs (e1 ++ e2) = dfs e1 ∨ dfs (e1 ++ e2) = dfs e2
  | [], e2 => .inr rfl
  | (i, u) :: r, e2 => by
    simp only [List.cons_append, dfs]
    cases Nat.beq i 1000000 with
    | true => exact .inl rfl
    | false => exact dfs_app r e2
theorem dfs_put (e : Env) (d : Nat) (v : Value) (h : d < 1000000) : dfs ((d, v) :: e) = dfs e := by
  have : Nat.beq d 1000000 = false := by
    cases hb : Nat.beq d 1000000 with
    | true => have : d = 1000000 := by simpa using hb
              omega
    | false => rfl
  simp only [dfs, this, cond_false]

structure Fits (N : Nat) (e : Env) (a : Act) : Prop where
  defers : a.defers = dfs e
  small : N ≤ 1000000
  size : a.tmps.size = N
  vals : ∀ i v, look e i = some v → a.tmps[i]? = some v

theorem Fits.eval {N : Nat} {e : Env} {a : Act} (h : Fits N e a) {x : Operand} {v : Value} (hx : ev e x = some v) : a.eval x = v := by
  cases x with
  | tmp t =>
    have := h.vals t v hx
    simp [Act.eval, this]
  | const c => simpa [ev, Act.eval] using hx
  | func f => simpa [ev, Act.eval] using hx
  | global g => simpa [ev, Act.eval] using hx

theorem Fits.put {N : Nat} {e : Env} {a : Act} (h : Fits N e a) (d : Nat) (v : Value) (hd : Nat.blt d N = true) : Fits N ((d, v) :: e) (a.put (some d) v) := by
  have hd' : d < N := by simpa using hd
  refine ⟨by rw [dfs_put _ _ _ (Nat.lt_of_lt_of_le hd' h.small)]; exact h.defers, h.small, by simp [Act.put, h.size], fun i u hu => ?_⟩
  simp only [look] at hu
  by_cases hi : d = i
  · subst hi
    have : Nat.beq d d = true := by simp
    have hk : Nat.beq d 1000000 = false := by
      cases hb : Nat.beq d 1000000 with
      | true =>
        have h3 : d = 1000000 := by simpa using hb
        have := h.small
        omega
      | false => rfl
    rw [this, hk] at hu
    simp only [cond_true, cond_false, Option.some.injEq] at hu
    subst hu
    simp [Act.put, h.size, hd']
  · have : Nat.beq d i = false := by
      cases hb : Nat.beq d i with
      | true => exact absurd (by simpa using hb) hi
      | false => rfl
    rw [this] at hu
    simp only [cond_false] at hu
    simp only [Act.put]
    rw [Array.getElem?_setIfInBounds_ne hi]
    exact h.vals i u hu

/-- e' is known of whatever e is known of. -/
def Sub (e' e : Env) : Prop := dfs e' = dfs e ∧ ∀ i v, look e' i = some v → look e i = some v
theorem Sub.refl (e : Env) : Sub e e := ⟨rfl, fun _ _ h => h⟩
theorem Sub.nil (e : Env) (hd : dfs e = [] := by rfl) : Sub [] e := ⟨hd.symm, fun _ _ h => by cases h⟩
theorem Sub.cons {e' e : Env} {i : Nat} {v u : Value} (h : look e i = some u) (hv : u = v) (hs : Sub e' e) : Sub ((i, v) :: e') e := by
  subst hv
  refine ⟨?_, ?_⟩
  · simp only [dfs]
    cases hb : Nat.beq i 1000000 with
    | true =>
      have : i = 1000000 := by simpa using hb
      subst this
      rw [look_none] at h
      cases h
    | false => exact hs.1
  intro j w hj
  simp only [look] at hj
  cases hb : Nat.beq i j with
  | true =>
    rw [hb] at hj
    have : i = j := by simpa using hb
    subst this
    cases hc : Nat.beq i 1000000 with
    | true =>
      rw [hc] at hj
      cases hj
    | false =>
      rw [hc] at hj
      simp only [cond_true, cond_false] at hj
      rw [h, hj]
  | false =>
    rw [hb] at hj
    exact hs.2 j w hj
theorem look_app (e1 e2 : Env) (i : Nat) : look (e1 ++ e2) i = (look e1 i).or (look e2 i) := by
  induction e1 with
  | nil => simp [look]
  | cons p e1 ih =>
    obtain ⟨j, v⟩ := p
    simp only [List.cons_append, look]
    cases hb : Nat.beq j i with
    | true =>
      have h1 : j = i := by simpa using hb
      subst h1
      cases hc : Nat.beq j 1000000 with
      | true =>
        have h2 : j = 1000000 := by simpa using hc
        subst h2
        simp [look_none]
      | false => simp
    | false => simpa using ih
theorem Sub.app {e1 e2 e : Env} (h1 : Sub e1 e) (h2 : Sub e2 e) : Sub (e1 ++ e2) e := ⟨(dfs_app e1 e2).elim (fun h => h.trans h1.1) (fun h => h.trans h2.1), fun i v h => by
  rw [look_app] at h
  cases hl : look e1 i with
  | none => rw [hl] at h; exact h2.2 i v (by simpa using h)
  | some u => rw [hl] at h; simp only [Option.some_or] at h; exact h1.2 i v (by rw [hl, h])⟩
theorem Fits.sub {N : Nat} {e e' : Env} {a : Act} (h : Fits N e a) (hs : Sub e' e) : Fits N e' a := ⟨h.defers.trans hs.1.symm, h.small, h.size, fun i v hv => h.vals i v (hs.2 i v hv)⟩

abbrev Post := Exit → Env → World → Prop
def lift (N : Nat) (Q : Post) : Exit → Act → World → Prop
  | .panic _, _, _ => False
  | .outgrown, _, _ => False
  | e, a, w => ∃ env, Fits N env a ∧ Q e env w
def thenQ (K : Env → World → Prop) (Q : Post) : Post
  | .normal, e, w => K e w
  | x, e, w => Q x e w
def inB (id : Nat) (Q : Post) : Post
  | .exit i, e, w => if i = id then Q .normal e w else Q (.exit i) e w
  | x, e, w => Q x e w

section
variable {P : Program} {N : Nat} {Q : Post} {env : Env} {w : World}
def T (P : Program) (N : Nat) (c : Code) (Q : Post) (env : Env) (w : World) : Prop := ∀ a, Fits N env a → c.wp P (lift N Q) a w

theorem T_weak {c : Code} {env' : Env} (hs : Sub env' env) (h : T P N c Q env' w) : T P N c Q env w := fun a ha => h a (ha.sub hs)
theorem T_seq {x y : Code} (h : ∀ K : Env → World → Prop, (∀ e w, T P N y Q e w → K e w) → T P N x (thenQ K Q) env w) : T P N (.seq x y) Q env w := fun a ha =>
  wp_seq (Code.wp_mono (by
    intro e a w h
    cases e with
    | normal =>
      obtain ⟨e', h1, h2⟩ := h
      exact h2 a h1
    | panic c => exact h.elim
    | outgrown => exact h.elim
    | exit i => exact h
    | goto l => exact h
    | ret => exact h) (h (fun e w => T P N y Q e w) (fun _ _ h => h) a ha))
/-- What behind the end is asked may be less. -/
theorem T_mono {c : Code} {R R' : Env → World → Prop} (hr : ∀ e w, R e w → R' e w) (h : T P N c (thenQ R Q) env w) : T P N c (thenQ R' Q) env w := fun a ha => Code.wp_mono (by
    intro e a w h
    cases e with
    | normal =>
      obtain ⟨e', h3, h4⟩ := h
      exact ⟨e', h3, hr _ _ h4⟩
    | panic c => exact h.elim
    | outgrown => exact h.elim
    | exit i => exact h
    | goto l => exact h
    | ret => exact h) (h a ha)
theorem T_skip (h : Q .normal env w) : T P N .skip Q env w := fun a ha => wp_skip ⟨env, ha, h⟩
theorem T_ret (h : Q .ret env w) : T P N .ret Q env w := fun a ha => wp_ret ⟨env, ha, h⟩
theorem T_exit {id : Nat} (h : Q (.exit id) env w) : T P N (.exit id) Q env w := fun a ha => wp_exit ⟨env, ha, h⟩
theorem T_block {id : Nat} {c : Code} (h : T P N c (inB id Q) env w) : T P N (.block id c) Q env w := fun a ha =>
  wp_block (Code.wp_mono (by
    intro e a w h
    cases e with
    | normal => exact h
    | panic c => exact h.elim
    | outgrown => exact h.elim
    | exit i =>
      obtain ⟨e', h3, h4⟩ := h
      simp only [inB] at h4
      simp only [Exit.inBlock]
      split
      · rename_i hi
        rw [if_pos hi] at h4
        exact ⟨e', h3, h4⟩
      · rename_i hi
        rw [if_neg hi] at h4
        exact ⟨e', h3, h4⟩
    | goto l => exact h
    | ret => exact h) (h a ha))
theorem T_cond {c : Operand} {x y : Code} {p : Prop} {inst : Decidable p} (hc : ev env c = some (.bool (@decide p inst))) (ht : p → T P N x Q env w) (hf : ¬p → T P N y Q env w) : T P N (.cond c x y) Q env w := fun a ha => by
  refine wp_cond_split (ha.eval hc) (fun h => ht (of_decide_eq_true h) a ha) (fun h => hf (of_decide_eq_false h) a ha)
theorem T_condB {c : Operand} {x y : Code} {b : Bool} (hc : ev env c = some (.bool b)) (ht : b = true → T P N x Q env w) (hf : b = false → T P N y Q env w) : T P N (.cond c x y) Q env w := fun a ha => by
  refine wp_cond_split (ha.eval hc) (fun h => ht h a ha) (fun h => hf h a ha)
theorem T_true {c : Operand} {x y : Code} (hc : ev env c = some (.bool true)) (ht : T P N x Q env w) : T P N (.cond c x y) Q env w := fun a ha => wp_cond_true (ha.eval hc) (ht a ha)
theorem T_false {c : Operand} {x y : Code} (hc : ev env c = some (.bool false)) (ht : T P N y Q env w) : T P N (.cond c x y) Q env w := fun a ha => wp_cond_false (ha.eval hc) (ht a ha)

/-- A loop: the relation bears a number that every round lowers. -/
theorem T_loop {c : Code} (R : Nat → Env → World → Prop) (m : Nat) (h0 : R m env w)
    (round : ∀ m e w, R m e w → T P N c (thenQ (fun e' w' => ∃ m', m' < m ∧ R m' e' w') Q) e w) : T P N (.loop c) Q env w := by
  intro a0 ha0 b k cs
  have key : ∀ n a w, (∃ e, Fits N e a ∧ R n e w) →
      ∃ e a' w', lift N Q e a' w' ∧ Arrives P (lone (b.at a (.code c :: .inLoop c :: k)) cs w) b k cs e a' w' := by
    intro n
    induction n using Nat.strongRecOn with
    | _ n ih =>
      intro a w ⟨e0, he0, hR⟩
      obtain ⟨e, a₁, w₁, hq, harr⟩ := round n e0 w hR a he0 b (.inLoop c :: k) cs
      cases e with
      | normal =>
        obtain ⟨e1, hf1, m', hlt, hR1⟩ := hq
        obtain ⟨e₂, a₂, w₂, hq₂, harr₂⟩ := ih m' hlt a₁ w₁ ⟨e1, hf1, hR1⟩
        exact ⟨e₂, a₂, w₂, hq₂, .of_steps (Steps.trans harr (.one step_inLoop)) harr₂⟩
      | exit id => exact ⟨.exit id, a₁, w₁, hq, .pass (x := .inLoop c) rfl (fun _ _ => .inl (by simp)) harr⟩
      | goto l => exact ⟨.goto l, a₁, w₁, hq, .pass (x := .inLoop c) rfl (fun _ _ => .inl (by simp)) harr⟩
      | ret => exact ⟨.ret, a₁, w₁, hq, .pass (x := .inLoop c) rfl (fun _ _ => .inl (by simp)) harr⟩
      | panic ch => exact hq.elim
      | outgrown => exact hq.elim
  obtain ⟨e, a', w', hq, harr⟩ := key m a0 w ⟨env, ha0, h0⟩
  exact ⟨e, a', w', hq, .of_steps (.one step_loop) harr⟩

/-! ### operations in the text's order -/
def L (P : Program) (N : Nat) (ops : Array Oper) (Q : Post) (rest : List Oper) (env : Env) (w : World) : Prop := ∀ a, Fits N env a → wpList P ops (lift N Q) rest a w
theorem T_region {id : Nat} {l : List Oper} (h : L P N l.toArray Q l env w) : T P N (.region id l.toArray false) Q env w := fun a ha => wp_region_lit (h a ha)
theorem L_nil {ops : Array Oper} (h : Q .normal env w) : L P N ops Q [] env w := fun a ha => ⟨env, ha, h⟩

/-- One operation: what it leads to. -/
def O (P : Program) (N : Nat) (Q : Post) (o : Oper) (env : Env) (w : World) (K : Env → World → Prop) : Prop :=
  ∀ a, Fits N env a → o.wp P a w (fun a' w' => ∃ e', Fits N e' a' ∧ K e' w') (lift N Q)
theorem L_o {ops : Array Oper} {rest : List Oper} {d : Option Tmp} {op : Op} {ty : TypeId} {pos : String} {after : Array Edge}
    (h : O P N Q ⟨d, op, ty, pos, after, none⟩ env w (L P N ops Q rest)) : L P N ops Q (⟨d, op, ty, pos, after, none⟩ :: rest) env w := fun a ha =>
  wpList_plain rfl fun K hK => Oper.wp_mono (fun a w ⟨e', h1, h2⟩ => hK _ _ (h2 a h1)) (h a ha)

/-- All worlds that are as w is in w's own blocks. -/
def Like (w w' : World) : Prop := Below w.heap.size w w'
theorem Like.refl (w : World) : Like w w := Below.refl _ _
theorem Like.drew (w : World) : Like w w.drew := (Below.refl _ _).drew
theorem Like.trans {a b c : World} (h : Like a b) (k : Like b c) : Like a c := Below.trans h (Below.mono k h.size)
theorem Like.cell {w w' : World} (h : Like w w') {p : Addr} {v : Value} (hc : w.cell? p = some v) : w'.cell? p = some v :=
  (Below.cell h (World.block_lt_of_cell? w p hc)).trans hc

/-- The operation yields v in every world of S and leaves it as it is. -/
def Y (P : Program) (S : World → Prop) (env : Env) (o : Oper) (v : Value) : Prop := ∀ N a w, Fits N env a → S w → (execOp a.eval o).run P w = .ok (.value v) w
theorem o_y {d : Tmp} {op : Op} {ty : TypeId} {pos : String} {after : Array Edge} {g : Option (Nat × Bool)} {v : Value} {S : World → Prop} {K : Env → World → Prop}
    (hy : Y P S env ⟨some d, op, ty, pos, after, g⟩ v) (hS : S w) (hd : Nat.blt d N = true) (h : K ((d, v) :: env) w) : O P N Q ⟨some d, op, ty, pos, after, g⟩ env w K := fun a ha => by
  unfold Oper.wp
  rw [hy N a w ha hS]
  exact ⟨_, ha.put d v hd, h⟩
theorem L_y {ops : Array Oper} {rest : List Oper} {d : Tmp} {op : Op} {ty : TypeId} {pos : String} {after : Array Edge} {v : Value}
    (hy : Y P (Like w) env ⟨some d, op, ty, pos, after, none⟩ v) (hd : Nat.blt d N = true) (h : L P N ops Q rest ((d, v) :: env) w) : L P N ops Q (⟨some d, op, ty, pos, after, none⟩ :: rest) env w :=
  L_o (o_y hy (Like.refl w) hd h)
/-! guards -/
theorem L_gyes {ops : Array Oper} {rest : List Oper} {d : Tmp} {op : Op} {ty : TypeId} {pos : String} {after : Array Edge} {j : Nat} {b : Bool} {t : Tmp}
    (hj : (ops[j]?).bind (·.dst) = some t) (ht : look env t = some (.bool b)) (h : L P N ops Q (⟨d, op, ty, pos, after, none⟩ :: rest) env w) : L P N ops Q (⟨d, op, ty, pos, after, some (j, b)⟩ :: rest) env w := fun a ha => by
  have h1 := h a ha
  have hw : yielded ops a.tmps j = some b := by
    simp [yielded, hj, ha.vals t _ ht]
  unfold wpList at h1 ⊢
  simp only [Region.wanted, hw, if_true, beq_self_eq_true] at h1 ⊢
  exact h1
theorem L_gno {ops : Array Oper} {rest : List Oper} {d : Tmp} {op : Op} {ty : TypeId} {pos : String} {after : Array Edge} {j : Nat} {b : Bool} {t : Tmp}
    (hj : (ops[j]?).bind (·.dst) = some t) (ht : look env t = some (.bool (!b))) (hd : Nat.blt d N = true) (h : L P N ops Q rest ((d, undef) :: env) w) : L P N ops Q (⟨some d, op, ty, pos, after, some (j, b)⟩ :: rest) env w := fun a ha => by
  have h1 := h _ (ha.put d undef hd)
  have hw : yielded ops a.tmps j = some (!b) := by
    simp [yielded, hj, ha.vals t _ ht]
  unfold wpList
  have hne : (some (!b) == some b) = false := by cases b <;> rfl
  simp only [Region.wanted, hw, hne, Bool.false_eq_true, if_false]
  exact h1
/-- A test known by a proposition: two ways. -/
theorem L_split {ops : Array Oper} {rest : List Oper} (t : Tmp) {p : Prop} {inst : Decidable p} (ht : look env t = some (.bool (@decide p inst)))
    (h1 : p → L P N ops Q rest ((t, .bool true) :: env) w) (h2 : ¬p → L P N ops Q rest ((t, .bool false) :: env) w) : L P N ops Q rest env w := fun a ha => by
  by_cases hp : p
  · exact h1 hp a (ha.sub (Sub.cons ht (by rw [decide_eq_true hp]) (Sub.refl _)))
  · exact h2 hp a (ha.sub (Sub.cons ht (by rw [decide_eq_false hp]) (Sub.refl _)))
theorem L_splitB {ops : Array Oper} {rest : List Oper} (t : Tmp) {b : Bool} (ht : look env t = some (.bool b))
    (h1 : b = true → L P N ops Q rest ((t, .bool true) :: env) w) (h2 : b = false → L P N ops Q rest ((t, .bool false) :: env) w) : L P N ops Q rest env w := fun a ha => by
  cases b with
  | true => exact h1 rfl a (ha.sub (Sub.cons ht rfl (Sub.refl _)))
  | false => exact h2 rfl a (ha.sub (Sub.cons ht rfl (Sub.refl _)))
/-! ### the function's frame -/
def bodyQ (P : Program) (fn : Func) (R : Ending → World → Prop) : Post
  | .ret, env, w | .normal, env, w => dfs env = [] ∧ ∃ v, (∀ N a, Fits N env a → (results fn a.tmps).run P w = .ok v w) ∧ R (.returned v) w
  | _, _, _ => False
theorem enter {f : FuncId} {fn : Func} {c : Code} {args : List Value} {R : Ending → World → Prop} (hf : P.funcs[f]? = some fn) (hb : fn.body = some c) (hn : fn.ntmps = N)
    (hN : Nat.ble args.length N = true) (henv : ∀ i v, look env i = some v → args[i]? = some v) (h : T P N c (bodyQ P fn R) env w) (hd0 : dfs env = [] := by rfl) (hsm : Nat.ble N 1000000 = true := by rfl) : Calls P f args.toArray w R := by
  refine calls_of_wp hf hb ?_
  have hsm' : N ≤ 1000000 := by simpa using hsm
  have hN' : args.length ≤ N := by simpa using hN
  have hfit : Fits N env { tmps := args.toArray ++ Array.replicate (fn.ntmps - args.toArray.size) undef, defers := [] } := by
    refine ⟨hd0.symm, hsm', by simp [hn]; omega, fun i v hv => ?_⟩
    have h1 := henv i v hv
    have h2 := (List.getElem?_eq_some_iff.1 h1).1
    rw [Array.getElem?_append_left (by simpa using h2)]
    simpa using h1
  refine Code.wp_mono (fun e a w hq => ?_) (h _ hfit)
  cases e with
  | normal =>
    obtain ⟨e', h1, h0, v, h2, h3⟩ := hq
    exact ⟨h1.defers.trans h0, v, h2 N a h1, h3⟩
  | ret =>
    obtain ⟨e', h1, h0, v, h2, h3⟩ := hq
    exact ⟨h1.defers.trans h0, v, h2 N a h1, h3⟩
  | panic c => exact hq.elim
  | outgrown => exact hq.elim
  | exit i => obtain ⟨_, _, h⟩ := hq; exact h.elim
  | goto i => obtain ⟨_, _, h⟩ := hq; exact h.elim
/-- The parameters in their slots. -/
def envOf : List Value → Nat → Env
  | [], _ => []
  | v :: vs, k => (k, v) :: envOf vs (k + 1)
theorem look_envOf : ∀ (vs : List Value) (k i : Nat) (v : Value), look (envOf vs k) i = some v → k ≤ i ∧ vs[i - k]? = some v
  | [], _, _, _, h => by cases h
  | u :: vs, k, i, v, h => by
    simp only [envOf, look] at h
    cases hb : Nat.beq k i with
    | true =>
      rw [hb] at h
      have : k = i := by simpa using hb
      subst this
      cases hc : Nat.beq k 1000000 with
      | true =>
        rw [hc] at h
        cases h
      | false =>
        rw [hc] at h
        simp only [cond_true, cond_false] at h
        simp [h]
    | false =>
      rw [hb] at h
      have hne : k ≠ i := fun hki => by
        subst hki
        have h1 : Nat.beq k k = true := by simp
        rw [h1] at hb
        cases hb
      obtain ⟨h1, h2⟩ := look_envOf vs (k + 1) i v h
      refine ⟨by omega, ?_⟩
      rw [show i - k = (i - (k + 1)) + 1 by omega]
      simpa using h2
theorem enter1 {f : FuncId} {fn : Func} {c : Code} (args : List Value) {R : Ending → World → Prop} (hf : P.funcs[f]? = some fn) (hb : fn.body = some c) (hn : fn.ntmps = N)
    (hN : Nat.ble args.length N = true) (he : envOf args 0 = env) (h : T P N c (bodyQ P fn R) env w) (hd0 : dfs env = [] := by rfl) (hsm : Nat.ble N 1000000 = true := by rfl) : Calls P f args.toArray w R :=
  enter hf hb hn hN (by subst he; intro i v hv; simpa using (look_envOf _ _ _ _ hv).2) h hd0 hsm
theorem up_then {K : Env → World → Prop} {Q : Post} (h : Q .ret env w) : thenQ K Q .ret env w := h
theorem up_in {id : Nat} {Q : Post} (h : Q .ret env w) : inB id Q .ret env w := h
theorem Fits.getD {N : Nat} {e : Env} {a : Act} (h : Fits N e a) {t : Nat} {v : Value} (ht : look e t = some v) : a.tmps.getD t undef = v := by
  simp [h.vals t v ht]
theorem ret1 {fn : Func} {R : Ending → World → Prop} {t : Tmp} {v : Value} (hr : fn.results = #[.tmp t]) (ht : look env t = some v) (h : R (.returned v) w) (hd0 : dfs env = [] := by rfl) : bodyQ P fn R .ret env w :=
  ⟨hd0, _, fun N a ha => by rw [results_tmp hr, ha.getD ht], h⟩
end
end Go.Proofs.Ytaknmlajhedfhaa.Zx


/-
  What the quiet operations yield. General; nothing here names a program.
-/
namespace Go.Proofs.Ytaknmlajhedfhaa.Zx
open Go.RowKit Zk
set_option linter.unusedVariables false
set_option linter.unusedSimpArgs false

/-! ### wraps -/
theorem i64w {n : Int} (h : -9223372036854775808 ≤ n ∧ n ≤ 9223372036854775807) : IntKind.i64.wrap n = n := IntWalk.i64_in n h
/-- A whole number that is a natural one. -/
class Nt (j : Int) (k : outParam Nat) : Prop where
  eq : j = (k : Int)
instance (k : Nat) : Nt (k : Int) k := ⟨rfl⟩
instance (n : Nat) : Nt (no_index (OfNat.ofNat n) : Int) (OfNat.ofNat n) := ⟨rfl⟩
instance (x y : Int) (a b : Nat) [h : Nt x a] [k : Nt y b] : Nt (x + y) (a + b) := ⟨by rw [h.eq, k.eq]; omega⟩
instance (x y : Int) (a b : Nat) [h : Nt x a] [k : Nt y b] : Nt (x * y) (a * b) := ⟨by rw [h.eq, k.eq]; simp⟩
instance (x y : Int) (a b : Nat) [h : Nt x a] [k : Nt y b] : Nt (x / y) (a / b) := ⟨by rw [h.eq, k.eq]; simp⟩
instance (x y : Int) (a b : Nat) [h : Nt x a] [k : Nt y b] : Nt (x % y) (a % b) := ⟨by rw [h.eq, k.eq]; simp⟩

section
variable {P : Program} {S : World → Prop} {env : Env} {dst : Option Tmp} {ty : TypeId} {pos : String} {after : Array Edge} {g : Option (Nat × Bool)}

theorem y_move {x : Operand} {v : Value} (hx : ev env x = some v) : Y P S env ⟨dst, .move x, ty, pos, after, g⟩ v := fun N a w ha _ => by simp [execOp, ha.eval hx]
theorem y_assign {x : Operand} {v : Value} (hx : ev env x = some v) : Y P S env ⟨dst, .assign x, ty, pos, after, g⟩ v := fun N a w ha _ => by simp [execOp, ha.eval hx]
theorem y_pickT {c x y : Operand} {v : Value} (hc : ev env c = some (.bool true)) (hx : ev env x = some v) : Y P S env ⟨dst, .pick c x y, ty, pos, after, g⟩ v := fun N a w ha _ => by
  simp [execOp, ha.eval hc, ha.eval hx, asBool]
theorem y_pickF {c x y : Operand} {v : Value} (hc : ev env c = some (.bool false)) (hy : ev env y = some v) : Y P S env ⟨dst, .pick c x y, ty, pos, after, g⟩ v := fun N a w ha _ => by
  simp [execOp, ha.eval hc, ha.eval hy, asBool]

/-! integers -/
theorem y_add {x y : Operand} {t u : TypeId} {k : IntKind} {m n r : Int} (hx : ev env x = some (.int k m)) (hy : ev env y = some (.int k n)) (hw : k.wrap (m + n) = r) :
    Y P S env ⟨dst, .binOp .add t x y u, ty, pos, after, g⟩ (.int k r) := fun N a w ha _ => by
  subst hw; simp only [execOp, ha.eval hx, ha.eval hy, eqGuard, binOp, Op.intArith, ne_eq, not_true_eq_false, if_false, Sem.run_bind, Sem.run_pure, Result.andThen_ok]
  rfl
theorem y_sub {x y : Operand} {t u : TypeId} {k : IntKind} {m n r : Int} (hx : ev env x = some (.int k m)) (hy : ev env y = some (.int k n)) (hw : k.wrap (m - n) = r) :
    Y P S env ⟨dst, .binOp .sub t x y u, ty, pos, after, g⟩ (.int k r) := fun N a w ha _ => by
  subst hw; simp only [execOp, ha.eval hx, ha.eval hy, eqGuard, binOp, Op.intArith, ne_eq, not_true_eq_false, if_false, Sem.run_bind, Sem.run_pure, Result.andThen_ok]
  rfl
theorem y_mul {x y : Operand} {t u : TypeId} {k : IntKind} {m n r : Int} (hx : ev env x = some (.int k m)) (hy : ev env y = some (.int k n)) (hw : k.wrap (m * n) = r) :
    Y P S env ⟨dst, .binOp .mul t x y u, ty, pos, after, g⟩ (.int k r) := fun N a w ha _ => by
  subst hw; simp only [execOp, ha.eval hx, ha.eval hy, eqGuard, binOp, Op.intArith, ne_eq, not_true_eq_false, if_false, Sem.run_bind, Sem.run_pure, Result.andThen_ok]
  rfl
theorem y_quo {x y : Operand} {t u : TypeId} {k : IntKind} {m n r : Int} (hx : ev env x = some (.int k m)) (hy : ev env y = some (.int k n)) (hn : n ≠ 0) (hw : k.wrap (m.tdiv n) = r) :
    Y P S env ⟨dst, .binOp .quo t x y u, ty, pos, after, g⟩ (.int k r) := fun N a w ha _ => by
  subst hw
  simp only [execOp, ha.eval hx, ha.eval hy, eqGuard_quo, binOp, Op.intDiv, ne_eq, not_true_eq_false, if_false, if_neg hn, Sem.run_bind, Sem.run_pure, Result.andThen_ok]
/-- a / b where both are not below 0 -/
theorem quoI {m n : Int} (hm : 0 ≤ m ∧ m ≤ 9223372036854775807) (hn : 0 < n) : IntKind.i64.wrap (m.tdiv n) = m / n := by
  rw [Int.tdiv_eq_ediv_of_nonneg hm.1]
  refine i64w ⟨?_, ?_⟩
  · have := Int.ediv_nonneg hm.1 (Int.le_of_lt hn); omega
  · have := Int.ediv_le_self n hm.1; omega
theorem y_lss {x y : Operand} {t u : TypeId} {k : IntKind} {m n : Int} (hx : ev env x = some (.int k m)) (hy : ev env y = some (.int k n)) :
    Y P S env ⟨dst, .binOp .lss t x y u, ty, pos, after, g⟩ (.bool (decide (m < n))) := fun N a w ha _ => by
  simp only [execOp, ha.eval hx, ha.eval hy, eqGuard, binOp, Op.intCmp, ne_eq, not_true_eq_false, if_false, Sem.run_bind, Sem.run_pure, Result.andThen_ok]
  rfl
theorem y_gtr {x y : Operand} {t u : TypeId} {k : IntKind} {m n : Int} (hx : ev env x = some (.int k m)) (hy : ev env y = some (.int k n)) :
    Y P S env ⟨dst, .binOp .gtr t x y u, ty, pos, after, g⟩ (.bool (decide (n < m))) := fun N a w ha _ => by
  simp only [execOp, ha.eval hx, ha.eval hy, eqGuard, binOp, Op.intCmp, ne_eq, not_true_eq_false, if_false, Sem.run_bind, Sem.run_pure, Result.andThen_ok]
  rfl
theorem y_geq {x y : Operand} {t u : TypeId} {k : IntKind} {m n : Int} (hx : ev env x = some (.int k m)) (hy : ev env y = some (.int k n)) :
    Y P S env ⟨dst, .binOp .geq t x y u, ty, pos, after, g⟩ (.bool (decide (n ≤ m))) := fun N a w ha _ => by
  simp only [execOp, ha.eval hx, ha.eval hy, eqGuard, binOp, Op.intCmp, ne_eq, not_true_eq_false, if_false, Sem.run_bind, Sem.run_pure, Result.andThen_ok]
  rfl
theorem y_eql {x y : Operand} {t u : TypeId} {k : IntKind} {m n : Int} (hx : ev env x = some (.int k m)) (hy : ev env y = some (.int k n)) :
    Y P S env ⟨dst, .binOp .eql t x y u, ty, pos, after, g⟩ (.bool (decide (m = n))) := fun N a w ha _ => by
  simp only [execOp, ha.eval hx, ha.eval hy, eqGuard, binOp, ne_eq, not_true_eq_false, if_false, Op.intCmp, Sem.run_bind, Sem.run_pure, Result.andThen_ok]
  rfl
theorem y_neq {x y : Operand} {t u : TypeId} {k : IntKind} {m n : Int} (hx : ev env x = some (.int k m)) (hy : ev env y = some (.int k n)) :
    Y P S env ⟨dst, .binOp .neq t x y u, ty, pos, after, g⟩ (.bool (decide (m ≠ n))) := fun N a w ha _ => by
  simp only [execOp, ha.eval hx, ha.eval hy, eqGuard, binOp, ne_eq, not_true_eq_false, if_false, Op.intCmp, Sem.run_bind, Sem.run_pure, Result.andThen_ok]
  congr 2
  by_cases h : m = n <;> simp [h]
/-! strings -/
theorem y_cat {x y : Operand} {t u : TypeId} {m n : ByteArray} (hx : ev env x = some (.string m)) (hy : ev env y = some (.string n)) (hs : m.size + n.size ≤ 9223372036854775807) :
    Y P S env ⟨dst, .binOp .add t x y u, ty, pos, after, g⟩ (.string (m ++ n)) := fun N a w ha _ => by
  simp only [execOp, ha.eval hx, ha.eval hy, eqGuard_add, binOp, Sem.run_bind, Sem.run_pure, Result.andThen_ok, run_string_add_sum w m n hs]
theorem toList_loop (s : ByteArray) : ∀ (n i : Nat) (acc : List UInt8), s.size - i = n → ByteArray.toList.loop s i acc = acc.reverse ++ s.data.toList.drop i := by
  intro n
  induction n with
  | zero =>
    intro i acc h
    rw [ByteArray.toList.loop, if_neg (by omega), List.drop_of_length_le (by rw [size_toList]; omega), List.append_nil]
  | succ n ih =>
    intro i acc h
    have hi : i < s.data.toList.length := by rw [size_toList]; omega
    rw [ByteArray.toList.loop, if_pos (by omega), ih (i + 1) _ (by omega), List.drop_eq_getElem_cons hi]
    have : s.get! i = s.data.toList[i] := by
      rw [ByteArray.get!.eq_def]
      simp at hi
      simp [hi]
    rw [this]
    simp
theorem toList_eq (s : ByteArray) : s.toList = s.data.toList := by
  rw [ByteArray.toList, toList_loop s s.size 0 [] (by omega)]
  simp
theorem beq_str (m n : ByteArray) : (m.toList == n.toList) = decide (m = n) := by
  rw [toList_eq, toList_eq]
  by_cases h : m = n
  · subst h; simp
  · simp only [h, decide_false, beq_eq_false_iff_ne, ne_eq]
    intro h'
    apply h
    cases m; cases n
    simp only [ByteArray.mk.injEq]
    exact Array.toList_inj.1 h'
theorem y_seql {x y : Operand} {t u : TypeId} {m n : ByteArray} (hx : ev env x = some (.string m)) (hy : ev env y = some (.string n)) :
    Y P S env ⟨dst, .binOp .eql t x y u, ty, pos, after, g⟩ (.bool (decide (m = n))) := fun N a w ha _ => by
  simp only [execOp, ha.eval hx, ha.eval hy, eqGuard, binOp, Op.stringOp, Sem.run_bind, Sem.run_pure, Result.andThen_ok, beq_str]
  rfl
theorem y_sneq {x y : Operand} {t u : TypeId} {m n : ByteArray} (hx : ev env x = some (.string m)) (hy : ev env y = some (.string n)) :
    Y P S env ⟨dst, .binOp .neq t x y u, ty, pos, after, g⟩ (.bool (decide (m ≠ n))) := fun N a w ha _ => by
  simp only [execOp, ha.eval hx, ha.eval hy, eqGuard, binOp, Op.stringOp, Sem.run_bind, Sem.run_pure, Result.andThen_ok, beq_str]
  simp
/-- m before n, as Go compares strings. -/
def sLt (m n : ByteArray) : Bool := Op.bytesLess m.toList n.toList
theorem y_slss {x y : Operand} {t u : TypeId} {m n : ByteArray} (hx : ev env x = some (.string m)) (hy : ev env y = some (.string n)) :
    Y P S env ⟨dst, .binOp .lss t x y u, ty, pos, after, g⟩ (.bool (sLt m n)) := fun N a w ha _ => by
  simp only [execOp, ha.eval hx, ha.eval hy, eqGuard, binOp, Op.stringOp, Sem.run_bind, Sem.run_pure, Result.andThen_ok, beq_str]
  rfl
/-! bools -/
/-! conversions between integers -/
/-! len, cap -/
theorem y_len {x : Operand} {t e : TypeId} {A : Option Addr} {n c : Nat} (ht : P.underlying t = some (.slice e)) (hx : ev env x = some (.slice A n c)) :
    Y P S env ⟨dst, .call { callee := .builtin .len, args := #[x], argTypes := #[t] }, ty, pos, after, g⟩ (.int .i64 (n : Int)) := fun N a w ha _ => by
  have he : P.elem t = e := by simp [Program.elem, ht]
  have := run_len_slice (P := P) (w := w) t ty A n c (by rw [he]; exact ht)
  simp only [execOp, resolve, invoke, builtin, Sem.run_bind, Sem.run_pure, Result.andThen_ok, List.map_toArray, List.map_cons, List.map_nil, ha.eval hx, this]
  rfl
theorem y_lens {x : Operand} {t : TypeId} {s : ByteArray} (ht : P.underlying t = some .string) (hx : ev env x = some (.string s)) :
    Y P S env ⟨dst, .call { callee := .builtin .len, args := #[x], argTypes := #[t] }, ty, pos, after, g⟩ (.int .i64 (s.size : Int)) := fun N a w ha _ => by
  have := run_len_string (P := P) (w := w) t ty s ht
  simp only [execOp, resolve, invoke, builtin, Sem.run_bind, Sem.run_pure, Result.andThen_ok, List.map_toArray, List.map_cons, List.map_nil, ha.eval hx, this]
  rfl
theorem y_min {x y : Operand} {t u : TypeId} {k : IntKind} {m n : Int} (hx : ev env x = some (.int k m)) (hy : ev env y = some (.int k n)) :
    Y P S env ⟨dst, .call { callee := .builtin .min, args := #[x, y], argTypes := #[t, u] }, ty, pos, after, g⟩ (.int k (min m n)) := fun N a w ha _ => by
  simp only [execOp, resolve, invoke, builtin, Sem.run_bind, Sem.run_pure, Result.andThen_ok, List.map_toArray, List.map_cons, List.map_nil, ha.eval hx, ha.eval hy, Builtin.min_, List.foldlM_cons, List.foldlM_nil, Builtin.min2]
  have : (if n < m then n else m) = min m n := by split <;> omega
  rw [this]
theorem y_max {x y : Operand} {t u : TypeId} {k : IntKind} {m n : Int} (hx : ev env x = some (.int k m)) (hy : ev env y = some (.int k n)) :
    Y P S env ⟨dst, .call { callee := .builtin .max, args := #[x, y], argTypes := #[t, u] }, ty, pos, after, g⟩ (.int k (max m n)) := fun N a w ha _ => by
  simp only [execOp, resolve, invoke, builtin, Sem.run_bind, Sem.run_pure, Result.andThen_ok, List.map_toArray, List.map_cons, List.map_nil, ha.eval hx, ha.eval hy, Builtin.max_, List.foldlM_cons, List.foldlM_nil, Builtin.max2]
  have : (if n > m then n else m) = max m n := by split <;> omega
  rw [this]
/-! parts of values -/
theorem y_extract {x : Operand} {i : Nat} {vs : Array Value} {v : Value} (hx : ev env x = some (.tuple vs)) (hv : vs[i]? = some v) : Y P S env ⟨dst, .extract x i, ty, pos, after, g⟩ v := fun N a w ha _ => by
  simp only [execOp, ha.eval hx, Instr.extract, hv, Sem.run_bind, Sem.run_pure, Result.andThen_ok]
/-! nil checks -/
end
end Go.Proofs.Ytaknmlajhedfhaa.Zx


/-
  What is known of the world: old memory as it was, and a list of pieces of memory of the call's own, apart from each other. General; nothing here names a program.
-/
namespace Go.Proofs.Ytaknmlajhedfhaa.Zx
open Go.RowKit Zk
set_option linter.unusedVariables false
set_option linter.unusedSimpArgs false

/-! ### what slices read as -/
structure Rs (w : World) (size : Nat) (A : Option Addr) (n c : Nat) (xs : List Value) : Prop where
  rd : Reads w w.heap.size size A n xs
  cap : n ≤ c
  max : c ≤ 9223372036854775807
def cutA (A : Option Addr) (c l size : Nat) : Option Addr := if c = l then A else A.map (·.add (l * size))
section
variable {w w' : World} {size n c : Nat} {A : Option Addr} {xs : List Value}
theorem Rs.like (h : Rs w size A n c xs) (hl : Like w w') : Rs w' size A n c xs := ⟨(h.rd.below hl).more hl.size, h.cap, h.max⟩
theorem Rs.len (h : Rs w size A n c xs) : xs.length = n * size := h.rd.1
theorem Rs.nil (w : World) (size : Nat) : Rs w size none 0 0 [] := ⟨Reads.none_, Nat.le_refl _, by omega⟩
theorem Rs.cut (h : Rs w size A n c xs) {l u : Nat} (h1 : l ≤ u) (h2 : u ≤ n) : Rs w size (cutA A c l size) (u - l) (c - l) ((xs.drop (l * size)).take ((u - l) * size)) := by
  have hc := h.cap
  have hx := h.len
  refine ⟨⟨?_, fun hn => ?_⟩, by omega, by have := h.max; omega⟩
  · rw [List.length_take, List.length_drop, hx, ← Nat.sub_mul]
    exact Nat.min_eq_left (Nat.mul_le_mul_right _ (by omega))
  · obtain ⟨ad, rfl, hb, hcell⟩ := h.rd.2 (by omega)
    unfold cutA
    rw [if_neg (by omega)]
    refine ⟨ad.add (l * size), rfl, by rw [block_of_add]; exact hb, fun j u' hu => ?_⟩
    rw [add_of_add]
    rw [List.getElem?_take] at hu
    split at hu
    · rw [List.getElem?_drop] at hu
      exact hcell _ u' hu
    · cases hu
theorem Rs.at_ (h : Rs w 1 A n c xs) {k : Nat} (hk : k < n) : ∃ ad v, A = some ad ∧ xs[k]? = some v ∧ w.cell? (ad.add k) = some v := by
  obtain ⟨ad, u, h1, _, h2, h3⟩ := h.rd.at_ hk
  exact ⟨ad, u, h1, h2, h3⟩
end
theorem bL_drop (l : List UInt8) (k : Nat) : (bL l).drop k = bL (l.drop k) := by simp [bL]
theorem bL_take (l : List UInt8) (k : Nat) : (bL l).take k = bL (l.take k) := by simp [bL]
theorem Rs.cutb {w : World} {A : Option Addr} {n c : Nat} {xs : List UInt8} (h : Rs w 1 A n c (bL xs)) {l u : Nat} (h1 : l ≤ u) (h2 : u ≤ n) : Rs w 1 (cutA A c l 1) (u - l) (c - l) (bL ((xs.drop l).take (u - l))) := by
  have := h.cut h1 h2
  rwa [Nat.mul_one, Nat.mul_one, bL_drop, bL_take] at this
theorem Rs.lenb {w : World} {A : Option Addr} {n c : Nat} {xs : List UInt8} (h : Rs w 1 A n c (bL xs)) : xs.length = n := by
  have := h.len
  simpa using this
def pR (A : Option Addr) (k size : Nat) : Value := .pointer (A.map (·.add (k * size)))
section
variable {P : Program} {S : World → Prop} {env : Env} {w : World} {dst : Option Tmp} {ty : TypeId} {pos : String} {after : Array Edge} {g : Option (Nat × Bool)}
theorem sizeOf_run {e : TypeId} {size : Nat} (hsz : (P.info? e).map (·.size) = some size) (w : World) : (sizeOf e).run P w = .ok size w := by
  cases hq : P.info? e with
  | none => simp [hq] at hsz
  | some i =>
    have : i.size = size := by simpa [hq] using hsz
    simp [sizeOf, typeInfo, hq, this]
theorem y_idx {x i : Operand} {t e : TypeId} {A : Option Addr} {n c k size : Nat} {q : IntKind} {j : Int} {xs : List Value} (ht : P.underlying t = some (.slice e)) (hsz : (P.info? e).map (·.size) = some size)
    (hx : ev env x = some (.slice A n c)) (hi : ev env i = some (.int q j)) (hr : Rs w size A n c xs) (hj : Nt j k) (hk : k < n) :
    Y P S env ⟨dst, .indexAddr t x i, ty, pos, after, g⟩ (pR A k size) := fun N a w' ha _ => by
  obtain ⟨ad, hA, _⟩ := hr.rd.2 (by omega)
  subst hA
  have hj' := hj.eq
  subst hj'
  have h1 : (0 : Int) ≤ (k : Int) ∧ (k : Int) < (n : Int) := by omega
  simp only [execOp, ha.eval hx, ha.eval hi, Instr.indexAt, asIntOf, Sem.run_bind, run_underlying ht, Sem.run_pure, Result.andThen_ok, h1, and_self, if_true, sizeOf_run hsz, Int.toNat_natCast]
  rfl
theorem run_loadVar1 {p : Addr} {v : Value} {d : TypeDesc} (hd : P.underlying ty = some d) (hrow : d.isRow = false) {w' : World} (hc : w'.cell? p = some v) : (loadVar ty p).run P w' = .ok v w' := by
  have hagg : (isAgg ty).run P w' = .ok false w' := by
    unfold isAgg
    rw [Sem.run_bind, run_underlying hd w']
    cases d <;> simp_all [TypeDesc.isRow]
  simp only [loadVar, Sem.run_bind, hagg, Result.andThen_ok, Bool.false_eq_true, if_false]
  simp [hc]
theorem y_ldc {x : Operand} {p : Addr} {v : Value} {lt : TypeId} {d : TypeDesc} (hd : P.underlying lt = some d) (hrow : d.isRow = false) (hx : ev env x = some (.pointer (some p))) (hc : w.cell? p = some v) :
    Y P (Like w) env ⟨dst, .load lt x, ty, pos, after, g⟩ v := fun N a w' ha hw => by
  simp only [execOp, ha.eval hx, Instr.loadAt, Instr.sureAddr, Sem.run_bind, Sem.run_pure, Result.andThen_ok, run_loadVar1 hd hrow (Like.cell hw hc)]
theorem y_ldr {x : Operand} {A : Option Addr} {n c k : Nat} {xs : List Value} {v : Value} {lt : TypeId} {d : TypeDesc} (hd : P.underlying lt = some d) (hrow : d.isRow = false) (hx : ev env x = some (pR A k 1)) (hr : Rs w 1 A n c xs) (hv : xs[k]? = some v) :
    Y P (Like w) env ⟨dst, .load lt x, ty, pos, after, g⟩ v := by
  have hk : k < n := by
    have h1 := (List.getElem?_eq_some_iff.1 hv).1
    have h2 := hr.len
    omega
  obtain ⟨ad, u, rfl, h2, h3⟩ := hr.at_ hk
  rw [hv] at h2
  cases h2
  refine y_ldc hd hrow (p := ad.add k) ?_ h3
  rw [hx]
  simp [pR]
/-! arrays behind a pointer -/
theorem y_fieldA {x : Operand} {t : TypeId} {fs : Array Field} {f : Field} {i b o size : Nat} (r : Nat) (ht : P.underlying t = some (.struct fs)) (hf : fs[i]? = some f) (hsz : (P.info? f.type).map (·.size) = some size) (h0 : Nat.blt 0 size = true)
    (hx : ev env x = some (.pointer (some ⟨b, o, none⟩))) (hr : o + f.offset = r) : Y P S env ⟨dst, .fieldAddr t x i, ty, pos, after, g⟩ (.pointer (some ⟨b, r, none⟩)) := fun N a w' ha _ => by
  subst hr
  have h1 : ¬ size = 0 := by have : 0 < size := by simpa using h0
                             omega
  simp only [execOp, ha.eval hx, Instr.fieldAt, Instr.sureAddr, Sem.run_bind, run_underlying ht, Sem.run_pure, Result.andThen_ok, hf, fieldPlace, sizeOf_run hsz, if_neg h1, Addr.add_mid]
/-- A field's address of an element of a slice of structs. -/
def pRF (A : Option Addr) (k : Nat) : Value := .pointer (A.map (·.add k))
theorem y_fieldR {x : Operand} {t : TypeId} {fs : Array Field} {f : Field} {A : Option Addr} {n c k i size fsize : Nat} (off : Nat) {xs : List Value} (ht : P.underlying t = some (.struct fs)) (hf : fs[i]? = some f) (hsz : (P.info? f.type).map (·.size) = some fsize) (h0 : Nat.blt 0 fsize = true)
    (hx : ev env x = some (pR A k size)) (hr : Rs w size A n c xs) (hk : k < n) (hoff : f.offset = off) : Y P S env ⟨dst, .fieldAddr t x i, ty, pos, after, g⟩ (pRF A (k * size + off)) := fun N a w' ha _ => by
  subst hoff
  have h1 : ¬ fsize = 0 := by have : 0 < fsize := by simpa using h0
                              omega
  obtain ⟨ad, rfl, hb, hcell⟩ := hr.rd.2 (by omega)
  simp only [execOp, ha.eval hx, pR, pRF, Option.map_some, Instr.fieldAt, Instr.sureAddr, Sem.run_bind, run_underlying ht, Sem.run_pure, Result.andThen_ok, hf, fieldPlace, sizeOf_run hsz, if_neg h1, add_of_add]
theorem y_ldf {x : Operand} {A : Option Addr} {n c k size : Nat} {xs : List Value} {v : Value} {lt : TypeId} {d : TypeDesc} (hd : P.underlying lt = some d) (hrow : d.isRow = false) (hx : ev env x = some (pRF A k)) (hr : Rs w size A n c xs) (hn : 0 < n) (hv : xs[k]? = some v) :
    Y P (Like w) env ⟨dst, .load lt x, ty, pos, after, g⟩ v := by
  obtain ⟨ad, rfl, hb, hcell⟩ := hr.rd.2 hn
  exact y_ldc hd hrow (p := ad.add k) (by rw [hx]; simp [pRF]) (hcell _ _ hv)
/-! parts -/
theorem y_slice {x : Operand} {t e : TypeId} {A : Option Addr} {n c l u size : Nat} {kl kh : IntKind} {jl jh : Int} {i j : Operand} (ht : P.underlying t = some (.slice e)) (hsz : (P.info? e).map (·.size) = some size) (hx : ev env x = some (.slice A n c))
    (hi : ev env i = some (.int kl jl)) (hj : ev env j = some (.int kh jh)) (hl : Nt jl l) (hu : Nt jh u) (h1 : l ≤ u) (h2 : u ≤ c) :
    Y P S env ⟨dst, .slice t x (some i) (some j) none, ty, pos, after, g⟩ (.slice (cutA A c l size) (u - l) (c - l)) := fun N a w' ha _ => by
  have e1 := hl.eq
  have e2 := hu.eq
  subst e1; subst e2
  have he : P.elem t = e := by simp [Program.elem, ht]
  have h3 := run_slice_lh (P := P) (w := w') (t := t) (a := A) (len := n) (cap := c) (by rw [he]; exact ht) kl kh (l : Int) (u : Int) (by omega) (by omega) (by omega)
  rw [he] at h3
  simp only [execOp, ha.eval hx, Option.map_some, Option.map_none, ha.eval hi, ha.eval hj, Instr.sliceAt, Sem.run_bind, run_underlying ht, Result.andThen_ok, h3, sizeOf_run hsz, Sem.run_pure, Int.toNat_natCast]
  rfl
theorem y_sliceL {x : Operand} {t e : TypeId} {A : Option Addr} {n c l size : Nat} {kl : IntKind} {jl : Int} {i : Operand} (ht : P.underlying t = some (.slice e)) (hsz : (P.info? e).map (·.size) = some size) (hx : ev env x = some (.slice A n c))
    (hi : ev env i = some (.int kl jl)) (hl : Nt jl l) (h1 : l ≤ n) :
    Y P S env ⟨dst, .slice t x (some i) none none, ty, pos, after, g⟩ (.slice (cutA A c l size) (n - l) (c - l)) := fun N a w' ha _ => by
  have e1 := hl.eq
  subst e1
  have he : P.elem t = e := by simp [Program.elem, ht]
  have h3 := run_slice_l (P := P) (w := w') (t := t) (a := A) (len := n) (cap := c) (by rw [he]; exact ht) kl (l : Int) (by omega) (by omega)
  rw [he] at h3
  simp only [execOp, ha.eval hx, Option.map_some, Option.map_none, ha.eval hi, Instr.sliceAt, Sem.run_bind, run_underlying ht, Result.andThen_ok, h3, sizeOf_run hsz, Sem.run_pure, Int.toNat_natCast]
  rfl
theorem y_sliceH {x : Operand} {t e : TypeId} {A : Option Addr} {n c u size : Nat} {kh : IntKind} {jh : Int} {j : Operand} (ht : P.underlying t = some (.slice e)) (hsz : (P.info? e).map (·.size) = some size) (hx : ev env x = some (.slice A n c))
    (hj : ev env j = some (.int kh jh)) (hu : Nt jh u) (h2 : u ≤ c) :
    Y P S env ⟨dst, .slice t x none (some j) none, ty, pos, after, g⟩ (.slice (cutA A c 0 size) (u - 0) (c - 0)) := fun N a w' ha _ => by
  have e2 := hu.eq
  subst e2
  have he : P.elem t = e := by simp [Program.elem, ht]
  have h3 := run_slice_h (P := P) (w := w') (t := t) (a := A) (len := n) (cap := c) (by rw [he]; exact ht) kh (u : Int) (by omega) (by omega)
  rw [he] at h3
  simp only [execOp, ha.eval hx, Option.map_some, Option.map_none, ha.eval hj, Instr.sliceAt, Sem.run_bind, run_underlying ht, Result.andThen_ok, h3, sizeOf_run hsz, Sem.run_pure, Int.toNat_natCast]
  rfl
end
end Go.Proofs.Ytaknmlajhedfhaa.Zx


/-
  Operations that make memory or write to it, and calls. General; nothing here names a program.
-/
namespace Go.Proofs.Ytaknmlajhedfhaa.Zx
open Go.RowKit Zk
set_option linter.unusedVariables false
set_option linter.unusedSimpArgs false

/-- A piece of memory of the call's own: its blocks, and what holds of it. -/
structure Res where
  dom : Nat → Prop
  holds : World → Prop
  stable : ∀ w w' : World, (∀ i, dom i → w'.heap[i]? = w.heap[i]?) → holds w → holds w'
/-- M: the old blocks that the call may write to. -/
structure St (w0 : World) (M : Nat → Prop) (rs : List Res) (w : World) : Prop where
  os : w.os = w0.os
  tape : w.tape = w0.tape
  output : w.output = w0.output
  size : w0.heap.size ≤ w.heap.size
  old : ∀ i, i < w0.heap.size → ¬ M i → w.heap[i]? = w0.heap[i]?
  res : ∀ r ∈ rs, r.holds w ∧ ∀ i, r.dom i → i < w.heap.size ∧ (w0.heap.size ≤ i ∨ M i)
  apart : rs.Pairwise fun r s => ∀ i, r.dom i → ¬ s.dom i
def noM : Nat → Prop := fun _ => False

section
variable {w0 w w' : World} {M : Nat → Prop} {rs : List Res}
theorem St.start (w : World) (M : Nat → Prop) : St w M [] w := ⟨rfl, rfl, rfl, Nat.le_refl _, fun _ _ _ => rfl, (fun r hr => by cases hr), List.Pairwise.nil⟩
theorem St.like0 (S : St w0 noM rs w) : Like w0 w := ⟨S.os, S.tape, S.output, S.size, fun k hk => S.old k hk (fun h => h)⟩
theorem St.rd (S : St w0 noM rs w) {size : Nat} {A : Option Addr} {n c : Nat} {xs : List Value} (h : Rs w0 size A n c xs) : Rs w size A n c xs := h.like S.like0
/-- What a call did that may write to block g. -/
theorem St.only {g : Nat} (S : St w0 (· = g) rs w) : w0.grownBy w (some g) := ⟨S.os, S.tape, S.output, S.size, fun i hi hne => S.old i hi (fun e => hne (by rw [e]))⟩
theorem St.like (S : St w0 M rs w) (h : Like w w') : St w0 M rs w' :=
  ⟨h.os.trans S.os, h.tape.trans S.tape, h.output.trans S.output, Nat.le_trans S.size h.size, fun i hi hM => (h.block i (Nat.lt_of_lt_of_le hi S.size)).trans (S.old i hi hM),
    fun r hr => ⟨r.stable w w' (fun i hi => h.block i ((S.res r hr).2 i hi).1) (S.res r hr).1, fun i hi => ⟨Nat.lt_of_lt_of_le ((S.res r hr).2 i hi).1 h.size, ((S.res r hr).2 i hi).2⟩⟩, S.apart⟩
theorem St.drew (S : St w0 M rs w) : St w0 M rs w.drew := S.like (Like.drew w)
theorem St.get (S : St w0 M rs w) (k : Nat) {r : Res} (hk : rs[k]? = some r) : r.holds w := (S.res r (List.mem_of_getElem? hk)).1
/-- One piece has changed, and maybe moved into a new block. -/
theorem St.upd (S : St w0 M rs w) (k : Nat) {r r' : Res} (hk : rs[k]? = some r) (hos : w'.os = w.os) (htape : w'.tape = w.tape) (hout : w'.output = w.output) (hsz : w.heap.size ≤ w'.heap.size)
    (hb : ∀ i, i < w.heap.size → ¬ r.dom i → w'.heap[i]? = w.heap[i]?) (hr : r'.holds w') (hd : ∀ i, r'.dom i → r.dom i ∨ (w.heap.size ≤ i ∧ i < w'.heap.size)) : St w0 M (rs.set k r') w' := by
  have hkl : k < rs.length := (List.getElem?_eq_some_iff.1 hk).1
  have hke : rs[k] = r := (List.getElem?_eq_some_iff.1 hk).2
  have hmem : r ∈ rs := List.mem_of_getElem? hk
  have hap := List.pairwise_iff_getElem.1 S.apart
  have hap2 : ∀ j (hj : j < rs.length), j ≠ k → ∀ i, rs[j].dom i → ¬ r.dom i := by
    intro j hj hne i hi hri
    rcases Nat.lt_or_gt_of_ne hne with h | h
    · exact hap j k hj hkl h i hi (by rw [hke]; exact hri)
    · exact hap k j hkl hj h i (by rw [hke]; exact hri) hi
  refine ⟨hos.trans S.os, htape.trans S.tape, hout.trans S.output, Nat.le_trans S.size hsz, fun i hi hM => ?_, fun q hq => ?_, ?_⟩
  · refine (hb i (Nat.lt_of_lt_of_le hi S.size) fun hri => ?_).trans (S.old i hi hM)
    rcases ((S.res r hmem).2 i hri).2 with h | h
    · omega
    · exact hM h
  · obtain ⟨j, hj, rfl⟩ := List.getElem_of_mem hq
    have hj' : j < rs.length := by simpa using hj
    rw [List.getElem_set]
    split
    · rename_i hjk
      subst hjk
      refine ⟨hr, fun i hi => ?_⟩
      rcases hd i hi with h | h
      · exact ⟨Nat.lt_of_lt_of_le ((S.res r hmem).2 i h).1 hsz, ((S.res r hmem).2 i h).2⟩
      · exact ⟨h.2, .inl (Nat.le_trans S.size h.1)⟩
    · rename_i hjk
      have h1 := S.res rs[j] (List.getElem_mem hj')
      exact ⟨(rs[j]).stable w w' (fun i hi => hb i (h1.2 i hi).1 (hap2 j hj' (fun e => hjk e.symm) i hi)) h1.1, fun i hi => ⟨Nat.lt_of_lt_of_le (h1.2 i hi).1 hsz, (h1.2 i hi).2⟩⟩
  · rw [List.pairwise_iff_getElem]
    intro i j hi hj hij x hx
    have hi' : i < rs.length := by simpa using hi
    have hj' : j < rs.length := by simpa using hj
    rw [List.getElem_set] at hx ⊢
    split at hx
    · rename_i hki
      subst hki
      rw [if_neg (by omega)]
      intro hxj
      rcases hd x hx with h | h
      · exact hap2 j hj' (by omega) x hxj h
      · have := ((S.res rs[j] (List.getElem_mem hj')).2 x hxj).1
        omega
    · split
      · rename_i hki hkj
        subst hkj
        intro hxk
        rcases hd x hxk with h | h
        · exact hap2 i hi' (by omega) x hx h
        · have := ((S.res rs[i] (List.getElem_mem hi')).2 x hx).1
          omega
      · exact hap i j hi' hj' hij x hx
/-- A piece more, in new blocks. -/
theorem St.new (S : St w0 M rs w) (h : Like w w') (r : Res) (hr : r.holds w') (hd : ∀ i, r.dom i → w.heap.size ≤ i ∧ i < w'.heap.size) : St w0 M (rs ++ [r]) w' := by
  have S' := S.like h
  refine ⟨S'.os, S'.tape, S'.output, S'.size, S'.old, fun q hq => ?_, ?_⟩
  · rcases List.mem_append.1 hq with hq | hq
    · exact S'.res q hq
    · obtain rfl := List.mem_singleton.1 hq
      exact ⟨hr, fun i hi => ⟨(hd i hi).2, .inl (Nat.le_trans S.size (hd i hi).1)⟩⟩
  · rw [List.pairwise_append]
    refine ⟨S.apart, List.pairwise_singleton _ _, fun q hq s hs i hi hsi => ?_⟩
    obtain rfl := List.mem_singleton.1 hs
    have := ((S.res q hq).2 i hi).1
    have := (hd i hsi).1
    omega
theorem St.cast (S : St w0 M rs w) {rs' : List Res} (h : rs = rs') : St w0 M rs' w := h ▸ S
theorem St.drop (S : St w0 M rs w) {rs' : List Res} (h : rs'.Sublist rs) : St w0 M rs' w := ⟨S.os, S.tape, S.output, S.size, S.old, fun r hr => S.res r (h.subset hr), S.apart.sublist h⟩
end

/-- A row of the call's own. -/
def row (e size : Nat) (A : Option Addr) (n c : Nat) (xs : List Value) : Res where
  dom i := (Value.slice A n c).ownBlock = some i
  holds w := w.ownsRow 0 e size (.slice A n c) n xs
  stable w w' h hh := by
    refine ⟨hh.1, hh.2.imp id fun ⟨g, cap, cur, h1, h2, h3, h4⟩ => ⟨g, cap, cur, h1, h2, ?_, h4⟩⟩
    rw [← h3]
    exact h g (by rw [h1]; rfl)
/-- A block known whole. -/
def blk (g t : Nat) (cs : Array Value) : Res where
  dom i := i = g
  holds w := Blk w g t cs
  stable w w' h hh := (h g rfl).trans hh
/-- What reads as xs and is not written again. -/
def fixed (size : Nat) (A : Option Addr) (n c : Nat) (xs : List Value) : Res where
  dom i := ∃ ad, 0 < n ∧ A = some ad ∧ ad.block = i
  holds w := Rs w size A n c xs
  stable w w' h hh := ⟨⟨hh.rd.1, fun hn => by
    obtain ⟨ad, e, hb, hc⟩ := hh.rd.2 hn
    have h1 := h ad.block ⟨ad, hn, e, rfl⟩
    have hlt : ad.block < w'.heap.size := by
      rcases Nat.lt_or_ge ad.block w'.heap.size with h2 | h2
      · exact h2
      · rw [Array.getElem?_eq_none h2, Array.getElem?_eq_getElem hb] at h1
        cases h1
    exact ⟨ad, e, hlt, fun j u hu => (World.cell?_of_block (a := ad.add j) (by rw [block_of_add]; exact h1)).trans (hc j u hu)⟩⟩, hh.cap, hh.max⟩
section
variable {w0 w w' : World} {M : Nat → Prop} {rs : List Res}
theorem ownsRow_cap {e size n c : Nat} {A : Option Addr} {xs : List Value} (h : w.ownsRow 0 e size (.slice A n c) n xs) : n ≤ c ∧ c ≤ 9223372036854775807 := by
  rcases h.2 with ⟨h1, rfl⟩ | ⟨g, cap, cur, h1, _, _, h2, h3, _⟩
  · injection h1 with _ h1 h2
    omega
  · injection h1 with _ _ h4
    subst h4
    exact ⟨h2, h3⟩
theorem rs_of_row {e size n c : Nat} {A : Option Addr} {xs : List Value} (h : w.ownsRow 0 e size (.slice A n c) n xs) : Rs w size A n c xs := ⟨Reads.of_own h, (ownsRow_cap h).1, (ownsRow_cap h).2⟩
theorem St.row (S : St w0 M rs w) (k : Nat) {e size n c : Nat} {A : Option Addr} {xs : List Value} (hk : rs[k]? = some (row e size A n c xs)) : Rs w size A n c xs := rs_of_row (S.get k hk)
theorem St.fix (S : St w0 M rs w) (k : Nat) {size n c : Nat} {A : Option Addr} {xs : List Value} (hk : rs[k]? = some (fixed size A n c xs)) : Rs w size A n c xs := S.get k hk
theorem St.own (S : St w0 noM rs w) (k : Nat) {e size n c : Nat} {A : Option Addr} {xs : List Value} (hk : rs[k]? = some (Zx.row e size A n c xs)) : w.ownsRow w0.heap.size e size (.slice A n c) n xs := by
  have h : w.ownsRow 0 e size (.slice A n c) n xs := S.get k hk
  refine ⟨h.1, h.2.imp id fun ⟨g, cap, cur, h1, _, h3⟩ => ⟨g, cap, cur, h1, ?_, h3⟩⟩
  have := ((S.res _ (List.mem_of_getElem? hk)).2 g (by simp only [Zx.row]; rw [h1]; rfl)).2
  rcases this with h | h
  · exact h
  · exact h.elim
/-- A callee's row becomes the caller's own. -/
theorem St.adopt (S : St w0 M rs w) (l : Like w w') {e size n c : Nat} {A : Option Addr} {xs : List Value} (h : w'.ownsRow w.heap.size e size (.slice A n c) n xs) : St w0 M (rs ++ [Zx.row e size A n c xs]) w' :=
  S.new l _ ⟨h.1, h.2.imp id fun ⟨g, cap, cur, h1, _, h3⟩ => ⟨g, cap, cur, h1, Nat.zero_le _, h3⟩⟩ fun i hi => by
    have := h.lt i hi
    exact ⟨this.1, this.2⟩
theorem St.blk (S : St w0 M rs w) (k : Nat) {g t : Nat} {cs : Array Value} (hk : rs[k]? = some (blk g t cs)) : Blk w g t cs := S.get k hk
theorem St.rowc (S : St w0 M rs w) (k : Nat) {e size n c n' : Nat} {A : Option Addr} {xs xs' : List Value} (hk : rs[k]? = some (Zx.row e size A n c xs)) (hn : n = n') (hx : xs = xs') : St w0 M (rs.set k (Zx.row e size A n' c xs')) w := by
  subst hn; subst hx
  obtain ⟨h1, h2⟩ := List.getElem?_eq_some_iff.1 hk
  rw [← h2, List.set_getElem_self]
  exact S
theorem St.nilrow (S : St w0 M rs w) (e size : Nat) : St w0 M (rs ++ [Zx.row e size none 0 0 []]) w := S.new (Like.refl w) _ ⟨by simp, .inl ⟨rfl, rfl⟩⟩ (fun i hi => by simp [Zx.row, Value.ownBlock] at hi)
end

/-- What operands are. -/
def evl (e : Env) : List Operand → Option (List Value)
  | [] => some []
  | x :: xs => match ev e x, evl e xs with
    | some v, some vs => some (v :: vs)
    | _, _ => none
theorem evl_map {N : Nat} {e : Env} {a : Act} (ha : Fits N e a) : ∀ (xs : List Operand) (vs : List Value), evl e xs = some vs → xs.map a.eval = vs
  | [], vs, h => by simp only [evl, Option.some.injEq] at h; subst h; rfl
  | x :: xs, vs, h => by
    simp only [evl] at h
    cases hx : ev e x with
    | none => rw [hx] at h; cases h
    | some v =>
      cases hxs : evl e xs with
      | none => rw [hx, hxs] at h; cases h
      | some us =>
        rw [hx, hxs] at h
        simp only [Option.some.injEq] at h
        subst h
        simp only [List.map_cons, ha.eval hx, evl_map ha xs us hxs]
def evp (e : Env) : List (Nat × Operand) → Option (List (Nat × Value))
  | [] => some []
  | (i, x) :: xs => match ev e x, evp e xs with
    | some v, some vs => some ((i, v) :: vs)
    | _, _ => none
theorem evp_map {N : Nat} {e : Env} {a : Act} (ha : Fits N e a) : ∀ (xs : List (Nat × Operand)) (vs : List (Nat × Value)), evp e xs = some vs → xs.map (fun p => (p.1, a.eval p.2)) = vs
  | [], vs, h => by simp only [evp, Option.some.injEq] at h; subst h; rfl
  | (i, x) :: xs, vs, h => by
    simp only [evp] at h
    cases hx : ev e x with
    | none => rw [hx] at h; cases h
    | some v =>
      cases hxs : evp e xs with
      | none => rw [hx, hxs] at h; cases h
      | some us =>
        rw [hx, hxs] at h
        simp only [Option.some.injEq] at h
        subst h
        simp only [List.map_cons, ha.eval hx, evp_map ha xs us hxs]
section
variable {P : Program} {N : Nat} {Q : Post} {env : Env} {w w0 : World} {M : Nat → Prop} {rs : List Res} {K : Env → World → Prop} {d : Tmp} {ty : TypeId} {pos : String} {after : Array Edge} {g : Option (Nat × Bool)}
theorem like_grown (h : w.grownBy w0 none) : Like w w0 := ⟨h.os, h.tape, h.output, h.size, fun k hk => h.block k hk (by simp)⟩
theorem like_alloc (w : World) (o : Obj) : Like w (w.alloc o) := like_grown (World.grownBy_alloc _ _ _)

/-- append onto a row of the call's own. -/
theorem o_app {s x : Operand} {t e : TypeId} {z : Value} {size bytes : Nat} (TE : Elem P t e z size bytes) (S : St w0 M rs w) (k : Nat) {A : Option Addr} {n c : Nat} {xs : List Value} (hk : rs[k]? = some (row e size A n c xs))
    (hs : ev env s = some (.slice A n c)) {A' : Option Addr} {m c' : Nat} {news : List Value} (hx : ev env x = some (.slice A' m c')) (hr : Rs w size A' m c' news) (h1 : ∀ u ∈ news, u.oneCell' = true)
    (hd : Nat.blt d N = true) (hbytes : (n + m) * bytes ≤ 140737488355328) (h63 : n + m ≤ 9223372036854775807)
    (h : ∀ A2 c2 w', St w0 M (rs.set k (row e size A2 (n + m) c2 (xs ++ news))) w' → K ((d, .slice A2 (n + m) c2) :: env) w') :
    O P N Q ⟨some d, .call { callee := .builtin .append, args := #[s, x], argTypes := #[t, t] }, ty, pos, after, g⟩ env w K := fun a ha => by
  have hown : w.ownsRow 0 e size (.slice A n c) n xs := S.get k hk
  refine wp_app w TE s x rfl 0 (ha.eval hs) hown (ha.eval hx) hr.rd h1 h63 hbytes (Nat.zero_le _) fun A2 c2 w' h2 h3 h4 => ⟨_, ha.put d _ hd, h A2 c2 w' ?_⟩
  refine S.upd k hk h3.os h3.tape h3.output h3.size (fun i hi hn => h3.block i hi (fun e => hn e.symm)) h2 fun i hi => ?_
  change (Value.slice A2 (n + m) c2).ownBlock = some i at hi
  rcases h4 with h4 | h4
  · left; rw [h4] at hi; exact hi
  · right
    rw [h4] at hi
    cases hi
    exact ⟨Nat.le_refl _, (h2.lt _ h4).2⟩
theorem cells_one {v : Value} (h : v.oneCell' = true) : v.cells = #[v] := by cases v <;> simp_all [Value.oneCell', Value.cells]
/-- A call. -/
theorem o_call {f : FuncId} {fn : Func} {xs : Array Operand} {ts : Array TypeId} {args : List Value} {R : Ending → World → Prop} (hf : P.funcs[f]? = some fn) (hn : (fn.name == "runtime.NumGoroutine") = false) (hb : fn.body.isNone = false)
    (hc : Calls P f args.toArray w R) (hargs : evl env xs.toList = some args) (hd : Nat.blt d N = true)
    (h : ∀ e w', R e w' → ∃ v, e = .returned v ∧ K ((d, v) :: env) w') :
    O P N Q ⟨some d, .call { callee := .value (.func f), args := xs, argTypes := ts }, ty, pos, after, g⟩ env w K := fun a ha => by
  have hmap : xs.map a.eval = args.toArray := by
    rw [← evl_map ha xs.toList args hargs]
    apply Array.ext'
    simp
  unfold Oper.wp
  have hrun : (execOp a.eval ⟨some d, .call { callee := .value (.func f), args := xs, argTypes := ts }, ty, pos, after, g⟩).run P w = .ok (.enter f args.toArray) w := by
    simp only [execOp, resolve, hmap, Act.eval, Deferred.ofValue, invoke, callFunc, Sem.run_bind, Sem.run_pure, Result.andThen_ok, run_program, hf, hn, hb, Bool.false_eq_true, if_false, Array.append_empty, Array.empty_append]
  rw [hrun]
  refine hc.mono fun e w' hR => ?_
  obtain ⟨v, rfl, hK⟩ := h e w' hR
  exact ⟨_, ha.put d v hd, hK⟩
end
end Go.Proofs.Ytaknmlajhedfhaa.Zx


/-
  Regions that draw their order. General; nothing here names a program.
-/
namespace Go.Proofs.Ytaknmlajhedfhaa.Zx
open Go.RowKit Zk
set_option linter.unusedVariables false
set_option linter.unusedSimpArgs false

/-- An order in which a region may be walked: (number, quiet?). A quiet operation may come up and nobody who may come before it touches its slots; another one is the only one that may come up. -/
def ordB (ops : Array Oper) : Nat → Array Bool → List (Nat × Bool) → Bool
  | _, listed, [] => (Region.ready .any ops listed).isEmpty
  | 0, _, _ :: _ => false
  | f + 1, listed, (i, true) :: r => (Region.ready .any ops listed).contains i && Region.free .any ops listed i && ordB ops f (listed.setIfInBounds i true) r
  | f + 1, listed, (i, false) :: r => (match Region.ready .any ops listed with | [j] => Nat.beq j i | _ => false) && ordB ops f (listed.setIfInBounds i true) r

section
variable {P : Program} {N : Nat} {Q : Post} {env : Env} {w : World} {S : World → Prop} {ops : Array Oper}
def DL (P : Program) (N : Nat) (ops : Array Oper) (Q : Post) (S : World → Prop) (order : List (Nat × Bool)) (env : Env) (w : World) : Prop :=
  Region.noSelect ops = true → S w → ∀ a, Fits N env a → ∀ fuel listed, ordB ops fuel listed order = true → wpAnyH P .any ops (lift N Q) S fuel listed a w
/-- All worlds like the one behind the draw. -/
theorem T_drawnL {id : Nat} {l : List Oper} (order : List (Nat × Bool)) (hm : P.follows .mixedOrders = true) (hB : (Region.noSelect l.toArray && ordB l.toArray l.toArray.size (Array.replicate l.toArray.size false) order) = true)
    (h : ∀ w1, Like w w1 → DL P N l.toArray Q (Like w1) order env w1) : T P N (.region id l.toArray true) Q env w := fun a ha => by
  simp only [Bool.and_eq_true] at hB
  exact wp_region_held hm (h _ (Like.drew w) hB.1 (Like.refl _) a ha _ _ hB.2)
theorem DL_nil (h : Q .normal env w) : DL P N ops Q S [] env w := fun _ _ a ha fuel listed hB => by
  have hr : Region.ready .any ops listed = [] := by
    cases fuel <;> simpa [ordB] using hB
  exact wpAnyH_done hr ⟨env, ha, h⟩ fuel
theorem DL_yi {i : Nat} {o : Oper} {d : Tmp} {v : Value} {order : List (Nat × Bool)} (hi : ops[i]? = some o) (hdst : o.dst = some d) (hy : ∀ a, Fits N env a → YieldsIf P ops S o v a) (hd : Nat.blt d N = true)
    (h : DL P N ops Q S order ((d, v) :: env) w) : DL P N ops Q S ((i, true) :: order) env w := fun hs hS a ha fuel listed hB => by
  cases fuel with
  | zero => simp [ordB] at hB
  | succ fuel =>
    simp only [ordB, Bool.and_eq_true] at hB
    refine wpAnyH_take hi hs hB.1.2 hB.1.1 (fun c a w hq => hq.elim) (hy a ha) hS ?_
    rw [hdst]
    exact h hs hS _ (ha.put d v hd) fuel _ hB.2
theorem DL_y {i : Nat} {d : Tmp} {op : Op} {ty : TypeId} {pos : String} {after : Array Edge} {v : Value} {order : List (Nat × Bool)} (hi : ops[i]? = some ⟨some d, op, ty, pos, after, none⟩)
    (hy : Y P S env ⟨some d, op, ty, pos, after, none⟩ v) (hd : Nat.blt d N = true) (h : DL P N ops Q S order ((d, v) :: env) w) : DL P N ops Q S ((i, true) :: order) env w :=
  DL_yi hi rfl (fun a ha => .inl ⟨by simp [Region.wanted], fun w hw => hy N a w ha hw⟩) hd h
theorem DL_gyes {i : Nat} {d : Tmp} {op : Op} {ty : TypeId} {pos : String} {after : Array Edge} {v : Value} {order : List (Nat × Bool)} {j : Nat} {b : Bool} {t : Tmp} (hi : ops[i]? = some ⟨some d, op, ty, pos, after, some (j, b)⟩)
    (hj : (ops[j]?).bind (·.dst) = some t) (ht : look env t = some (.bool b))
    (hy : Y P S env ⟨some d, op, ty, pos, after, some (j, b)⟩ v) (hd : Nat.blt d N = true) (h : DL P N ops Q S order ((d, v) :: env) w) : DL P N ops Q S ((i, true) :: order) env w :=
  DL_yi hi rfl (fun a ha => .inl ⟨by simp [Region.wanted, yielded, hj, ha.vals t _ ht], fun w hw => hy N a w ha hw⟩) hd h
theorem DL_gno {i : Nat} {d : Tmp} {op : Op} {ty : TypeId} {pos : String} {after : Array Edge} {order : List (Nat × Bool)} {j : Nat} {b : Bool} {t : Tmp} (hi : ops[i]? = some ⟨some d, op, ty, pos, after, some (j, b)⟩)
    (hj : (ops[j]?).bind (·.dst) = some t) (ht : look env t = some (.bool (!b))) (hd : Nat.blt d N = true) (h : DL P N ops Q S order ((d, undef) :: env) w) : DL P N ops Q S ((i, true) :: order) env w :=
  DL_yi hi rfl (fun a ha => .inr ⟨by
    have : (some (!b) == some b) = false := by cases b <;> rfl
    simp [Region.wanted, yielded, hj, ha.vals t _ ht], rfl⟩) hd h
theorem DL_o {i : Nat} {d : Option Tmp} {op : Op} {ty : TypeId} {pos : String} {after : Array Edge} {order : List (Nat × Bool)} (hi : ops[i]? = some ⟨d, op, ty, pos, after, none⟩)
    (h : O P N Q ⟨d, op, ty, pos, after, none⟩ env w (fun e' w' => S w' ∧ DL P N ops Q S order e' w')) : DL P N ops Q S ((i, false) :: order) env w := fun hs hS a ha fuel listed hB => by
  cases fuel with
  | zero => simp [ordB] at hB
  | succ fuel =>
    simp only [ordB, Bool.and_eq_true] at hB
    obtain ⟨h1, h2⟩ := hB
    have hr : Region.ready .any ops listed = [i] := by
      split at h1
      · rename_i j hj
        have : j = i := by simpa using h1
        rw [hj, this]
      · cases h1
    refine wpAnyH_all hr (by simp) fun j hj => ?_
    obtain rfl := List.mem_singleton.1 hj
    unfold wpOp
    simp only [hi, Region.wanted, if_true]
    exact .inl (Oper.wp_mono (fun a' w' ⟨e', h3, h4, h5⟩ => ⟨h4, h5 hs h4 a' h3 fuel _ h2⟩) (h a ha))
theorem DL_split {order : List (Nat × Bool)} (t : Tmp) {p : Prop} {inst : Decidable p} (ht : look env t = some (.bool (@decide p inst)))
    (h1 : p → DL P N ops Q S order ((t, .bool true) :: env) w) (h2 : ¬p → DL P N ops Q S order ((t, .bool false) :: env) w) : DL P N ops Q S order env w := fun hs hS a ha => by
  by_cases hp : p
  · exact h1 hp hs hS a (ha.sub (Sub.cons ht (by rw [decide_eq_true hp]) (Sub.refl _)))
  · exact h2 hp hs hS a (ha.sub (Sub.cons ht (by rw [decide_eq_false hp]) (Sub.refl _)))
/-! ### quiet operations, then a tail in the text's order -/
def HL (P : Program) (N : Nat) (ops : Array Oper) (K : Env → Prop) (w : World) (rest : List Oper) (env : Env) : Prop := ∀ a, Fits N env a → wpStill P ops w (fun a' => ∃ e', Fits N e' a' ∧ K e') rest a
theorem T_tail {id : Nat} {l : List Oper} (n : Nat) (hm : P.follows .mixedOrders = true) (hB : Region.lexTailB .any l.toArray n = true)
    (h : ∀ w1, Like w w1 → ∀ K : Env → Prop, (∀ e, L P N l.toArray Q (l.drop n) e w1 → K e) → HL P N l.toArray K w1 (l.take n) env) : T P N (.region id l.toArray true) Q env w := fun a ha => by
  refine wp_region_still_tail n hm hB ?_
  have mono : ∀ (rest : List Oper) (a : Act) (Q1 Q2 : Act → Prop), (∀ a, Q1 a → Q2 a) → wpStill P l.toArray w.drew Q1 rest a → wpStill P l.toArray w.drew Q2 rest a := by
    intro rest
    induction rest with
    | nil => intro a Q1 Q2 hq h; exact hq a h
    | cons o rest ih =>
      intro a Q1 Q2 hq h
      unfold wpStill at h ⊢
      split
      · rename_i hw
        rw [if_pos hw] at h
        exact Oper.still_mono (fun a h => ih a Q1 Q2 hq h) h
      · rename_i hw
        rw [if_neg hw] at h
        exact ih _ Q1 Q2 hq h
  exact mono _ _ _ _ (fun a' ⟨e', h1, h2⟩ => h2 a' h1) (h w.drew (Like.drew w) (fun e => L P N l.toArray Q (l.drop n) e w.drew) (fun _ h => h) a ha)
theorem HL_nil {K : Env → Prop} (h : K env) : HL P N ops K w [] env := fun a ha => ⟨env, ha, h⟩
theorem HL_y {K : Env → Prop} {rest : List Oper} {d : Tmp} {op : Op} {ty : TypeId} {pos : String} {after : Array Edge} {v : Value}
    (hy : Y P (Like w) env ⟨some d, op, ty, pos, after, none⟩ v) (hd : Nat.blt d N = true) (h : HL P N ops K w rest ((d, v) :: env)) : HL P N ops K w (⟨some d, op, ty, pos, after, none⟩ :: rest) env := fun a ha => by
  unfold wpStill
  rw [if_pos (by simp [Region.wanted])]
  unfold Oper.still
  rw [hy N a w ha (Like.refl w), Oper.stillUpon_value]
  exact h _ (ha.put d v hd)
/-! ### loops by the number of letters -/
theorem T_loop1 {α : Type} {c : Code} (ks : Env) (V : α → Env) (μ : α → Nat) (Rel : α → World → Prop) (a0 : α) (hs : Sub (V a0) env) (hk : Sub ks env) (h0 : Rel a0 w)
    (round : ∀ a w, Rel a w → T P N c (thenQ (fun e' w' => ∃ a', μ a' < μ a ∧ Rel a' w' ∧ Sub (V a' ++ ks) e') Q) (V a ++ ks) w) : T P N (.loop c) Q env w :=
  T_loop (fun m e w => ∃ a, m = μ a ∧ Rel a w ∧ Sub (V a ++ ks) e) (μ a0) ⟨a0, rfl, h0, Sub.app hs hk⟩ fun m e w ⟨a, hm, hr, hsub⟩ => T_weak hsub (T_mono (fun e w ⟨a', h1, h2, h3⟩ => ⟨μ a', by omega, a', rfl, h2, h3⟩) (round a w hr))
theorem T_loop2 {α β : Type} {c : Code} (ks : Env) (V : α → β → Env) (μ : α → β → Nat) (Rel : α → β → World → Prop) (a0 : α) (b0 : β) (hs : Sub (V a0 b0) env) (hk : Sub ks env) (h0 : Rel a0 b0 w)
    (round : ∀ a b w, Rel a b w → T P N c (thenQ (fun e' w' => ∃ a' b', μ a' b' < μ a b ∧ Rel a' b' w' ∧ Sub (V a' b' ++ ks) e') Q) (V a b ++ ks) w) : T P N (.loop c) Q env w :=
  T_loop (fun m e w => ∃ a b, m = μ a b ∧ Rel a b w ∧ Sub (V a b ++ ks) e) (μ a0 b0) ⟨a0, b0, rfl, h0, Sub.app hs hk⟩ fun m e w ⟨a, b, hm, hr, hsub⟩ => T_weak hsub (T_mono (fun e w ⟨a', b', h1, h2, h3⟩ => ⟨μ a' b', by omega, a', b', rfl, h2, h3⟩) (round a b w hr))
theorem T_loop4 {α β γ δ : Type} {c : Code} (ks : Env) (V : α → β → γ → δ → Env) (μ : α → β → γ → δ → Nat) (Rel : α → β → γ → δ → World → Prop) (a0 : α) (b0 : β) (c0 : γ) (d0 : δ) (hs : Sub (V a0 b0 c0 d0) env) (hk : Sub ks env) (h0 : Rel a0 b0 c0 d0 w)
    (round : ∀ a b d f w, Rel a b d f w → T P N c (thenQ (fun e' w' => ∃ a' b' d' f', μ a' b' d' f' < μ a b d f ∧ Rel a' b' d' f' w' ∧ Sub (V a' b' d' f' ++ ks) e') Q) (V a b d f ++ ks) w) : T P N (.loop c) Q env w :=
  T_loop (fun m e w => ∃ a b d f, m = μ a b d f ∧ Rel a b d f w ∧ Sub (V a b d f ++ ks) e) (μ a0 b0 c0 d0) ⟨a0, b0, c0, d0, rfl, h0, Sub.app hs hk⟩ fun m e w ⟨a, b, d, f, hm, hr, hsub⟩ => T_weak hsub (T_mono (fun e w ⟨a', b', d', f', h1, h2, h3⟩ => ⟨μ a' b' d' f', by omega, a', b', d', f', rfl, h2, h3⟩) (round a b d f w hr))
theorem T_loop5 {α β γ δ ε : Type} {c : Code} (ks : Env) (V : α → β → γ → δ → ε → Env) (μ : α → β → γ → δ → ε → Nat) (Rel : α → β → γ → δ → ε → World → Prop) (a0 : α) (b0 : β) (c0 : γ) (d0 : δ) (f0 : ε) (hs : Sub (V a0 b0 c0 d0 f0) env) (hk : Sub ks env) (h0 : Rel a0 b0 c0 d0 f0 w)
    (round : ∀ a b d f g w, Rel a b d f g w → T P N c (thenQ (fun e' w' => ∃ a' b' d' f' g', μ a' b' d' f' g' < μ a b d f g ∧ Rel a' b' d' f' g' w' ∧ Sub (V a' b' d' f' g' ++ ks) e') Q) (V a b d f g ++ ks) w) : T P N (.loop c) Q env w :=
  T_loop (fun m e w => ∃ a b d f g, m = μ a b d f g ∧ Rel a b d f g w ∧ Sub (V a b d f g ++ ks) e) (μ a0 b0 c0 d0 f0) ⟨a0, b0, c0, d0, f0, rfl, h0, Sub.app hs hk⟩ fun m e w ⟨a, b, d, f, g, hm, hr, hsub⟩ => T_weak hsub (T_mono (fun e w ⟨a', b', d', f', g', h1, h2, h3⟩ => ⟨μ a' b' d' f' g', by omega, a', b', d', f', g', rfl, h2, h3⟩) (round a b d f g w hr))
theorem T_loop6 {α β γ δ ε ζ : Type} {c : Code} (ks : Env) (V : α → β → γ → δ → ε → ζ → Env) (μ : α → β → γ → δ → ε → ζ → Nat) (Rel : α → β → γ → δ → ε → ζ → World → Prop) (a0 : α) (b0 : β) (c0 : γ) (d0 : δ) (f0 : ε) (g0 : ζ) (hs : Sub (V a0 b0 c0 d0 f0 g0) env) (hk : Sub ks env) (h0 : Rel a0 b0 c0 d0 f0 g0 w)
    (round : ∀ a b d f g h w, Rel a b d f g h w → T P N c (thenQ (fun e' w' => ∃ a' b' d' f' g' h', μ a' b' d' f' g' h' < μ a b d f g h ∧ Rel a' b' d' f' g' h' w' ∧ Sub (V a' b' d' f' g' h' ++ ks) e') Q) (V a b d f g h ++ ks) w) : T P N (.loop c) Q env w :=
  T_loop (fun m e w => ∃ a b d f g h, m = μ a b d f g h ∧ Rel a b d f g h w ∧ Sub (V a b d f g h ++ ks) e) (μ a0 b0 c0 d0 f0 g0) ⟨a0, b0, c0, d0, f0, g0, rfl, h0, Sub.app hs hk⟩ fun m e w ⟨a, b, d, f, g, h, hm, hr, hsub⟩ => T_weak hsub (T_mono (fun e w ⟨a', b', d', f', g', h', h1, h2, h3⟩ => ⟨μ a' b' d' f' g' h', by omega, a', b', d', f', g', h', rfl, h2, h3⟩) (round a b d f g h w hr))
end
end Go.Proofs.Ytaknmlajhedfhaa.Zx


/-
  A call that waits for the function's end. General; nothing here names a program.
-/
namespace Go.Proofs.Ytaknmlajhedfhaa.Zx
open Go.RowKit Zk
set_option linter.unusedVariables false
set_option linter.unusedSimpArgs false
section
variable {P : Program} {N : Nat} {Q : Post} {env : Env} {w : World}
end
end Go.Proofs.Ytaknmlajhedfhaa.Zx


/-
  Regions that draw their order and hold ONE operation that breaks what the reads stand on (an append, a store): the barrier. General; nothing here names a program.
-/
namespace Go.Proofs.Ytaknmlajhedfhaa.Zx
open Go.RowKit Zk
set_option linter.unusedVariables false
set_option linter.unusedSimpArgs false

/-- Whoever is listed has its forerunners listed. -/
structure Cl (ops : Array Oper) (listed : Array Bool) : Prop where
  size : listed.size = ops.size
  closed : ∀ j oj, ops[j]? = some oj → listed.getD j false = true → ∀ e ∈ oj.after, Region.binds .any e = true → listed.getD e.on false = true
theorem Cl.start (ops : Array Oper) : Cl ops (Array.replicate ops.size false) :=
  ⟨by simp, fun j oj _ hl => (by rw [getD_replicate_false] at hl; cases hl)⟩
theorem Cl.set {ops : Array Oper} {listed : Array Bool} {i : Nat} (inv : Cl ops listed) (hi : i ∈ Region.ready .any ops listed) : Cl ops (listed.setIfInBounds i true) := by
  obtain ⟨_, oi, hoi, hall⟩ := mem_ready.1 hi
  refine ⟨by simp [inv.size], fun j oj hj hl e he hb => ?_⟩
  by_cases hij : i = j
  · subst hij
    have : oj = oi := Option.some.inj (hj.symm.trans hoi)
    subst this
    exact getD_set_true (hall e he hb)
  · rw [getD_set_ne false hij] at hl
    exact getD_set_true (inv.closed j oj hj hl e he hb)
section
variable {P : Program} {ops : Array Oper} {Q : Exit → Act → World → Prop} {S : World → Prop} {c : Nat}
end

section
variable {P : Program} {N : Nat} {Q : Post} {env : Env} {w : World} {S : World → Prop} {ops : Array Oper} {B : List Nat} {c : Nat}
end
end Go.Proofs.Ytaknmlajhedfhaa.Zx


/-
  More operations: literals, makes, strings, arrays by value. General; nothing here names a program.
-/
namespace Go.Proofs.Ytaknmlajhedfhaa.Zx
open Go.RowKit Zk
set_option linter.unusedVariables false
set_option linter.unusedSimpArgs false
section
variable {P : Program} {N : Nat} {Q : Post} {env : Env} {w w0 : World} {M : Nat → Prop} {rs : List Res} {K : Env → World → Prop} {d : Tmp} {ty : TypeId} {pos : String} {after : Array Edge} {g : Option (Nat × Bool)}
def idx : Nat → List Value → List (Nat × Value)
  | _, [] => []
  | k, v :: vs => (k, v) :: idx (k + 1) vs
theorem fill_all (size : Nat) : ∀ (vs : List Value) (k : Nat) (pre junk : List Value), (∀ v ∈ vs, v.cells.size = size) → pre.length = k * size → junk.length = vs.length * size →
    Instr.fill (fun i => some (i * size, size)) (pre ++ junk).toArray (idx k vs) = some (pre ++ vs.flatMap fun v => v.cells.toList).toArray
  | [], k, pre, junk, _, _, hj => by
    obtain rfl : junk = [] := List.eq_nil_of_length_eq_zero (by simpa using hj)
    simp [idx, Instr.fill]
  | v :: vs, k, pre, junk, hv, hp, hj => by
    have hvs := hv v (by simp)
    have hj' : junk.length = size + vs.length * size := by rw [hj, List.length_cons, Nat.succ_mul, Nat.add_comm]
    simp only [idx]
    rw [fill_part (fun i => some (i * size, size)) _ k (k * size) size v.cells v rfl _ rfl hvs (by simp; omega)]
    have e1 : (pre ++ junk).toArray.toList.take (k * size) = pre := by simp [hp]
    have e2 : (pre ++ junk).toArray.toList.drop (k * size + size) = junk.drop size := by
      simp only [List.drop_append, hp]
      rw [List.drop_of_length_le (by omega), List.nil_append]
      congr 1
      omega
    rw [e1, e2, fill_all size vs (k + 1) (pre ++ v.cells.toList) (junk.drop size) (fun u hu => hv u (by simp [hu])) (by simp [hp, hvs, Nat.succ_mul]) (by simp; omega)]
    simp
theorem evp_idx (e : Env) : ∀ (parts : List (Nat × Operand)) (vs : List Value) (k : Nat), parts.map (·.1) = List.range' k parts.length → evl e (parts.map (·.2)) = some vs → evp e parts = some (idx k vs)
  | [], vs, k, _, h => by simp only [List.map_nil, evl, Option.some.injEq] at h; subst h; rfl
  | (i, x) :: parts, vs, k, hi, h => by
    simp only [List.map_cons, evl] at h
    simp only [List.map_cons, List.length_cons, List.range'_succ, List.cons.injEq] at hi
    cases hx : ev e x with
    | none => rw [hx] at h; cases h
    | some v =>
      cases hxs : evl e (parts.map (·.2)) with
      | none => rw [hx, hxs] at h; cases h
      | some us =>
        rw [hx, hxs] at h
        simp only [Option.some.injEq] at h
        subst h
        simp only [evp, hx, evp_idx e parts us (k + 1) hi.2 hxs, idx, hi.1]
/-- A slice literal. -/
theorem o_bslL {t e : TypeId} {z : Value} {size bytes len : Nat} {parts : Array (Nat × Operand)} {us : List Value} (vs : List Value) (TE : Elem P t e z size bytes) (hz : ∀ W, (zeroValue e).run P W = .ok z W) (S : St w0 M rs w) (hp : evl env (parts.toList.map (·.2)) = some us)
    (hi : parts.toList.map (·.1) = List.range' 0 parts.toList.length) (hlp : parts.toList.length = len) (hus : us.all (fun v => Nat.beq v.cells.size size) = true) (hvs : us.flatMap (fun v => v.cells.toList) = vs)
    (hl : Nat.ble (len * size) 16777216 = true) (h0 : Nat.blt 0 (len * size) = true) (hd : Nat.blt d N = true)
    (h : ∀ b w', Like w w' → St w0 M (rs ++ [row e size (some ⟨b, 0, none⟩) len len vs]) w' → K ((d, .slice (some ⟨b, 0, none⟩) len len) :: env) w') :
    O P N Q ⟨some d, .buildSlice t len parts, ty, pos, after, g⟩ env w K := fun a ha => by
  have hpe : (parts.map fun (i, x) => (i, a.eval x)).toList = idx 0 us := by
    rw [← evp_map ha parts.toList (idx 0 us) (evp_idx env parts.toList us 0 hi hp)]
    simp
  have hul : us.length = len := by
    have h1 := evl_map ha _ _ hp
    rw [← h1]
    simpa using hlp
  have husz : ∀ v ∈ us, v.cells.size = size := fun v hv => by
    have := List.all_eq_true.1 hus v hv
    simpa using this
  have hvl : vs.length = len * size := by
    rw [← hvs, ← hul]
    clear hvs hus hp hpe hul
    induction us with
    | nil => simp
    | cons u us ih => simp [husz u (by simp), ih (fun v hv => husz v (by simp [hv])), Nat.succ_mul, Nat.add_comm]
  obtain ⟨i, hi, hz', hsize, hby⟩ := info_parts TE.hi
  have hsz : (P.info? e).map (·.size) = some size := by rw [hi]; simp [hsize]
  have hl' : ¬ len * size > 2 ^ 24 := by have : len * size ≤ 16777216 := by simpa using hl
                                         omega
  have h0' : ¬ len * size = 0 := by have : 0 < len * size := by simpa using h0
                                    omega
  have hlen : len ≤ maxLen := by
    have h1 : len * 1 ≤ len * size := Nat.mul_le_mul_left _ TE.hsz
    unfold maxLen
    omega
  have hfill : Instr.fill (fun i => some (i * size, size)) ((Array.range (len * size)).map (z.cells[· % z.cells.size]!)) (idx 0 us) = some vs.toArray := by
    have := fill_all size us 0 [] ((Array.range (len * size)).map (z.cells[· % z.cells.size]!)).toList husz (by simp) (by simp [hul])
    simp only [List.nil_append, hvs] at this
    exact this
  have hrun : (Instr.buildSlice t len (parts.map fun (i, x) => (i, a.eval x))).run P w = .ok (.slice (some ⟨w.heap.size, 0, none⟩) len len) (w.alloc (.cells vs.toArray e)) := by
    simp only [Instr.buildSlice, Sem.run_bind, run_underlying TE.ht, Result.andThen_ok, sizeOf_run hsz, if_neg hl', if_neg h0', hz, Sem.run_pure, hpe, hfill, newRow, run_newObj_alloc]
  unfold Oper.wp execOp
  simp only [Sem.run_bind, hrun, Result.andThen_ok, Sem.run_pure]
  refine ⟨_, ha.put d _ hd, h _ _ (like_alloc w _) (S.new (like_alloc w _) _ (World.ownsRow_lit w vs.toArray len (Nat.zero_le _) hlen (by simpa using hvl)) fun i hi => ?_)⟩
  change (Value.slice (some ⟨w.heap.size, 0, none⟩) len len).ownBlock = some i at hi
  simp only [Value.ownBlock, Option.some.injEq] at hi
  subst hi
  exact ⟨Nat.le_refl _, by simp⟩
theorem o_bsl {t e : TypeId} {z : Value} {size bytes len : Nat} {parts : Array (Nat × Operand)} {us : List Value} (vs : List Value) (TE : Elem P t e z size bytes) (hz : ∀ W, (zeroValue e).run P W = .ok z W) (S : St w0 M rs w) (hp : evl env (parts.toList.map (·.2)) = some us)
    (hi : parts.toList.map (·.1) = List.range' 0 parts.toList.length) (hlp : parts.toList.length = len) (hus : us.all (fun v => Nat.beq v.cells.size size) = true) (hvs : us.flatMap (fun v => v.cells.toList) = vs)
    (hl : Nat.ble (len * size) 16777216 = true) (h0 : Nat.blt 0 (len * size) = true) (hd : Nat.blt d N = true)
    (h : ∀ b w', St w0 M (rs ++ [row e size (some ⟨b, 0, none⟩) len len vs]) w' → K ((d, .slice (some ⟨b, 0, none⟩) len len) :: env) w') :
    O P N Q ⟨some d, .buildSlice t len parts, ty, pos, after, g⟩ env w K := o_bslL vs TE hz S hp hi hlp hus hvs hl h0 hd fun b w' _ => h b w'
/-- make([]T, n, c) with elements of one cell. -/
theorem o_make {t e : TypeId} {z : Value} {bytes : Nat} {x y : Operand} {k k' : IntKind} {jn jc : Int} {n c : Nat} (TE : Elem P t e z 1 bytes) (hone : z.oneCell' = true) (S : St w0 M rs w) (hx : ev env x = some (.int k jn)) (hy : ev env y = some (.int k' jc)) (hn : Nt jn n) (hc : Nt jc c) (hd : Nat.blt d N = true)
    (hnc : n ≤ c) (hbytes : c * bytes ≤ 281474976710656) (hcm : c ≤ 9223372036854775807)
    (h : ∀ b w', St w0 M (rs ++ [row e 1 (some ⟨b, 0, none⟩) n c (List.replicate n z)]) w' → K ((d, .slice (some ⟨b, 0, none⟩) n c) :: env) w') :
    O P N Q ⟨some d, .makeSlice t x y, ty, pos, after, g⟩ env w K := fun a ha => by
  have e1 := hn.eq
  have e2 := hc.eq
  subst e1; subst e2
  obtain ⟨i, hi, hz', hsize, hby⟩ := info_parts TE.hi
  have hb : (i.bytes : Int) * (c : Int) ≤ 281474976710656 := by
    have h : ((i.bytes * c : Nat) : Int) ≤ 281474976710656 := by rw [hby, Nat.mul_comm]; omega
    rwa [Int.natCast_mul] at h
  have hr := run_make (P := P) w t e i z TE.ht hi hz' k k' n c (by omega) (by omega) hb (by omega)
  simp only [Int.toNat_natCast] at hr
  unfold Oper.wp execOp
  simp only [ha.eval hx, ha.eval hy, Sem.run_bind, hr, Result.andThen_ok, Sem.run_pure]
  have hzc : z.cells.size = 1 := TE.hzs
  have hcells : madeCells z.cells (c * i.size) = Array.replicate c z := by
    rw [hsize, Nat.mul_one, cells_one hone]
    apply Array.ext
    · simp [madeCells]
    · intro j h1 h2
      simp [madeCells, Nat.mod_one]
  refine ⟨_, ha.put d _ hd, h _ _ (S.new (like_alloc w _) _ ?_ fun i hi => ?_)⟩
  · refine ⟨by simp, .inr ⟨w.heap.size, c, _, rfl, Nat.zero_le _, heap_alloc_new w _, hnc, by unfold maxLen; omega, ?_, ?_⟩⟩
    · rw [hcells]; simp
    · rw [hcells, Nat.mul_one]
      simp [hnc]
  · change (Value.slice (some ⟨w.heap.size, 0, none⟩) n c).ownBlock = some i at hi
    simp only [Value.ownBlock, Option.some.injEq] at hi
    subst hi
    exact ⟨Nat.le_refl _, by simp⟩
/-- '[]byte("..")' of a constant: the row gets the run-time's mark. -/
theorem freeze_at (w : World) (g : Nat) (C : Array Value) (e : TypeId) (hg : w.heap[g]? = some (.cells C e (0, 0))) :
    w.grownBy (w.freeze ⟨g, C.size, none⟩ 1) (some g) ∧ (w.freeze ⟨g, C.size, none⟩ 1).heap[g]? = some (.cells C e (C.size, C.size + 1)) := by
  unfold World.freeze
  rw [if_neg (by decide)]
  refine ⟨⟨rfl, rfl, rfl, by simp, fun k hk hne => ?_⟩, ?_⟩
  · have : g ≠ k := fun e => hne (by rw [e])
    simp [Array.getElem?_modify, this]
  · simp [Array.getElem?_modify, hg]
theorem o_bconst {t e b n c : Nat} {x : Operand} {xs : List Value} (S : St w0 M rs w) (k : Nat) (hk : rs[k]? = some (row e 1 (some ⟨b, 0, none⟩) n c xs)) (ht : P.underlying t = some (.slice e)) (he : P.underlying e = some (.int .u8)) (hx : ev env x = some (.slice (some ⟨b, 0, none⟩) n c)) (hn : 0 < n) (hd : Nat.blt d N = true)
    (h : ∀ w', St w0 M (rs.set k (fixed 1 (some ⟨b, 0, none⟩) n c xs)) w' → K ((d, .slice (some ⟨b, 0, none⟩) n c) :: env) w') : O P N Q ⟨some d, .convert t t x, ty, pos, after, g⟩ env w K := fun a ha => by
  have hown : w.ownsRow 0 e 1 (.slice (some ⟨b, 0, none⟩) n c) n xs := S.get k hk
  rcases hown.2 with ⟨h1, _⟩ | ⟨g', cap, cur, h1, _, hg, h2, h3, h4, h5⟩
  · cases h1
  · injection h1 with h1 _ h6
    injection h1 with h1
    injection h1 with h1
    subst h1; subst h6
    obtain ⟨f1, f2⟩ := freeze_at w b cur e hg
    have hsh : w.shape? b = some (e, cur.size) := by
      unfold World.shape?
      rw [hg]
    have hr : (convert t t (.slice (some ⟨b, 0, none⟩) n c)).run P w = .ok (.slice (some ⟨b, 0, none⟩) n c) (w.freeze ⟨b, cur.size, none⟩ 1) := by
      simp [convert, run_underlying ht, run_underlying he, markStringish, hsh]
    unfold Oper.wp execOp
    simp only [ha.eval hx, Sem.run_bind, hr, Result.andThen_ok, Sem.run_pure]
    refine ⟨_, ha.put d _ hd, h _ (S.upd k hk f1.os f1.tape f1.output f1.size (fun i hi hne => f1.block i hi (fun e => hne (by injection e with e; subst e; rfl))) ?_ fun i ⟨ad, _, hA, hi⟩ => .inl ?_)⟩
    · have hrs := rs_of_row hown
      refine ⟨⟨hrs.rd.1, fun hn => ⟨_, rfl, ?_, fun j u hu => ?_⟩⟩, hrs.cap, hrs.max⟩
      · exact (Array.getElem?_eq_some_iff.1 f2).1
      · have hc := hrs.rd.2 hn
        obtain ⟨ad, had, _, hcell⟩ := hc
        cases had
        have := hcell j u hu
        rw [Addr.add_mid] at this ⊢
        rw [cell_of_row _ b _ cur e (0, 0) hg] at this
        rw [cell_of_row _ b _ cur e _ f2]
        exact this
    · cases hA
      subst hi
      rfl
/-- 'x[k] = v' in a row of the call's own. -/
theorem o_strow {st : TypeId} {x y : Operand} {e n c k : Nat} {A : Option Addr} {xs : List Value} {v : Value} (S : St w0 M rs w) (i : Nat) (hk : rs[i]? = some (row e 1 A n c xs)) (hx : ev env x = some (pR A k 1)) (hy : ev env y = some v)
    (hv : v.oneCell' = true) (hsz : (P.info? st).map (·.size) = some 1) (hkn : k < n)
    (h : ∀ w', St w0 M (rs.set i (row e 1 A n c (xs.set k v))) w' → K env w') : O P N Q ⟨none, .store st x y, ty, pos, after, g⟩ env w K := fun a ha => by
  have hown : w.ownsRow 0 e 1 (.slice A n c) n xs := S.get i hk
  obtain ⟨b, cap, hv', _, hlt⟩ := hown.form (by omega)
  injection hv' with hA _ hcap
  subst hA; subst hcap
  have hxa : a.eval x = .pointer (some ⟨b, k, none⟩) := by
    rw [ha.eval hx]
    simp [pR, Addr.add_mid]
  have hxl : xs.length = n := by have := hown.1; simpa using this
  have hc : w.cell? ⟨b, k, none⟩ = some (xs[k]'(by omega)) := (hown.cellAt k (by omega)).trans (List.getElem?_eq_getElem (by omega))
  have hf : w.frozen? ⟨b, k, none⟩ = false := hown.frozenAt k
  have hr : (storeVar st ⟨b, k, none⟩ v).run P w = .ok () (w.setCell ⟨b, k, none⟩ v) := by
    simp only [storeVar, Sem.run_bind, sizeOf_run hsz, cells_one hv, Result.andThen_ok]
    simp [storeCells, hv, stored, hc, hf, run_store, go_sem]
  unfold Oper.wp execOp
  simp only [hxa, ha.eval hy, Instr.storeAt, Instr.sureAddr, Sem.run_bind, Sem.run_pure, Result.andThen_ok, hr]
  refine ⟨env, ha, h _ (S.upd i hk rfl rfl rfl (by simp) (fun j hj hn => Below.heap_setCell w ⟨b, k, none⟩ v j (fun e => hn (by simp [row, Value.ownBlock, e]))) ?_ fun j hj => .inl hj)⟩
  exact (hown.stored k v).1
end
section
variable {P : Program} {S : World → Prop} {env : Env} {w : World} {dst : Option Tmp} {ty : TypeId} {pos : String} {after : Array Edge} {g : Option (Nat × Bool)}
theorem y_ldg {α : Type} (a0 : α) {x : Operand} {A : Option Addr} {n c k : Nat} {f : α → Value} {l : List α} {lt : TypeId} {d : TypeDesc} (hd : P.underlying lt = some d) (hrow : d.isRow = false) (hx : ev env x = some (pR A k 1)) (hr : Rs w 1 A n c (l.map f)) (hk : k < n) :
    Y P (Like w) env ⟨dst, .load lt x, ty, pos, after, g⟩ (f (l.getD k a0)) := y_ldr hd hrow hx hr (by
  have hl : k < l.length := by have := hr.len; simp at this; omega
  rw [List.getElem?_map, List.getElem?_eq_getElem hl, Option.map_some, List.getD_eq_getElem?_getD, List.getElem?_eq_getElem hl, Option.getD_some])
/-! strings -/
/-- string(b) -/
theorem y_bstr {x : Operand} {src dt e : TypeId} {A : Option Addr} {n c : Nat} {l : List UInt8} (hs : P.underlying src = some (.slice e)) (he : P.underlying e = some (.int .u8)) (hd : P.underlying dt = some .string) (hx : ev env x = some (.slice A n c)) (hr : Rs w 1 A n c (bL l)) :
    Y P (Like w) env ⟨dst, .convert src dt x, ty, pos, after, g⟩ (.string ⟨l.toArray⟩) := fun N a w' ha hw => by
  simp only [execOp, ha.eval hx, Sem.run_bind, run_conv_reads c hs he hd (hr.rd.below hw), Sem.run_pure, Result.andThen_ok]
/-! arrays behind a pointer, cut -/
/-! values of many cells -/
theorem y_build {t : TypeId} {parts : Array (Nat × Operand)} {ps : List (Nat × Value)} {cs : Array Value} (hp : evp env parts.toList = some ps) (hb : P.built t ps = some cs) :
    Y P S env ⟨dst, .build t parts, ty, pos, after, g⟩ (.agg cs) := fun N a w ha _ => by
  have hpe : (parts.map fun (i, x) => (i, a.eval x)).toList = ps := by
    rw [← evp_map ha parts.toList ps hp]
    simp
  simp only [execOp, Sem.run_bind, run_build (P := P) w t _ cs (by rw [hpe]; exact hb), Result.andThen_ok, Sem.run_pure]
/-! against nil -/
/-! arrays of bytes -/
/-! results that lie in a variable -/
end
end Go.Proofs.Ytaknmlajhedfhaa.Zx


/-
  Calls that turn a piece of the caller's memory; function values; '[]byte(s)'. General; nothing here names a program.
-/
namespace Go.Proofs.Ytaknmlajhedfhaa.Zx
open Go.RowKit Zk
set_option linter.unusedVariables false
set_option linter.unusedSimpArgs false
/-- From w to w' only the piece r has changed: it is r' now; and there is new memory. -/
structure Turned (w w' : World) (r r' : Res) : Prop where
  os : w'.os = w.os
  tape : w'.tape = w.tape
  output : w'.output = w.output
  size : w.heap.size ≤ w'.heap.size
  old : ∀ i, i < w.heap.size → ¬ r.dom i → w'.heap[i]? = w.heap[i]?
  holds : r'.holds w'
  dom : ∀ i, r'.dom i → r.dom i ∨ (w.heap.size ≤ i ∧ i < w'.heap.size)
section
variable {w0 w w' : World} {M : Nat → Prop} {rs : List Res}
theorem St.turn (S : St w0 M rs w) (k : Nat) {r r' : Res} (hk : rs[k]? = some r) (h : Turned w w' r r') : St w0 M (rs.set k r') w' :=
  S.upd k hk h.os h.tape h.output h.size h.old h.holds h.dom
theorem Turned.refl {w : World} {r : Res} (h : r.holds w) : Turned w w r r := ⟨rfl, rfl, rfl, Nat.le_refl _, fun _ _ _ => rfl, h, fun i hi => .inl hi⟩
theorem Turned.like {r : Res} (l : Like w w') (h : r.holds w) (hd : ∀ i, r.dom i → i < w.heap.size) : Turned w w' r r :=
  ⟨l.os, l.tape, l.output, l.size, fun i hi _ => l.block i hi, r.stable w w' (fun i hi => l.block i (hd i hi)) h, fun i hi => .inl hi⟩
theorem St.borrow1 (r : Res) (hr : r.holds w) (hd : ∀ i, r.dom i → i < w.heap.size) : St w r.dom [r] w :=
  ⟨rfl, rfl, rfl, Nat.le_refl _, fun _ _ _ => rfl, fun q hq => by
    obtain rfl := List.mem_singleton.1 hq
    exact ⟨hr, fun i hi => ⟨hd i hi, .inr hi⟩⟩, List.pairwise_singleton _ _⟩
/-- The callee's end. -/
theorem St.turned1 {r : Res} (S : St w0 r.dom rs w) (k : Nat) {r' : Res} (hk : rs[k]? = some r') : Turned w0 w r r' :=
  ⟨S.os, S.tape, S.output, S.size, S.old, S.get k hk, fun i hi => by
    have h := (S.res r' (List.mem_of_getElem? hk)).2 i hi
    rcases h.2 with h2 | h2
    · exact .inr ⟨h2, h.1⟩
    · exact .inl h2⟩
/-- A piece's blocks are there. -/
theorem St.lt (S : St w0 M rs w) (k : Nat) {r : Res} (hk : rs[k]? = some r) : ∀ i, r.dom i → i < w.heap.size := fun i hi => ((S.res r (List.mem_of_getElem? hk)).2 i hi).1
/-- Two of the list are apart. -/
theorem St.apart_ (S : St w0 M rs w) (i j : Nat) {r s : Res} (hi : rs[i]? = some r) (hj : rs[j]? = some s) (hij : Nat.beq i j = false) : ∀ x, r.dom x → ¬ s.dom x := fun x hx hsx => by
  have hap := List.pairwise_iff_getElem.1 S.apart
  obtain ⟨hil, hie⟩ := List.getElem?_eq_some_iff.1 hi
  obtain ⟨hjl, hje⟩ := List.getElem?_eq_some_iff.1 hj
  have hne : i ≠ j := fun e => by subst e; simp at hij
  rcases Nat.lt_or_gt_of_ne hne with h | h
  · exact hap i j hil hjl h x (by rw [hie]; exact hx) (by rw [hje]; exact hsx)
  · exact hap j i hjl hil h x (by rw [hje]; exact hsx) (by rw [hie]; exact hx)
end
section
variable {P : Program} {S : World → Prop} {env : Env} {w w0 : World} {M : Nat → Prop} {rs : List Res} {N : Nat} {Q : Post} {K : Env → World → Prop} {dst : Option Tmp} {d : Tmp} {ty : TypeId} {pos : String} {after : Array Edge} {g : Option (Nat × Bool)}
end
section
variable {w0 w : World} {M : Nat → Prop} {rs : List Res}
end
end Go.Proofs.Ytaknmlajhedfhaa.Zx


/-
  Maps that the call makes: integer elements. General; nothing here names a program.
-/
namespace Go.Proofs.Ytaknmlajhedfhaa.Zx
open Go.RowKit Zk
set_option linter.unusedVariables false
set_option linter.unusedSimpArgs false
abbrev DU := DataW Unit
/-- A map of the call's own that reads as D. -/
def mapR (P : Program) (k e : TypeId) (b n : Nat) (D : DU) : Res where
  dom i := i = b
  holds w := w.ownsMap P k (plainElem P e) b n D
  stable w w' h hh := by
    obtain ⟨es, clock, hb, rest⟩ := hh
    exact ⟨es, clock, (h b rfl).trans hb, rest⟩
/-- The same while a loop goes through it. -/
def rngR (P : Program) (k e : TypeId) (b r n : Nat) (D : DU) (left : Lit → Bool) (cnt : Nat) : Res where
  dom i := i = b ∨ i = r
  holds w := w.ranges P k (plainElem P e) b r n D left cnt
  stable w w' h hh := by
    obtain ⟨es, clock, since, seen, c0, hb, F, hs, hD, hr, rest⟩ := hh
    exact ⟨es, clock, since, seen, c0, (h b (.inl rfl)).trans hb, F, hs, hD, (h r (.inr rfl)).trans hr, rest⟩
section
variable {P : Program} {w w' w0 : World} {M : Nat → Prop} {rs : List Res} {k e : TypeId}
/-- Old memory that the call does not write to. -/
theorem St.keepM (S : St w0 M rs w) {r : Res} (h : r.holds w0) (hd : ∀ i, r.dom i → i < w0.heap.size) (hM : ∀ i, r.dom i → ¬ M i) : r.holds w := r.stable w0 w (fun i hi => S.old i (hd i hi) (hM i hi)) h
theorem mapR_lt {b n : Nat} {D : DU} (h : (mapR P k e b n D).holds w) : ∀ i, (mapR P k e b n D).dom i → i < w.heap.size := fun i hi => by
  have hi' : i = b := hi
  subst hi'
  exact World.ownsMap.lt h
/-- A map that is not written goes on being a map. -/
theorem St.maps (S : St w0 M rs w) (j : Nat) {b r n cnt : Nat} {D : DU} {left : Lit → Bool} (hj : rs[j]? = some (rngR P k e b r n D left cnt)) : St w0 M (rs.set j (mapR P k e b n D)) w :=
  S.upd j hj rfl rfl rfl (Nat.le_refl _) (fun _ _ _ => rfl) (World.ranges.owns (S.get j hj)) fun i hi => .inl (.inl hi)
end
section
variable {P : Program} {N : Nat} {Q : Post} {env : Env} {w w0 : World} {M : Nat → Prop} {rs : List Res} {K : Env → World → Prop} {d : Tmp} {dst : Option Tmp} {ty : TypeId} {pos : String} {after : Array Edge} {g : Option (Nat × Bool)}
/-- 'make(map[K]V)' -/
theorem o_makeMap {t k e : TypeId} (S : St w0 M rs w) (hd : Nat.blt d N = true)
    (h : ∀ b w', w0.heap.size ≤ b → St w0 M (rs ++ [mapR P k e b 0 (.map [])]) w' → K ((d, .map (some b)) :: env) w') :
    O P N Q ⟨some d, .makeMap t none, ty, pos, after, g⟩ env w K := fun a ha => by
  unfold Oper.wp execOp
  simp only [run_makeMap, Option.map_none, Sem.run_bind, Sem.run_pure, Result.andThen_ok]
  refine ⟨_, ha.put d _ hd, h _ _ S.size (S.new (like_alloc w _) _ (World.ownsMap_made w P k (plainElem P e)) fun i hi => ?_)⟩
  have hi' : i = w.heap.size := hi
  subst hi'
  exact ⟨Nat.le_refl _, (World.ownsMap_made (H := Unit) w P k (plainElem P e)).lt⟩
/-- 'm[k]' -/
theorem y_look {t k e : TypeId} {q : IntKind} {b n : Nat} {D : DU} {m x : Operand} {key : Value} {kl : Lit} {c : Int} (hown : w.ownsMap P k (plainElem P e) b n D) (KY : Maps.Keyed P k) (ht : P.underlying t = some (.map k e)) (he : P.underlying e = some (.int q))
    (hz : ∀ w, (zeroValue e).run P w = .ok (.int q 0) w) (hm : ev env m = some (.map (some b))) (hx : ev env x = some key) (hkey : keyOf P k key = some kl) (hc : D.atKey kl (.lit (.int q 0)) = .lit (.int q c)) :
    Y P (Like w) env ⟨dst, .lookup t m x false, ty, pos, after, g⟩ (.int q c) := fun N a w' ha hw => by
  have h2 : w'.ownsMap P k (plainElem P e) b n D := (mapR P k e b n D).stable w w' (fun i hi => by have hi' : i = b := hi; subst hi'; exact hw.block i hown.lt) hown
  obtain ⟨c', hrun, hat, _⟩ := h2.lookup_int KY ht he (hz w') hkey
  rw [hc] at hat
  simp only [DataW.lit.injEq, Lit.int.injEq, true_and] at hat
  subst hat
  simp only [execOp, ha.eval hm, ha.eval hx, Sem.run_bind, hrun, Sem.run_pure, Result.andThen_ok]
/-- 'm[k] = v' -/
theorem o_mapUp {t k e : TypeId} {q : IntKind} {b n : Nat} {D : DU} {m x v : Operand} {key : Value} {kl : Lit} {c : Int} (S : St w0 M rs w) (j : Nat) (hj : rs[j]? = some (mapR P k e b n D)) (KY : Maps.Keyed P k) (ht : P.underlying t = some (.map k e)) (he : P.underlying e = some (.int q))
    (hm : ev env m = some (.map (some b))) (hx : ev env x = some key) (hv : ev env v = some (.int q c)) (hkey : keyOf P k key = some kl) (hn : n < 9223372036854775807) (hw : (Lit.int q c).wf = true)
    (h : ∀ w', St w0 M (rs.set j (mapR P k e b (n + 1) (D.put kl (.lit (.int q c))))) w' → K env w') :
    O P N Q ⟨none, .mapUpdate t m x v, ty, pos, after, g⟩ env w K := fun a ha => by
  have hown : w.ownsMap P k (plainElem P e) b n D := S.get j hj
  obtain ⟨w', hrun, h1, h2⟩ := hown.update KY ht (by unfold maxLen; exact hn) hkey (plainElem_int (H := Unit) he hw)
  unfold Oper.wp
  simp only [execOp, ha.eval hm, ha.eval hx, ha.eval hv, Sem.run_bind, hrun, Sem.run_pure, Result.andThen_ok]
  refine ⟨env, ha, h w' (S.upd j hj h2.os h2.tape h2.output h2.size (fun i hi hn => h2.block i hi fun e => hn ?_) h1 fun i hi => .inl hi)⟩
  injection e with e
/-- 'range m' -/
theorem o_range {t k e : TypeId} {b n : Nat} {D : DU} {m : Operand} (S : St w0 M rs w) (j : Nat) (hj : rs[j]? = some (mapR P k e b n D)) (KY : Maps.Keyed P k) (ht : P.underlying t = some (.map k e)) (hm : ev env m = some (.map (some b))) (hd : Nat.blt d N = true)
    (h : ∀ r w', St w0 M (rs.set j (rngR P k e b r n D (Maps.has D) (Maps.size D))) w' → K ((d, .pointer (some ⟨r, 0, none⟩)) :: env) w') :
    O P N Q ⟨some d, .range t m, ty, pos, after, g⟩ env w K := fun a ha => by
  have hown : w.ownsMap P k (plainElem P e) b n D := S.get j hj
  obtain ⟨w', hrun, h1, h2, h3⟩ := hown.range KY ht
  unfold Oper.wp
  simp only [execOp, ha.eval hm, Sem.run_bind, hrun, Sem.run_pure, Result.andThen_ok]
  refine ⟨_, ha.put d _ hd, h _ w' (S.upd j hj h2.os h2.tape h2.output h2.size (fun i hi hn => h2.block i hi (by simp)) h1 fun i hi => ?_)⟩
  rcases hi with hi | hi
  · exact .inl hi
  · subst hi
    exact .inr ⟨Nat.le_refl _, by omega⟩
/-- The step: string keys, integer elements. -/
theorem o_next {k e : TypeId} {q : IntKind} {b r n cnt : Nat} {D : DU} {left : Lit → Bool} {it : Operand} (S : St w0 M rs w) (j : Nat) (hj : rs[j]? = some (rngR P k e b r n D left cnt)) (KY : Maps.Keyed P k) (hk : P.underlying k = some .string) (he : P.underlying e = some (.int q))
    (hit : ev env it = some (.pointer (some ⟨r, 0, none⟩))) (hd : Nat.blt d N = true)
    (h0 : (∀ kl, left kl = false) → K ((d, .tuple #[.bool false]) :: env) w)
    (h1 : ∀ (s : ByteArray) (c : Int) (cnt' : Nat) w', left (.string s.data.toList) = true → (∀ zd, D.atKey (.string s.data.toList) zd = .lit (.int q c)) → s.size ≤ maxLen → cnt' < cnt →
      St w0 M (rs.set j (rngR P k e b r n D (fun z => left z && !z.sameKey (.string s.data.toList)) cnt')) w' → (Instr.entry (.pointer (some ⟨r, 0, none⟩))).run P w' = .ok (.tuple #[.string s, .int q c]) w' →
      K ((d, .tuple #[.bool true, .string s, .int q c]) :: env) w') :
    O P N Q ⟨some d, .next it false, ty, pos, after, g⟩ env w K := fun a ha => by
  have hr : w.ranges P k (plainElem P e) b r n D left cnt := S.get j hj
  unfold Oper.wp
  rcases hr.next KY ty with ⟨_, hl, hrun⟩ | ⟨key, v, kl, y, w', cnt', hkey, hlk, hv, hat, hrun, hrg, hlt, hgr, hsz, hen⟩
  · simp only [execOp, ha.eval hit, Sem.run_bind, hrun, Sem.run_pure, Result.andThen_ok]
    exact ⟨_, ha.put d _ hd, h0 hl⟩
  · obtain ⟨c, rfl, hy, hwc⟩ := plainElem_int_inv he hv
    obtain ⟨s, rfl, rfl, hs⟩ : ∃ s : ByteArray, key = .string s ∧ kl = .string s.data.toList ∧ s.size ≤ maxLen := by
      cases key <;> simp [keyOf, hk, mapKey] at hkey
      exact ⟨_, rfl, hkey.2.symm, hkey.1⟩
    simp only [execOp, ha.eval hit, Sem.run_bind, hrun, Sem.run_pure, Result.andThen_ok]
    refine ⟨_, ha.put d _ hd, h1 s c cnt' w' hlk (fun zd => by rw [hat zd, hy]) hs hlt (S.upd j hj hgr.os hgr.tape hgr.output hgr.size (fun i hi hn => hgr.block i hi fun e => hn (.inr (by injection e))) hrg fun i hi => .inl hi) hen⟩
/-- The round's key and element. -/
theorem o_entry {it : Operand} {r : Nat} {u v : Value} (hit : ev env it = some (.pointer (some ⟨r, 0, none⟩))) (hen : (Instr.entry (.pointer (some ⟨r, 0, none⟩))).run P w = .ok (.tuple #[u, v]) w) (hd : Nat.blt d N = true)
    (h : K ((d, .tuple #[u, v]) :: env) w) : O P N Q ⟨some d, .entry it, ty, pos, after, g⟩ env w K := fun a ha => by
  unfold Oper.wp
  simp only [execOp, ha.eval hit, Sem.run_bind, hen, Sem.run_pure, Result.andThen_ok]
  exact ⟨_, ha.put d _ hd, h⟩
/-- 'x[k].f = v' in a row of the call's own. -/
theorem o_strowN {st : TypeId} {x y : Operand} {e size n c k : Nat} {A : Option Addr} {xs : List Value} {v : Value} (S : St w0 M rs w) (i : Nat) (hk : rs[i]? = some (row e size A n c xs)) (hx : ev env x = some (pRF A k)) (hy : ev env y = some v)
    (hv : v.oneCell' = true) (hsz : (P.info? st).map (·.size) = some 1) (hkn : k < n * size)
    (h : ∀ w', St w0 M (rs.set i (row e size A n c (xs.set k v))) w' → K env w') : O P N Q ⟨none, .store st x y, ty, pos, after, g⟩ env w K := fun a ha => by
  have hown : w.ownsRow 0 e size (.slice A n c) n xs := S.get i hk
  have hn0 : 0 < n := by
    rcases Nat.eq_zero_or_pos n with h0 | h0
    · subst h0; simp at hkn
    · exact h0
  obtain ⟨b, cap, hv', _, hlt⟩ := hown.form hn0
  injection hv' with hA _ hcap
  subst hA; subst hcap
  have hxa : a.eval x = .pointer (some ⟨b, k, none⟩) := by
    rw [ha.eval hx]
    simp [pRF, Addr.add_mid]
  have hxl : xs.length = n * size := hown.1
  have hc : w.cell? ⟨b, k, none⟩ = some (xs[k]'(by omega)) := (hown.cellAt k (by omega)).trans (List.getElem?_eq_getElem (by omega))
  have hf : w.frozen? ⟨b, k, none⟩ = false := hown.frozenAt k
  have hr : (storeVar st ⟨b, k, none⟩ v).run P w = .ok () (w.setCell ⟨b, k, none⟩ v) := by
    simp only [storeVar, Sem.run_bind, sizeOf_run hsz, cells_one hv, Result.andThen_ok]
    simp [storeCells, hv, stored, hc, hf, run_store, go_sem]
  unfold Oper.wp execOp
  simp only [hxa, ha.eval hy, Instr.storeAt, Instr.sureAddr, Sem.run_bind, Sem.run_pure, Result.andThen_ok, hr]
  refine ⟨env, ha, h _ (S.upd i hk rfl rfl rfl (by simp) (fun j hj hn => Below.heap_setCell w ⟨b, k, none⟩ v j (fun e => hn (by simp [row, Value.ownBlock, e]))) ?_ fun j hj => .inl hj)⟩
  exact (hown.stored k v).1
end
end Go.Proofs.Ytaknmlajhedfhaa.Zx


/-
  Pieces and how often each stands: plain laws.
-/
namespace Go.Proofs.Ytaknmlajhedfhaa
open Go.RowKit Zk Zx Go.Maps Go.WideShapes
set_option linter.unusedVariables false
/-- A text's pieces, with a piece begun. -/
def cutF : List UInt8 → List UInt8 → List (List UInt8)
  | now, [] => if now = [] then [] else [now]
  | now, c :: r => if c = 10 ∨ now.length + 1 = 64 then (now ++ [c]) :: cutF [] r else cutF (now ++ [c]) r
def cuts (l : List UInt8) : List (List UInt8) := cutF [] l
/-- The map D counts the pieces L. -/
def CM (D : DU) (L : List (List UInt8)) : Prop :=
  ∃ es, D = .map es ∧ (es.map (·.1)).Nodup ∧ (∀ p ∈ es, ∃ t, p.1 = Lit.string t ∧ t ∈ L ∧ p.2 = .lit (.int .i64 (L.count t : Int))) ∧ ∀ t ∈ L, ∃ p ∈ es, p.1 = Lit.string t
theorem CM.nil : CM (.map []) [] := ⟨[], rfl, List.nodup_nil, fun p hp => (by cases hp), fun t ht => (by cases ht)⟩
theorem CM.at_ {D : DU} {L : List (List UInt8)} (h : CM D L) (t : List UInt8) : D.atKey (.string t) (.lit (.int .i64 0)) = .lit (.int .i64 (L.count t : Int)) := by
  obtain ⟨es, rfl, hn, h1, h2⟩ := h
  unfold DataW.atKey
  simp only
  cases hf : es.find? (fun p => p.1.sameKey (.string t)) with
  | none =>
    have : t ∉ L := fun ht => by
      obtain ⟨p, hp, hk⟩ := h2 t ht
      have := List.find?_eq_none.1 hf p hp
      rw [hk] at this
      simp [Lit.sameKey] at this
    rw [List.count_eq_zero_of_not_mem this]
    rfl
  | some p =>
    have hk : p.1 = .string t := WideAt.sameKey_eq (by have := List.find?_some hf; exact this)
    obtain ⟨t', h3, _, h4⟩ := h1 p (List.mem_of_find?_eq_some hf)
    rw [hk] at h3
    simp only [Lit.string.injEq] at h3
    subst h3
    exact h4
theorem CM.put {D : DU} {L : List (List UInt8)} (h : CM D L) (t : List UInt8) (c : Int) (hc : c = (L.count t : Int) + 1) : CM (D.put (.string t) (.lit (.int .i64 c))) (L ++ [t]) := by
  subst hc
  obtain ⟨es, rfl, hn, h1, h2⟩ := h
  have hmem : ∀ p, p ∈ DataW.insert (Lit.string t, (.lit (.int .i64 ((L.count t : Int) + 1)) : DU)) (es.filter fun p => !p.1.sameKey (.string t)) ↔ p = (Lit.string t, .lit (.int .i64 ((L.count t : Int) + 1))) ∨ (p ∈ es ∧ p.1 ≠ .string t) := fun p => by
    rw [(insert_perm _ _).mem_iff, List.mem_cons, List.mem_filter]
    have : (!p.1.sameKey (.string t)) = true ↔ p.1 ≠ .string t := by
      constructor
      · intro h e
        rw [e] at h
        simp [Lit.sameKey] at h
      · intro h
        cases hs : p.1.sameKey (.string t)
        · rfl
        · exact absurd (WideAt.sameKey_eq hs) h
    rw [this]
  refine ⟨_, rfl, ?_, fun p hp => ?_, fun s hs => ?_⟩
  · have hp := (insert_perm (Lit.string t, (.lit (.int .i64 ((L.count t : Int) + 1)) : DU)) (es.filter fun p => !p.1.sameKey (.string t))).map (·.1)
    rw [hp.nodup_iff, List.map_cons, List.nodup_cons]
    refine ⟨fun hm => ?_, (List.filter_sublist.map _).nodup hn⟩
    obtain ⟨p, hp, hk⟩ := List.mem_map.1 hm
    have := (List.mem_filter.1 hp).2
    rw [hk] at this
    simp [Lit.sameKey] at this
  · rcases (hmem p).1 hp with rfl | ⟨hp, hk⟩
    · exact ⟨t, rfl, by simp, by simp [List.count_append]⟩
    · obtain ⟨s, h3, h4, h5⟩ := h1 p hp
      refine ⟨s, h3, List.mem_append_left _ h4, ?_⟩
      have hne : t ≠ s := fun e => by subst e; exact hk h3
      rw [h5, List.count_append, List.count_cons_of_ne hne, List.count_nil]
      rfl
  · rcases List.mem_append.1 hs with hs | hs
    · by_cases he : s = t
      · subst he
        exact ⟨_, (hmem _).2 (.inl rfl), rfl⟩
      · obtain ⟨p, hp, hk⟩ := h2 s hs
        exact ⟨p, (hmem _).2 (.inr ⟨hp, by rw [hk]; simpa using he⟩), hk⟩
    · obtain rfl := List.mem_singleton.1 hs
      exact ⟨_, (hmem _).2 (.inl rfl), rfl⟩
/-- What two lists of pieces have in common at a piece. -/
def comG (A B : List (List UInt8)) : Lit → Nat
  | .string t => min (A.count t) (B.count t) * t.length
  | _ => 0
/-- .. at the pieces that have come. -/
def comL (A B : List (List UInt8)) (es : List (Lit × DU)) (left : Lit → Bool) : Nat := ((es.filter fun p => !left p.1).map fun p => comG A B p.1).sum
theorem com_step (A B : List (List UInt8)) (kl : Lit) (left : Lit → Bool) (hl : left kl = true) (hs : WideAt.IsKeyLit kl) : ∀ es : List (Lit × DU), (es.map (·.1)).Nodup → (∃ p ∈ es, p.1 = kl) →
    comL A B es (fun z => left z && !z.sameKey kl) = comL A B es left + comG A B kl
  | [], _, h => by obtain ⟨p, hp, _⟩ := h; cases hp
  | q :: es, hn, h => by
    rw [List.map_cons, List.nodup_cons] at hn
    by_cases hq : q.1 = kl
    · have hrest : comL A B es (fun z => left z && !z.sameKey kl) = comL A B es left := by
        unfold comL
        congr 2
        refine List.filter_congr fun p hp => ?_
        have : p.1.sameKey kl = false := by
          cases hc : p.1.sameKey kl
          · rfl
          · exact absurd (List.mem_map.2 ⟨p, hp, (WideAt.sameKey_eq hc).trans hq.symm⟩) hn.1
        simp [this]
      have e1 : comL A B (q :: es) (fun z => left z && !z.sameKey kl) = comG A B kl + comL A B es (fun z => left z && !z.sameKey kl) := by
        unfold comL
        rw [List.filter_cons_of_pos (by simp [hq, WideAt.sameKey_self hs]), List.map_cons, List.sum_cons, hq]
      have e2 : comL A B (q :: es) left = comL A B es left := by
        unfold comL
        rw [List.filter_cons_of_neg (by rw [hq, hl]; simp)]
      rw [e1, e2, hrest, Nat.add_comm]
    · obtain ⟨p, hp, hk⟩ := h
      have hp' : p ∈ es := by
        rcases List.mem_cons.1 hp with rfl | hp
        · exact absurd hk hq
        · exact hp
      have ih := com_step A B kl left hl hs es hn.2 ⟨p, hp', hk⟩
      have hqs : q.1.sameKey kl = false := by
        cases hc : q.1.sameKey kl
        · rfl
        · exact absurd (WideAt.sameKey_eq hc) hq
      unfold comL at ih ⊢
      cases hlq : left q.1 with
      | true => rw [List.filter_cons_of_neg (by simp [hlq, hqs]), List.filter_cons_of_neg (by simp [hlq])]; exact ih
      | false =>
        rw [List.filter_cons_of_pos (by simp [hlq]), List.filter_cons_of_pos (by simp [hlq]), List.map_cons, List.map_cons, List.sum_cons, List.sum_cons, ih]
        omega
/-- What two lists of pieces have in common. -/
def com (A B : List (List UInt8)) (ks : List (List UInt8)) : Nat := (ks.map fun t => min (A.count t) (B.count t) * t.length).sum
theorem com_perm {A B ks ks' : List (List UInt8)} (h1 : ks.Nodup) (h2 : ks'.Nodup) (h : ∀ t, t ∈ ks ↔ t ∈ ks') : com A B ks = com A B ks' := by
  have hp : ks.Perm ks' := (List.perm_ext_iff_of_nodup h1 h2).2 h
  exact (hp.map _).sum_nat
end Go.Proofs.Ytaknmlajhedfhaa


/-
  What two lists of pieces have in common: bounds, and one sum for all orders.
-/
namespace Go.Proofs.Ytaknmlajhedfhaa
open Go.RowKit Zk Zx Go.Maps Go.WideShapes
set_option linter.unusedVariables false
def keyL : Lit → List UInt8
  | .string t => t
  | _ => []
theorem sum_le {α : Type} (f g : α → Nat) : ∀ l : List α, (∀ x ∈ l, f x ≤ g x) → (l.map f).sum ≤ (l.map g).sum
  | [], _ => Nat.le_refl _
  | x :: l, h => by
    rw [List.map_cons, List.map_cons, List.sum_cons, List.sum_cons]
    have h1 := h x List.mem_cons_self
    have h2 := sum_le f g l (fun y hy => h y (List.mem_cons_of_mem _ hy))
    omega
theorem sum_hit (x : List UInt8) : ∀ ks : List (List UInt8), ks.Nodup → (ks.map fun t => (if x = t then 1 else 0) * t.length).sum ≤ x.length ∧ (x ∈ ks → (ks.map fun t => (if x = t then 1 else 0) * t.length).sum = x.length)
  | [], _ => ⟨by simp, fun h => by cases h⟩
  | t :: ks, hn => by
    rw [List.nodup_cons] at hn
    obtain ⟨h1, h2⟩ := sum_hit x ks hn.2
    rw [List.map_cons, List.sum_cons]
    by_cases h : x = t
    · subst h
      have h0 : (ks.map fun t => (if x = t then 1 else 0) * t.length).sum = 0 := by
        have : ∀ y ∈ ks, (if x = y then 1 else 0) * y.length ≤ (fun _ : List UInt8 => 0) y := fun y hy => by
          rw [if_neg (fun e => hn.1 (by rw [e]; exact hy))]
          simp
        have h3 := sum_le (fun t : List UInt8 => (if x = t then 1 else 0) * t.length) (fun _ => 0) ks this
        have h4 : (ks.map fun _ => 0).sum = 0 := by clear this h3 h1 h2 hn; induction ks with | nil => rfl | cons a l ih => simpa using ih
        omega
      rw [h0, if_pos rfl]
      exact ⟨by omega, fun _ => by omega⟩
    · rw [if_neg h]
      refine ⟨by omega, fun hm => ?_⟩
      rcases List.mem_cons.1 hm with e | hm
      · exact absurd e h
      · rw [h2 hm]; omega
theorem sum_add {α : Type} (f g : α → Nat) : ∀ l : List α, (l.map fun x => f x + g x).sum = (l.map f).sum + (l.map g).sum
  | [] => rfl
  | x :: l => by
    rw [List.map_cons, List.map_cons, List.map_cons, List.sum_cons, List.sum_cons, List.sum_cons, sum_add f g l]
    omega
theorem count_step (x t : List UInt8) (A : List (List UInt8)) : (x :: A).count t * t.length = A.count t * t.length + (if x = t then 1 else 0) * t.length := by
  rw [List.count_cons, Nat.add_mul]
  congr 2
  by_cases h : x = t
  · simp [h]
  · simp [h]
theorem all_le : ∀ (A ks : List (List UInt8)), ks.Nodup → (ks.map fun t => A.count t * t.length).sum ≤ (A.map List.length).sum
  | [], ks, hn => by
    have : (ks.map fun t => ([] : List (List UInt8)).count t * t.length).sum ≤ (ks.map fun _ => 0).sum := sum_le _ _ ks (fun x _ => by simp)
    have h4 : (ks.map fun _ => 0).sum = 0 := by clear this hn; induction ks with | nil => rfl | cons a l ih => simpa using ih
    simp only [List.map_nil, List.sum_nil]
    omega
  | x :: A, ks, hn => by
    have h1 := all_le A ks hn
    have h2 := (sum_hit x ks hn).1
    have h3 : (ks.map fun t => (x :: A).count t * t.length) = ks.map fun t => A.count t * t.length + (if x = t then 1 else 0) * t.length := List.map_congr_left fun t _ => count_step x t A
    rw [h3, sum_add, List.map_cons, List.sum_cons]
    omega
theorem com_le (A B ks : List (List UInt8)) (hn : ks.Nodup) : com A B ks ≤ (A.map List.length).sum ∧ com A B ks ≤ (B.map List.length).sum := by
  unfold com
  refine ⟨Nat.le_trans (sum_le _ _ ks fun t _ => ?_) (all_le A ks hn), Nat.le_trans (sum_le _ _ ks fun t _ => ?_) (all_le B ks hn)⟩
  · exact Nat.mul_le_mul_right _ (Nat.min_le_left _ _)
  · exact Nat.mul_le_mul_right _ (Nat.min_le_right _ _)
/-- The keys of a map of counts. -/
theorem CM.keys {D : DU} {L : List (List UInt8)} (h : CM D L) : ∃ es : List (Lit × DU), D = .map es ∧ (es.map (·.1)).Nodup ∧ (∀ p ∈ es, p.1 = Lit.string (keyL p.1)) ∧ (es.map fun p => keyL p.1).Nodup ∧ ∀ t, t ∈ (es.map fun p => keyL p.1) ↔ t ∈ L := by
  obtain ⟨es, hD, hn, h1, h2⟩ := h
  have hs : ∀ p ∈ es, p.1 = Lit.string (keyL p.1) := fun p hp => by
    obtain ⟨t, h3, _⟩ := h1 p hp
    rw [h3]
    rfl
  refine ⟨es, hD, hn, hs, ?_, fun t => ⟨fun ht => ?_, fun ht => ?_⟩⟩
  · have e : (es.map (·.1)) = (es.map fun p => keyL p.1).map Lit.string := by
      rw [List.map_map]
      exact List.map_congr_left fun p hp => hs p hp
    rw [e] at hn
    rw [List.Nodup, List.pairwise_map] at hn
    exact hn.imp (fun h e => h (by rw [e]))
  · obtain ⟨p, hp, rfl⟩ := List.mem_map.1 ht
    obtain ⟨t, h3, h4, _⟩ := h1 p hp
    rw [h3]
    exact h4
  · obtain ⟨p, hp, h3⟩ := h2 t ht
    exact List.mem_map.2 ⟨p, hp, by rw [h3]; rfl⟩
theorem comL_com (A B : List (List UInt8)) : ∀ (es : List (Lit × DU)) (left : Lit → Bool), (∀ p ∈ es, p.1 = Lit.string (keyL p.1)) → comL A B es left = com A B ((es.filter fun p => !left p.1).map fun p => keyL p.1) := fun es left hs => by
  unfold comL com
  rw [List.map_map]
  congr 1
  refine List.map_congr_left fun p hp => ?_
  have := hs p (List.mem_filter.1 hp).1
  show comG A B p.1 = _
  rw [this]
  rfl
theorem comL_le (A B : List (List UInt8)) (es : List (Lit × DU)) (left : Lit → Bool) (hs : ∀ p ∈ es, p.1 = Lit.string (keyL p.1)) (hn : (es.map fun p => keyL p.1).Nodup) : comL A B es left ≤ (A.map List.length).sum := by
  rw [comL_com A B es left hs]
  exact (com_le A B _ ((List.filter_sublist.map _).nodup hn)).1
theorem comL_start (A B : List (List UInt8)) (es : List (Lit × DU)) (hs : ∀ p ∈ es, p.1 = Lit.string (keyL p.1)) : comL A B es (Maps.has (.map es)) = 0 := by
  unfold comL
  have : es.filter (fun p => !Maps.has (DataW.map es) p.1) = [] := by
    rw [List.filter_eq_nil_iff]
    intro p hp
    have : Maps.has (DataW.map es) p.1 = true := by
      rw [Maps.has_eq]
      exact List.any_eq_true.2 ⟨p, hp, WideAt.sameKey_self (by rw [hs p hp]; trivial)⟩
    simp [this]
  rw [this]
  rfl
theorem comL_end (A B : List (List UInt8)) (es : List (Lit × DU)) (left : Lit → Bool) (hs : ∀ p ∈ es, p.1 = Lit.string (keyL p.1)) (hl : ∀ kl, left kl = false) : comL A B es left = com A B (es.map fun p => keyL p.1) := by
  rw [comL_com A B es left hs]
  congr 2
  exact List.filter_eq_self.2 fun p hp => by simp [hl]
/-- The distinct ones of a list. -/
def dd : List (List UInt8) → List (List UInt8)
  | [] => []
  | x :: r => if x ∈ r then dd r else x :: dd r
theorem dd_mem (t : List UInt8) : ∀ l, t ∈ dd l ↔ t ∈ l
  | [] => Iff.rfl
  | x :: r => by
    unfold dd
    split
    · rename_i h
      rw [dd_mem t r, List.mem_cons]
      exact ⟨.inr, fun h2 => h2.elim (fun e => by rw [e]; exact h) id⟩
    · rw [List.mem_cons, List.mem_cons, dd_mem t r]
theorem dd_nodup : ∀ l, (dd l).Nodup
  | [] => List.nodup_nil
  | x :: r => by
    unfold dd
    split
    · exact dd_nodup r
    · rename_i h
      rw [List.nodup_cons]
      exact ⟨fun hm => h ((dd_mem x r).1 hm), dd_nodup r⟩
/-- How many bytes two lists of pieces have in common. -/
def comT (A B : List (List UInt8)) : Nat := com A B (dd A)
theorem comT_of {A B ks : List (List UInt8)} (hn : ks.Nodup) (h : ∀ t, t ∈ ks ↔ t ∈ A) : com A B ks = comT A B :=
  com_perm hn (dd_nodup A) (fun t => (h t).trans (dd_mem t A).symm)
theorem comT_le (A B : List (List UInt8)) : comT A B ≤ (A.map List.length).sum ∧ comT A B ≤ (B.map List.length).sum := com_le A B _ (dd_nodup A)
theorem cutF_sum : ∀ (l now : List UInt8), ((cutF now l).map List.length).sum = now.length + l.length
  | [], now => by
    unfold cutF
    split
    · rename_i h; simp [h]
    · simp
  | c :: r, now => by
    unfold cutF
    split
    · rw [List.map_cons, List.sum_cons, cutF_sum r []]
      simp
      omega
    · rw [cutF_sum r]
      simp
      omega
theorem cuts_sum (l : List UInt8) : ((cuts l).map List.length).sum = l.length := by
  have := cutF_sum l []
  simpa [cuts] using this
end Go.Proofs.Ytaknmlajhedfhaa


/-
  General laws, fourth part: what a law's arguments are, read off the row's hypothesis.
-/
namespace Go.Proofs.Ytaknmlajhedfhaa.Zk
open Go.ChangeShapes Go.WideShapes Go.ChangeAt Go.RowKit
open Go.ChangeMaps (open_string shut_string)
set_option linter.unusedVariables false
section
variable {H : Type} {enc : TypeId × Value → H} {P : Program} {w : World} {base : Nat} {spare : Nat → Bool} {held : Bool}
theorem u8_of (n : Int) (h : (Lit.int .u8 n).wf = true) : ∃ c : UInt8, n = (c.toNat : Int) := by
  have hb := bounds_u8 h
  refine ⟨UInt8.ofNat n.toNat, ?_⟩
  rw [UInt8.toNat_ofNat']
  omega
end
end Go.Proofs.Ytaknmlajhedfhaa.Zk


/-
  A law's arguments, opened: slices. General; nothing here names a program.
-/
namespace Go.Proofs.Ytaknmlajhedfhaa.Zx
open Go.ChangeShapes Go.WideShapes Go.ChangeAt Go.RowKit Go.Deep Zk
set_option linter.unusedVariables false
section
variable {H : Type} {enc : TypeId × Value → H} {P : Program} {w : World} {base : Nat} {spare : Nat → Bool} {held : Bool}
/-- A list of letters for a row, from one for each place. -/
theorem list_of {α : Type} (p : Nat → α → Prop) : ∀ n, (∀ i, i < n → ∃ x, p i x) → ∃ l : List α, l.length = n ∧ ∀ i x, l[i]? = some x → p i x
  | 0, _ => ⟨[], rfl, fun i x h => by simp at h⟩
  | n + 1, h => by
    obtain ⟨l, hl, hp⟩ := list_of p n (fun i hi => h i (by omega))
    obtain ⟨x, hx⟩ := h n (by omega)
    refine ⟨l ++ [x], by simp [hl], fun i y hy => ?_⟩
    rw [List.getElem?_append] at hy
    split at hy
    · exact hp i y hy
    · rename_i hi
      have : i = n := by
        have := (List.getElem?_eq_some_iff.1 hy).1
        simp at this
        omega
      subst this
      simp [hl] at hy
      rw [← hy]
      exact hx
/-- A slice whose elements are of one cell. -/
theorem read_row1 {α : Type} (f : α → Value) (φ : α → Prop) {t e : TypeId} (ht : P.underlying t = some (.slice e)) (hc : P.cellsOf e = 1)
    (hread : ∀ n v x, DataW.trod enc P w base spare held n e [v] = some x → ∃ y, v = f y ∧ φ y)
    {fuel : Nat} {cs : List Value} {x : DataW H × List MemPlace} (h : DataW.trod enc P w base spare held fuel t cs = some x) :
    ∃ A n c, ∃ l : List α, cs = [.slice A n c] ∧ Rs w 1 A n c (l.map f) ∧ ∀ y ∈ l, φ y := by
  rcases open_slice1 ht hc h with ⟨rfl, _⟩ | ⟨a, len, cap, m, n, V, D, Pl, rfl, _, hl, hm, hmm, _, hi⟩
  · exact ⟨none, 0, 0, [], rfl, Rs.nil w 1, fun y hy => by cases hy⟩
  · have hle : len ≤ m := by rw [hmm]; split <;> omega
    obtain ⟨l, hll, hp⟩ := list_of (fun i (y : α) => V i = f y ∧ φ y) len (fun i hil => by
      obtain ⟨_, h2⟩ := hi i (by omega)
      obtain ⟨y, h3, h4⟩ := hread n (V i) _ h2
      exact ⟨y, h3, h4⟩)
    refine ⟨some a, len, cap, l, rfl, ⟨⟨by simp [hll], fun h0 => ⟨a, rfl, ?_, fun j u hu => ?_⟩⟩, hl, by unfold maxLen at hm; exact hm⟩, fun y hy => ?_⟩
    · have h1 := (hi 0 (by omega)).1
      have := World.block_lt_of_cell? w _ h1
      rwa [block_of_add] at this
    · rw [List.getElem?_map] at hu
      cases hj : l[j]? with
      | none => rw [hj] at hu; cases hu
      | some y =>
        rw [hj] at hu
        simp only [Option.map_some, Option.some.injEq] at hu
        have hjl : j < len := by rw [← hll]; exact (List.getElem?_eq_some_iff.1 hj).1
        rw [← hu, ← (hp j y hj).1]
        exact (hi j (by omega)).1
    · obtain ⟨i, hi2, rfl⟩ := List.getElem_of_mem hy
      exact (hp i _ (List.getElem?_eq_getElem hi2)).2
theorem read_u8 {e : TypeId} (he : P.underlying e = some (.int .u8)) (n : Nat) (v : Value) (x : DataW H × List MemPlace) (h : DataW.trod enc P w base spare held n e [v] = some x) : ∃ y, v = bV y ∧ True := by
  obtain ⟨a, ha, _, hw⟩ := DataW.trod_int he h
  obtain ⟨c, rfl⟩ := u8_of a hw
  simp only [List.cons.injEq, and_true] at ha
  exact ⟨c, ha, trivial⟩
/-- A slice of bytes. -/
theorem read_bytesS {t e : TypeId} (ht : P.underlying t = some (.slice e)) (he : P.underlying e = some (.int .u8)) (hc : P.cellsOf e = 1)
    {fuel : Nat} {cs : List Value} {x : DataW H × List MemPlace} (h : DataW.trod enc P w base spare held fuel t cs = some x) :
    ∃ A n c l, cs = [.slice A n c] ∧ Rs w 1 A n c (bL l) := by
  obtain ⟨A, n, c, l, h1, h2, _⟩ := read_row1 bV (fun _ => True) ht hc (read_u8 he) h
  exact ⟨A, n, c, l, h1, h2⟩
/-- A slice of bytes, and what it reads as. -/
structure Part where
  A : Option Addr
  n : Nat
  c : Nat
  l : List UInt8
def pv (p : Part) : Value := .slice p.A p.n p.c
def p0 : Part := ⟨none, 0, 0, []⟩
def Part.ok (w : World) (p : Part) : Prop := Rs w 1 p.A p.n p.c (bL p.l)
/-- A slice of slices of bytes. -/
theorem read_bytesSS {t u e : TypeId} (ht : P.underlying t = some (.slice u)) (hc : P.cellsOf u = 1) (hu : P.underlying u = some (.slice e)) (he : P.underlying e = some (.int .u8)) (hc' : P.cellsOf e = 1)
    {fuel : Nat} {cs : List Value} {x : DataW H × List MemPlace} (h : DataW.trod enc P w base spare held fuel t cs = some x) :
    ∃ A n c, ∃ ps : List Part, cs = [.slice A n c] ∧ Rs w 1 A n c (ps.map pv) ∧ ∀ p ∈ ps, p.ok w :=
  read_row1 pv (Part.ok w) ht hc (fun n v x h => by
    obtain ⟨A, n, c, l, h1, h2⟩ := read_bytesS hu he hc' h
    simp only [List.cons.injEq, and_true] at h1
    exact ⟨⟨A, n, c, l⟩, h1, h2⟩) h
/-- The value itself. -/
theorem slice_of_cells {r : Reach} {b0 : Nat} {t e : TypeId} {v : Value} {A : Option Addr} {n c : Nat} (ht : P.underlying t = some (.slice e)) (hv : Value.okWide P w r b0 t v) (h : v.cells.toList = [.slice A n c]) : v = .slice A n c := by
  obtain ⟨A', n', c', rfl⟩ := okWide_slice ht hv
  simpa [Value.cells] using h
theorem open_bytesSS {r : Reach} {b0 : Nat} {t u e : TypeId} {v : Value} {d : DataW H} {p : List MemPlace} (ht : P.underlying t = some (.slice u)) (hc : P.cellsOf u = 1) (hu : P.underlying u = some (.slice e)) (he : P.underlying e = some (.int .u8)) (hc' : P.cellsOf e = 1)
    (hv : Value.okWide P w r b0 t v) (h : DataW.Trod enc P w base spare held t v d p) : ∃ A n c, ∃ ps : List Part, v = .slice A n c ∧ Rs w 1 A n c (ps.map pv) ∧ ∀ p ∈ ps, p.ok w := by
  obtain ⟨fuel, hf⟩ := h
  obtain ⟨A, n, c, ps, h1, h2, h3⟩ := read_bytesSS ht hc hu he hc' hf
  exact ⟨A, n, c, ps, slice_of_cells ht hv h1, h2, h3⟩
end
end Go.Proofs.Ytaknmlajhedfhaa.Zx


/-
  Sizes and zeros of the seat's types.
-/
namespace Go.Proofs.Ytaknmlajhedfhaa
open Go.RowKit Zk Zx
set_option linter.unusedVariables false
set_option linter.unusedSimpArgs false
theorem hmix : Try.prog.follows .mixedOrders = true := by kernel_rfl
theorem sz3 : (Try.prog.info? 3).map (·.size) = some 1 := by kernel_rfl
theorem zz3 (W : World) : (zeroValue 3).run Try.prog W = .ok (.int .i64 0) W := by kernel_rfl
theorem sz5 : (Try.prog.info? 5).map (·.size) = some 1 := by kernel_rfl
theorem zz5 (W : World) : (zeroValue 5).run Try.prog W = .ok (.int .u8 0) W := by kernel_rfl
theorem sz9 : (Try.prog.info? 9).map (·.size) = some 1 := by kernel_rfl
theorem zz9 (W : World) : (zeroValue 9).run Try.prog W = .ok (.string ⟨#[]⟩) W := by kernel_rfl
theorem sz22 : (Try.prog.info? 22).map (·.size) = some 1 := by kernel_rfl
theorem te22 : Elem Try.prog 22 5 (.int .u8 0) 1 1 := ⟨Try.underlying22, by kernel_rfl, rfl, by decide⟩
theorem te30 : Elem Try.prog 30 34 (.agg #[.string ⟨#[]⟩, .int .i64 0]) 2 24 := ⟨Try.underlying30, by kernel_rfl, rfl, by decide⟩
theorem sz34 : (Try.prog.info? 34).map (·.size) = some 2 := by kernel_rfl
theorem zz34 (W : World) : (zeroValue 34).run Try.prog W = .ok (.agg #[.string ⟨#[]⟩, .int .i64 0]) W := by kernel_rfl
theorem te38 : Elem Try.prog 38 43 (.agg #[.int .i64 0, .int .i64 0, .int .i64 0]) 3 24 := ⟨Try.underlying38, by kernel_rfl, rfl, by decide⟩
theorem te40 : Elem Try.prog 40 44 (.agg #[.int .i64 0, .int .i64 0, .int .i64 0]) 3 24 := ⟨Try.underlying40, by kernel_rfl, rfl, by decide⟩
theorem sz43 : (Try.prog.info? 43).map (·.size) = some 3 := by kernel_rfl
theorem zz43 (W : World) : (zeroValue 43).run Try.prog W = .ok (.agg #[.int .i64 0, .int .i64 0, .int .i64 0]) W := by kernel_rfl
theorem sz44 : (Try.prog.info? 44).map (·.size) = some 3 := by kernel_rfl
theorem zz44 (W : World) : (zeroValue 44).run Try.prog W = .ok (.agg #[.int .i64 0, .int .i64 0, .int .i64 0]) W := by kernel_rfl
theorem sz48 : (Try.prog.info? 48).map (·.size) = some 1 := by kernel_rfl
theorem te53 : Elem Try.prog 53 9 (.string ⟨#[]⟩) 1 16 := ⟨Try.underlying53, by kernel_rfl, rfl, by decide⟩
theorem te55 : Elem Try.prog 55 48 (.map none) 1 8 := ⟨Try.underlying55, by kernel_rfl, rfl, by decide⟩
theorem te63 : Elem Try.prog 63 3 (.int .i64 0) 1 8 := ⟨Try.underlying63, by kernel_rfl, rfl, by decide⟩
end Go.Proofs.Ytaknmlajhedfhaa


/-
  The program: counts.
-/
namespace Go.Proofs.Ytaknmlajhedfhaa
open Go.RowKit Zk Zx
set_option linter.unusedVariables false
set_option linter.unusedSimpArgs false

theorem cutF_end (now : List UInt8) (c : UInt8) (r : List UInt8) (h : c = 10 ∨ now.length + 1 = 64 ∨ r = []) : cutF now (c :: r) = (now ++ [c]) :: cutF [] r := by
  rw [cutF]
  split
  · rfl
  · rename_i h1
    have hr : r = [] := by
      rcases h with h | h | h
      · exact absurd (.inl h) h1
      · exact absurd (.inr h) h1
      · exact h
    subst hr
    simp [cutF]
theorem cutF_on (now : List UInt8) (c : UInt8) (r : List UInt8) (h : ¬ (c = 10 ∨ now.length + 1 = 64)) : cutF now (c :: r) = cutF (now ++ [c]) r := by rw [cutF, if_neg h]
theorem win_snoc {l : List UInt8} {f i : Nat} {c : UInt8} (hf : f ≤ i) (h : l[i]? = some c) : (l.drop f).take (i - f) ++ [c] = (l.drop f).take (i + 1 - f) := by
  rw [show i + 1 - f = (i - f) + 1 by omega, List.take_add_one, List.getElem?_drop, show f + (i - f) = i by omega, h]
  rfl
theorem drop_at {l : List UInt8} {i : Nat} {c : UInt8} (h : l[i]? = some c) : l.drop i = c :: l.drop (i + 1) := by
  obtain ⟨h1, h2⟩ := List.getElem?_eq_some_iff.1 h
  rw [List.drop_eq_getElem_cons h1, h2]
theorem u8_ten {c : UInt8} : (c.toNat : Int) = 10 ↔ c = 10 := by
  constructor
  · intro h
    exact UInt8.toNat_inj.1 (show c.toNat = (10 : UInt8).toNat by show c.toNat = 10; omega)
  · intro h
    subst h
    rfl
theorem bsz (x : List UInt8) : (⟨x.toArray⟩ : ByteArray).size = x.length := by
  show x.toArray.size = _
  simp
theorem keyS (x : List UInt8) (h : x.length ≤ 9223372036854775807) : keyOf Try.prog 9 (.string ⟨x.toArray⟩) = some (.string x) := by
  have := @Go.WideMaps.keyOf_string_mk Try.prog 9 Try.underlying9 ⟨x.toArray⟩ (by rw [bsz]; unfold maxLen; exact h)
  simpa using this
theorem bL_getX {l : List UInt8} {k : Nat} {x : UInt8} (h : l[k]? = some x) : (bL l)[k]? = some (Value.int .u8 (x.toNat : Int)) := bL_get l k x h
theorem wfI (c : Nat) (h : c ≤ 9223372036854775807) : (Lit.int .i64 (c : Int)).wf = true := by
  simp [Lit.wf, IntKind.min, IntKind.max, IntKind.signed, IntKind.bits]
  omega


set_option maxRecDepth 100000 in
theorem counts (A : Option Addr) (n c0 : Nat) (l : List UInt8) (w0 : World) (hb : Rs w0 1 A n c0 (bL l)) (hn : n ≤ 4398046511104) :
    Calls Try.prog 20 #[.slice A n c0] w0 fun e w' => ∃ u, e = .returned u ∧ Like w0 w' ∧ ∃ b D k, u = .map (some b) ∧ w0.heap.size ≤ b ∧ (mapR Try.prog 9 3 b k D).holds w' ∧ CM D (cuts l) ∧ k ≤ n := by
  refine enter1 (env := [(0, .slice A n c0)]) [.slice A n c0] Try.func20 rfl Try.ntmps20 rfl rfl ?_
  have hln := hb.lenb; have hcap := hb.cap; have hmx := hb.max; have S0 := St.start w0 noM
  refine T_seq fun K1 hK1 => ?_
  refine T_region ?_
  refine L_y (y_assign rfl) rfl ?_
  refine L_nil ?_
  refine hK1 _ _ ?_
  refine T_seq fun K2 hK2 => ?_
  refine T_region ?_
  refine L_o (o_makeMap (t := 48) (k := 9) (e := 3) S0 rfl fun b1 w1 hb1 S1 => ?_)
  refine L_y (y_assign rfl) rfl ?_
  refine L_nil ?_
  refine hK2 _ _ ?_
  refine T_seq fun K3 hK3 => ?_
  refine T_region ?_
  refine L_y (y_assign rfl) rfl ?_
  refine L_nil ?_
  refine hK3 _ _ ?_
  refine T_seq fun K4 hK4 => ?_
  refine T_seq fun K5 hK5 => ?_
  refine T_region ?_
  refine L_y (y_move rfl) rfl ?_
  refine L_y (y_len Try.underlying22 rfl) rfl ?_
  refine L_y (y_move rfl) rfl ?_
  refine L_nil ?_
  refine hK5 _ _ ?_
  refine T_block ?_
  refine T_loop4 [(0, _), (3, _), (8, _), (9, _)] (fun (i : Nat) (f : Nat) (D : DU) (done : List (List UInt8)) => [(4, .int .i64 (f : Int)), (10, .int .i64 (i : Int))]) (fun (i : Nat) (f : Nat) (D : DU) (done : List (List UInt8)) => n - i) (fun (i : Nat) (f : Nat) (D : DU) (done : List (List UInt8)) (w : World) => ((f ≤ i ∧ i ≤ n ∧ i - f < 64 ∧ done.length ≤ i ∧ (i = n → f = n)) ∧ CM D done ∧ cuts l = done ++ cutF ((l.drop f).take (i - f)) (l.drop i)) ∧ St w0 noM [mapR Try.prog 9 3 b1 done.length D] w) 0 0 (.map []) [] (Sub.cons rfl (by first | rfl | exact congrArg (Value.int _) (by omega)) (Sub.cons rfl (by first | rfl | exact congrArg (Value.int _) (by omega)) (Sub.nil _))) (Sub.cons rfl rfl (Sub.cons rfl rfl (Sub.cons rfl rfl (Sub.cons rfl rfl (Sub.nil _))))) ?_ ?_
  ·
    exact ⟨⟨⟨by omega, by omega, by omega, by simp, fun h => h⟩, CM.nil, by simp [cuts]⟩, S1⟩
  ·
    intro i f D done w2 hrel
    obtain ⟨⟨⟨hf, hi, h64, hdl, hfe⟩, hcm, hcut⟩, S2⟩ := hrel
    refine T_seq fun K6 hK6 => ?_
    refine T_region ?_
    refine L_y (y_lss rfl rfl) rfl ?_
    refine L_nil ?_
    refine hK6 _ _ ?_
    refine T_seq fun K7 hK7 => ?_
    refine T_cond rfl (fun h11 => ?_) (fun h11 => ?_)
    ·
      obtain ⟨c, hc⟩ : ∃ c, l[i]? = some c := ⟨_, List.getElem?_eq_getElem (by omega)⟩
      have hdr := drop_at hc
      have hwin := win_snoc hf hc
      have hlw : ((l.drop f).take (i - f)).length = i - f := by rw [List.length_take, List.length_drop]; omega
      have hten := u8_ten (c := c)
      refine T_skip ?_
      refine hK7 _ _ ?_
      refine T_seq fun K8 hK8 => ?_
      refine T_block ?_
      refine T_seq fun K9 hK9 => ?_
      refine T_region ?_
      refine L_y (y_move rfl) rfl ?_
      refine L_y (y_idx Try.underlying22 sz5 rfl rfl (S2.rd hb) inferInstance (by omega)) rfl ?_
      refine L_y (y_ldr Try.underlying5 rfl rfl (S2.rd hb) (bL_getX hc)) rfl ?_
      refine L_y (y_assign rfl) rfl ?_
      refine L_y (y_assign rfl) rfl ?_
      refine L_nil ?_
      refine hK9 _ _ ?_
      refine T_seq fun K10 hK10 => ?_
      refine T_region ?_
      refine L_y (y_move rfl) rfl ?_
      refine L_y (y_eql rfl rfl) rfl ?_
      refine L_y (y_move rfl) rfl ?_
      refine L_split 17 rfl (fun h17 => ?_) (fun h17 => ?_)
      ·
        refine L_gno rfl rfl rfl ?_
        refine L_gno rfl rfl rfl ?_
        refine L_gno rfl rfl rfl ?_
        refine L_gno rfl rfl rfl ?_
        refine L_gno rfl rfl rfl ?_
        refine L_y ((by first | exact y_pickT rfl rfl | exact y_pickF rfl rfl)) rfl ?_
        refine L_y (y_move rfl) rfl ?_
        refine L_gno rfl rfl rfl ?_
        refine L_gno rfl rfl rfl ?_
        refine L_gno rfl rfl rfl ?_
        refine L_gno rfl rfl rfl ?_
        refine L_gno rfl rfl rfl ?_
        refine L_y ((by first | exact y_pickT rfl rfl | exact y_pickF rfl rfl)) rfl ?_
        refine L_nil ?_
        refine hK10 _ _ ?_
        refine T_true rfl ?_
        refine T_seq fun K11 hK11 => ?_
        have hcl := List.count_le_length (a := (l.drop f).take (i + 1 - f)) (l := done)
        refine T_region ?_
        refine L_y (y_move rfl) rfl ?_
        refine L_y (y_move rfl) rfl ?_
        refine L_y (y_move rfl) rfl ?_
        refine L_y (y_move rfl) rfl ?_
        refine L_y (y_add rfl rfl (i64w (by omega))) rfl ?_
        refine L_y (y_slice Try.underlying22 sz5 rfl rfl rfl inferInstance inferInstance (by omega) (by omega)) rfl ?_
        refine L_y (y_bstr Try.underlying22 Try.underlying5 Try.underlying9 rfl ((S2.rd hb).cutb (l := f) (u := i + 1) (by omega) (by omega))) rfl ?_
        refine L_y (y_look (S2.get 0 rfl) (Maps.string_keyed Try.underlying9) Try.underlying48 Try.underlying3 zz3 rfl rfl (keyS _ (by simp; omega)) (hcm.at_ _)) rfl ?_
        refine L_y (y_add rfl rfl (i64w (by omega))) rfl ?_
        refine L_o (o_mapUp S2 0 rfl (Maps.string_keyed Try.underlying9) Try.underlying48 Try.underlying3 rfl rfl rfl (keyS _ (by simp; omega)) (by omega) (by have := List.count_le_length (a := ((l.drop f).take (i + 1 - f))) (l := done); exact wfI (done.count ((l.drop f).take (i + 1 - f)) + 1) (by omega)) fun w4 S4 => ?_)
        refine L_nil ?_
        refine hK11 _ _ ?_
        refine T_region ?_
        refine L_y (y_move rfl) rfl ?_
        refine L_y (y_add rfl rfl (i64w (by omega))) rfl ?_
        refine L_y (y_assign rfl) rfl ?_
        refine L_nil ?_
        refine hK8 _ _ ?_
        refine T_region ?_
        refine L_y (y_add rfl rfl (i64w (by omega))) rfl ?_
        refine L_y (y_move rfl) rfl ?_
        refine L_nil ?_
        have hce := cutF_end ((l.drop f).take (i - f)) c (l.drop (i + 1)) (by rw [hlw]; first | (left; exact hten.1 (by assumption)) | (right; left; omega) | (right; right; exact List.drop_of_length_le (by omega)))
        refine ⟨i + 1, i + 1, _, done ++ [(l.drop f).take (i + 1 - f)], by omega, ⟨⟨⟨by omega, by omega, by omega, by simp; omega, fun h => h⟩, hcm.put _ _ rfl, by rw [hcut, hdr, hce, hwin, Nat.sub_self]; simp⟩, by rw [List.length_append]; exact S4⟩, ?_⟩
        exact (Sub.cons rfl (by first | rfl | exact congrArg (Value.int _) (by omega)) (Sub.cons rfl (by first | rfl | exact congrArg (Value.int _) (by omega)) (Sub.cons rfl rfl (Sub.cons rfl rfl (Sub.cons rfl rfl (Sub.cons rfl rfl (Sub.nil _)))))))
      ·
        refine L_gyes rfl rfl ?_
        refine L_y (y_move rfl) rfl ?_
        refine L_gyes rfl rfl ?_
        refine L_y (y_add rfl rfl (i64w (by omega))) rfl ?_
        refine L_gyes rfl rfl ?_
        refine L_y (y_move rfl) rfl ?_
        refine L_gyes rfl rfl ?_
        refine L_y (y_sub rfl rfl (i64w (by omega))) rfl ?_
        refine L_gyes rfl rfl ?_
        refine L_y (y_eql rfl rfl) rfl ?_
        refine L_y ((by first | exact y_pickT rfl rfl | exact y_pickF rfl rfl)) rfl ?_
        refine L_y (y_move rfl) rfl ?_
        refine L_split 24 rfl (fun h24 => ?_) (fun h24 => ?_)
        ·
          refine L_gno rfl rfl rfl ?_
          refine L_gno rfl rfl rfl ?_
          refine L_gno rfl rfl rfl ?_
          refine L_gno rfl rfl rfl ?_
          refine L_gno rfl rfl rfl ?_
          refine L_y ((by first | exact y_pickT rfl rfl | exact y_pickF rfl rfl)) rfl ?_
          refine L_nil ?_
          refine hK10 _ _ ?_
          refine T_true rfl ?_
          refine T_seq fun K12 hK12 => ?_
          have hcl := List.count_le_length (a := (l.drop f).take (i + 1 - f)) (l := done)
          refine T_region ?_
          refine L_y (y_move rfl) rfl ?_
          refine L_y (y_move rfl) rfl ?_
          refine L_y (y_move rfl) rfl ?_
          refine L_y (y_move rfl) rfl ?_
          refine L_y (y_add rfl rfl (i64w (by omega))) rfl ?_
          refine L_y (y_slice Try.underlying22 sz5 rfl rfl rfl inferInstance inferInstance (by omega) (by omega)) rfl ?_
          refine L_y (y_bstr Try.underlying22 Try.underlying5 Try.underlying9 rfl ((S2.rd hb).cutb (l := f) (u := i + 1) (by omega) (by omega))) rfl ?_
          refine L_y (y_look (S2.get 0 rfl) (Maps.string_keyed Try.underlying9) Try.underlying48 Try.underlying3 zz3 rfl rfl (keyS _ (by simp; omega)) (hcm.at_ _)) rfl ?_
          refine L_y (y_add rfl rfl (i64w (by omega))) rfl ?_
          refine L_o (o_mapUp S2 0 rfl (Maps.string_keyed Try.underlying9) Try.underlying48 Try.underlying3 rfl rfl rfl (keyS _ (by simp; omega)) (by omega) (by have := List.count_le_length (a := ((l.drop f).take (i + 1 - f))) (l := done); exact wfI (done.count ((l.drop f).take (i + 1 - f)) + 1) (by omega)) fun w6 S6 => ?_)
          refine L_nil ?_
          refine hK12 _ _ ?_
          refine T_region ?_
          refine L_y (y_move rfl) rfl ?_
          refine L_y (y_add rfl rfl (i64w (by omega))) rfl ?_
          refine L_y (y_assign rfl) rfl ?_
          refine L_nil ?_
          refine hK8 _ _ ?_
          refine T_region ?_
          refine L_y (y_add rfl rfl (i64w (by omega))) rfl ?_
          refine L_y (y_move rfl) rfl ?_
          refine L_nil ?_
          have hce := cutF_end ((l.drop f).take (i - f)) c (l.drop (i + 1)) (by rw [hlw]; first | (left; exact hten.1 (by assumption)) | (right; left; omega) | (right; right; exact List.drop_of_length_le (by omega)))
          refine ⟨i + 1, i + 1, _, done ++ [(l.drop f).take (i + 1 - f)], by omega, ⟨⟨⟨by omega, by omega, by omega, by simp; omega, fun h => h⟩, hcm.put _ _ rfl, by rw [hcut, hdr, hce, hwin, Nat.sub_self]; simp⟩, by rw [List.length_append]; exact S6⟩, ?_⟩
          exact (Sub.cons rfl (by first | rfl | exact congrArg (Value.int _) (by omega)) (Sub.cons rfl (by first | rfl | exact congrArg (Value.int _) (by omega)) (Sub.cons rfl rfl (Sub.cons rfl rfl (Sub.cons rfl rfl (Sub.cons rfl rfl (Sub.nil _)))))))
        ·
          refine L_gyes rfl rfl ?_
          refine L_y (y_move rfl) rfl ?_
          refine L_gyes rfl rfl ?_
          refine L_y (y_add rfl rfl (i64w (by omega))) rfl ?_
          refine L_gyes rfl rfl ?_
          refine L_y (y_move rfl) rfl ?_
          refine L_gyes rfl rfl ?_
          refine L_y (y_len Try.underlying22 rfl) rfl ?_
          refine L_gyes rfl rfl ?_
          refine L_y (y_eql rfl rfl) rfl ?_
          refine L_y ((by first | exact y_pickT rfl rfl | exact y_pickF rfl rfl)) rfl ?_
          refine L_nil ?_
          refine hK10 _ _ ?_
          refine T_cond rfl (fun h30 => ?_) (fun h30 => ?_)
          ·
            refine T_seq fun K13 hK13 => ?_
            have hcl := List.count_le_length (a := (l.drop f).take (i + 1 - f)) (l := done)
            refine T_region ?_
            refine L_y (y_move rfl) rfl ?_
            refine L_y (y_move rfl) rfl ?_
            refine L_y (y_move rfl) rfl ?_
            refine L_y (y_move rfl) rfl ?_
            refine L_y (y_add rfl rfl (i64w (by omega))) rfl ?_
            refine L_y (y_slice Try.underlying22 sz5 rfl rfl rfl inferInstance inferInstance (by omega) (by omega)) rfl ?_
            refine L_y (y_bstr Try.underlying22 Try.underlying5 Try.underlying9 rfl ((S2.rd hb).cutb (l := f) (u := i + 1) (by omega) (by omega))) rfl ?_
            refine L_y (y_look (S2.get 0 rfl) (Maps.string_keyed Try.underlying9) Try.underlying48 Try.underlying3 zz3 rfl rfl (keyS _ (by simp; omega)) (hcm.at_ _)) rfl ?_
            refine L_y (y_add rfl rfl (i64w (by omega))) rfl ?_
            refine L_o (o_mapUp S2 0 rfl (Maps.string_keyed Try.underlying9) Try.underlying48 Try.underlying3 rfl rfl rfl (keyS _ (by simp; omega)) (by omega) (by have := List.count_le_length (a := ((l.drop f).take (i + 1 - f))) (l := done); exact wfI (done.count ((l.drop f).take (i + 1 - f)) + 1) (by omega)) fun w7 S7 => ?_)
            refine L_nil ?_
            refine hK13 _ _ ?_
            refine T_region ?_
            refine L_y (y_move rfl) rfl ?_
            refine L_y (y_add rfl rfl (i64w (by omega))) rfl ?_
            refine L_y (y_assign rfl) rfl ?_
            refine L_nil ?_
            refine hK8 _ _ ?_
            refine T_region ?_
            refine L_y (y_add rfl rfl (i64w (by omega))) rfl ?_
            refine L_y (y_move rfl) rfl ?_
            refine L_nil ?_
            have hce := cutF_end ((l.drop f).take (i - f)) c (l.drop (i + 1)) (by rw [hlw]; first | (left; exact hten.1 (by assumption)) | (right; left; omega) | (right; right; exact List.drop_of_length_le (by omega)))
            refine ⟨i + 1, i + 1, _, done ++ [(l.drop f).take (i + 1 - f)], by omega, ⟨⟨⟨by omega, by omega, by omega, by simp; omega, fun h => h⟩, hcm.put _ _ rfl, by rw [hcut, hdr, hce, hwin, Nat.sub_self]; simp⟩, by rw [List.length_append]; exact S7⟩, ?_⟩
            exact (Sub.cons rfl (by first | rfl | exact congrArg (Value.int _) (by omega)) (Sub.cons rfl (by first | rfl | exact congrArg (Value.int _) (by omega)) (Sub.cons rfl rfl (Sub.cons rfl rfl (Sub.cons rfl rfl (Sub.cons rfl rfl (Sub.nil _)))))))
          ·
            refine T_skip ?_
            refine hK8 _ _ ?_
            refine T_region ?_
            refine L_y (y_add rfl rfl (i64w (by omega))) rfl ?_
            refine L_y (y_move rfl) rfl ?_
            refine L_nil ?_
            have hco := cutF_on ((l.drop f).take (i - f)) c (l.drop (i + 1)) (by rw [hlw]; intro h; rcases h with h | h; exact absurd (hten.2 h) (by assumption); omega)
            refine ⟨i + 1, f, D, done, by omega, ⟨⟨⟨by omega, by omega, by omega, by omega, fun h => by omega⟩, hcm, by rw [hcut, hdr, hco, hwin]⟩, S2⟩, ?_⟩
            exact (Sub.cons rfl (by first | rfl | exact congrArg (Value.int _) (by omega)) (Sub.cons rfl (by first | rfl | exact congrArg (Value.int _) (by omega)) (Sub.cons rfl rfl (Sub.cons rfl rfl (Sub.cons rfl rfl (Sub.cons rfl rfl (Sub.nil _)))))))
    ·
      have hin : i = n := by omega
      refine T_exit ?_
      refine hK4 _ _ ?_
      refine T_seq fun K14 hK14 => ?_
      refine T_region ?_
      refine L_y (y_move rfl) rfl ?_
      refine L_y (y_assign rfl) rfl ?_
      refine L_nil ?_
      refine hK14 _ _ ?_
      refine T_ret ?_
      repeat (first | with_reducible refine up_then ?_ | with_reducible refine up_in ?_)
      refine ret1 rfl rfl ?_
      exact ⟨_, rfl, S2.like0, b1, D, done.length, rfl, hb1, S2.get 0 rfl, by rw [hcut, hin, hfe hin, show l.drop n = [] from List.drop_of_length_le (by omega)]; simpa [cutF] using hcm, by omega⟩
end Go.Proofs.Ytaknmlajhedfhaa


/-
  The program: common, score.
-/
namespace Go.Proofs.Ytaknmlajhedfhaa
open Go.RowKit Zk Zx
set_option linter.unusedVariables false
set_option linter.unusedSimpArgs false

theorem minmul (a b z : Nat) (h : min a b * z ≤ 9223372036854775807) : IntKind.i64.wrap (min (a : Int) (b : Int) * (z : Int)) = ((min a b * z : Nat) : Int) := by
  have e : min (a : Int) (b : Int) = ((min a b : Nat) : Int) := by omega
  rw [e, ← Int.natCast_mul]
  exact i64w (by omega)


set_option maxRecDepth 100000 in
theorem common (ba ka bb kb : Nat) (DA DB : DU) (LA LB : List (List UInt8)) (w0 : World) (ha : (mapR Try.prog 9 3 ba ka DA).holds w0) (hca : CM DA LA) (hb : (mapR Try.prog 9 3 bb kb DB).holds w0) (hcb : CM DB LB) (hne : ba ≠ bb) (hT : (LA.map List.length).sum ≤ 4398046511104) :
    Calls Try.prog 19 #[.map (some ba), .map (some bb)] w0 fun e w' => ∃ u, e = .returned u ∧ Turned w0 w' (mapR Try.prog 9 3 ba ka DA) (mapR Try.prog 9 3 ba ka DA) ∧ u = .int .i64 (comT LA LB : Int) := by
  refine enter1 (env := [(0, .map (some ba)), (1, .map (some bb))]) [.map (some ba), .map (some bb)] Try.func19 rfl Try.ntmps19 rfl rfl ?_
  obtain ⟨es, hDe, hnd, hks, hkn, hkm⟩ := hca.keys; have S0 := St.borrow1 (mapR Try.prog 9 3 ba ka DA) ha (mapR_lt ha)
  refine T_seq fun K1 hK1 => ?_
  refine T_region ?_
  refine L_y (y_assign rfl) rfl ?_
  refine L_nil ?_
  refine hK1 _ _ ?_
  refine T_seq fun K2 hK2 => ?_
  refine T_region ?_
  refine L_y (y_assign rfl) rfl ?_
  refine L_nil ?_
  refine hK2 _ _ ?_
  refine T_seq fun K3 hK3 => ?_
  refine T_seq fun K4 hK4 => ?_
  refine T_region ?_
  refine L_y (y_move rfl) rfl ?_
  refine L_o (o_range S0 0 rfl (Maps.string_keyed Try.underlying9) Try.underlying48 rfl rfl fun r1 w1 S1 => ?_)
  refine L_nil ?_
  refine hK4 _ _ ?_
  refine T_block ?_
  refine T_loop2 [(1, _), (9, _)] (fun (left : Lit → Bool) (cnt : Nat) => [(5, .int .i64 (comL LA LB es left : Int))]) (fun (left : Lit → Bool) (cnt : Nat) => cnt) (fun (left : Lit → Bool) (cnt : Nat) (w : World) => St w0 (mapR Try.prog 9 3 ba ka DA).dom [rngR Try.prog 9 3 ba r1 ka DA left cnt] w ∧ True) (Maps.has DA) (Maps.size DA) (Sub.cons rfl (by first | rfl | exact congrArg (Value.int _) (by rw [hDe, comL_start LA LB es hks]; rfl)) (Sub.nil _)) (Sub.cons rfl rfl (Sub.cons rfl rfl (Sub.nil _))) ?_ ?_
  ·
    exact ⟨S1, trivial⟩
  ·
    intro left cnt w2 hrel
    obtain ⟨S2, _⟩ := hrel
    refine T_seq fun K5 hK5 => ?_
    refine T_region ?_
    refine L_o (o_next S2 0 rfl (Maps.string_keyed Try.underlying9) Try.underlying9 Try.underlying3 rfl rfl (fun hl => ?_) (fun s3 k3 cnt3 w3 hl hat hs hlt S3 hen => ?_))
    ·
      refine L_y (y_extract rfl rfl) rfl ?_
      refine L_nil ?_
      refine hK5 _ _ ?_
      refine T_seq fun K6 hK6 => ?_
      refine T_false rfl ?_
      refine T_exit ?_
      refine hK3 _ _ ?_
      refine T_seq fun K7 hK7 => ?_
      refine T_region ?_
      refine L_y (y_move rfl) rfl ?_
      refine L_y (y_assign rfl) rfl ?_
      refine L_nil ?_
      refine hK7 _ _ ?_
      refine T_ret ?_
      repeat (first | with_reducible refine up_then ?_ | with_reducible refine up_in ?_)
      refine ret1 rfl rfl ?_
      exact ⟨_, rfl, (S2.maps 0 rfl).turned1 0 rfl, by rw [comL_end LA LB es left hks hl, comT_of hkn hkm]⟩
    ·
      have hhas := Maps.has_true_of_atKey hat
      rw [hDe, Maps.has_eq] at hhas
      obtain ⟨p, hp, hpk⟩ := List.any_eq_true.1 hhas
      have hst := com_step LA LB (.string s3.data.toList) left hl trivial es hnd ⟨p, hp, WideAt.sameKey_eq hpk⟩
      have hkc : k3 = (LA.count s3.data.toList : Int) := by have h1 := hat (.lit (.int .i64 0)); rw [hca.at_] at h1; simpa using h1.symm
      have hle := comL_le LA LB es (fun z => left z && !z.sameKey (.string s3.data.toList)) hks hkn
      rw [hst] at hle
      have hsz : s3.data.toList.length = s3.size := by simp
      have hG : comG LA LB (.string s3.data.toList) = min (LA.count s3.data.toList) (LB.count s3.data.toList) * s3.size := by rw [← hsz]; rfl
      subst hkc
      refine L_y (y_extract rfl rfl) rfl ?_
      refine L_nil ?_
      refine hK5 _ _ ?_
      refine T_seq fun K8 hK8 => ?_
      refine T_true rfl ?_
      refine T_skip ?_
      refine hK8 _ _ ?_
      refine T_block ?_
      refine T_seq fun K9 hK9 => ?_
      refine T_region ?_
      refine L_o (o_entry rfl hen rfl ?_)
      refine L_y (y_extract rfl rfl) rfl ?_
      refine L_y (y_extract rfl rfl) rfl ?_
      refine L_y (y_assign rfl) rfl ?_
      refine L_y (y_assign rfl) rfl ?_
      refine L_nil ?_
      refine hK9 _ _ ?_
      refine T_region ?_
      refine L_y (y_move rfl) rfl ?_
      refine L_y (y_move rfl) rfl ?_
      refine L_y (y_move rfl) rfl ?_
      refine L_y (y_move rfl) rfl ?_
      refine L_y (y_look (S3.keepM hb (mapR_lt hb) (fun i hi he => hne (he.symm.trans hi))) (Maps.string_keyed Try.underlying9) Try.underlying48 Try.underlying3 zz3 rfl rfl (Go.WideMaps.keyOf_string_mk Try.underlying9 hs) (hcb.at_ _)) rfl ?_
      refine L_y (y_min rfl rfl) rfl ?_
      refine L_y (y_move rfl) rfl ?_
      refine L_y (y_lens Try.underlying9 rfl) rfl ?_
      refine L_y (y_mul rfl rfl (minmul _ _ s3.size (by omega))) rfl ?_
      refine L_y (y_add rfl rfl (i64w (by omega))) rfl ?_
      refine L_y (y_assign rfl) rfl ?_
      refine L_nil ?_
      refine ⟨_, cnt3, hlt, ⟨S3, trivial⟩, ?_⟩
      exact (Sub.cons rfl (congrArg (Value.int _) (by rw [hst, hG]; omega)) (Sub.cons rfl rfl (Sub.cons rfl rfl (Sub.nil _))))
end Go.Proofs.Ytaknmlajhedfhaa


/-
  The program: score, Score, Most.
-/
namespace Go.Proofs.Ytaknmlajhedfhaa
open Go.RowKit Zk Zx
set_option linter.unusedVariables false
set_option linter.unusedSimpArgs false

/-- The score of so many bytes in common. -/
def scoreF (h a b : Nat) : Nat := if a = 0 ∧ b = 0 then 1000 else 1000 * h / max a b
theorem score_eq (h a b : Nat) (hn : ¬ (a = 0 ∧ b = 0)) : (1000 * (h : Int)) / max (a : Int) (b : Int) = (scoreF h a b : Int) := by
  have e : max (a : Int) (b : Int) = ((max a b : Nat) : Int) := by omega
  rw [e, scoreF, if_neg hn, Int.natCast_ediv]
  rfl
theorem mapR_new {P : Program} {k e : TypeId} {w w' : World} {b n : Nat} {D : DU} (hb : w.heap.size ≤ b) (h : (mapR P k e b n D).holds w') : ∀ i, (mapR P k e b n D).dom i → w.heap.size ≤ i ∧ i < w'.heap.size := fun i hi => ⟨by have hi' : i = b := hi; omega, mapR_lt h i hi⟩
/-- How alike texts of two lengths may be. -/
def mostF (a b : Int) : Int := if a < 0 ∨ b < 0 ∨ 1099511627776 < a ∨ 1099511627776 < b then 0 else (scoreF (min a.toNat b.toNat) a.toNat b.toNat : Int)
theorem mostF_of (x y : Nat) (hx : x ≤ 1099511627776) (hy : y ≤ 1099511627776) : mostF x y = (scoreF (min x y) x y : Int) := by
  rw [mostF, if_neg (by omega), Int.toNat_natCast, Int.toNat_natCast]
set_option maxRecDepth 100000 in
theorem score (h a b : Int) (x y z : Nat) (w0 : World) (hh : h = (x : Int)) (ha : a = (y : Int)) (hb : b = (z : Int)) (hx : x ≤ 4398046511104) (hy : y ≤ 4398046511104) (hz : z ≤ 4398046511104) :
    Calls Try.prog 18 #[.int .i64 h, .int .i64 a, .int .i64 b] w0 fun e w' => ∃ u, e = .returned u ∧ Like w0 w' ∧ u = .int .i64 (scoreF x y z : Int) := by
  refine enter1 (env := [(0, .int .i64 h), (1, .int .i64 a), (2, .int .i64 b)]) [.int .i64 h, .int .i64 a, .int .i64 b] Try.func18 rfl Try.ntmps18 rfl rfl ?_
  subst hh; subst ha; subst hb; have S0 := St.start w0 noM
  refine T_seq fun K1 hK1 => ?_
  refine T_region ?_
  refine L_y (y_assign rfl) rfl ?_
  refine L_nil ?_
  refine hK1 _ _ ?_
  refine T_seq fun K2 hK2 => ?_
  refine T_seq fun K3 hK3 => ?_
  refine T_region ?_
  refine L_y (y_move rfl) rfl ?_
  refine L_y (y_eql rfl rfl) rfl ?_
  refine L_y (y_move rfl) rfl ?_
  refine L_split 9 rfl (fun h9 => ?_) (fun h9 => ?_)
  ·
    refine L_gyes rfl rfl ?_
    refine L_y (y_move rfl) rfl ?_
    refine L_gyes rfl rfl ?_
    refine L_y (y_eql rfl rfl) rfl ?_
    refine L_y ((by first | exact y_pickT rfl rfl | exact y_pickF rfl rfl)) rfl ?_
    refine L_nil ?_
    refine hK3 _ _ ?_
    refine T_cond rfl (fun h12 => ?_) (fun h12 => ?_)
    ·
      refine T_seq fun K4 hK4 => ?_
      refine T_region ?_
      refine L_y (y_assign rfl) rfl ?_
      refine L_nil ?_
      refine hK4 _ _ ?_
      refine T_ret ?_
      repeat (first | with_reducible refine up_then ?_ | with_reducible refine up_in ?_)
      refine ret1 rfl rfl ?_
      first | exact ⟨_, rfl, S0.like0, by rw [scoreF, if_pos (by omega)]; rfl⟩ | exact ⟨_, rfl, S0.like0, by rw [← score_eq _ _ _ (by omega)]⟩
    ·
      refine T_skip ?_
      refine hK2 _ _ ?_
      refine T_seq fun K5 hK5 => ?_
      refine T_region ?_
      refine L_y (y_move rfl) rfl ?_
      refine L_y (y_mul rfl rfl (i64w (by omega))) rfl ?_
      refine L_y (y_move rfl) rfl ?_
      refine L_y (y_move rfl) rfl ?_
      refine L_y (y_max rfl rfl) rfl ?_
      refine L_y (y_quo rfl rfl (by omega) (quoI (by omega) (by omega))) rfl ?_
      refine L_y (y_assign rfl) rfl ?_
      refine L_nil ?_
      refine hK5 _ _ ?_
      refine T_ret ?_
      repeat (first | with_reducible refine up_then ?_ | with_reducible refine up_in ?_)
      refine ret1 rfl rfl ?_
      first | exact ⟨_, rfl, S0.like0, by rw [scoreF, if_pos (by omega)]; rfl⟩ | exact ⟨_, rfl, S0.like0, by rw [← score_eq _ _ _ (by omega)]⟩
  ·
    refine L_gno rfl rfl rfl ?_
    refine L_gno rfl rfl rfl ?_
    refine L_y ((by first | exact y_pickT rfl rfl | exact y_pickF rfl rfl)) rfl ?_
    refine L_nil ?_
    refine hK3 _ _ ?_
    refine T_false rfl ?_
    refine T_skip ?_
    refine hK2 _ _ ?_
    refine T_seq fun K6 hK6 => ?_
    refine T_region ?_
    refine L_y (y_move rfl) rfl ?_
    refine L_y (y_mul rfl rfl (i64w (by omega))) rfl ?_
    refine L_y (y_move rfl) rfl ?_
    refine L_y (y_move rfl) rfl ?_
    refine L_y (y_max rfl rfl) rfl ?_
    refine L_y (y_quo rfl rfl (by omega) (quoI (by omega) (by omega))) rfl ?_
    refine L_y (y_assign rfl) rfl ?_
    refine L_nil ?_
    refine hK6 _ _ ?_
    refine T_ret ?_
    repeat (first | with_reducible refine up_then ?_ | with_reducible refine up_in ?_)
    refine ret1 rfl rfl ?_
    first | exact ⟨_, rfl, S0.like0, by rw [scoreF, if_pos (by omega)]; rfl⟩ | exact ⟨_, rfl, S0.like0, by rw [← score_eq _ _ _ (by omega)]⟩


set_option maxRecDepth 100000 in
theorem scoreX (A B : Option Addr) (n c m d : Nat) (la lb : List UInt8) (w0 : World) (ha : Rs w0 1 A n c (bL la)) (hb : Rs w0 1 B m d (bL lb)) (hn : n ≤ 4398046511104) (hm : m ≤ 4398046511104) :
    Calls Try.prog 8 #[.slice A n c, .slice B m d] w0 fun e w' => ∃ u, e = .returned u ∧ Like w0 w' ∧ u = .int .i64 (scoreF (comT (cuts la) (cuts lb)) n m : Int) := by
  refine enter1 (env := [(0, .slice A n c), (1, .slice B m d)]) [.slice A n c, .slice B m d] Try.func8 rfl Try.ntmps8 rfl rfl ?_
  have hla := ha.lenb; have hlb := hb.lenb; have S0 := St.start w0 noM
  refine T_seq fun K1 hK1 => ?_
  refine T_region ?_
  refine L_y (y_assign rfl) rfl ?_
  refine L_nil ?_
  refine hK1 _ _ ?_
  refine T_seq fun K2 hK2 => ?_
  refine T_region ?_
  refine L_y (y_move rfl) rfl ?_
  refine L_o (o_call Try.func20 rfl rfl (counts A n c la w0 (S0.rd ha) (by omega)) rfl rfl ?_)
  rintro e1 w1 ⟨v1, rfl, l1, b1, D1, k1, rfl, hb1, hh1, hc1, hk1⟩
  refine ⟨_, rfl, ?_⟩
  have S1 := S0.new l1 _ hh1 (mapR_new hb1 hh1)
  refine L_y (y_move rfl) rfl ?_
  refine L_o (o_call Try.func20 rfl rfl (counts B m d lb w1 (S1.rd hb) (by omega)) rfl rfl ?_)
  rintro e2 w2 ⟨v2, rfl, l2, b2, D2, k2, rfl, hb2, hh2, hc2, hk2⟩
  refine ⟨_, rfl, ?_⟩
  have S2 := S1.new l2 _ hh2 (mapR_new hb2 hh2)
  refine L_o (o_call Try.func19 rfl rfl (common _ _ _ _ _ _ (cuts la) (cuts lb) w2 (S2.get 0 rfl) hc1 (S2.get 1 rfl) hc2 (fun e => St.apart_ S2 0 1 rfl rfl rfl _ rfl e) (by rw [cuts_sum]; omega)) rfl rfl ?_)
  rintro e3 w3 ⟨v3, rfl, T3, rfl⟩
  refine ⟨_, rfl, ?_⟩
  have S3 := S2.turn 0 rfl T3
  refine L_y (y_move rfl) rfl ?_
  refine L_y (y_len Try.underlying22 rfl) rfl ?_
  refine L_y (y_move rfl) rfl ?_
  refine L_y (y_len Try.underlying22 rfl) rfl ?_
  refine L_o (o_call Try.func18 rfl rfl (score _ _ _ (comT (cuts la) (cuts lb)) n m w3 rfl rfl rfl (by have := (comT_le (cuts la) (cuts lb)).1; rw [cuts_sum] at this; omega) (by omega) (by omega)) rfl rfl ?_)
  rintro e4 w4 ⟨v4, rfl, l4, rfl⟩
  refine ⟨_, rfl, ?_⟩
  have S4 := S3.like l4
  refine L_y (y_assign rfl) rfl ?_
  refine L_nil ?_
  refine hK2 _ _ ?_
  refine T_ret ?_
  repeat (first | with_reducible refine up_then ?_ | with_reducible refine up_in ?_)
  refine ret1 rfl rfl ?_
  exact ⟨_, rfl, S4.like0, rfl⟩


set_option maxRecDepth 100000 in
theorem mostX (a b : Int) (w0 : World)  :
    Calls Try.prog 10 #[.int .i64 a, .int .i64 b] w0 fun e w' => ∃ u, e = .returned u ∧ Like w0 w' ∧ u = .int .i64 (mostF a b) := by
  refine enter1 (env := [(0, .int .i64 a), (1, .int .i64 b)]) [.int .i64 a, .int .i64 b] Try.func10 rfl Try.ntmps10 rfl rfl ?_
  have S0 := St.start w0 noM
  refine T_seq fun K1 hK1 => ?_
  refine T_region ?_
  refine L_y (y_assign rfl) rfl ?_
  refine L_nil ?_
  refine hK1 _ _ ?_
  refine T_seq fun K2 hK2 => ?_
  refine T_seq fun K3 hK3 => ?_
  refine T_region ?_
  refine L_y (y_move rfl) rfl ?_
  refine L_y (y_lss rfl rfl) rfl ?_
  refine L_y (y_move rfl) rfl ?_
  refine L_split 7 rfl (fun h7 => ?_) (fun h7 => ?_)
  ·
    refine L_gno rfl rfl rfl ?_
    refine L_gno rfl rfl rfl ?_
    refine L_y ((by first | exact y_pickT rfl rfl | exact y_pickF rfl rfl)) rfl ?_
    refine L_y (y_move rfl) rfl ?_
    refine L_gno rfl rfl rfl ?_
    refine L_gno rfl rfl rfl ?_
    refine L_y ((by first | exact y_pickT rfl rfl | exact y_pickF rfl rfl)) rfl ?_
    refine L_y (y_move rfl) rfl ?_
    refine L_gno rfl rfl rfl ?_
    refine L_gno rfl rfl rfl ?_
    refine L_y ((by first | exact y_pickT rfl rfl | exact y_pickF rfl rfl)) rfl ?_
    refine L_nil ?_
    refine hK3 _ _ ?_
    refine T_true rfl ?_
    refine T_seq fun K4 hK4 => ?_
    refine T_region ?_
    refine L_y (y_assign rfl) rfl ?_
    refine L_nil ?_
    refine hK4 _ _ ?_
    refine T_ret ?_
    repeat (first | with_reducible refine up_then ?_ | with_reducible refine up_in ?_)
    refine ret1 rfl rfl ?_
    exact ⟨_, rfl, S0.like0, by rw [mostF, if_pos (by omega)]⟩
  ·
    refine L_gyes rfl rfl ?_
    refine L_y (y_move rfl) rfl ?_
    refine L_gyes rfl rfl ?_
    refine L_y (y_lss rfl rfl) rfl ?_
    refine L_y ((by first | exact y_pickT rfl rfl | exact y_pickF rfl rfl)) rfl ?_
    refine L_y (y_move rfl) rfl ?_
    refine L_split 11 rfl (fun h11 => ?_) (fun h11 => ?_)
    ·
      refine L_gno rfl rfl rfl ?_
      refine L_gno rfl rfl rfl ?_
      refine L_y ((by first | exact y_pickT rfl rfl | exact y_pickF rfl rfl)) rfl ?_
      refine L_y (y_move rfl) rfl ?_
      refine L_gno rfl rfl rfl ?_
      refine L_gno rfl rfl rfl ?_
      refine L_y ((by first | exact y_pickT rfl rfl | exact y_pickF rfl rfl)) rfl ?_
      refine L_nil ?_
      refine hK3 _ _ ?_
      refine T_true rfl ?_
      refine T_seq fun K5 hK5 => ?_
      refine T_region ?_
      refine L_y (y_assign rfl) rfl ?_
      refine L_nil ?_
      refine hK5 _ _ ?_
      refine T_ret ?_
      repeat (first | with_reducible refine up_then ?_ | with_reducible refine up_in ?_)
      refine ret1 rfl rfl ?_
      exact ⟨_, rfl, S0.like0, by rw [mostF, if_pos (by omega)]⟩
    ·
      refine L_gyes rfl rfl ?_
      refine L_y (y_move rfl) rfl ?_
      refine L_gyes rfl rfl ?_
      refine L_y (y_gtr rfl rfl) rfl ?_
      refine L_y ((by first | exact y_pickT rfl rfl | exact y_pickF rfl rfl)) rfl ?_
      refine L_y (y_move rfl) rfl ?_
      refine L_split 15 rfl (fun h15 => ?_) (fun h15 => ?_)
      ·
        refine L_gno rfl rfl rfl ?_
        refine L_gno rfl rfl rfl ?_
        refine L_y ((by first | exact y_pickT rfl rfl | exact y_pickF rfl rfl)) rfl ?_
        refine L_nil ?_
        refine hK3 _ _ ?_
        refine T_true rfl ?_
        refine T_seq fun K6 hK6 => ?_
        refine T_region ?_
        refine L_y (y_assign rfl) rfl ?_
        refine L_nil ?_
        refine hK6 _ _ ?_
        refine T_ret ?_
        repeat (first | with_reducible refine up_then ?_ | with_reducible refine up_in ?_)
        refine ret1 rfl rfl ?_
        exact ⟨_, rfl, S0.like0, by rw [mostF, if_pos (by omega)]⟩
      ·
        refine L_gyes rfl rfl ?_
        refine L_y (y_move rfl) rfl ?_
        refine L_gyes rfl rfl ?_
        refine L_y (y_gtr rfl rfl) rfl ?_
        refine L_y ((by first | exact y_pickT rfl rfl | exact y_pickF rfl rfl)) rfl ?_
        refine L_nil ?_
        refine hK3 _ _ ?_
        refine T_cond rfl (fun h18 => ?_) (fun h18 => ?_)
        ·
          refine T_seq fun K7 hK7 => ?_
          refine T_region ?_
          refine L_y (y_assign rfl) rfl ?_
          refine L_nil ?_
          refine hK7 _ _ ?_
          refine T_ret ?_
          repeat (first | with_reducible refine up_then ?_ | with_reducible refine up_in ?_)
          refine ret1 rfl rfl ?_
          exact ⟨_, rfl, S0.like0, by rw [mostF, if_pos (by omega)]⟩
        ·
          obtain ⟨x, rfl⟩ : ∃ x : Nat, a = (x : Int) := ⟨a.toNat, by omega⟩
          obtain ⟨y, rfl⟩ : ∃ y : Nat, b = (y : Int) := ⟨b.toNat, by omega⟩
          refine T_skip ?_
          refine hK2 _ _ ?_
          refine T_seq fun K8 hK8 => ?_
          refine T_region ?_
          refine L_y (y_move rfl) rfl ?_
          refine L_y (y_move rfl) rfl ?_
          refine L_y (y_min rfl rfl) rfl ?_
          refine L_y (y_move rfl) rfl ?_
          refine L_y (y_move rfl) rfl ?_
          refine L_o (o_call Try.func18 rfl rfl (score _ _ _ (min x y) x y w0 (by omega) rfl rfl (by omega) (by omega) (by omega)) rfl rfl ?_)
          rintro e4 w4 ⟨v4, rfl, l4, rfl⟩
          refine ⟨_, rfl, ?_⟩
          have S4 := S0.like l4
          refine L_y (y_assign rfl) rfl ?_
          refine L_nil ?_
          refine hK8 _ _ ?_
          refine T_ret ?_
          repeat (first | with_reducible refine up_then ?_ | with_reducible refine up_in ?_)
          refine ret1 rfl rfl ?_
          exact ⟨_, rfl, S4.like0, by rw [mostF_of _ _ (by omega) (by omega)]⟩


theorem works_val : scoreF (comT (cuts [97, 10, 98, 10]) (cuts [97, 10, 99, 10])) 4 4 = 500 := by decide


set_option maxRecDepth 100000 in
theorem works  (w0 : World)  :
    Calls Try.prog 7 #[] w0 fun e w' => ∃ u, e = .returned u ∧ Like w0 w' ∧ u = .bool true := by
  refine enter1 (env := []) [] Try.func7 rfl Try.ntmps7 rfl rfl ?_
  have S0 := St.start w0 noM
  refine T_seq fun K1 hK1 => ?_
  refine T_region ?_
  refine L_y (y_assign rfl) rfl ?_
  refine L_nil ?_
  refine hK1 _ _ ?_
  refine T_seq fun K2 hK2 => ?_
  refine T_region ?_
  refine L_o (o_bsl [_, _, _, _] te22 zz5 S0 rfl rfl rfl rfl rfl rfl rfl rfl fun b1 w1 S1 => ?_)
  refine L_o (o_bconst S1 0 rfl Try.underlying22 Try.underlying5 rfl (by omega) rfl fun w2 S2 => ?_)
  refine L_o (o_bsl [_, _, _, _] te22 zz5 S2 rfl rfl rfl rfl rfl rfl rfl rfl fun b3 w3 S3 => ?_)
  refine L_o (o_bconst S3 1 rfl Try.underlying22 Try.underlying5 rfl (by omega) rfl fun w4 S4 => ?_)
  refine L_o (o_call Try.func8 rfl rfl (scoreX _ _ _ _ _ _ [97, 10, 98, 10] [97, 10, 99, 10] w4 (S4.fix 0 rfl) (S4.fix 1 rfl) (by omega) (by omega)) rfl rfl ?_)
  rintro e5 w5 ⟨v5, rfl, l5, rfl⟩
  refine ⟨_, rfl, ?_⟩
  have S5 := S4.like l5
  refine L_y (y_eql rfl rfl) rfl ?_
  refine L_y (y_assign rfl) rfl ?_
  refine L_nil ?_
  refine hK2 _ _ ?_
  refine T_ret ?_
  repeat (first | with_reducible refine up_then ?_ | with_reducible refine up_in ?_)
  refine ret1 rfl rfl ?_
  exact ⟨_, rfl, S5.like0, by rw [works_val]; rfl⟩
end Go.Proofs.Ytaknmlajhedfhaa


/-
  The document: Cut.
-/
namespace Go.Proofs.Ytaknmlajhedfhaa
open Go.RowKit Zk Zx
set_option linter.unusedVariables false
set_option linter.unusedSimpArgs false

theorem str_app (l m : List UInt8) : (⟨l.toArray⟩ : ByteArray) ++ ⟨m.toArray⟩ = ⟨(l ++ m).toArray⟩ := by
  symm
  apply ByteArray.ext
  simp
def sV (t : List UInt8) : Value := .string ⟨t.toArray⟩
theorem win_one {l : List UInt8} {k : Nat} {c : UInt8} (h : l[k]? = some c) : (l.drop k).take (k + 1 - k) = [c] := by
  rw [drop_at h, show k + 1 - k = 1 by omega]
  rfl
theorem cutF_new (now : List UInt8) (c : UInt8) (r : List UInt8) (h : c = 10 ∨ (now ++ [c]).length = 64) : cutF now (c :: r) = (now ++ [c]) :: cutF [] r := by rw [cutF, if_pos (by simpa using h)]
theorem cutF_go (now : List UInt8) (c : UInt8) (r : List UInt8) (h : ¬ (c = 10 ∨ (now ++ [c]).length = 64)) : cutF now (c :: r) = cutF (now ++ [c]) r := by rw [cutF, if_neg (by simpa using h)]
theorem cutF_len : ∀ (l now : List UInt8), (cutF now l).length ≤ now.length + l.length
  | [], now => by
    unfold cutF
    split
    · simp
    · rename_i h
      have : 0 < now.length := List.length_pos_iff.2 h
      simp
      omega
  | c :: r, now => by
    unfold cutF
    split
    · have := cutF_len r []
      simp at this ⊢
      omega
    · have := cutF_len r (now ++ [c])
      simp at this ⊢
      omega


set_option maxRecDepth 100000 in
theorem rcut (A : Option Addr) (n cc : Nat) (l : List UInt8) (w0 : World) (hb : Rs w0 1 A n cc (bL l)) (hn : n ≤ 4398046511104) :
    Calls Try.prog 24 #[.slice A n cc] w0 fun e w' => ∃ u, e = .returned u ∧ Like w0 w' ∧ ∃ A m c, u = .slice A m c ∧ w'.ownsRow w0.heap.size 9 1 (.slice A m c) m ((cuts l).map sV) := by
  refine enter1 (env := [(0, .slice A n cc)]) [.slice A n cc] Try.func24 rfl Try.ntmps24 rfl rfl ?_
  have hln := hb.lenb; have hcap := hb.cap; have hmx := hb.max; have S0 := St.start w0 noM
  refine T_seq fun K1 hK1 => ?_
  refine T_region ?_
  refine L_y (y_assign rfl) rfl ?_
  refine L_nil ?_
  refine hK1 _ _ ?_
  refine T_seq fun K2 hK2 => ?_
  refine T_region ?_
  have S1 := S0.nilrow 9 1
  refine L_y (y_assign rfl) rfl ?_
  refine L_nil ?_
  refine hK2 _ _ ?_
  refine T_seq fun K3 hK3 => ?_
  refine T_region ?_
  refine L_y (y_assign rfl) rfl ?_
  refine L_nil ?_
  refine hK3 _ _ ?_
  refine T_seq fun K4 hK4 => ?_
  refine T_seq fun K5 hK5 => ?_
  refine T_region ?_
  refine L_y (y_assign rfl) rfl ?_
  refine L_nil ?_
  refine hK5 _ _ ?_
  refine T_block ?_
  refine T_loop5 [(0, _)] (fun (k : Nat) (now : List UInt8) (A0 : Option Addr) (c0 : Nat) (done : List (List UInt8)) => [(5, .int .i64 (k : Int)), (4, .string ⟨now.toArray⟩), (3, .slice (A0) done.length c0)]) (fun (k : Nat) (now : List UInt8) (A0 : Option Addr) (c0 : Nat) (done : List (List UInt8)) => n - k) (fun (k : Nat) (now : List UInt8) (A0 : Option Addr) (c0 : Nat) (done : List (List UInt8)) (w : World) => ((k ≤ n ∧ now.length < 64 ∧ done.length ≤ k) ∧ cuts l = done ++ cutF now (l.drop k)) ∧ St w0 noM [row 9 1 A0 done.length c0 (done.map sV)] w) 0 [] none 0 [] (Sub.cons rfl (by first | rfl | exact congrArg (Value.int _) (by omega)) (Sub.cons rfl (by first | rfl | exact congrArg (Value.int _) (by omega)) (Sub.cons rfl (by first | rfl | exact congrArg (Value.int _) (by omega)) (Sub.nil _)))) (Sub.cons rfl rfl (Sub.nil _)) ?_ ?_
  ·
    exact ⟨⟨⟨by omega, by simp, by simp⟩, by simp [cuts]⟩, S1⟩
  ·
    intro k now A0 c0 done w2 hrel
    obtain ⟨⟨⟨hk, h64, hdk⟩, hcut⟩, S2⟩ := hrel
    refine T_seq fun K6 hK6 => ?_
    refine T_seq fun K7 hK7 => ?_
    refine T_region ?_
    refine L_y (y_move rfl) rfl ?_
    refine L_y (y_move rfl) rfl ?_
    refine L_y (y_len Try.underlying22 rfl) rfl ?_
    refine L_y (y_lss rfl rfl) rfl ?_
    refine L_nil ?_
    refine hK7 _ _ ?_
    refine T_cond rfl (fun h9 => ?_) (fun h9 => ?_)
    ·
      obtain ⟨c, hc⟩ : ∃ c, l[k]? = some c := ⟨_, List.getElem?_eq_getElem (by omega)⟩
      have hdr := drop_at hc
      have hone := win_one hc
      have hten := u8_ten (c := c)
      have hbz := bsz now
      have hbz2 := bsz (now ++ [c])
      have hnl : (now ++ [c]).length = now.length + 1 := by simp
      have hw1 : (⟨((l.drop k).take (k + 1 - k)).toArray⟩ : ByteArray).size = 1 := by rw [bsz, hone]; rfl
      refine T_skip ?_
      refine hK6 _ _ ?_
      refine T_seq fun K8 hK8 => ?_
      refine T_block ?_
      refine T_seq fun K9 hK9 => ?_
      refine T_region ?_
      refine L_y (y_move rfl) rfl ?_
      refine L_y (y_move rfl) rfl ?_
      refine L_y (y_move rfl) rfl ?_
      refine L_y (y_move rfl) rfl ?_
      refine L_y (y_add rfl rfl (i64w (by omega))) rfl ?_
      refine L_y (y_slice Try.underlying22 sz5 rfl rfl rfl inferInstance inferInstance (by omega) (by omega)) rfl ?_
      refine L_y (y_bstr Try.underlying22 Try.underlying5 Try.underlying9 rfl ((S2.rd hb).cutb (l := k) (u := k + 1) (by omega) (by omega))) rfl ?_
      refine L_y (y_cat rfl rfl (by omega)) rfl ?_
      rw [show (⟨now.toArray⟩ : ByteArray) ++ ⟨((l.drop k).take (k + 1 - k)).toArray⟩ = ⟨(now ++ [c]).toArray⟩ by rw [str_app, hone]]
      refine L_y (y_assign rfl) rfl ?_
      refine L_nil ?_
      refine hK9 _ _ ?_
      refine T_seq fun K10 hK10 => ?_
      refine T_region ?_
      refine L_y (y_move rfl) rfl ?_
      refine L_y (y_move rfl) rfl ?_
      refine L_y (y_idx Try.underlying22 sz5 rfl rfl (S2.rd hb) inferInstance (by omega)) rfl ?_
      refine L_y (y_ldr Try.underlying5 rfl rfl (S2.rd hb) (bL_getX hc)) rfl ?_
      refine L_y (y_eql rfl rfl) rfl ?_
      refine L_y (y_move rfl) rfl ?_
      refine L_split 25 rfl (fun h25 => ?_) (fun h25 => ?_)
      ·
        refine L_gno rfl rfl rfl ?_
        refine L_gno rfl rfl rfl ?_
        refine L_gno rfl rfl rfl ?_
        refine L_y ((by first | exact y_pickT rfl rfl | exact y_pickF rfl rfl)) rfl ?_
        refine L_nil ?_
        refine hK10 _ _ ?_
        refine T_true rfl ?_
        refine T_seq fun K11 hK11 => ?_
        refine T_region ?_
        refine L_y (y_move rfl) rfl ?_
        refine L_y (y_move rfl) rfl ?_
        refine L_o (o_bsl [_] te53 zz9 S2 rfl rfl rfl rfl rfl rfl rfl rfl fun b4 w4 S4 => ?_)
        refine L_o (o_app te53 S4 0 rfl rfl rfl (by first | exact S4.row 0 rfl | exact S4.row 1 rfl) (by first | exact bL_one _ | exact iL_one _ | (intro u hu; simp at hu; subst hu; rfl) | (simp; done) | (simp [Value.oneCell']; done)) rfl (by omega) (by omega) fun A5 c5 w5 S5 => ?_)
        have S5d := S5.drop (rs' := [_]) (.cons_cons _ (.cons _ (.refl _)))
        refine L_y (y_assign rfl) rfl ?_
        refine L_nil ?_
        refine hK11 _ _ ?_
        refine T_region ?_
        refine L_y (y_assign rfl) rfl ?_
        refine L_nil ?_
        refine hK8 _ _ ?_
        refine T_region ?_
        refine L_y (y_move rfl) rfl ?_
        refine L_y (y_add rfl rfl (i64w (by omega))) rfl ?_
        refine L_y (y_assign rfl) rfl ?_
        refine L_nil ?_
        have hce := cutF_new now c (l.drop (k + 1)) (by rw [List.length_append, List.length_singleton]; first | (left; exact hten.1 (by assumption)) | (right; omega))
        have S9 := S5d.rowc 0 rfl (n' := (done ++ [now ++ [c]]).length) (xs' := (done ++ [now ++ [c]]).map sV) (by simp) (by rw [List.map_append]; rfl)
        refine ⟨k + 1, [], _, _, done ++ [now ++ [c]], by omega, ⟨⟨⟨by omega, by simp, by simp; omega⟩, by rw [hcut, hdr, hce]; simp⟩, S9⟩, ?_⟩
        exact (Sub.cons rfl (by first | rfl | exact congrArg (Value.int _) (by omega)) (Sub.cons rfl (by first | rfl | exact congrArg (Value.int _) (by omega)) (Sub.cons rfl (by first | rfl | (rw [List.length_append]; rfl)) (Sub.cons rfl rfl (Sub.nil _)))))
      ·
        refine L_gyes rfl rfl ?_
        refine L_y (y_move rfl) rfl ?_
        refine L_gyes rfl rfl ?_
        refine L_y (y_lens Try.underlying9 rfl) rfl ?_
        refine L_gyes rfl rfl ?_
        refine L_y (y_eql rfl rfl) rfl ?_
        refine L_y ((by first | exact y_pickT rfl rfl | exact y_pickF rfl rfl)) rfl ?_
        refine L_nil ?_
        refine hK10 _ _ ?_
        refine T_cond rfl (fun h29 => ?_) (fun h29 => ?_)
        ·
          refine T_seq fun K12 hK12 => ?_
          refine T_region ?_
          refine L_y (y_move rfl) rfl ?_
          refine L_y (y_move rfl) rfl ?_
          refine L_o (o_bsl [_] te53 zz9 S2 rfl rfl rfl rfl rfl rfl rfl rfl fun b6 w6 S6 => ?_)
          refine L_o (o_app te53 S6 0 rfl rfl rfl (by first | exact S6.row 0 rfl | exact S6.row 1 rfl) (by first | exact bL_one _ | exact iL_one _ | (intro u hu; simp at hu; subst hu; rfl) | (simp; done) | (simp [Value.oneCell']; done)) rfl (by omega) (by omega) fun A7 c7 w7 S7 => ?_)
          have S7d := S7.drop (rs' := [_]) (.cons_cons _ (.cons _ (.refl _)))
          refine L_y (y_assign rfl) rfl ?_
          refine L_nil ?_
          refine hK12 _ _ ?_
          refine T_region ?_
          refine L_y (y_assign rfl) rfl ?_
          refine L_nil ?_
          refine hK8 _ _ ?_
          refine T_region ?_
          refine L_y (y_move rfl) rfl ?_
          refine L_y (y_add rfl rfl (i64w (by omega))) rfl ?_
          refine L_y (y_assign rfl) rfl ?_
          refine L_nil ?_
          have hce := cutF_new now c (l.drop (k + 1)) (by rw [List.length_append, List.length_singleton]; first | (left; exact hten.1 (by assumption)) | (right; omega))
          have S9 := S7d.rowc 0 rfl (n' := (done ++ [now ++ [c]]).length) (xs' := (done ++ [now ++ [c]]).map sV) (by simp) (by rw [List.map_append]; rfl)
          refine ⟨k + 1, [], _, _, done ++ [now ++ [c]], by omega, ⟨⟨⟨by omega, by simp, by simp; omega⟩, by rw [hcut, hdr, hce]; simp⟩, S9⟩, ?_⟩
          exact (Sub.cons rfl (by first | rfl | exact congrArg (Value.int _) (by omega)) (Sub.cons rfl (by first | rfl | exact congrArg (Value.int _) (by omega)) (Sub.cons rfl (by first | rfl | (rw [List.length_append]; rfl)) (Sub.cons rfl rfl (Sub.nil _)))))
        ·
          refine T_skip ?_
          refine hK8 _ _ ?_
          refine T_region ?_
          refine L_y (y_move rfl) rfl ?_
          refine L_y (y_add rfl rfl (i64w (by omega))) rfl ?_
          refine L_y (y_assign rfl) rfl ?_
          refine L_nil ?_
          have hco := cutF_go now c (l.drop (k + 1)) (by rw [List.length_append, List.length_singleton]; intro h; rcases h with h | h; exact absurd (hten.2 h) (by assumption); omega)
          refine ⟨k + 1, now ++ [c], A0, c0, done, by omega, ⟨⟨⟨by omega, by omega, by omega⟩, by rw [hcut, hdr, hco]⟩, S2⟩, ?_⟩
          exact (Sub.cons rfl (by first | rfl | exact congrArg (Value.int _) (by omega)) (Sub.cons rfl (by first | rfl | exact congrArg (Value.int _) (by omega)) (Sub.cons rfl (by first | rfl | (rw [List.length_append]; rfl)) (Sub.cons rfl rfl (Sub.nil _)))))
    ·
      have hkn : k = n := by omega
      have hfd : l.drop k = [] := List.drop_of_length_le (by omega)
      refine T_exit ?_
      refine hK4 _ _ ?_
      refine T_seq fun K13 hK13 => ?_
      refine T_seq fun K14 hK14 => ?_
      refine T_region ?_
      refine L_y (y_move rfl) rfl ?_
      refine L_y (y_sneq rfl rfl) rfl ?_
      refine L_nil ?_
      refine hK14 _ _ ?_
      refine T_cond rfl (fun h35 => ?_) (fun h35 => ?_)
      ·
        have hfin : cuts l = done ++ [now] := by rw [hcut, hfd, cutF, if_neg (fun e => h35 (by subst e; rfl))]
        refine T_region ?_
        refine L_y (y_move rfl) rfl ?_
        refine L_y (y_move rfl) rfl ?_
        refine L_o (o_bsl [_] te53 zz9 S2 rfl rfl rfl rfl rfl rfl rfl rfl fun b8 w8 S8 => ?_)
        refine L_o (o_app te53 S8 0 rfl rfl rfl (by first | exact S8.row 0 rfl | exact S8.row 1 rfl) (by first | exact bL_one _ | exact iL_one _ | (intro u hu; simp at hu; subst hu; rfl) | (simp; done) | (simp [Value.oneCell']; done)) rfl (by omega) (by omega) fun A9 c9 w9 S9 => ?_)
        have S9d := S9.drop (rs' := [_]) (.cons_cons _ (.cons _ (.refl _)))
        refine L_y (y_assign rfl) rfl ?_
        refine L_nil ?_
        refine hK13 _ _ ?_
        refine T_seq fun K15 hK15 => ?_
        refine T_region ?_
        refine L_y (y_move rfl) rfl ?_
        refine L_y (y_assign rfl) rfl ?_
        refine L_nil ?_
        refine hK15 _ _ ?_
        refine T_ret ?_
        repeat (first | with_reducible refine up_then ?_ | with_reducible refine up_in ?_)
        refine ret1 rfl rfl ?_
        have S9 := S9d.rowc 0 rfl (n' := (cuts l).length) (xs' := (cuts l).map sV) (by rw [hfin]; simp) (by rw [hfin, List.map_append]; rfl)
        exact ⟨_, rfl, S9d.like0, _, _, _, rfl, by have h := S9.own 0 rfl; rw [hfin] at h ⊢; simpa using h⟩
      ·
        have hnow : now = [] := by have h1 := congrArg ByteArray.size (Classical.not_not.1 h35); rw [bsz] at h1; exact List.length_eq_zero_iff.1 h1
        have hfin0 : cuts l = done := by rw [hcut, hfd, cutF, if_pos hnow, List.append_nil]
        refine T_skip ?_
        refine hK13 _ _ ?_
        refine T_seq fun K16 hK16 => ?_
        refine T_region ?_
        refine L_y (y_move rfl) rfl ?_
        refine L_y (y_assign rfl) rfl ?_
        refine L_nil ?_
        refine hK16 _ _ ?_
        refine T_ret ?_
        repeat (first | with_reducible refine up_then ?_ | with_reducible refine up_in ?_)
        refine ret1 rfl rfl ?_
        exact ⟨_, rfl, S2.like0, _, _, _, rfl, by rw [hfin0]; exact S2.own 0 rfl⟩
end Go.Proofs.Ytaknmlajhedfhaa
