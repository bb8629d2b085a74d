/-
  What is known of the world: old memory as it was, and a list of pieces of memory of the call's own, apart from each other. General; nothing here names a program.
-/
import Derived.Test.YtmgimcdkeelnpaaZy
namespace Go.Proofs.Ytmgimcdkeelnpaa.Zx
open Go.RowKit Zk
set_option linter.unusedVariables false
set_option linter.unusedSimpArgs false

/-! ### what slices read as -/
structure Rs (w : World) (size : Nat) (A : Option Addr) (n c : Nat) (xs : List Value) : Prop where
  rd : Reads w w.heap.size size A n xs
  cap : n ≤ c
  max : c ≤ 9223372036854775807
def cutA (A : Option Addr) (c l size : Nat) : Option Addr := if c = l then A else A.map (·.add (l * size))
section
variable {w w' : World} {size n c : Nat} {A : Option Addr} {xs : List Value}
theorem Rs.like (h : Rs w size A n c xs) (hl : Like w w') : Rs w' size A n c xs := ⟨(h.rd.below hl).more hl.size, h.cap, h.max⟩
theorem Rs.len (h : Rs w size A n c xs) : xs.length = n * size := h.rd.1
theorem Rs.nil (w : World) (size : Nat) : Rs w size none 0 0 [] := ⟨Reads.none_, Nat.le_refl _, by omega⟩
theorem Rs.cut (h : Rs w size A n c xs) {l u : Nat} (h1 : l ≤ u) (h2 : u ≤ n) : Rs w size (cutA A c l size) (u - l) (c - l) ((xs.drop (l * size)).take ((u - l) * size)) := by
  have hc := h.cap
  have hx := h.len
  refine ⟨⟨?_, fun hn => ?_⟩, by omega, by have := h.max; omega⟩
  · rw [List.length_take, List.length_drop, hx, ← Nat.sub_mul]
    exact Nat.min_eq_left (Nat.mul_le_mul_right _ (by omega))
  · obtain ⟨ad, rfl, hb, hcell⟩ := h.rd.2 (by omega)
    unfold cutA
    rw [if_neg (by omega)]
    refine ⟨ad.add (l * size), rfl, by rw [block_of_add]; exact hb, fun j u' hu => ?_⟩
    rw [add_of_add]
    rw [List.getElem?_take] at hu
    split at hu
    · rw [List.getElem?_drop] at hu
      exact hcell _ u' hu
    · cases hu
theorem Rs.at_ (h : Rs w 1 A n c xs) {k : Nat} (hk : k < n) : ∃ ad v, A = some ad ∧ xs[k]? = some v ∧ w.cell? (ad.add k) = some v := by
  obtain ⟨ad, u, h1, _, h2, h3⟩ := h.rd.at_ hk
  exact ⟨ad, u, h1, h2, h3⟩
end
theorem bL_drop (l : List UInt8) (k : Nat) : (bL l).drop k = bL (l.drop k) := by simp [bL]
theorem bL_take (l : List UInt8) (k : Nat) : (bL l).take k = bL (l.take k) := by simp [bL]
theorem Rs.cutb {w : World} {A : Option Addr} {n c : Nat} {xs : List UInt8} (h : Rs w 1 A n c (bL xs)) {l u : Nat} (h1 : l ≤ u) (h2 : u ≤ n) : Rs w 1 (cutA A c l 1) (u - l) (c - l) (bL ((xs.drop l).take (u - l))) := by
  have := h.cut h1 h2
  rwa [Nat.mul_one, Nat.mul_one, bL_drop, bL_take] at this
theorem Rs.lenb {w : World} {A : Option Addr} {n c : Nat} {xs : List UInt8} (h : Rs w 1 A n c (bL xs)) : xs.length = n := by
  have := h.len
  simpa using this
/-- A byte of a list, as a number. -/
def g8 (l : List UInt8) (k : Nat) : Int := ((l.getD k 0).toNat : Int)
theorem g8_lo (l : List UInt8) (k : Nat) : 0 ≤ g8 l k := by unfold g8; omega
theorem g8_hi (l : List UInt8) (k : Nat) : g8 l k ≤ 255 := by have := (l.getD k 0).toNat_lt; unfold g8; omega
theorem bL_g8 (l : List UInt8) (k : Nat) (h : k < l.length) : (bL l)[k]? = some (.int .u8 (g8 l k)) := by
  rw [bL_get l k l[k] (List.getElem?_eq_getElem h)]
  simp [g8, List.getD_eq_getElem?_getD, List.getElem?_eq_getElem h]

def pR (A : Option Addr) (k size : Nat) : Value := .pointer (A.map (·.add (k * size)))
section
variable {P : Program} {S : World → Prop} {env : Env} {w : World} {dst : Option Tmp} {ty : TypeId} {pos : String} {after : Array Edge} {g : Option (Nat × Bool)}
theorem sizeOf_run {e : TypeId} {size : Nat} (hsz : (P.info? e).map (·.size) = some size) (w : World) : (sizeOf e).run P w = .ok size w := by
  cases hq : P.info? e with
  | none => simp [hq] at hsz
  | some i =>
    have : i.size = size := by simpa [hq] using hsz
    simp [sizeOf, typeInfo, hq, this]
theorem y_idx {x i : Operand} {t e : TypeId} {A : Option Addr} {n c k size : Nat} {q : IntKind} {j : Int} {xs : List Value} (ht : P.underlying t = some (.slice e)) (hsz : (P.info? e).map (·.size) = some size)
    (hx : ev env x = some (.slice A n c)) (hi : ev env i = some (.int q j)) (hr : Rs w size A n c xs) (hj : Nt j k) (hk : k < n) :
    Y P S env ⟨dst, .indexAddr t x i, ty, pos, after, g⟩ (pR A k size) := fun N a w' ha _ => by
  obtain ⟨ad, hA, _⟩ := hr.rd.2 (by omega)
  subst hA
  have hj' := hj.eq
  subst hj'
  have h1 : (0 : Int) ≤ (k : Int) ∧ (k : Int) < (n : Int) := by omega
  simp only [execOp, ha.eval hx, ha.eval hi, Instr.indexAt, asIntOf, Sem.run_bind, run_underlying ht, Sem.run_pure, Result.andThen_ok, h1, and_self, if_true, sizeOf_run hsz, Int.toNat_natCast]
  rfl
theorem run_loadVar1 {p : Addr} {v : Value} {d : TypeDesc} (hd : P.underlying ty = some d) (hrow : d.isRow = false) {w' : World} (hc : w'.cell? p = some v) : (loadVar ty p).run P w' = .ok v w' := by
  have hagg : (isAgg ty).run P w' = .ok false w' := by
    unfold isAgg
    rw [Sem.run_bind, run_underlying hd w']
    cases d <;> simp_all [TypeDesc.isRow]
  simp only [loadVar, Sem.run_bind, hagg, Result.andThen_ok, Bool.false_eq_true, if_false]
  simp [hc]
theorem y_ldc {x : Operand} {p : Addr} {v : Value} {lt : TypeId} {d : TypeDesc} (hd : P.underlying lt = some d) (hrow : d.isRow = false) (hx : ev env x = some (.pointer (some p))) (hc : w.cell? p = some v) :
    Y P (Like w) env ⟨dst, .load lt x, ty, pos, after, g⟩ v := fun N a w' ha hw => by
  simp only [execOp, ha.eval hx, Instr.loadAt, Instr.sureAddr, Sem.run_bind, Sem.run_pure, Result.andThen_ok, run_loadVar1 hd hrow (Like.cell hw hc)]
theorem y_ldr {x : Operand} {A : Option Addr} {n c k : Nat} {xs : List Value} {v : Value} {lt : TypeId} {d : TypeDesc} (hd : P.underlying lt = some d) (hrow : d.isRow = false) (hx : ev env x = some (pR A k 1)) (hr : Rs w 1 A n c xs) (hv : xs[k]? = some v) :
    Y P (Like w) env ⟨dst, .load lt x, ty, pos, after, g⟩ v := by
  have hk : k < n := by
    have h1 := (List.getElem?_eq_some_iff.1 hv).1
    have h2 := hr.len
    omega
  obtain ⟨ad, u, rfl, h2, h3⟩ := hr.at_ hk
  rw [hv] at h2
  cases h2
  refine y_ldc hd hrow (p := ad.add k) ?_ h3
  rw [hx]
  simp [pR]
theorem y_ldb {x : Operand} {A : Option Addr} {n c k : Nat} {l : List UInt8} {lt : TypeId} {d : TypeDesc} (hd : P.underlying lt = some d) (hrow : d.isRow = false) (hx : ev env x = some (pR A k 1)) (hr : Rs w 1 A n c (bL l)) (hk : k < n) :
    Y P (Like w) env ⟨dst, .load lt x, ty, pos, after, g⟩ (.int .u8 (g8 l k)) := y_ldr hd hrow hx hr (bL_g8 l k (by rw [hr.lenb]; exact hk))
/-- An element of many cells. -/
theorem y_ldn {x : Operand} {A : Option Addr} {n c k size : Nat} {xs : List Value} {lt : TypeId} {d : TypeDesc} (hd : P.underlying lt = some d) (hrow : d.isRow = true) (hsz : (P.info? lt).map (·.size) = some size) (hx : ev env x = some (pR A k size)) (hr : Rs w size A n c xs) (hk : k < n) :
    Y P (Like w) env ⟨dst, .load lt x, ty, pos, after, g⟩ (.agg ((xs.drop (k * size)).take size).toArray) := fun N a w' ha hw => by
  obtain ⟨ad, rfl, hb, hcell⟩ := hr.rd.2 (by omega)
  have hagg : (isAgg lt).run P w' = .ok true w' := by
    unfold isAgg
    rw [Sem.run_bind, run_underlying hd w']
    cases d <;> simp_all [TypeDesc.isRow]
  have hl : ((xs.drop (k * size)).take size).length = size := by
    rw [List.length_take, List.length_drop, hr.len]
    have : (k + 1) * size ≤ n * size := Nat.mul_le_mul_right _ hk
    rw [Nat.succ_mul] at this
    omega
  have h1 := run_loadCells_list (P := P) (w := w') (ad.add (k * size)) ((xs.drop (k * size)).take size) (fun j v hj => by
    rw [List.getElem?_take] at hj
    split at hj
    · rw [List.getElem?_drop] at hj
      rw [add_of_add]
      exact Like.cell hw (hcell _ _ hj)
    · cases hj)
  rw [hl] at h1
  simp only [execOp, ha.eval hx, pR, Option.map_some, Instr.loadAt, Instr.sureAddr, loadVar, Sem.run_bind, Sem.run_pure, Result.andThen_ok, hagg, if_true, sizeOf_run hsz, h1]
/-! arrays behind a pointer -/
theorem y_idxA {x i : Operand} {t e : TypeId} {b o len k size : Nat} {q : IntKind} {j : Int} (ht : P.underlying t = some (.array len e)) (hsz : (P.info? e).map (·.size) = some size)
    (hx : ev env x = some (.pointer (some ⟨b, o, none⟩))) (hi : ev env i = some (.int q j)) (hj : Nt j k) (hk : k < len) :
    Y P S env ⟨dst, .indexAddr t x i, ty, pos, after, g⟩ (.pointer (some ⟨b, o + k * size, none⟩)) := fun N a w' ha _ => by
  have hj' := hj.eq
  subst hj'
  have h1 : (0 : Int) ≤ (k : Int) ∧ (k : Int) < (len : Int) := by omega
  simp only [execOp, ha.eval hx, ha.eval hi, Instr.indexAt, Instr.sureAddr, asIntOf, Sem.run_bind, run_underlying ht, Sem.run_pure, Result.andThen_ok, h1, and_self, if_true, sizeOf_run hsz, Int.toNat_natCast, Addr.add_mid]
theorem y_idxA1 {x i : Operand} {t e : TypeId} {b o len k : Nat} {q : IntKind} {j : Int} (ht : P.underlying t = some (.array len e)) (hsz : (P.info? e).map (·.size) = some 1)
    (hx : ev env x = some (.pointer (some ⟨b, o, none⟩))) (hi : ev env i = some (.int q j)) (hj : Nt j k) (hk : k < len) :
    Y P S env ⟨dst, .indexAddr t x i, ty, pos, after, g⟩ (.pointer (some ⟨b, o + k, none⟩)) := by
  have := y_idxA (S := S) (dst := dst) (ty := ty) (pos := pos) (after := after) (g := g) ht hsz hx hi hj hk
  rwa [Nat.mul_one] at this
theorem y_idxA0 {x i : Operand} {t e : TypeId} {b len k : Nat} {q : IntKind} {j : Int} (ht : P.underlying t = some (.array len e)) (hsz : (P.info? e).map (·.size) = some 1)
    (hx : ev env x = some (.pointer (some ⟨b, 0, none⟩))) (hi : ev env i = some (.int q j)) (hj : Nt j k) (hk : k < len) :
    Y P S env ⟨dst, .indexAddr t x i, ty, pos, after, g⟩ (.pointer (some ⟨b, k, none⟩)) := by
  have := y_idxA1 (S := S) (dst := dst) (ty := ty) (pos := pos) (after := after) (g := g) ht hsz hx hi hj hk
  rwa [Nat.zero_add] at this
theorem y_fieldA {x : Operand} {t : TypeId} {fs : Array Field} {f : Field} {i b o size : Nat} (r : Nat) (ht : P.underlying t = some (.struct fs)) (hf : fs[i]? = some f) (hsz : (P.info? f.type).map (·.size) = some size) (h0 : Nat.blt 0 size = true)
    (hx : ev env x = some (.pointer (some ⟨b, o, none⟩))) (hr : o + f.offset = r) : Y P S env ⟨dst, .fieldAddr t x i, ty, pos, after, g⟩ (.pointer (some ⟨b, r, none⟩)) := fun N a w' ha _ => by
  subst hr
  have h1 : ¬ size = 0 := by have : 0 < size := by simpa using h0
                             omega
  simp only [execOp, ha.eval hx, Instr.fieldAt, Instr.sureAddr, Sem.run_bind, run_underlying ht, Sem.run_pure, Result.andThen_ok, hf, fieldPlace, sizeOf_run hsz, if_neg h1, Addr.add_mid]
/-- A field's address of an element of a slice of structs. -/
def pRF (A : Option Addr) (k : Nat) : Value := .pointer (A.map (·.add k))
theorem y_fieldR {x : Operand} {t : TypeId} {fs : Array Field} {f : Field} {A : Option Addr} {n c k i size fsize : Nat} (off : Nat) {xs : List Value} (ht : P.underlying t = some (.struct fs)) (hf : fs[i]? = some f) (hsz : (P.info? f.type).map (·.size) = some fsize) (h0 : Nat.blt 0 fsize = true)
    (hx : ev env x = some (pR A k size)) (hr : Rs w size A n c xs) (hk : k < n) (hoff : f.offset = off) : Y P S env ⟨dst, .fieldAddr t x i, ty, pos, after, g⟩ (pRF A (k * size + off)) := fun N a w' ha _ => by
  subst hoff
  have h1 : ¬ fsize = 0 := by have : 0 < fsize := by simpa using h0
                              omega
  obtain ⟨ad, rfl, hb, hcell⟩ := hr.rd.2 (by omega)
  simp only [execOp, ha.eval hx, pR, pRF, Option.map_some, Instr.fieldAt, Instr.sureAddr, Sem.run_bind, run_underlying ht, Sem.run_pure, Result.andThen_ok, hf, fieldPlace, sizeOf_run hsz, if_neg h1, add_of_add]
theorem y_ldf {x : Operand} {A : Option Addr} {n c k size : Nat} {xs : List Value} {v : Value} {lt : TypeId} {d : TypeDesc} (hd : P.underlying lt = some d) (hrow : d.isRow = false) (hx : ev env x = some (pRF A k)) (hr : Rs w size A n c xs) (hn : 0 < n) (hv : xs[k]? = some v) :
    Y P (Like w) env ⟨dst, .load lt x, ty, pos, after, g⟩ v := by
  obtain ⟨ad, rfl, hb, hcell⟩ := hr.rd.2 hn
  exact y_ldc hd hrow (p := ad.add k) (by rw [hx]; simp [pRF]) (hcell _ _ hv)
theorem run_loadRow {b o : Nat} {vs : List Value} {d : TypeDesc} {lt : TypeId} (hd : P.underlying lt = some d) (hrow : d.isRow = true) (hsz : (P.info? lt).map (·.size) = some vs.length) {w' : World} (hc : w'.rangeAt b o vs) :
    (Instr.loadAt lt (.pointer (some ⟨b, o, none⟩))).run P w' = .ok (.agg vs.toArray) w' := run_loadAt_mid w' b o lt vs d hc hd hrow hsz
theorem y_ldR {x : Operand} {b o : Nat} {vs : List Value} {lt : TypeId} {d : TypeDesc} (hd : P.underlying lt = some d) (hrow : d.isRow = true) (hsz : (P.info? lt).map (·.size) = some vs.length) (hx : ev env x = some (.pointer (some ⟨b, o, none⟩))) (hc : w.rangeAt b o vs) :
    Y P (Like w) env ⟨dst, .load lt x, ty, pos, after, g⟩ (.agg vs.toArray) := fun N a w' ha hw => by
  simp only [execOp, ha.eval hx, Sem.run_bind, run_loadRow hd hrow hsz (w' := w') (fun j v hv => Like.cell hw (hc j v hv)), Sem.run_pure, Result.andThen_ok]
/-! parts -/
theorem y_slice {x : Operand} {t e : TypeId} {A : Option Addr} {n c l u size : Nat} {kl kh : IntKind} {jl jh : Int} {i j : Operand} (ht : P.underlying t = some (.slice e)) (hsz : (P.info? e).map (·.size) = some size) (hx : ev env x = some (.slice A n c))
    (hi : ev env i = some (.int kl jl)) (hj : ev env j = some (.int kh jh)) (hl : Nt jl l) (hu : Nt jh u) (h1 : l ≤ u) (h2 : u ≤ c) :
    Y P S env ⟨dst, .slice t x (some i) (some j) none, ty, pos, after, g⟩ (.slice (cutA A c l size) (u - l) (c - l)) := fun N a w' ha _ => by
  have e1 := hl.eq
  have e2 := hu.eq
  subst e1; subst e2
  have he : P.elem t = e := by simp [Program.elem, ht]
  have h3 := run_slice_lh (P := P) (w := w') (t := t) (a := A) (len := n) (cap := c) (by rw [he]; exact ht) kl kh (l : Int) (u : Int) (by omega) (by omega) (by omega)
  rw [he] at h3
  simp only [execOp, ha.eval hx, Option.map_some, Option.map_none, ha.eval hi, ha.eval hj, Instr.sliceAt, Sem.run_bind, run_underlying ht, Result.andThen_ok, h3, sizeOf_run hsz, Sem.run_pure, Int.toNat_natCast]
  rfl
theorem y_sliceL {x : Operand} {t e : TypeId} {A : Option Addr} {n c l size : Nat} {kl : IntKind} {jl : Int} {i : Operand} (ht : P.underlying t = some (.slice e)) (hsz : (P.info? e).map (·.size) = some size) (hx : ev env x = some (.slice A n c))
    (hi : ev env i = some (.int kl jl)) (hl : Nt jl l) (h1 : l ≤ n) :
    Y P S env ⟨dst, .slice t x (some i) none none, ty, pos, after, g⟩ (.slice (cutA A c l size) (n - l) (c - l)) := fun N a w' ha _ => by
  have e1 := hl.eq
  subst e1
  have he : P.elem t = e := by simp [Program.elem, ht]
  have h3 := run_slice_l (P := P) (w := w') (t := t) (a := A) (len := n) (cap := c) (by rw [he]; exact ht) kl (l : Int) (by omega) (by omega)
  rw [he] at h3
  simp only [execOp, ha.eval hx, Option.map_some, Option.map_none, ha.eval hi, Instr.sliceAt, Sem.run_bind, run_underlying ht, Result.andThen_ok, h3, sizeOf_run hsz, Sem.run_pure, Int.toNat_natCast]
  rfl
theorem y_sliceH {x : Operand} {t e : TypeId} {A : Option Addr} {n c u size : Nat} {kh : IntKind} {jh : Int} {j : Operand} (ht : P.underlying t = some (.slice e)) (hsz : (P.info? e).map (·.size) = some size) (hx : ev env x = some (.slice A n c))
    (hj : ev env j = some (.int kh jh)) (hu : Nt jh u) (h2 : u ≤ c) :
    Y P S env ⟨dst, .slice t x none (some j) none, ty, pos, after, g⟩ (.slice (cutA A c 0 size) (u - 0) (c - 0)) := fun N a w' ha _ => by
  have e2 := hu.eq
  subst e2
  have he : P.elem t = e := by simp [Program.elem, ht]
  have h3 := run_slice_h (P := P) (w := w') (t := t) (a := A) (len := n) (cap := c) (by rw [he]; exact ht) kh (u : Int) (by omega) (by omega)
  rw [he] at h3
  simp only [execOp, ha.eval hx, Option.map_some, Option.map_none, ha.eval hj, Instr.sliceAt, Sem.run_bind, run_underlying ht, Result.andThen_ok, h3, sizeOf_run hsz, Sem.run_pure, Int.toNat_natCast]
  rfl
end
end Go.Proofs.Ytmgimcdkeelnpaa.Zx
