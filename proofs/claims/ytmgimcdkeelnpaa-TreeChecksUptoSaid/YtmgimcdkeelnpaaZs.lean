/-
  '==' on structs of ints. General; nothing here names a program.
-/
import Derived.Test.YtmgimcdkeelnpaaZr
import Derived.Laws.StructEq
import Derived.Test.YtmgimcdkeelnpaaZg
namespace Go.Proofs.Ytmgimcdkeelnpaa.Zx
open Go.RowKit Zk
set_option linter.unusedVariables false
set_option linter.unusedSimpArgs false
/-- Fields that are ints, one behind the other. -/
def FieldsI (P : Program) : List Field → Nat → Prop
  | [], _ => True
  | f :: fs, o => f.name ≠ "_" ∧ f.offset = o ∧ (P.underlying f.type = some (.int .i64)) ∧ FieldsI P fs (o + 1)
section
variable {P : Program}
theorem run_part_int {t : TypeId} {k : IntKind} (ht : P.underlying t = some (.int k)) {cs : Array Value} {o : Nat} {v : Value} (hv : cs[o]? = some v) (w : World) : (part t cs o).run P w = .ok v w := by
  have h : (isAgg t).run P w = .ok false w := by
    unfold isAgg
    rw [Sem.run_bind, run_underlying ht w]
    rfl
  unfold part
  rw [Sem.run_bind, h]
  simp only [Result.andThen_ok, Bool.false_eq_true, if_false, hv, Sem.run_pure]
theorem run_eqFields_ints (d : Nat) (xs ys : List Int) (w : World) : ∀ (fs : List Field) (o : Nat), FieldsI P fs o → xs.length = o + fs.length → ys.length = o + fs.length →
    (Op.eqFields (d + 1) (iL xs).toArray (iL ys).toArray fs).run P w = .ok (decide (xs.drop o = ys.drop o)) w
  | [], o, _, h1, h2 => by
    rw [List.drop_eq_nil_of_le (by simp at h1; omega), List.drop_eq_nil_of_le (by simp at h2; omega)]
    rfl
  | f :: fs, o, ⟨a1, a2, a4, a3⟩, h1, h2 => by
    simp only [List.length_cons] at h1 h2
    have ex : xs[o]? = some xs[o] := List.getElem?_eq_getElem (by omega)
    have ey : ys[o]? = some ys[o] := List.getElem?_eq_getElem (by omega)
    have ih := run_eqFields_ints d xs ys w fs (o + 1) a3 (by omega) (by omega)
    have hx : ((iL xs).toArray)[o]? = some (.int .i64 xs[o]) := by rw [List.getElem?_toArray]; exact iL_get _ _ _ ex
    have hy : ((iL ys).toArray)[o]? = some (.int .i64 ys[o]) := by rw [List.getElem?_toArray]; exact iL_get _ _ _ ey
    rw [Op.eqFields, if_pos a1, a2, Sem.run_bind, run_part_int a4 hx, Result.andThen_ok, Sem.run_bind, run_part_int a4 hy, Result.andThen_ok, Sem.run_bind, run_equalIn_int w d _ _ _ _ _ a4, Result.andThen_ok]
    have dx : xs.drop o = xs[o] :: xs.drop (o + 1) := List.drop_eq_getElem_cons (by omega)
    have dy : ys.drop o = ys[o] :: ys.drop (o + 1) := List.drop_eq_getElem_cons (by omega)
    by_cases h : xs[o] = ys[o]
    · have hb : (xs[o] == ys[o]) = true := by simpa using h
      rw [hb]
      simp only [Bool.not_true, Bool.false_eq_true, if_false]
      rw [ih, dx, dy, h]
      exact congrArg (fun b => Result.ok b w) (decide_eq_decide.2 ⟨fun q => by rw [q], fun q => by injection q⟩)
    · have hb : (xs[o] == ys[o]) = false := by simpa using h
      rw [hb]
      simp only [Bool.not_false, if_true, Sem.run_pure]
      rw [dx, dy]
      exact congrArg (fun b => Result.ok b w) (decide_eq_false (fun q => h (by injection q))).symm
theorem run_eq_ints {t : TypeId} {fs : Array Field} (ht : P.underlying t = some (.struct fs)) (hp : P.stoodInHeld t = false) (hf : FieldsI P fs.toList 0) (xs ys : List Int) (hx : xs.length = fs.size) (hy : ys.length = fs.size) (w : World) :
    (Op.equalIn 10000 t (.agg (iL xs).toArray) (.agg (iL ys).toArray)).run P w = .ok (decide (xs = ys)) w := by
  have e : P.fieldsOf t = fs := by simp [Program.fieldsOf, ht]
  rw [run_equalIn_struct w 9999 t _ _ (by rw [e]; exact ht) hp, e]
  have := run_eqFields_ints 9998 xs ys w fs.toList 0 hf (by simp; omega) (by simp; omega)
  rw [List.drop_zero, List.drop_zero] at this
  exact this
variable {S : World → Prop} {env : Env} {dst : Option Tmp} {ty : TypeId} {pos : String} {after : Array Edge} {g : Option (Nat × Bool)}
theorem y_eqI {x y : Operand} {t u : TypeId} {fs : Array Field} {xs ys : List Int} (ht : P.underlying t = some (.struct fs)) (hp : P.stoodInHeld t = false) (hm : P.eqGuardType P.depth t = false) (hf : FieldsI P fs.toList 0) (hx : ev env x = some (.agg (iL xs).toArray)) (hy : ev env y = some (.agg (iL ys).toArray))
    (hl : xs.length = fs.size) (hml : ys.length = fs.size) : Y P S env ⟨dst, .binOp .eql t x y u, ty, pos, after, g⟩ (.bool (decide (xs = ys))) := fun N a w ha _ => by
  have h1 := run_eql_struct (P := P) w t (iL xs).toArray (iL ys).toArray
  rw [run_eq_ints ht hp hf xs ys hl hml w, Result.andThen_ok] at h1
  simp only [execOp, ha.eval hx, ha.eval hy, Sem.run_bind, eqGuard_run .eql x y _ _ hm w, Result.andThen_ok, h1, Sem.run_pure]
theorem y_neI {x y : Operand} {t u : TypeId} {fs : Array Field} {xs ys : List Int} (ht : P.underlying t = some (.struct fs)) (hp : P.stoodInHeld t = false) (hm : P.eqGuardType P.depth t = false) (hf : FieldsI P fs.toList 0) (hx : ev env x = some (.agg (iL xs).toArray)) (hy : ev env y = some (.agg (iL ys).toArray))
    (hl : xs.length = fs.size) (hml : ys.length = fs.size) : Y P S env ⟨dst, .binOp .neq t x y u, ty, pos, after, g⟩ (.bool (decide (xs ≠ ys))) := fun N a w ha _ => by
  have h1 := run_neq_struct (P := P) w t (iL xs).toArray (iL ys).toArray
  rw [run_eq_ints ht hp hf xs ys hl hml w, Result.andThen_ok] at h1
  have e : (!decide (xs = ys)) = decide (xs ≠ ys) := by by_cases h : xs = ys <;> simp [h]
  rw [e] at h1
  simp only [execOp, ha.eval hx, ha.eval hy, Sem.run_bind, eqGuard_run .neq x y _ _ hm w, Result.andThen_ok, h1, Sem.run_pure]
end
section
open Go.ChangeShapes Go.WideShapes Go.ChangeAt Go.Deep
variable {H : Type} {enc : TypeId × Value → H} {P : Program} {w : World} {base : Nat} {spare : Nat → Bool} {held : Bool}
theorem read_intsS {t e : TypeId} {k : IntKind} (ht : P.underlying t = some (.slice e)) (he : P.underlying e = some (.int k)) (hc : P.cellsOf e = 1)
    {fuel : Nat} {cs : List Value} {x : DataW H × List MemPlace} (h : DataW.trod enc P w base spare held fuel t cs = some x) :
    ∃ A n c, ∃ l : List Int, cs = [.slice A n c] ∧ Rs w 1 A n c (l.map (Value.int k)) := by
  obtain ⟨A, n, c, l, h1, h2, _⟩ := read_row1 (Value.int k) (fun _ => True) ht hc (fun n v x h => by
    obtain ⟨a, ha, _, hw⟩ := DataW.trod_int he h
    simp only [List.cons.injEq, and_true] at ha
    exact ⟨a, ha, trivial⟩) h
  exact ⟨A, n, c, l, h1, h2⟩
/-- A slice of ints. -/
theorem open_intsS {r : Reach} {b0 : Nat} {t e : TypeId} {v : Value} {d : DataW H} {p : List MemPlace} (ht : P.underlying t = some (.slice e)) (he : P.underlying e = some (.int .i64)) (hc : P.cellsOf e = 1)
    (hv : Value.okWide P w r b0 t v) (h : DataW.Trod enc P w base spare held t v d p) : ∃ A n c, ∃ l : List Int, v = .slice A n c ∧ Rs w 1 A n c (iL l) := by
  obtain ⟨fuel, hf⟩ := h
  obtain ⟨A, n, c, l, h1, h2⟩ := read_intsS ht he hc hf
  exact ⟨A, n, c, l, slice_of_cells ht hv h1, h2⟩
end
end Go.Proofs.Ytmgimcdkeelnpaa.Zx
