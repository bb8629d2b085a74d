/-
  '==' on structs of any plain fields. General; nothing here names a program.
-/
import Derived.Test.YtmgimcdkeelnpaaZs
namespace Go.Proofs.Ytmgimcdkeelnpaa.Zx
open Go.RowKit Zk
set_option linter.unusedVariables false
set_option linter.unusedSimpArgs false
section
variable {P : Program}
/-- What '==' says of one field. -/
def FE (P : Program) (d : Nat) (xs ys : Array Value) (f : Field) (b : Bool) : Prop :=
  f.name ≠ "_" ∧ ∃ vx vy, (∀ w, (part f.type xs f.offset).run P w = .ok vx w) ∧ (∀ w, (part f.type ys f.offset).run P w = .ok vy w) ∧ (∀ w, (Op.equalIn d f.type vx vy).run P w = .ok b w)
inductive EqFs (P : Program) (d : Nat) (xs ys : Array Value) : List Field → Bool → Prop
  | nil : EqFs P d xs ys [] true
  | cons {f : Field} {fs : List Field} {b r : Bool} : FE P d xs ys f b → EqFs P d xs ys fs r → EqFs P d xs ys (f :: fs) (b && r)
theorem EqFs.run {d : Nat} {xs ys : Array Value} : ∀ {fs : List Field} {r : Bool}, EqFs P d xs ys fs r → ∀ w, (Op.eqFields d xs ys fs).run P w = .ok r w
  | _, _, .nil, w => rfl
  | _, _, .cons (f := f) (fs := fs) (b := b) (r := r) ⟨hn, vx, vy, h1, h2, h3⟩ h, w => by
    rw [Op.eqFields, if_pos hn, Sem.run_bind, h1 w, Result.andThen_ok, Sem.run_bind, h2 w, Result.andThen_ok, Sem.run_bind, h3 w, Result.andThen_ok]
    cases b with
    | true =>
      simp only [Bool.not_true, Bool.false_eq_true, if_false]
      rw [h.run w]
      rfl
    | false =>
      simp only [Bool.not_false, if_true, Sem.run_pure]
      rfl
theorem run_part_one {t : TypeId} {cs : Array Value} {o : Nat} {v : Value} (ha : ∀ w, (isAgg t).run P w = .ok false w) (hv : cs[o]? = some v) (w : World) : (part t cs o).run P w = .ok v w := by
  unfold part
  rw [Sem.run_bind, ha w]
  simp only [Result.andThen_ok, Bool.false_eq_true, if_false, hv, Sem.run_pure]
theorem run_part_agg {t : TypeId} {cs vs : Array Value} {o n : Nat} (ha : ∀ w, (isAgg t).run P w = .ok true w) (hs : ∀ w, (sizeOf t).run P w = .ok n w) (hv : cs.extract o (o + n) = vs) (w : World) : (part t cs o).run P w = .ok (.agg vs) w := by
  unfold part
  rw [Sem.run_bind, ha w]
  simp only [Result.andThen_ok, if_true, Sem.run_bind, hs w, Sem.run_pure, hv]
theorem FE_str {d : Nat} {xs ys : Array Value} {f : Field} {a b : ByteArray} (hn : f.name ≠ "_") (ht : P.underlying f.type = some .string) (hx : xs[f.offset]? = some (.string a)) (hy : ys[f.offset]? = some (.string b)) : FE P (d + 1) xs ys f (decide (a = b)) := by
  have ha : ∀ w, (isAgg f.type).run P w = .ok false w := fun w => by unfold isAgg; rw [Sem.run_bind, run_underlying ht w]; rfl
  refine ⟨hn, _, _, run_part_one ha hx, run_part_one ha hy, fun w => ?_⟩
  simp only [Op.equalIn, Sem.run_bind, run_underlying ht, Result.andThen_ok, Sem.run_pure]
  congr 1
  rw [beq_toListBytes, beq_str]
theorem FE_int {d : Nat} {xs ys : Array Value} {f : Field} {k : IntKind} {a b : Int} (hn : f.name ≠ "_") (ht : P.underlying f.type = some (.int k)) (hx : xs[f.offset]? = some (.int k a)) (hy : ys[f.offset]? = some (.int k b)) : FE P (d + 1) xs ys f (decide (a = b)) := by
  refine ⟨hn, _, _, run_part_int ht hx, run_part_int ht hy, fun w => ?_⟩
  rw [run_equalIn_int w d _ _ _ _ _ ht]
  congr 1
theorem FE_bool {d : Nat} {xs ys : Array Value} {f : Field} {a b : Bool} (hn : f.name ≠ "_") (ht : P.underlying f.type = some .bool) (hx : xs[f.offset]? = some (.bool a)) (hy : ys[f.offset]? = some (.bool b)) : FE P (d + 1) xs ys f (decide (a = b)) := by
  have ha : ∀ w, (isAgg f.type).run P w = .ok false w := fun w => by unfold isAgg; rw [Sem.run_bind, run_underlying ht w]; rfl
  refine ⟨hn, _, _, run_part_one ha hx, run_part_one ha hy, fun w => ?_⟩
  simp only [Op.equalIn, Sem.run_bind, run_underlying ht, Result.andThen_ok, Sem.run_pure]
  congr 1
theorem FE_bytes {d n : Nat} {xs ys : Array Value} {f : Field} {e : TypeId} {a b : List UInt8} (hn : f.name ≠ "_") (ht : P.underlying f.type = some (.array n e)) (he : P.underlying e = some (.int .u8)) (hs : (P.info? e).map (·.size) = some 1) (hsz : ∀ w, (sizeOf f.type).run P w = .ok n w) (ha : a.length = n) (hb : b.length = n)
    (hx : xs.extract f.offset (f.offset + n) = bA a) (hy : ys.extract f.offset (f.offset + n) = bA b) : FE P (d + 2) xs ys f (decide (a = b)) := by
  have hag : ∀ w, (isAgg f.type).run P w = .ok true w := fun w => by unfold isAgg; rw [Sem.run_bind, run_underlying ht w]; rfl
  refine ⟨hn, _, _, run_part_agg hag hsz hx, run_part_agg hag hsz hy, fun w => ?_⟩
  rw [run_equalIn_bytes w d ht he hs a b ha hb _ _ (bA_get a) (bA_get b)]
  congr 1
  by_cases h : a = b <;> simp [h]
theorem FE_struct {d n : Nat} {xs ys vx vy : Array Value} {f : Field} {fs : Array Field} {r : Bool} (hn : f.name ≠ "_") (ht : P.underlying f.type = some (.struct fs)) (hp : P.stoodInHeld f.type = false) (hsz : ∀ w, (sizeOf f.type).run P w = .ok n w)
    (hx : xs.extract f.offset (f.offset + n) = vx) (hy : ys.extract f.offset (f.offset + n) = vy) (h : EqFs P d vx vy fs.toList r) : FE P (d + 1) xs ys f r := by
  have hag : ∀ w, (isAgg f.type).run P w = .ok true w := fun w => by unfold isAgg; rw [Sem.run_bind, run_underlying ht w]; rfl
  refine ⟨hn, _, _, run_part_agg hag hsz hx, run_part_agg hag hsz hy, fun w => ?_⟩
  have e : P.fieldsOf f.type = fs := by simp [Program.fieldsOf, ht]
  rw [run_equalIn_struct w d _ _ _ (by rw [e]; exact ht) hp, e]
  exact h.run w
variable {S : World → Prop} {env : Env} {dst : Option Tmp} {ty : TypeId} {pos : String} {after : Array Edge} {g : Option (Nat × Bool)}
theorem y_eqS {x y : Operand} {t u : TypeId} {fs : Array Field} {xs ys : Array Value} {r : Bool} (ht : P.underlying t = some (.struct fs)) (hp : P.stoodInHeld t = false) (hm : P.eqGuardType P.depth t = false) (hf : EqFs P 9999 xs ys fs.toList r) (hx : ev env x = some (.agg xs)) (hy : ev env y = some (.agg ys)) :
    Y P S env ⟨dst, .binOp .eql t x y u, ty, pos, after, g⟩ (.bool r) := fun N a w ha _ => by
  have h1 := run_eql_struct (P := P) w t xs ys
  have e : P.fieldsOf t = fs := by simp [Program.fieldsOf, ht]
  rw [run_equalIn_struct w 9999 t _ _ (by rw [e]; exact ht) hp, e, hf.run w, Result.andThen_ok] at h1
  simp only [execOp, ha.eval hx, ha.eval hy, Sem.run_bind, eqGuard_run .eql x y _ _ hm w, Result.andThen_ok, h1, Sem.run_pure]
theorem y_neS {x y : Operand} {t u : TypeId} {fs : Array Field} {xs ys : Array Value} {r : Bool} (ht : P.underlying t = some (.struct fs)) (hp : P.stoodInHeld t = false) (hm : P.eqGuardType P.depth t = false) (hf : EqFs P 9999 xs ys fs.toList r) (hx : ev env x = some (.agg xs)) (hy : ev env y = some (.agg ys)) :
    Y P S env ⟨dst, .binOp .neq t x y u, ty, pos, after, g⟩ (.bool (!r)) := fun N a w ha _ => by
  have h1 := run_neq_struct (P := P) w t xs ys
  have e : P.fieldsOf t = fs := by simp [Program.fieldsOf, ht]
  rw [run_equalIn_struct w 9999 t _ _ (by rw [e]; exact ht) hp, e, hf.run w, Result.andThen_ok] at h1
  simp only [execOp, ha.eval hx, ha.eval hy, Sem.run_bind, eqGuard_run .neq x y _ _ hm w, Result.andThen_ok, h1, Sem.run_pure]
end
end Go.Proofs.Ytmgimcdkeelnpaa.Zx
