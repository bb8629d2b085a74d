/-
  A call that waits for the function's end. General; nothing here names a program.
-/
import Derived.Test.YtmgimcdkeelnpaaZd
namespace Go.Proofs.Ytmgimcdkeelnpaa.Zx
open Go.RowKit Zk
set_option linter.unusedVariables false
set_option linter.unusedSimpArgs false
section
variable {P : Program} {N : Nat} {Q : Post} {env : Env} {w : World}
/-- A load in all worlds of a kind. -/
theorem y_ldS {S : World → Prop} {x : Operand} {p : Addr} {v : Value} {lt : TypeId} {d : TypeDesc} {dst : Option Tmp} {ty : TypeId} {pos : String} {after : Array Edge} {g : Option (Nat × Bool)} (hd : P.underlying lt = some d) (hrow : d.isRow = false) (hx : ev env x = some (.pointer (some p))) (hc : ∀ w, S w → w.cell? p = some v) :
    Y P S env ⟨dst, .load lt x, ty, pos, after, g⟩ v := fun N a w' ha hw => by
  simp only [execOp, ha.eval hx, Instr.loadAt, Instr.sureAddr, Sem.run_bind, Sem.run_pure, Result.andThen_ok, run_loadVar1 hd hrow (hc w' hw)]
/-- A guard that was itself passed over. -/
theorem L_gnu {ops : Array Oper} {rest : List Oper} {d : Tmp} {op : Op} {ty : TypeId} {pos : String} {after : Array Edge} {j : Nat} {b : Bool} {t : Tmp}
    (hj : (ops[j]?).bind (·.dst) = some t) (ht : look env t = some undef) (hd : Nat.blt d N = true) (h : L P N ops Q rest ((d, undef) :: env) w) : L P N ops Q (⟨some d, op, ty, pos, after, some (j, b)⟩ :: rest) env w := fun a ha => by
  have h1 := h _ (ha.put d undef hd)
  have hw : yielded ops a.tmps j = none := by
    simp [yielded, hj, ha.vals t _ ht, undef]
  unfold wpList
  have hne : ((none : Option Bool) == some b) = false := by cases b <;> rfl
  simp only [Region.wanted, hw, hne, Bool.false_eq_true, if_false]
  exact h1
/-- A function as the one that waits. -/
def DCalls (P : Program) (f : FuncId) (args : Array Value) (w : World) (R : Ending → World → Prop) : Prop := ∀ u, CallsD P f args u w fun e u' w' => u' = u ∧ R e w'
theorem enterd1 {f : FuncId} {fn : Func} {c : Code} (args : List Value) {R : Ending → World → Prop} (hf : P.funcs[f]? = some fn) (hb : fn.body = some c) (hn : fn.ntmps = N)
    (hN : Nat.ble args.length N = true) (he : envOf args 0 = env) (h : T P N c (bodyQ P fn R) env w) (hd0 : dfs env = [] := by rfl) (hsm : Nat.ble N 1000000 = true := by rfl) : DCalls P f args.toArray w R := by
  intro u
  refine callsD_of_wp hf hb ?_
  have hsm' : N ≤ 1000000 := by simpa using hsm
  have hN' : args.length ≤ N := by simpa using hN
  have hfit : Fits N env { tmps := args.toArray ++ Array.replicate (fn.ntmps - args.toArray.size) undef, defers := [] } := by
    refine ⟨hd0.symm, hsm', by simp [hn]; omega, fun i v hv => ?_⟩
    have h1 : args[i]? = some v := by subst he; simpa using (look_envOf _ _ _ _ hv).2
    have h2 := (List.getElem?_eq_some_iff.1 h1).1
    rw [Array.getElem?_append_left (by simpa using h2)]
    simpa using h1
  refine Code.wp_mono (fun e a w hq => ?_) (h _ hfit)
  cases e with
  | normal =>
    obtain ⟨e', h1, h0, v, h2, h3⟩ := hq
    exact ⟨h1.defers.trans h0, v, h2 N a h1, h3⟩
  | ret =>
    obtain ⟨e', h1, h0, v, h2, h3⟩ := hq
    exact ⟨h1.defers.trans h0, v, h2 N a h1, h3⟩
  | panic c => exact hq.elim
  | outgrown => exact hq.elim
  | exit i => obtain ⟨_, _, h⟩ := hq; exact h.elim
  | goto i => obtain ⟨_, _, h⟩ := hq; exact h.elim
/-- The end of a function that lets calls wait. -/
def bodyQD (P : Program) (fn : Func) (R : Ending → World → Prop) : Post
  | .ret, env, w | .normal, env, w => ∀ N a, Fits N env a → Leaves P fn a.tmps R (dfs env) .returning w
  | _, _, _ => False
theorem enterD1 {f : FuncId} {fn : Func} {c : Code} (args : List Value) {R : Ending → World → Prop} (hf : P.funcs[f]? = some fn) (hb : fn.body = some c) (hn : fn.ntmps = N)
    (hN : Nat.ble args.length N = true) (he : envOf args 0 = env) (h : T P N c (bodyQD P fn R) env w) (hd0 : dfs env = [] := by rfl) (hsm : Nat.ble N 1000000 = true := by rfl) : Calls P f args.toArray w R := by
  refine calls_of_wp_defers hf hb ?_
  have hsm' : N ≤ 1000000 := by simpa using hsm
  have hN' : args.length ≤ N := by simpa using hN
  have hfit : Fits N env { tmps := args.toArray ++ Array.replicate (fn.ntmps - args.toArray.size) undef, defers := [] } := by
    refine ⟨hd0.symm, hsm', by simp [hn]; omega, fun i v hv => ?_⟩
    have h1 : args[i]? = some v := by subst he; simpa using (look_envOf _ _ _ _ hv).2
    have h2 := (List.getElem?_eq_some_iff.1 h1).1
    rw [Array.getElem?_append_left (by simpa using h2)]
    simpa using h1
  refine Code.wp_mono (fun e a w hq => ?_) (h _ hfit)
  cases e with
  | normal =>
    obtain ⟨e', h1, h2⟩ := hq
    have h3 := h2 N a h1
    rw [← h1.defers] at h3
    exact h3
  | ret =>
    obtain ⟨e', h1, h2⟩ := hq
    have h3 := h2 N a h1
    rw [← h1.defers] at h3
    exact h3
  | panic c => exact hq.elim
  | outgrown => exact hq.elim
  | exit i => obtain ⟨_, _, h⟩ := hq; exact h.elim
  | goto i => obtain ⟨_, _, h⟩ := hq; exact h.elim
/-- The end without a waiting call. -/
theorem retd1 {fn : Func} {R : Ending → World → Prop} {t : Tmp} {v : Value} (hr : fn.results = #[.tmp t]) (ht : look env t = some v) (h : R (.returned v) w) (hd0 : dfs env = [] := by rfl) : bodyQD P fn R .ret env w := fun N a ha => by
  rw [hd0]
  exact ⟨v, by rw [results_tmp hr, ha.getD ht], h⟩
/-- The end with one. -/
theorem retD1 {fn gn : Func} {R Rc : Ending → World → Prop} {t : Tmp} {v : Value} {f : FuncId} {args : Array Value} (hr : fn.results = #[.tmp t]) (ht : look env t = some v)
    (hdf : dfs env = [⟨.fn (.func f) #[], args⟩]) (hf : P.funcs[f]? = some gn) (hn : (gn.name == "runtime.NumGoroutine") = false) (hb : gn.body.isNone = false)
    (hc : DCalls P f args w Rc) (h : ∀ e w', Rc e w' → ∃ u, e = .returned u ∧ R (.returned v) w') : bodyQD P fn R .ret env w := fun N a ha => by
  rw [hdf]
  refine leaves_cons (f := f) (args := args) (by simp) ?_ ?_
  · simp only [invoke, callFunc, Sem.run_bind, Sem.run_pure, Result.andThen_ok, run_program, hf, hn, hb, Bool.false_eq_true, if_false, Array.append_empty, Array.empty_append]
  · refine (hc .returning).mono fun e u' w' ⟨hu, hR⟩ => ?_
    subst hu
    obtain ⟨u, rfl, h1⟩ := h e w' hR
    exact ⟨v, by rw [results_tmp hr, ha.getD ht], h1⟩
/-- The call that waits. -/
theorem L_defer {ops : Array Oper} {rest : List Oper} {f : FuncId} {xs : Array Operand} {ts : Array TypeId} {args : List Value} {ty : TypeId} {pos : String} {after : Array Edge}
    (hargs : evl env xs.toList = some args) (h : L P N ops Q rest ((1000000, .agg #[.agg #[.int .i64 (f : Int), .agg args.toArray]]) :: env) w) (hd0 : dfs env = [] := by rfl) :
    L P N ops Q (⟨none, .defer { callee := .value (.func f), args := xs, argTypes := ts }, ty, pos, after, none⟩ :: rest) env w :=
  L_o fun a ha => by
    have hmap : xs.map a.eval = args.toArray := by
      rw [← evl_map ha xs.toList args hargs]
      apply Array.ext'
      simp
    unfold Oper.wp
    have hrun : (execOp a.eval ⟨none, .defer { callee := .value (.func f), args := xs, argTypes := ts }, ty, pos, after, none⟩).run P w = .ok (.defer ⟨.fn (.func f) #[], args.toArray⟩) w := by
      simp only [execOp, resolve, hmap, Act.eval, Deferred.ofValue, Sem.run_bind, Sem.run_pure, Result.andThen_ok, Array.append_empty, Array.empty_append]
    rw [hrun]
    refine ⟨_, ⟨?_, ha.small, ha.size, fun i v hv => ?_⟩, h⟩
    · show _ :: a.defers = _
      rw [ha.defers, hd0]
      rfl
    · simp only [look] at hv
      cases hb : Nat.beq 1000000 i with
      | false =>
        rw [hb] at hv
        exact ha.vals i v hv
      | true =>
        rw [hb] at hv
        cases hv
end
end Go.Proofs.Ytmgimcdkeelnpaa.Zx
