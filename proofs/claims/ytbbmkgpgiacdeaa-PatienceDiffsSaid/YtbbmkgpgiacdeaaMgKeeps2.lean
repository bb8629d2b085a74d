import Derived.Test.YtbbmkgpgiacdeaaMgKeeps1
import Derived.Maps.RangeWalk
import Derived.Maps.OwnOps
import Derived.Maps.OwnSet
import Derived.ArgAppend
import Derived.Scope
import Derived.Test.YtbbmkgpgiacdeaaRows
/-
  What is kept by the patience way: plain laws.
-/
namespace Go.Proofs.Ytbbmkgpgiacdeaa
set_option linter.unusedVariables false
set_option linter.unusedSimpArgs false
/-- How much two lists begin with alike. -/
def pre : List Int → List Int → Nat
  | x :: a, y :: b => if x = y then pre a b + 1 else 0
  | _, _ => 0
theorem pre_le : ∀ a b : List Int, pre a b ≤ a.length ∧ pre a b ≤ b.length
  | [], b => by simp [pre]
  | x :: a, [] => by simp [pre]
  | x :: a, y :: b => by
    rw [pre]
    have := pre_le a b
    split <;> simp <;> omega
theorem pre_eq : ∀ (a b : List Int) (k : Nat), k < pre a b → a[k]? = b[k]?
  | [], b, k, h => by simp [pre] at h
  | x :: a, [], k, h => by simp [pre] at h
  | x :: a, y :: b, k, h => by
    rw [pre] at h
    split at h
    · rename_i e
      subst e
      cases k with
      | zero => rfl
      | succ k => rw [List.getElem?_cons_succ, List.getElem?_cons_succ]; exact pre_eq a b k (by omega)
    · omega
theorem le_pre : ∀ (a b : List Int) (f : Nat), (∀ k, k < f → ∃ x, a[k]? = some x ∧ b[k]? = some x) → f ≤ pre a b
  | a, b, 0, _ => Nat.zero_le _
  | [], b, f + 1, h => by obtain ⟨x, h1, _⟩ := h 0 (by omega); simp at h1
  | x :: a, [], f + 1, h => by obtain ⟨x, _, h1⟩ := h 0 (by omega); simp at h1
  | x :: a, y :: b, f + 1, h => by
    obtain ⟨z, h1, h2⟩ := h 0 (by omega)
    simp at h1 h2
    rw [pre, if_pos (by rw [h1, h2])]
    have := le_pre a b f fun k hk => by
      have := h (k + 1) (by omega)
      rwa [List.getElem?_cons_succ, List.getElem?_cons_succ] at this
    omega
theorem pre_stop : ∀ (a b : List Int) (x : Int), a[pre a b]? = some x → b[pre a b]? = some x → False
  | [], b, x, h, _ => by simp at h
  | z :: a, [], x, _, h => by simp at h
  | z :: a, y :: b, x, h1, h2 => by
    rw [pre] at h1 h2
    by_cases e : z = y
    · rw [if_pos e, List.getElem?_cons_succ] at h1 h2
      exact pre_stop a b x h1 h2
    · rw [if_neg e] at h1 h2
      simp at h1 h2
      exact e (h1.trans h2.symm)
theorem pre_ge {a b : List Int} {f : Nat} (h : ∀ x, a[f]? = some x → b[f]? = some x → False) : pre a b ≤ f := by
  rcases Nat.lt_or_ge f (pre a b) with q | q
  · have h1 := pre_eq a b f q
    have hl := (pre_le a b).1
    have h2 := List.getElem?_eq_getElem (show f < a.length by omega)
    exact (h _ h2 (h1 ▸ h2)).elim
  · exact q
theorem pre_of {a b : List Int} {f : Nat} (h : ∀ k, k < f → ∃ x, a[k]? = some x ∧ b[k]? = some x) (hs : min a.length b.length ≤ f ∨ ∀ x, a[f]? = some x → b[f]? = some x → False) : pre a b = f := by
  have h1 := le_pre a b f h
  have h2 := pre_le a b
  rcases hs with hs | hs
  · omega
  · have := pre_ge hs
    omega
/-- How much two lists end with alike behind that. -/
def suf (a b : List Int) : Nat := min (pre a.reverse b.reverse) (min a.length b.length - pre a b)
theorem rev_at {l : List Int} {k : Nat} (h : k < l.length) : l.reverse[k]? = l[l.length - 1 - k]? := List.getElem?_reverse h
theorem suf_of {a b : List Int} {f t : Nat} (hf : pre a b = f) (ht : t ≤ min a.length b.length - f) (h : ∀ k, k < t → ∃ x, a[a.length - 1 - k]? = some x ∧ b[b.length - 1 - k]? = some x)
    (hs : min a.length b.length - f ≤ t ∨ ∀ x, a[a.length - 1 - t]? = some x → b[b.length - 1 - t]? = some x → False) : suf a b = t := by
  unfold suf
  rw [hf]
  have h1 := le_pre a.reverse b.reverse t fun k hk => by
    rw [rev_at (by omega), rev_at (by omega)]
    exact h k hk
  rcases Nat.lt_or_ge t (min a.length b.length - f) with q | q
  · have hs2 := hs.resolve_left (by omega)
    have h2 := pre_ge (a := a.reverse) (b := b.reverse) (f := t) (by rw [rev_at (by omega), rev_at (by omega)]; exact hs2)
    omega
  · omega
theorem suf_le (a b : List Int) : suf a b ≤ min a.length b.length - pre a b := Nat.min_le_right _ _
theorem suf_eq {a b : List Int} {k : Nat} (h : k < suf a b) : a[a.length - 1 - k]? = b[b.length - 1 - k]? := by
  have h1 : k < pre a.reverse b.reverse := Nat.lt_of_lt_of_le h (Nat.min_le_left _ _)
  have h2 := suf_le a b
  have h3 := pre_eq _ _ k h1
  rwa [rev_at (by omega), rev_at (by omega)] at h3
/-- Pairs of a chain. -/
def cI (p : Nat × Nat) : PI := ((p.1 : Int), (p.2 : Int))
def cN (p : PI) : Nat × Nat := (p.1.toNat, p.2.toNat)
theorem cN_cI (p : Nat × Nat) : cN (cI p) = p := rfl
def chainN (l : List (Nat × Nat)) : List (Nat × Nat) := (chain (l.map cI)).map cN
theorem sel_n1 (w : Nat) (out : List PI) (ns : List Nat) : sel w out [] ns = out := by
  rw [sel]
  intro _ _ _ _ h
  cases h
theorem sel_n2 (w : Nat) (out : List PI) (p : PI) (l : List PI) : sel w out (p :: l) [] = out := by
  rw [sel]
  intro _ _ _ _ _ h
  cases h
theorem sel_sub : ∀ (l : List PI) (ns : List Nat) (w : Nat) (out : List PI), ∃ r, sel w out l ns = out ++ r ∧ r.Sublist l
  | [], ns, w, out => ⟨[], (by rw [sel_n1, List.append_nil]), List.Sublist.refl _⟩
  | p :: l, [], w, out => ⟨[], (by rw [sel_n2, List.append_nil]), List.nil_sublist _⟩
  | p :: l, n :: ns, w, out => by
    rw [sel]
    split
    · obtain ⟨r, h1, h2⟩ := sel_sub l ns (w - 1) (out ++ [p])
      exact ⟨p :: r, by rw [h1]; simp, h2.cons_cons p⟩
    · obtain ⟨r, h1, h2⟩ := sel_sub l ns w out
      exact ⟨r, h1, h2.cons p⟩
theorem okL_all {out : List PI} {b : Int} (h : okL out b = true) (hp : out.Pairwise fun p q => p.2 < q.2) : ∀ q ∈ out, q.2 < b := fun q hq => by
  unfold okL at h
  cases hl : out.getLast? with
  | none =>
    rw [List.getLast?_eq_none_iff] at hl
    subst hl
    cases hq
  | some z =>
    rw [hl] at h
    have hz : z.2 < b := of_decide_eq_true h
    obtain ⟨ys, rfl⟩ := List.getLast?_eq_some_iff.1 hl
    rcases List.mem_append.1 hq with hq | hq
    · have := (List.pairwise_append.1 hp).2.2 q hq z (by simp)
      omega
    · simp only [List.mem_singleton] at hq
      rw [hq]
      exact hz
theorem sel_asc : ∀ (l : List PI) (ns : List Nat) (w : Nat) (out : List PI), (out.Pairwise fun p q => p.2 < q.2) → (sel w out l ns).Pairwise fun p q => p.2 < q.2
  | [], ns, w, out, h => by rw [sel]; · exact h
                            intro _ _ _ _ h; cases h
  | p :: l, [], w, out, h => by rw [sel]; · exact h
                                intro _ _ _ _ _ h; cases h
  | p :: l, n :: ns, w, out, h => by
    rw [sel]
    split
    · rename_i h2
      refine sel_asc l ns (w - 1) (out ++ [p]) ?_
      rw [List.pairwise_append]
      exact ⟨h, List.pairwise_singleton _ _, fun a ha b hb => by
        simp only [List.mem_singleton] at hb
        rw [hb]
        exact okL_all h2.2 h a ha⟩
    · exact sel_asc l ns w out h
theorem chain_sub (l : List PI) : (chain l).Sublist l := by
  obtain ⟨r, h1, h2⟩ := sel_sub l (lens l) (topN (lens l)) []
  unfold chain
  rw [h1, List.nil_append]
  exact h2
theorem chain_asc (l : List PI) : (chain l).Pairwise fun p q => p.2 < q.2 := sel_asc l _ _ [] List.Pairwise.nil
theorem chainN_I (l : List (Nat × Nat)) : (chainN l).map cI = chain (l.map cI) := by
  unfold chainN
  rw [List.map_map]
  have : ∀ p ∈ chain (l.map cI), (cI ∘ cN) p = p := fun p hp => by
    obtain ⟨q, _, rfl⟩ := List.mem_map.1 ((chain_sub _).subset hp)
    rfl
  rw [List.map_congr_left this, List.map_id']
theorem chainN_sub (l : List (Nat × Nat)) : (chainN l).Sublist l := by
  have h := (chain_sub (l.map cI)).map cN
  rw [List.map_map] at h
  have e : (cN ∘ cI) = (id : Nat × Nat → Nat × Nat) := by funext p; rfl
  rw [e, List.map_id] at h
  exact h
theorem chainN_asc (l : List (Nat × Nat)) : (chainN l).Pairwise fun p q => p.2 < q.2 := by
  have h := chain_asc (l.map cI)
  rw [← chainN_I, List.pairwise_map] at h
  exact h.imp fun {a b} h => by
    have : ((a.2 : Nat) : Int) < (b.2 : Int) := h
    omega
/-- Pairs that rise within bounds, from a place on. -/
def CH (n m : Nat) : Nat → Nat → List (Nat × Nat) → Prop
  | i, k, [] => i ≤ n ∧ k ≤ m
  | i, k, p :: c => (i ≤ p.1 ∧ k ≤ p.2 ∧ p.1 < n ∧ p.2 < m) ∧ CH n m (p.1 + 1) (p.2 + 1) c
theorem CH.of {n m : Nat} : ∀ {i k : Nat} {c : List (Nat × Nat)}, i ≤ n → k ≤ m → (∀ p ∈ c, i ≤ p.1 ∧ k ≤ p.2 ∧ p.1 < n ∧ p.2 < m) → (c.Pairwise fun p q => p.1 < q.1) → (c.Pairwise fun p q => p.2 < q.2) → CH n m i k c
  | i, k, [], h1, h2, _, _, _ => ⟨h1, h2⟩
  | i, k, p :: c, h1, h2, hb, ha, hc => by
    have hp := hb p List.mem_cons_self
    rw [List.pairwise_cons] at ha hc
    refine ⟨hp, CH.of (by omega) (by omega) (fun q hq => ?_) ha.2 hc.2⟩
    have := hb q (List.mem_cons_of_mem _ hq)
    have := ha.1 q hq
    have := hc.1 q hq
    omega
theorem CH_chain (x y : List Int) : CH x.length y.length 0 0 (chainN (once x y)) := by
  have hs := chainN_sub (once x y)
  refine CH.of (Nat.zero_le _) (Nat.zero_le _) (fun p hp => ?_) ((once_asc x y _).sublist hs) (chainN_asc _)
  have := once_mem x y _ p (hs.subset hp)
  omega
def mv (i k : Nat) (l : List (Nat × Nat)) : List (Nat × Nat) := l.map fun p => (p.1 + i, p.2 + k)
def dg (i k n : Nat) : List (Nat × Nat) := (List.range n).map fun j => (i + j, k + j)
def segs (D : List Int → List Int → List (Nat × Nat)) (x y : List Int) : Nat → Nat → List (Nat × Nat) → List (Nat × Nat)
  | i, k, [] => mv i k (D (x.drop i) (y.drop k))
  | i, k, p :: c => mv i k (D ((x.take p.1).drop i) ((y.take p.2).drop k)) ++ p :: segs D x y (p.1 + 1) (p.2 + 1) c
def core (K : List Int → List Int → List (Nat × Nat)) (D : List Int → List Int → List (Nat × Nat)) (x y : List Int) : List (Nat × Nat) :=
  if x = [] ∨ y = [] then [] else if chainN (once x y) = [] then K x y else segs D x y 0 0 (chainN (once x y))
def mid (a : List Int) (f t : Nat) : List Int := (a.take (a.length - t)).drop f
theorem mid_len {a : List Int} {f t : Nat} : (mid a f t).length = a.length - t - f := by
  unfold mid
  rw [List.length_drop, List.length_take]
  omega
/-- What is kept; n: how deep. K: what is kept where nothing stands once. -/
def DPf (K : List Int → List Int → List (Nat × Nat)) : Nat → List Int → List Int → List (Nat × Nat)
  | 0, _, _ => []
  | n + 1, a, b => dg 0 0 (pre a b) ++ mv (pre a b) (pre a b) (core K (DPf K n) (mid a (pre a b) (suf a b)) (mid b (pre a b) (suf a b))) ++ dg (a.length - suf a b) (b.length - suf a b) (suf a b)
theorem segs_congr {D D' : List Int → List Int → List (Nat × Nat)} {x y : List Int} (h : ∀ u v : List Int, u.length + v.length < x.length + y.length → D u v = D' u v) : ∀ (c : List (Nat × Nat)) (i k : Nat), CH x.length y.length i k c → (c ≠ [] ∨ 0 < i) → segs D x y i k c = segs D' x y i k c
  | [], i, k, hc, h0 => by
    rw [segs, segs, h]
    rw [List.length_drop, List.length_drop]
    have := hc.1
    rcases h0 with h0 | h0
    · exact absurd rfl h0
    · omega
  | p :: c, i, k, hc, h0 => by
    obtain ⟨hp, hc⟩ := hc
    rw [segs, segs, segs_congr h c _ _ hc (.inr (by omega)), h]
    rw [List.length_drop, List.length_drop, List.length_take, List.length_take]
    omega
theorem core_congr {K D D' : List Int → List Int → List (Nat × Nat)} {x y : List Int} (h : ∀ u v : List Int, u.length + v.length < x.length + y.length → D u v = D' u v) : core K D x y = core K D' x y := by
  unfold core
  split
  · rfl
  · split
    · rfl
    · rename_i h2
      exact segs_congr h _ 0 0 (CH_chain x y) (.inl h2)
theorem DPf_fuel (K : List Int → List Int → List (Nat × Nat)) : ∀ (n m : Nat) (a b : List Int), a.length + b.length < n → a.length + b.length < m → DPf K n a b = DPf K m a b
  | 0, _, _, _, h, _ => by omega
  | _ + 1, 0, _, _, _, h => by omega
  | n + 1, m + 1, a, b, h1, h2 => by
    rw [DPf, DPf, core_congr]
    intro u v huv
    rw [mid_len, mid_len] at huv
    exact DPf_fuel K n m u v (by omega) (by omega)
def DP (K : List Int → List Int → List (Nat × Nat)) (a b : List Int) : List (Nat × Nat) := DPf K (a.length + b.length + 1) a b
theorem DP_eq (K : List Int → List Int → List (Nat × Nat)) (a b : List Int) : DP K a b = dg 0 0 (pre a b) ++ mv (pre a b) (pre a b) (core K (DP K) (mid a (pre a b) (suf a b)) (mid b (pre a b) (suf a b))) ++ dg (a.length - suf a b) (b.length - suf a b) (suf a b) := by
  conv => lhs; unfold DP
  rw [DPf, core_congr]
  intro u v huv
  rw [mid_len, mid_len] at huv
  exact DPf_fuel K _ _ u v (by omega) (by omega)
end Go.Proofs.Ytbbmkgpgiacdeaa

/-
  A call that waits for the function's end. General; nothing here names a program.
-/
namespace Go.Proofs.Ytbbmkgpgiacdeaa.Zx
open Go.RowKit Zk
set_option linter.unusedVariables false
set_option linter.unusedSimpArgs false
section
variable {P : Program} {N : Nat} {Q : Post} {env : Env} {w : World}
/-- A load in all worlds of a kind. -/
theorem y_ldS {S : World → Prop} {x : Operand} {p : Addr} {v : Value} {lt : TypeId} {d : TypeDesc} {dst : Option Tmp} {ty : TypeId} {pos : String} {after : Array Edge} {g : Option (Nat × Bool)} (hd : P.underlying lt = some d) (hrow : d.isRow = false) (hx : ev env x = some (.pointer (some p))) (hc : ∀ w, S w → w.cell? p = some v) :
    Y P S env ⟨dst, .load lt x, ty, pos, after, g⟩ v := fun N a w' ha hw => by
  simp only [execOp, ha.eval hx, Instr.loadAt, Instr.sureAddr, Sem.run_bind, Sem.run_pure, Result.andThen_ok, run_loadVar1 hd hrow (hc w' hw)]
/-- A guard that was itself passed over. -/
theorem L_gnu {ops : Array Oper} {rest : List Oper} {d : Tmp} {op : Op} {ty : TypeId} {pos : String} {after : Array Edge} {j : Nat} {b : Bool} {t : Tmp}
    (hj : (ops[j]?).bind (·.dst) = some t) (ht : look env t = some undef) (hd : Nat.blt d N = true) (h : L P N ops Q rest ((d, undef) :: env) w) : L P N ops Q (⟨some d, op, ty, pos, after, some (j, b)⟩ :: rest) env w := fun a ha => by
  have h1 := h _ (ha.put d undef hd)
  have hw : yielded ops a.tmps j = none := by
    simp [yielded, hj, ha.vals t _ ht, undef]
  unfold wpList
  have hne : ((none : Option Bool) == some b) = false := by cases b <;> rfl
  simp only [Region.wanted, hw, hne, Bool.false_eq_true, if_false]
  exact h1
/-- A function as the one that waits. -/
def DCalls (P : Program) (f : FuncId) (args : Array Value) (w : World) (R : Ending → World → Prop) : Prop := ∀ u, CallsD P f args u w fun e u' w' => u' = u ∧ R e w'
theorem enterd1 {f : FuncId} {fn : Func} {c : Code} (args : List Value) {R : Ending → World → Prop} (hf : P.funcs[f]? = some fn) (hb : fn.body = some c) (hn : fn.ntmps = N)
    (hN : Nat.ble args.length N = true) (he : envOf args 0 = env) (h : T P N c (bodyQ P fn R) env w) (hd0 : dfs env = [] := by rfl) (hsm : Nat.ble N 1000000 = true := by rfl) : DCalls P f args.toArray w R := by
  intro u
  refine callsD_of_wp hf hb ?_
  have hsm' : N ≤ 1000000 := by simpa using hsm
  have hN' : args.length ≤ N := by simpa using hN
  have hfit : Fits N env { tmps := args.toArray ++ Array.replicate (fn.ntmps - args.toArray.size) undef, defers := [] } := by
    refine ⟨hd0.symm, hsm', by simp [hn]; omega, fun i v hv => ?_⟩
    have h1 : args[i]? = some v := by subst he; simpa using (look_envOf _ _ _ _ hv).2
    have h2 := (List.getElem?_eq_some_iff.1 h1).1
    rw [Array.getElem?_append_left (by simpa using h2)]
    simpa using h1
  refine Code.wp_mono (fun e a w hq => ?_) (h _ hfit)
  cases e with
  | normal =>
    obtain ⟨e', h1, h0, v, h2, h3⟩ := hq
    exact ⟨h1.defers.trans h0, v, h2 N a h1, h3⟩
  | ret =>
    obtain ⟨e', h1, h0, v, h2, h3⟩ := hq
    exact ⟨h1.defers.trans h0, v, h2 N a h1, h3⟩
  | panic c => exact hq.elim
  | outgrown => exact hq.elim
  | exit i => obtain ⟨_, _, h⟩ := hq; exact h.elim
  | goto i => obtain ⟨_, _, h⟩ := hq; exact h.elim
/-- The end of a function that lets calls wait. -/
def bodyQD (P : Program) (fn : Func) (R : Ending → World → Prop) : Post
  | .ret, env, w | .normal, env, w => ∀ N a, Fits N env a → Leaves P fn a.tmps R (dfs env) .returning w
  | _, _, _ => False
theorem enterD1 {f : FuncId} {fn : Func} {c : Code} (args : List Value) {R : Ending → World → Prop} (hf : P.funcs[f]? = some fn) (hb : fn.body = some c) (hn : fn.ntmps = N)
    (hN : Nat.ble args.length N = true) (he : envOf args 0 = env) (h : T P N c (bodyQD P fn R) env w) (hd0 : dfs env = [] := by rfl) (hsm : Nat.ble N 1000000 = true := by rfl) : Calls P f args.toArray w R := by
  refine calls_of_wp_defers hf hb ?_
  have hsm' : N ≤ 1000000 := by simpa using hsm
  have hN' : args.length ≤ N := by simpa using hN
  have hfit : Fits N env { tmps := args.toArray ++ Array.replicate (fn.ntmps - args.toArray.size) undef, defers := [] } := by
    refine ⟨hd0.symm, hsm', by simp [hn]; omega, fun i v hv => ?_⟩
    have h1 : args[i]? = some v := by subst he; simpa using (look_envOf _ _ _ _ hv).2
    have h2 := (List.getElem?_eq_some_iff.1 h1).1
    rw [Array.getElem?_append_left (by simpa using h2)]
    simpa using h1
  refine Code.wp_mono (fun e a w hq => ?_) (h _ hfit)
  cases e with
  | normal =>
    obtain ⟨e', h1, h2⟩ := hq
    have h3 := h2 N a h1
    rw [← h1.defers] at h3
    exact h3
  | ret =>
    obtain ⟨e', h1, h2⟩ := hq
    have h3 := h2 N a h1
    rw [← h1.defers] at h3
    exact h3
  | panic c => exact hq.elim
  | outgrown => exact hq.elim
  | exit i => obtain ⟨_, _, h⟩ := hq; exact h.elim
  | goto i => obtain ⟨_, _, h⟩ := hq; exact h.elim
/-- The end without a waiting call. -/
theorem retd1 {fn : Func} {R : Ending → World → Prop} {t : Tmp} {v : Value} (hr : fn.results = #[.tmp t]) (ht : look env t = some v) (h : R (.returned v) w) (hd0 : dfs env = [] := by rfl) : bodyQD P fn R .ret env w := fun N a ha => by
  rw [hd0]
  exact ⟨v, by rw [results_tmp hr, ha.getD ht], h⟩
/-- The end with one. -/
theorem retD1 {fn gn : Func} {R Rc : Ending → World → Prop} {t : Tmp} {v : Value} {f : FuncId} {args : Array Value} (hr : fn.results = #[.tmp t]) (ht : look env t = some v)
    (hdf : dfs env = [⟨.fn (.func f) #[], args⟩]) (hf : P.funcs[f]? = some gn) (hn : (gn.name == "runtime.NumGoroutine") = false) (hb : gn.body.isNone = false)
    (hc : DCalls P f args w Rc) (h : ∀ e w', Rc e w' → ∃ u, e = .returned u ∧ R (.returned v) w') : bodyQD P fn R .ret env w := fun N a ha => by
  rw [hdf]
  refine leaves_cons (f := f) (args := args) (by simp) ?_ ?_
  · simp only [invoke, callFunc, Sem.run_bind, Sem.run_pure, Result.andThen_ok, run_program, hf, hn, hb, Bool.false_eq_true, if_false, Array.append_empty, Array.empty_append]
  · refine (hc .returning).mono fun e u' w' ⟨hu, hR⟩ => ?_
    subst hu
    obtain ⟨u, rfl, h1⟩ := h e w' hR
    exact ⟨v, by rw [results_tmp hr, ha.getD ht], h1⟩
/-- The call that waits. -/
theorem L_defer {ops : Array Oper} {rest : List Oper} {f : FuncId} {xs : Array Operand} {ts : Array TypeId} {args : List Value} {ty : TypeId} {pos : String} {after : Array Edge}
    (hargs : evl env xs.toList = some args) (h : L P N ops Q rest ((1000000, .agg #[.agg #[.int .i64 (f : Int), .agg args.toArray]]) :: env) w) (hd0 : dfs env = [] := by rfl) :
    L P N ops Q (⟨none, .defer { callee := .value (.func f), args := xs, argTypes := ts }, ty, pos, after, none⟩ :: rest) env w :=
  L_o fun a ha => by
    have hmap : xs.map a.eval = args.toArray := by
      rw [← evl_map ha xs.toList args hargs]
      apply Array.ext'
      simp
    unfold Oper.wp
    have hrun : (execOp a.eval ⟨none, .defer { callee := .value (.func f), args := xs, argTypes := ts }, ty, pos, after, none⟩).run P w = .ok (.defer ⟨.fn (.func f) #[], args.toArray⟩) w := by
      simp only [execOp, resolve, hmap, Act.eval, Deferred.ofValue, Sem.run_bind, Sem.run_pure, Result.andThen_ok, Array.append_empty, Array.empty_append]
    rw [hrun]
    refine ⟨_, ⟨?_, ha.small, ha.size, fun i v hv => ?_⟩, h⟩
    · show _ :: a.defers = _
      rw [ha.defers, hd0]
      rfl
    · simp only [look] at hv
      cases hb : Nat.beq 1000000 i with
      | false =>
        rw [hb] at hv
        exact ha.vals i v hv
      | true =>
        rw [hb] at hv
        cases hv
end
end Go.Proofs.Ytbbmkgpgiacdeaa.Zx

/-
  Calls that turn a piece of the caller's memory; function values; '[]byte(s)'. General; nothing here names a program.
-/
namespace Go.Proofs.Ytbbmkgpgiacdeaa.Zx
open Go.RowKit Zk
set_option linter.unusedVariables false
set_option linter.unusedSimpArgs false
/-- From w to w' only the piece r has changed: it is r' now; and there is new memory. -/
structure Turned (w w' : World) (r r' : Res) : Prop where
  os : w'.os = w.os
  tape : w'.tape = w.tape
  output : w'.output = w.output
  size : w.heap.size ≤ w'.heap.size
  old : ∀ i, i < w.heap.size → ¬ r.dom i → w'.heap[i]? = w.heap[i]?
  holds : r'.holds w'
  dom : ∀ i, r'.dom i → r.dom i ∨ (w.heap.size ≤ i ∧ i < w'.heap.size)
/-- Two pieces as one. -/
def both (r s : Res) : Res where
  dom i := r.dom i ∨ s.dom i
  holds w := r.holds w ∧ s.holds w
  stable w w' h hh := ⟨r.stable w w' (fun i hi => h i (.inl hi)) hh.1, s.stable w w' (fun i hi => h i (.inr hi)) hh.2⟩
section
variable {w0 w w' : World} {M : Nat → Prop} {rs : List Res}
theorem St.turn (S : St w0 M rs w) (k : Nat) {r r' : Res} (hk : rs[k]? = some r) (h : Turned w w' r r') : St w0 M (rs.set k r') w' :=
  S.upd k hk h.os h.tape h.output h.size h.old h.holds h.dom
theorem Turned.refl {w : World} {r : Res} (h : r.holds w) : Turned w w r r := ⟨rfl, rfl, rfl, Nat.le_refl _, fun _ _ _ => rfl, h, fun i hi => .inl hi⟩
theorem Turned.like {r : Res} (l : Like w w') (h : r.holds w) (hd : ∀ i, r.dom i → i < w.heap.size) : Turned w w' r r :=
  ⟨l.os, l.tape, l.output, l.size, fun i hi _ => l.block i hi, r.stable w w' (fun i hi => l.block i (hd i hi)) h, fun i hi => .inl hi⟩
/-- A piece that the callee turned, and one that it made. -/
theorem St.newT (S : St w0 M rs w) (k : Nat) {r r' : Res} (hk : rs[k]? = some r) (h : Turned w w' r r') (hdom : ∀ i, r'.dom i → r.dom i) {new : Res} (hn : new.holds w') (hd : ∀ i, new.dom i → w.heap.size ≤ i ∧ i < w'.heap.size) : St w0 M (rs.set k r' ++ [new]) w' := by
  have S' := S.turn k hk h
  have hin : ∀ q ∈ rs.set k r', ∀ i, q.dom i → i < w.heap.size := fun q hq i hi => by
    rcases List.mem_or_eq_of_mem_set hq with hq | rfl
    · exact ((S.res q hq).2 i hi).1
    · exact ((S.res r (List.mem_of_getElem? hk)).2 i (hdom i hi)).1
  refine ⟨S'.os, S'.tape, S'.output, S'.size, S'.old, fun q hq => ?_, ?_⟩
  · rcases List.mem_append.1 hq with hq | hq
    · exact S'.res q hq
    · obtain rfl := List.mem_singleton.1 hq
      exact ⟨hn, fun i hi => ⟨(hd i hi).2, .inl (Nat.le_trans S.size (hd i hi).1)⟩⟩
  · rw [List.pairwise_append]
    refine ⟨S'.apart, List.pairwise_singleton _ _, fun q hq s hs i hi hsi => ?_⟩
    obtain rfl := List.mem_singleton.1 hs
    have h1 := hin q hq i hi
    have h2 := (hd i hsi).1
    omega
/-- The callee's start: two pieces that it may write to. -/
theorem St.borrow2 (r s : Res) (hr : r.holds w) (hs : s.holds w) (hd : ∀ i, r.dom i ∨ s.dom i → i < w.heap.size) (hap : ∀ i, r.dom i → ¬ s.dom i) : St w (fun i => r.dom i ∨ s.dom i) [r, s] w :=
  ⟨rfl, rfl, rfl, Nat.le_refl _, fun _ _ _ => rfl, fun q hq => by
    rcases List.mem_cons.1 hq with rfl | hq
    · exact ⟨hr, fun i hi => ⟨hd i (.inl hi), .inr (.inl hi)⟩⟩
    · obtain rfl := List.mem_singleton.1 hq
      exact ⟨hs, fun i hi => ⟨hd i (.inr hi), .inr (.inr hi)⟩⟩, List.pairwise_cons.2 ⟨fun s' hs' => by obtain rfl := List.mem_singleton.1 hs'; exact hap, List.pairwise_singleton _ _⟩⟩
theorem St.borrow1 (r : Res) (hr : r.holds w) (hd : ∀ i, r.dom i → i < w.heap.size) : St w r.dom [r] w :=
  ⟨rfl, rfl, rfl, Nat.le_refl _, fun _ _ _ => rfl, fun q hq => by
    obtain rfl := List.mem_singleton.1 hq
    exact ⟨hr, fun i hi => ⟨hd i hi, .inr hi⟩⟩, List.pairwise_singleton _ _⟩
/-- The callee's end. -/
theorem St.turned1 {r : Res} (S : St w0 r.dom rs w) (k : Nat) {r' : Res} (hk : rs[k]? = some r') : Turned w0 w r r' :=
  ⟨S.os, S.tape, S.output, S.size, S.old, S.get k hk, fun i hi => by
    have h := (S.res r' (List.mem_of_getElem? hk)).2 i hi
    rcases h.2 with h2 | h2
    · exact .inr ⟨h2, h.1⟩
    · exact .inl h2⟩
theorem St.turned2 {r s : Res} (S : St w0 (fun i => r.dom i ∨ s.dom i) rs w) (j k : Nat) {r' s' : Res} (hj : rs[j]? = some r') (hk : rs[k]? = some s') : Turned w0 w (both r s) (both r' s') :=
  ⟨S.os, S.tape, S.output, S.size, S.old, ⟨S.get j hj, S.get k hk⟩, fun i hi => by
    have h : i < w.heap.size ∧ (w0.heap.size ≤ i ∨ (r.dom i ∨ s.dom i)) := by
      rcases hi with hi | hi
      · exact (S.res r' (List.mem_of_getElem? hj)).2 i hi
      · exact (S.res s' (List.mem_of_getElem? hk)).2 i hi
    rcases h.2 with h2 | h2
    · exact .inr ⟨h2, h.1⟩
    · exact .inl h2⟩
/-- A piece's blocks are there. -/
theorem St.lt (S : St w0 M rs w) (k : Nat) {r : Res} (hk : rs[k]? = some r) : ∀ i, r.dom i → i < w.heap.size := fun i hi => ((S.res r (List.mem_of_getElem? hk)).2 i hi).1
/-- Two of the list are apart. -/
theorem St.apart_ (S : St w0 M rs w) (i j : Nat) {r s : Res} (hi : rs[i]? = some r) (hj : rs[j]? = some s) (hij : Nat.beq i j = false) : ∀ x, r.dom x → ¬ s.dom x := fun x hx hsx => by
  have hap := List.pairwise_iff_getElem.1 S.apart
  obtain ⟨hil, hie⟩ := List.getElem?_eq_some_iff.1 hi
  obtain ⟨hjl, hje⟩ := List.getElem?_eq_some_iff.1 hj
  have hne : i ≠ j := fun e => by subst e; simp at hij
  rcases Nat.lt_or_gt_of_ne hne with h | h
  · exact hap i j hil hjl h x (by rw [hie]; exact hx) (by rw [hje]; exact hsx)
  · exact hap j i hjl hil h x (by rw [hje]; exact hsx) (by rw [hie]; exact hx)
/-- Two pieces of the list become one (at the end of the list). -/
theorem St.join {r s : Res} (S : St w0 M [r, s] w) : St w0 M [both r s] w :=
  ⟨S.os, S.tape, S.output, S.size, S.old, fun q hq => by
    obtain rfl := List.mem_singleton.1 hq
    have h1 := S.res r (by simp)
    have h2 := S.res s (by simp)
    exact ⟨⟨h1.1, h2.1⟩, fun i hi => by rcases hi with hi | hi; exact h1.2 i hi; exact h2.2 i hi⟩, List.pairwise_singleton _ _⟩
end
section
variable {P : Program} {S : World → Prop} {env : Env} {w w0 : World} {M : Nat → Prop} {rs : List Res} {N : Nat} {Q : Post} {K : Env → World → Prop} {dst : Option Tmp} {d : Tmp} {ty : TypeId} {pos : String} {after : Array Edge} {g : Option (Nat × Bool)}
/-- A function value with what it has of its own. -/
theorem y_makeFunc {fn : Fn} {first captured : Array Operand} {fs cs : List Value} (hf : evl env first.toList = some fs) (hc : evl env captured.toList = some cs) : Y P S env ⟨dst, .makeFunc fn first captured, ty, pos, after, g⟩ (.func fn fs.toArray cs.toArray) := fun N a w ha _ => by
  have e1 : first.map a.eval = fs.toArray := by
    rw [← evl_map ha first.toList fs hf]
    apply Array.ext'
    simp
  have e2 : captured.map a.eval = cs.toArray := by
    rw [← evl_map ha captured.toList cs hc]
    apply Array.ext'
    simp
  simp only [execOp, e1, e2, Instr.makeFunc, Sem.run_bind, Sem.run_pure, Result.andThen_ok]
/-- A call of a function value. -/
theorem o_callv {f : FuncId} {fn : Func} {v : Operand} {xs : Array Operand} {ts : Array TypeId} {fs cs vs args : List Value} {R : Ending → World → Prop} (hv : ev env v = some (.func (.func f) fs.toArray cs.toArray)) (hf : P.funcs[f]? = some fn) (hn : (fn.name == "runtime.NumGoroutine") = false) (hb : fn.body.isNone = false)
    (hc : Calls P f args.toArray w R) (hargs : evl env xs.toList = some vs) (hall : fs ++ vs ++ cs = args) (hd : ∀ d', dst = some d' → Nat.blt d' N = true)
    (h : ∀ e w', R e w' → ∃ u, e = .returned u ∧ K (match dst with | some d' => (d', u) :: env | none => env) w') :
    O P N Q ⟨dst, .call { callee := .value v, args := xs, argTypes := ts }, ty, pos, after, g⟩ env w K := fun a ha => by
  have hmap : xs.map a.eval = vs.toArray := by
    rw [← evl_map ha xs.toList vs hargs]
    apply Array.ext'
    simp
  unfold Oper.wp
  have hrun : (execOp a.eval ⟨dst, .call { callee := .value v, args := xs, argTypes := ts }, ty, pos, after, g⟩).run P w = .ok (.enter f args.toArray) w := by
    simp only [execOp, resolve, hmap, ha.eval hv, Deferred.ofValue, invoke, callFunc, Sem.run_bind, Sem.run_pure, Result.andThen_ok, run_program, hf, hn, hb, Bool.false_eq_true, if_false]
    rw [← hall]
    simp
  rw [hrun]
  refine hc.mono fun e w' hR => ?_
  obtain ⟨u, rfl, hK⟩ := h e w' hR
  cases dst with
  | none => exact ⟨env, ha, hK⟩
  | some d' => exact ⟨_, ha.put d' u (hd d' rfl), hK⟩
/-- '[]byte(s)' -/
theorem o_sbytes {src dt e : TypeId} {x : Operand} {s : ByteArray} (hs : P.underlying src = some .string) (hd : P.underlying dt = some (.slice e)) (he : P.underlying e = some (.int .u8)) (hx : ev env x = some (.string s)) (hlen : s.size ≤ 4611686018427387904) (S : St w0 M rs w) (hdN : Nat.blt d N = true)
    (h : ∀ b c w', Like w w' → St w0 M (rs ++ [fixed 1 (some ⟨b, 0, none⟩) s.size c (bL s.data.toList)]) w' → K ((d, .slice (some ⟨b, 0, none⟩) s.size c) :: env) w') :
    O P N Q ⟨some d, .convert src dt x, ty, pos, after, g⟩ env w K := fun a ha => by
  have hr := run_bytes_of_string (P := P) w src dt e s hs hd he
  have hcap := grownCap_ge w s.size 0 e
  have hmax := grownCap_le_maxLen w s.size 0 e (by unfold maxLen; omega)
  generalize grownCap w s.size 0 e = cap at *
  generalize hC : bytesRow s cap = C at *
  have hl : Like w (w.drew.alloc (.cells C e (C.size, C.size + 1))) := Like.trans (Like.drew w) (like_alloc _ _)
  have hblk : (w.drew.alloc (.cells C e (C.size, C.size + 1))).heap[w.heap.size]? = some (.cells C e (C.size, C.size + 1)) := heap_alloc_new w.drew _
  unfold Oper.wp execOp
  simp only [ha.eval hx, Sem.run_bind, hr, Result.andThen_ok, Sem.run_pure]
  refine ⟨_, ha.put d _ hdN, h _ _ _ hl (S.new hl _ ⟨⟨by simp [size_toList], fun h0 => ⟨_, rfl, (Array.getElem?_eq_some_iff.1 hblk).1, fun j u hu => ?_⟩⟩, hcap, by unfold maxLen at hmax; exact hmax⟩ fun i ⟨ad, _, hA, hi⟩ => ?_)⟩
  · rw [Addr.add_mid, cell_of_row _ _ _ C e _ hblk, Nat.zero_add, ← hC]
    have hj : j < s.data.toList.length := by have := (List.getElem?_eq_some_iff.1 hu).1; simpa using this
    have hj2 : j < s.data.size := by simpa using hj
    unfold bytesRow
    rw [Array.getElem?_append_left (by simpa using hj2), ← hu]
    simp [bL]
    rfl
  · cases hA
    subst hi
    exact ⟨Nat.le_refl _, (Array.getElem?_eq_some_iff.1 hblk).1⟩
/-- 'make', what was there unchanged. -/
theorem o_makeL {t e : TypeId} {z : Value} {bytes : Nat} {x y : Operand} {k k' : IntKind} {jn jc : Int} {n c : Nat} (TE : Elem P t e z 1 bytes) (hone : z.oneCell' = true) (S : St w0 M rs w) (hx : ev env x = some (.int k jn)) (hy : ev env y = some (.int k' jc)) (hn : Nt jn n) (hc : Nt jc c) (hd : Nat.blt d N = true)
    (hnc : n ≤ c) (hbytes : c * bytes ≤ 281474976710656) (hcm : c ≤ 9223372036854775807)
    (h : ∀ b w', Like w w' → St w0 M (rs ++ [row e 1 (some ⟨b, 0, none⟩) n c (List.replicate n z)]) w' → K ((d, .slice (some ⟨b, 0, none⟩) n c) :: env) w') :
    O P N Q ⟨some d, .makeSlice t x y, ty, pos, after, g⟩ env w K := fun a ha => by
  have e1 := hn.eq
  have e2 := hc.eq
  subst e1; subst e2
  obtain ⟨i, hi, hz', hsize, hby⟩ := info_parts TE.hi
  have hb : (i.bytes : Int) * (c : Int) ≤ 281474976710656 := by
    have h : ((i.bytes * c : Nat) : Int) ≤ 281474976710656 := by rw [hby, Nat.mul_comm]; omega
    rwa [Int.natCast_mul] at h
  have hr := run_make (P := P) w t e i z TE.ht hi hz' k k' n c (by omega) (by omega) hb (by omega)
  simp only [Int.toNat_natCast] at hr
  unfold Oper.wp execOp
  simp only [ha.eval hx, ha.eval hy, Sem.run_bind, hr, Result.andThen_ok, Sem.run_pure]
  have hzc : z.cells.size = 1 := TE.hzs
  have hcells : madeCells z.cells (c * i.size) = Array.replicate c z := by
    rw [hsize, Nat.mul_one, cells_one hone]
    apply Array.ext
    · simp [madeCells]
    · intro j h1 h2
      simp [madeCells, Nat.mod_one]
  refine ⟨_, ha.put d _ hd, h _ _ (like_alloc w _) (S.new (like_alloc w _) _ ?_ fun i hi => ?_)⟩
  · refine ⟨by simp, .inr ⟨w.heap.size, c, _, rfl, Nat.zero_le _, heap_alloc_new w _, hnc, by unfold maxLen; omega, ?_, ?_⟩⟩
    · rw [hcells]; simp
    · rw [hcells, Nat.mul_one]
      simp [hnc]
  · change (Value.slice (some ⟨w.heap.size, 0, none⟩) n c).ownBlock = some i at hi
    simp only [Value.ownBlock, Option.some.injEq] at hi
    subst hi
    exact ⟨Nat.le_refl _, by simp⟩
end
section
variable {w0 w : World} {M : Nat → Prop} {rs : List Res}
/-- The last two pieces as one. -/
theorem St.join2 {r s : Res} (S : St w0 M (rs ++ [r, s]) w) : St w0 M (rs ++ [both r s]) w :=
  ⟨S.os, S.tape, S.output, S.size, S.old, fun q hq => by
    rcases List.mem_append.1 hq with hq | hq
    · exact S.res q (List.mem_append_left _ hq)
    · obtain rfl := List.mem_singleton.1 hq
      have h1 := S.res r (by simp)
      have h2 := S.res s (by simp)
      exact ⟨⟨h1.1, h2.1⟩, fun i hi => by rcases hi with hi | hi; exact h1.2 i hi; exact h2.2 i hi⟩, by
    have h := S.apart
    rw [List.pairwise_append] at h ⊢
    refine ⟨h.1, List.pairwise_singleton _ _, fun a ha b hb i hi => ?_⟩
    obtain rfl := List.mem_singleton.1 hb
    intro hx
    rcases hx with hx | hx
    · exact h.2.2 a ha r (by simp) i hi hx
    · exact h.2.2 a ha s (by simp) i hi hx⟩
theorem old_block {size n c : Nat} {A : Option Addr} {xs : List Value} (h : Rs w size A n c xs) {ad : Addr} (hn : 0 < n) (hA : A = some ad) : ad.block < w.heap.size := by
  obtain ⟨ad', hA', hb, _⟩ := h.rd.2 hn
  rw [hA] at hA'
  cases hA'
  exact hb
end
end Go.Proofs.Ytbbmkgpgiacdeaa.Zx

/-
  Maps that the call makes: integer elements. General; nothing here names a program.
-/
namespace Go.Proofs.Ytbbmkgpgiacdeaa.Zx
open Go.RowKit Zk
set_option linter.unusedVariables false
set_option linter.unusedSimpArgs false
abbrev DU := DataW Unit
/-- A map of the call's own that reads as D. -/
def mapR (P : Program) (k e : TypeId) (b n : Nat) (D : DU) : Res where
  dom i := i = b
  holds w := w.ownsMap P k (plainElem P e) b n D
  stable w w' h hh := by
    obtain ⟨es, clock, hb, rest⟩ := hh
    exact ⟨es, clock, (h b rfl).trans hb, rest⟩
/-- The same while a loop goes through it. -/
def rngR (P : Program) (k e : TypeId) (b r n : Nat) (D : DU) (left : Lit → Bool) (cnt : Nat) : Res where
  dom i := i = b ∨ i = r
  holds w := w.ranges P k (plainElem P e) b r n D left cnt
  stable w w' h hh := by
    obtain ⟨es, clock, since, seen, c0, hb, F, hs, hD, hr, rest⟩ := hh
    exact ⟨es, clock, since, seen, c0, (h b (.inl rfl)).trans hb, F, hs, hD, (h r (.inr rfl)).trans hr, rest⟩
section
variable {P : Program} {w w' w0 : World} {M : Nat → Prop} {rs : List Res} {k e : TypeId}
/-- Old memory that the call does not write to. -/
theorem St.keepM (S : St w0 M rs w) {r : Res} (h : r.holds w0) (hd : ∀ i, r.dom i → i < w0.heap.size) (hM : ∀ i, r.dom i → ¬ M i) : r.holds w := r.stable w0 w (fun i hi => S.old i (hd i hi) (hM i hi)) h
theorem mapR_lt {b n : Nat} {D : DU} (h : (mapR P k e b n D).holds w) : ∀ i, (mapR P k e b n D).dom i → i < w.heap.size := fun i hi => by
  have hi' : i = b := hi
  subst hi'
  exact World.ownsMap.lt h
/-- A map that is not written goes on being a map. -/
theorem St.maps (S : St w0 M rs w) (j : Nat) {b r n cnt : Nat} {D : DU} {left : Lit → Bool} (hj : rs[j]? = some (rngR P k e b r n D left cnt)) : St w0 M (rs.set j (mapR P k e b n D)) w :=
  S.upd j hj rfl rfl rfl (Nat.le_refl _) (fun _ _ _ => rfl) (World.ranges.owns (S.get j hj)) fun i hi => .inl (.inl hi)
end
section
variable {P : Program} {N : Nat} {Q : Post} {env : Env} {w w0 : World} {M : Nat → Prop} {rs : List Res} {K : Env → World → Prop} {d : Tmp} {dst : Option Tmp} {ty : TypeId} {pos : String} {after : Array Edge} {g : Option (Nat × Bool)}
/-- 'make(map[K]V)' -/
theorem o_makeMap {t k e : TypeId} (S : St w0 M rs w) (hd : Nat.blt d N = true)
    (h : ∀ b w', w0.heap.size ≤ b → St w0 M (rs ++ [mapR P k e b 0 (.map [])]) w' → K ((d, .map (some b)) :: env) w') :
    O P N Q ⟨some d, .makeMap t none, ty, pos, after, g⟩ env w K := fun a ha => by
  unfold Oper.wp execOp
  simp only [run_makeMap, Option.map_none, Sem.run_bind, Sem.run_pure, Result.andThen_ok]
  refine ⟨_, ha.put d _ hd, h _ _ S.size (S.new (like_alloc w _) _ (World.ownsMap_made w P k (plainElem P e)) fun i hi => ?_)⟩
  have hi' : i = w.heap.size := hi
  subst hi'
  exact ⟨Nat.le_refl _, (World.ownsMap_made (H := Unit) w P k (plainElem P e)).lt⟩
/-- 'm[k]' -/
theorem y_look {t k e : TypeId} {q : IntKind} {b n : Nat} {D : DU} {m x : Operand} {key : Value} {kl : Lit} {c : Int} (hown : w.ownsMap P k (plainElem P e) b n D) (KY : Maps.Keyed P k) (ht : P.underlying t = some (.map k e)) (he : P.underlying e = some (.int q))
    (hz : ∀ w, (zeroValue e).run P w = .ok (.int q 0) w) (hm : ev env m = some (.map (some b))) (hx : ev env x = some key) (hkey : keyOf P k key = some kl) (hc : D.atKey kl (.lit (.int q 0)) = .lit (.int q c)) :
    Y P (Like w) env ⟨dst, .lookup t m x false, ty, pos, after, g⟩ (.int q c) := fun N a w' ha hw => by
  have h2 : w'.ownsMap P k (plainElem P e) b n D := (mapR P k e b n D).stable w w' (fun i hi => by have hi' : i = b := hi; subst hi'; exact hw.block i hown.lt) hown
  obtain ⟨c', hrun, hat, _⟩ := h2.lookup_int KY ht he (hz w') hkey
  rw [hc] at hat
  simp only [DataW.lit.injEq, Lit.int.injEq, true_and] at hat
  subst hat
  simp only [execOp, ha.eval hm, ha.eval hx, Sem.run_bind, hrun, Sem.run_pure, Result.andThen_ok]
/-- 'm[k] = v' -/
theorem o_mapUp {t k e : TypeId} {q : IntKind} {b n : Nat} {D : DU} {m x v : Operand} {key : Value} {kl : Lit} {c : Int} (S : St w0 M rs w) (j : Nat) (hj : rs[j]? = some (mapR P k e b n D)) (KY : Maps.Keyed P k) (ht : P.underlying t = some (.map k e)) (he : P.underlying e = some (.int q))
    (hm : ev env m = some (.map (some b))) (hx : ev env x = some key) (hv : ev env v = some (.int q c)) (hkey : keyOf P k key = some kl) (hn : n < 9223372036854775807) (hw : (Lit.int q c).wf = true)
    (h : ∀ w', St w0 M (rs.set j (mapR P k e b (n + 1) (D.put kl (.lit (.int q c))))) w' → K env w') :
    O P N Q ⟨none, .mapUpdate t m x v, ty, pos, after, g⟩ env w K := fun a ha => by
  have hown : w.ownsMap P k (plainElem P e) b n D := S.get j hj
  obtain ⟨w', hrun, h1, h2⟩ := hown.update KY ht (by unfold maxLen; exact hn) hkey (plainElem_int (H := Unit) he hw)
  unfold Oper.wp
  simp only [execOp, ha.eval hm, ha.eval hx, ha.eval hv, Sem.run_bind, hrun, Sem.run_pure, Result.andThen_ok]
  refine ⟨env, ha, h w' (S.upd j hj h2.os h2.tape h2.output h2.size (fun i hi hn => h2.block i hi fun e => hn ?_) h1 fun i hi => .inl hi)⟩
  injection e with e
/-- 'range m' -/
theorem o_range {t k e : TypeId} {b n : Nat} {D : DU} {m : Operand} (S : St w0 M rs w) (j : Nat) (hj : rs[j]? = some (mapR P k e b n D)) (KY : Maps.Keyed P k) (ht : P.underlying t = some (.map k e)) (hm : ev env m = some (.map (some b))) (hd : Nat.blt d N = true)
    (h : ∀ r w', St w0 M (rs.set j (rngR P k e b r n D (Maps.has D) (Maps.size D))) w' → K ((d, .pointer (some ⟨r, 0, none⟩)) :: env) w') :
    O P N Q ⟨some d, .range t m, ty, pos, after, g⟩ env w K := fun a ha => by
  have hown : w.ownsMap P k (plainElem P e) b n D := S.get j hj
  obtain ⟨w', hrun, h1, h2, h3⟩ := hown.range KY ht
  unfold Oper.wp
  simp only [execOp, ha.eval hm, Sem.run_bind, hrun, Sem.run_pure, Result.andThen_ok]
  refine ⟨_, ha.put d _ hd, h _ w' (S.upd j hj h2.os h2.tape h2.output h2.size (fun i hi hn => h2.block i hi (by simp)) h1 fun i hi => ?_)⟩
  rcases hi with hi | hi
  · exact .inl hi
  · subst hi
    exact .inr ⟨Nat.le_refl _, by omega⟩
/-- The step: string keys, integer elements. -/
theorem o_next {k e : TypeId} {q : IntKind} {b r n cnt : Nat} {D : DU} {left : Lit → Bool} {it : Operand} (S : St w0 M rs w) (j : Nat) (hj : rs[j]? = some (rngR P k e b r n D left cnt)) (KY : Maps.Keyed P k) (hk : P.underlying k = some .string) (he : P.underlying e = some (.int q))
    (hit : ev env it = some (.pointer (some ⟨r, 0, none⟩))) (hd : Nat.blt d N = true)
    (h0 : (∀ kl, left kl = false) → K ((d, .tuple #[.bool false]) :: env) w)
    (h1 : ∀ (s : ByteArray) (c : Int) (cnt' : Nat) w', left (.string s.data.toList) = true → (∀ zd, D.atKey (.string s.data.toList) zd = .lit (.int q c)) → s.size ≤ maxLen → cnt' < cnt →
      St w0 M (rs.set j (rngR P k e b r n D (fun z => left z && !z.sameKey (.string s.data.toList)) cnt')) w' → (Instr.entry (.pointer (some ⟨r, 0, none⟩))).run P w' = .ok (.tuple #[.string s, .int q c]) w' →
      K ((d, .tuple #[.bool true, .string s, .int q c]) :: env) w') :
    O P N Q ⟨some d, .next it false, ty, pos, after, g⟩ env w K := fun a ha => by
  have hr : w.ranges P k (plainElem P e) b r n D left cnt := S.get j hj
  unfold Oper.wp
  rcases hr.next KY ty with ⟨_, hl, hrun⟩ | ⟨key, v, kl, y, w', cnt', hkey, hlk, hv, hat, hrun, hrg, hlt, hgr, hsz, hen⟩
  · simp only [execOp, ha.eval hit, Sem.run_bind, hrun, Sem.run_pure, Result.andThen_ok]
    exact ⟨_, ha.put d _ hd, h0 hl⟩
  · obtain ⟨c, rfl, hy, hwc⟩ := plainElem_int_inv he hv
    obtain ⟨s, rfl, rfl, hs⟩ : ∃ s : ByteArray, key = .string s ∧ kl = .string s.data.toList ∧ s.size ≤ maxLen := by
      cases key <;> simp [keyOf, hk, mapKey] at hkey
      exact ⟨_, rfl, hkey.2.symm, hkey.1⟩
    simp only [execOp, ha.eval hit, Sem.run_bind, hrun, Sem.run_pure, Result.andThen_ok]
    refine ⟨_, ha.put d _ hd, h1 s c cnt' w' hlk (fun zd => by rw [hat zd, hy]) hs hlt (S.upd j hj hgr.os hgr.tape hgr.output hgr.size (fun i hi hn => hgr.block i hi fun e => hn (.inr (by injection e))) hrg fun i hi => .inl hi) hen⟩
/-- The round's key and element. -/
theorem o_entry {it : Operand} {r : Nat} {u v : Value} (hit : ev env it = some (.pointer (some ⟨r, 0, none⟩))) (hen : (Instr.entry (.pointer (some ⟨r, 0, none⟩))).run P w = .ok (.tuple #[u, v]) w) (hd : Nat.blt d N = true)
    (h : K ((d, .tuple #[u, v]) :: env) w) : O P N Q ⟨some d, .entry it, ty, pos, after, g⟩ env w K := fun a ha => by
  unfold Oper.wp
  simp only [execOp, ha.eval hit, Sem.run_bind, hen, Sem.run_pure, Result.andThen_ok]
  exact ⟨_, ha.put d _ hd, h⟩
/-- 'x[k].f = v' in a row of the call's own. -/
theorem o_strowN {st : TypeId} {x y : Operand} {e size n c k : Nat} {A : Option Addr} {xs : List Value} {v : Value} (S : St w0 M rs w) (i : Nat) (hk : rs[i]? = some (row e size A n c xs)) (hx : ev env x = some (pRF A k)) (hy : ev env y = some v)
    (hv : v.oneCell' = true) (hsz : (P.info? st).map (·.size) = some 1) (hkn : k < n * size)
    (h : ∀ w', St w0 M (rs.set i (row e size A n c (xs.set k v))) w' → K env w') : O P N Q ⟨none, .store st x y, ty, pos, after, g⟩ env w K := fun a ha => by
  have hown : w.ownsRow 0 e size (.slice A n c) n xs := S.get i hk
  have hn0 : 0 < n := by
    rcases Nat.eq_zero_or_pos n with h0 | h0
    · subst h0; simp at hkn
    · exact h0
  obtain ⟨b, cap, hv', _, hlt⟩ := hown.form hn0
  injection hv' with hA _ hcap
  subst hA; subst hcap
  have hxa : a.eval x = .pointer (some ⟨b, k, none⟩) := by
    rw [ha.eval hx]
    simp [pRF, Addr.add_mid]
  have hxl : xs.length = n * size := hown.1
  have hc : w.cell? ⟨b, k, none⟩ = some (xs[k]'(by omega)) := (hown.cellAt k (by omega)).trans (List.getElem?_eq_getElem (by omega))
  have hf : w.frozen? ⟨b, k, none⟩ = false := hown.frozenAt k
  have hr : (storeVar st ⟨b, k, none⟩ v).run P w = .ok () (w.setCell ⟨b, k, none⟩ v) := by
    simp only [storeVar, Sem.run_bind, sizeOf_run hsz, cells_one hv, Result.andThen_ok]
    simp [storeCells, hv, stored, hc, hf, run_store, go_sem]
  unfold Oper.wp execOp
  simp only [hxa, ha.eval hy, Instr.storeAt, Instr.sureAddr, Sem.run_bind, Sem.run_pure, Result.andThen_ok, hr]
  refine ⟨env, ha, h _ (S.upd i hk rfl rfl rfl (by simp) (fun j hj hn => Below.heap_setCell w ⟨b, k, none⟩ v j (fun e => hn (by simp [row, Value.ownBlock, e]))) ?_ fun j hj => .inl hj)⟩
  exact (hown.stored k v).1
end
end Go.Proofs.Ytbbmkgpgiacdeaa.Zx

/-
  Appends onto a row of the call's own, where the old slice is still read afterwards. General; nothing here names a program.
-/
namespace Go.Proofs.Ytbbmkgpgiacdeaa.Zx
open Go.RowKit Zk
set_option linter.unusedVariables false
set_option linter.unusedSimpArgs false
section
variable {P : Program} {t e : TypeId} {z : Value} {size bytes : Nat}
theorem own_weak {w : World} {base : Nat} {v : Value} {n : Nat} {xs : List Value} (h : w.ownsRow base e size v n xs) : w.ownsRow 0 e size v n xs :=
  ⟨h.1, h.2.imp id fun ⟨g, cap, cur, a, _, c⟩ => ⟨g, cap, cur, a, Nat.zero_le _, c⟩⟩
theorem run_append_keep (w : World) (T : Elem P t e z size bytes) {A : Option Addr} {n c : Nat} {xs : List Value} (hown : w.ownsRow 0 e size (.slice A n c) n xs)
    {A' : Option Addr} {m c' : Nat} {news : List Value} (hr : Rs w size A' m c' news) (h1 : ∀ u ∈ news, u.oneCell' = true) (h63 : n + m ≤ maxLen) (hbytes : (n + m) * bytes ≤ 140737488355328) (ty : TypeId) :
    ∃ A2 c2 w', (Builtin.append_ #[t, t] ty #[.slice A n c, .slice A' m c']).run P w = .ok (.slice A2 (n + m) c2) w' ∧ w'.ownsRow 0 e size (.slice A2 (n + m) c2) (n + m) (xs ++ news) ∧ w.grownBy w' (Value.slice A n c).ownBlock ∧
      ((Value.slice A2 (n + m) c2).ownBlock = (Value.slice A n c).ownBlock ∨ ∀ i, (Value.slice A2 (n + m) c2).ownBlock = some i → w.heap.size ≤ i) ∧ Rs w' size A n c xs := by
  obtain ⟨i, hi, hz, hsize, hby⟩ := info_parts T.hi
  have hold := rs_of_row hown
  have hol := hold.len
  rcases Nat.eq_zero_or_pos n with hn | hn
  · obtain ⟨v', w', hrun, h2, h3, h4⟩ := run_append_any w 0 t ty e i z size bytes T.ht hi hz hsize hby T.hzs T.hsz _ n xs hown _ A' m c' news hr.rd h1 h63 hbytes (Nat.zero_le _)
    obtain ⟨A2, c2, rfl⟩ := own_form h2
    exact ⟨A2, c2, w', hrun, h2, h3, h4.imp id (fun e i hi => by rw [e] at hi; cases hi; exact Nat.le_refl _), ⟨hol, fun h => absurd h (by omega)⟩, hold.cap, hold.max⟩
  · obtain ⟨g, cap, hv, _, hlt⟩ := hown.form hn
    cases hv
    rcases A' with _ | ad
    · have hm : m = 0 := by
        rcases Nat.eq_zero_or_pos m with h0 | h0
        · exact h0
        · obtain ⟨ad, h, _⟩ := hr.rd.2 h0
          cases h
      subst hm
      have hn : news = [] := List.eq_nil_of_length_eq_zero (by simpa using hr.len)
      subst hn
      exact ⟨_, _, w, run_append_of_nil w 0 t ty e i size T.ht hi _ n xs hown c', by simpa using hown, World.grownBy.refl w _, .inl rfl, hold⟩
    · have hcells : ∀ j u, news[j]? = some u → w.cell? (ad.add j) = some u := by
        intro j u hu
        rcases Nat.eq_zero_or_pos m with h0 | h0
        · subst h0
          have hn : news = [] := List.eq_nil_of_length_eq_zero (by simpa using hr.len)
          subst hn
          simp at hu
        · obtain ⟨ad', h, _, hc⟩ := hr.rd.2 h0
          injection h with h
          subst h
          exact hc j u hu
      by_cases hroom : n + m ≤ c
      · obtain ⟨w', hrun, h2, h3⟩ := run_append_fits (P := P) w 0 t ty e i size T.ht hi hsize g n c xs hown ad m c' news hr.len hcells h1 hroom
        refine ⟨_, _, w', hrun, h2, h3, .inl rfl, ⟨hol, fun hp => ?_⟩, hold.cap, hold.max⟩
        obtain ⟨ad2, hA, hb, hc⟩ := (rs_of_row h2).rd.2 (by omega)
        exact ⟨ad2, hA, hb, fun j u hu => hc j u (by rw [List.getElem?_append_left (List.getElem?_eq_some_iff.1 hu).1]; exact hu)⟩
      · obtain ⟨ad2, hA, hb, hc⟩ := hold.rd.2 hn
        cases hA
        obtain ⟨v', w', hrun, h2, h3⟩ := run_append_arg_grows (P := P) w t ty e i z size bytes T.ht hi hz hsize hby T.hzs T.hsz ⟨g, 0, none⟩ n c xs hol hc ad m c' news hr.len hcells (by omega) h63 hbytes
        obtain ⟨A2, c2, rfl⟩ := own_form h2
        refine ⟨A2, c2, w', hrun, own_weak h2, ⟨h3.os, h3.tape, h3.output, h3.size, fun k hk _ => h3.block k hk (by simp)⟩, ?_, hold.like (like_grown h3)⟩
        exact .inr fun i hi => (h2.lt i hi).1
variable {N : Nat} {Q : Post} {K : Env → World → Prop} {env : Env} {w0 w : World} {M : Nat → Prop} {rs : List Res} {d : Tmp} {ty : TypeId} {pos : String} {after : Array Edge} {g : Option (Nat × Bool)}
/-- append onto a row of the call's own; the old slice still reads as it did. -/
theorem o_appK {s x : Operand} (TE : Elem P t e z size bytes) (S : St w0 M rs w) (k : Nat) {A : Option Addr} {n c : Nat} {xs : List Value} (hk : rs[k]? = some (row e size A n c xs))
    (hs : ev env s = some (.slice A n c)) {A' : Option Addr} {m c' : Nat} {news : List Value} (hx : ev env x = some (.slice A' m c')) (hr : Rs w size A' m c' news) (h1 : ∀ u ∈ news, u.oneCell' = true)
    (hd : Nat.blt d N = true) (hbytes : (n + m) * bytes ≤ 140737488355328) (h63 : n + m ≤ 9223372036854775807)
    (h : ∀ A2 c2 w', St w0 M (rs.set k (row e size A2 (n + m) c2 (xs ++ news))) w' → Rs w' size A n c xs → K ((d, .slice A2 (n + m) c2) :: env) w') :
    O P N Q ⟨some d, .call { callee := .builtin .append, args := #[s, x], argTypes := #[t, t] }, ty, pos, after, g⟩ env w K := fun a ha => by
  have hown : w.ownsRow 0 e size (.slice A n c) n xs := S.get k hk
  obtain ⟨A2, c2, w', hrun, h2, h3, h4, h5⟩ := run_append_keep w TE hown hr h1 h63 hbytes ty
  unfold Oper.wp execOp
  simp only [resolve, invoke, builtin, Sem.run_bind, Sem.run_pure, Result.andThen_ok, List.map_toArray, List.map_cons, List.map_nil, ha.eval hs, ha.eval hx, hrun]
  refine ⟨_, ha.put d _ hd, h A2 c2 w' ?_ h5⟩
  refine S.upd k hk h3.os h3.tape h3.output h3.size (fun i hi hn => h3.block i hi (fun e => hn e.symm)) h2 fun i hi => ?_
  change (Value.slice A2 (n + m) c2).ownBlock = some i at hi
  rcases h4 with h4 | h4
  · left; rw [h4] at hi; exact hi
  · right
    exact ⟨h4 i hi, (h2.lt _ hi).2⟩
theorem T_label {l : Nat} {c : Exit → Env → World → Prop} (h : c .normal env w) : T P N (.label l) c env w := fun a ha => wp_label ⟨env, ha, h⟩
/-- A scope through which nothing jumps. -/
theorem T_scope {c : Code} (hng : ∀ l e w, Q (.goto l) e w → False) (h : T P N c Q env w) : T P N (.scope c) Q env w := fun a ha =>
  wp_scope_straight (Code.wp_mono (by
    intro e a w h
    cases e with
    | goto l =>
      obtain ⟨e', _, h2⟩ := h
      exact (hng _ _ _ h2).elim
    | normal => exact h
    | exit i => exact h
    | ret => exact h
    | panic c => exact h
    | outgrown => exact h) (h a ha))
end
end Go.Proofs.Ytbbmkgpgiacdeaa.Zx

/-
  How far two lists are from one another: plain laws.
-/
namespace Go.Proofs.Ytbbmkgpgiacdeaa
open Go.RowKit Zk Zx
set_option linter.unusedVariables false
/-- How many are taken out and put in, at least. -/
def ed : List Int → List Int → Nat
  | [], y => y.length
  | x, [] => x.length
  | a :: x, b :: y => if a = b then ed x y else min (ed x (b :: y)) (ed (a :: x) y) + 1
termination_by x y => x.length + y.length
theorem ed_nil (y : List Int) : ed [] y = y.length := by rw [ed]
theorem ed_nil_r (x : List Int) : ed x [] = x.length := by
  cases x with
  | nil => rw [ed]
  | cons a x => rw [ed]; simp
theorem ed_eq (a : Int) (x y : List Int) : ed (a :: x) (a :: y) = ed x y := by rw [ed, if_pos rfl]
theorem ed_ne {a b : Int} (h : a ≠ b) (x y : List Int) : ed (a :: x) (b :: y) = min (ed x (b :: y)) (ed (a :: x) y) + 1 := by rw [ed, if_neg h]
theorem ed_step : ∀ (n : Nat) (x y : List Int), x.length + y.length = n →
    (∀ a, ed (a :: x) y ≤ ed x y + 1 ∧ ed x y ≤ ed (a :: x) y + 1) ∧ ∀ b, ed x (b :: y) ≤ ed x y + 1 ∧ ed x y ≤ ed x (b :: y) + 1 := by
  intro n
  induction n using Nat.strongRecOn with
  | ind n ih =>
    intro x y hn
    constructor
    · intro a
      cases y with
      | nil => rw [ed_nil_r, ed_nil_r, List.length_cons]; omega
      | cons b y =>
        have h := ih _ (by rw [← hn, List.length_cons]; omega) x y rfl
        by_cases e : a = b
        · subst e
          rw [ed_eq]
          have := h.2 a
          omega
        · rw [ed_ne e]
          have h1 := h.1 a
          have h2 := h.2 b
          omega
    · intro b
      cases x with
      | nil => rw [ed_nil, ed_nil, List.length_cons]; omega
      | cons a x =>
        have h := ih _ (by rw [← hn, List.length_cons]; omega) x y rfl
        by_cases e : a = b
        · subst e
          rw [ed_eq]
          have := h.1 a
          omega
        · rw [ed_ne e]
          have h1 := h.1 a
          have h2 := h.2 b
          omega
theorem ed_diag (a b : Int) (x y : List Int) : ed x y ≤ ed (a :: x) (b :: y) := by
  by_cases e : a = b
  · subst e; rw [ed_eq]; exact Nat.le_refl _
  · rw [ed_ne e]
    have h := ed_step _ x y rfl
    have h1 := h.1 a
    have h2 := h.2 b
    omega
theorem ed_facts : ∀ (n : Nat) (x y : List Int), x.length + y.length = n → (ed x y + x.length + y.length) % 2 = 0 ∧ x.length ≤ ed x y + y.length ∧ y.length ≤ ed x y + x.length ∧ ed x y ≤ x.length + y.length := by
  intro n
  induction n using Nat.strongRecOn with
  | ind n ih =>
    intro x y hn
    cases x with
    | nil => rw [ed_nil]; simp only [List.length_nil]; omega
    | cons a x =>
      cases y with
      | nil => rw [ed_nil_r]; simp only [List.length_nil]; omega
      | cons b y =>
        simp only [List.length_cons] at hn ⊢
        have h0 := ih _ (by omega) x y rfl
        have h1 := ih _ (by rw [← hn, List.length_cons]; omega) x (b :: y) rfl
        have h2 := ih _ (by rw [← hn, List.length_cons]; omega) (a :: x) y rfl
        simp only [List.length_cons] at h1 h2
        by_cases e : a = b
        · subst e; rw [ed_eq]; omega
        · rw [ed_ne e]
          rcases Nat.le_total (ed x (b :: y)) (ed (a :: x) y) with h3 | h3
          · rw [Nat.min_eq_left h3]; omega
          · rw [Nat.min_eq_right h3]; omega
/-- How far a place is from the end. -/
def rR (la lb : List Int) (i k : Nat) : Nat := ed (la.drop i) (lb.drop k)
section
variable {la lb : List Int} {i k : Nat}
theorem rR_endA (h : la.length ≤ i) : rR la lb i k = lb.length - k := by
  rw [rR, List.drop_eq_nil_of_le h, ed_nil, List.length_drop]
theorem rR_endB (h : lb.length ≤ k) : rR la lb i k = la.length - i := by
  rw [rR, List.drop_eq_nil_of_le h, ed_nil_r, List.length_drop]
theorem drop_at {l : List Int} {i : Nat} {x : Int} (h : l[i]? = some x) : l.drop i = x :: l.drop (i + 1) := by
  obtain ⟨h1, h2⟩ := List.getElem?_eq_some_iff.1 h
  rw [← h2]
  exact List.drop_eq_getElem_cons h1
theorem rR_match {x : Int} (ha : la[i]? = some x) (hb : lb[k]? = some x) : rR la lb i k = rR la lb (i + 1) (k + 1) := by
  rw [rR, drop_at ha, drop_at hb, ed_eq]
  rfl
theorem rR_mis {x y : Int} (ha : la[i]? = some x) (hb : lb[k]? = some y) (h : x ≠ y) : rR la lb i k = min (rR la lb (i + 1) k) (rR la lb i (k + 1)) + 1 := by
  rw [rR, drop_at ha, drop_at hb, ed_ne h, ← drop_at ha, ← drop_at hb]
  rfl
theorem rR_stepA (h : i < la.length) : rR la lb i k ≤ rR la lb (i + 1) k + 1 ∧ rR la lb (i + 1) k ≤ rR la lb i k + 1 := by
  have := (ed_step _ (la.drop (i + 1)) (lb.drop k) rfl).1 la[i]
  rw [← drop_at (List.getElem?_eq_getElem h)] at this
  exact this
theorem rR_stepB (h : k < lb.length) : rR la lb i k ≤ rR la lb i (k + 1) + 1 ∧ rR la lb i (k + 1) ≤ rR la lb i k + 1 := by
  have := (ed_step _ (la.drop i) (lb.drop (k + 1)) rfl).2 lb[k]
  rw [← drop_at (List.getElem?_eq_getElem h)] at this
  exact this
theorem rR_diag (ha : i < la.length) (hb : k < lb.length) : rR la lb (i + 1) (k + 1) ≤ rR la lb i k := by
  have := ed_diag la[i] lb[k] (la.drop (i + 1)) (lb.drop (k + 1))
  rw [← drop_at (List.getElem?_eq_getElem ha), ← drop_at (List.getElem?_eq_getElem hb)] at this
  exact this
theorem rR_facts (la lb : List Int) (i k : Nat) : (rR la lb i k + (la.length - i) + (lb.length - k)) % 2 = 0 ∧ la.length - i ≤ rR la lb i k + (lb.length - k) ∧ lb.length - k ≤ rR la lb i k + (la.length - i) ∧ rR la lb i k ≤ (la.length - i) + (lb.length - k) := by
  have := ed_facts _ (la.drop i) (lb.drop k) rfl
  rw [List.length_drop, List.length_drop] at this
  exact this
theorem rR_zero (hi : i ≤ la.length) (hk : k ≤ lb.length) (h : rR la lb i k = 0) (hm : ∀ x, la[i]? = some x → lb[k]? = some x → False) : i = la.length ∧ k = lb.length := by
  rcases Nat.lt_or_ge i la.length with h1 | h1
  · rcases Nat.lt_or_ge k lb.length with h2 | h2
    · by_cases e : la[i] = lb[k]
      · exact (hm la[i] (List.getElem?_eq_getElem h1) (by rw [e]; exact List.getElem?_eq_getElem h2)).elim
      · rw [rR_mis (List.getElem?_eq_getElem h1) (List.getElem?_eq_getElem h2) e] at h
        omega
    · rw [rR_endB h2] at h; omega
  · rw [rR_endA h1] at h; omega
end
end Go.Proofs.Ytbbmkgpgiacdeaa

/-
  The table of furthest places: plain laws.
-/
namespace Go.Proofs.Ytbbmkgpgiacdeaa
open Go.RowKit Zk Zx
set_option linter.unusedVariables false
def farN : Int := 1073741824
/-- A place on a diagonal, at most d from the end. -/
def InS (la lb : List Int) (d diag : Int) (i : Nat) : Prop := ∃ k : Nat, (i : Int) - k = diag ∧ i ≤ la.length ∧ k ≤ lb.length ∧ (rR la lb i k : Int) ≤ d
/-- The neighbour's diagonal reaches its border before. -/
def Bl (la lb : List Int) (d diag : Int) : Prop := (∃ x : Nat, (x : Int) = diag - 1 ∧ InS la lb (d - 1) (diag - 1) x) ∨ (diag ≤ -1 ∧ InS la lb (d - 1) (diag + 1) 0)
structure Good (la lb : List Int) (d off v : Int) : Prop where
  sound : v = farN ∨ ∃ i : Nat, v = i ∧ InS la lb d ((la.length : Int) - lb.length + off) i
  full : ¬ Bl la lb d ((la.length : Int) - lb.length + off) → (d + off) % 2 = 0 → ∀ i, InS la lb d ((la.length : Int) - lb.length + off) i → v ≤ i
section
variable {la lb : List Int}
theorem InS.mono {d d' diag : Int} {i : Nat} (h : InS la lb d diag i) (hd : d ≤ d') : InS la lb d' diag i := by
  obtain ⟨k, h1, h2, h3, h4⟩ := h
  exact ⟨k, h1, h2, h3, by omega⟩
theorem InS.off {d diag : Int} {i : Nat} (h : InS la lb d diag i) : -d ≤ diag - ((la.length : Int) - lb.length) ∧ diag - ((la.length : Int) - lb.length) ≤ d := by
  obtain ⟨k, h1, h2, h3, h4⟩ := h
  have := rR_facts la lb i k
  omega
theorem InS.up {d diag : Int} {i : Nat} (h : InS la lb d diag i) (h1 : i < la.length) (h2 : (i : Int) - diag < lb.length) : InS la lb d diag (i + 1) := by
  obtain ⟨k, h3, h4, h5, h6⟩ := h
  have hk : k < lb.length := by omega
  have := rR_diag (la := la) (lb := lb) h1 hk
  exact ⟨k + 1, by omega, by omega, by omega, by omega⟩
theorem InS.upn {d diag : Int} {i : Nat} (h : InS la lb d diag i) : ∀ t : Nat, i + t ≤ la.length → (i : Int) + t - diag ≤ lb.length → InS la lb d diag (i + t)
  | 0, _, _ => h
  | t + 1, h1, h2 => (h.upn t (by omega) (by omega)).up (by omega) (by omega)
/-- Out of the table. -/
theorem good_out {d off : Int} (h : d < 0 ∨ off < -d ∨ off > d) : Good la lb d off farN := ⟨.inl rfl, fun _ _ i hi => by
  have := hi.off
  omega⟩
def candN (la lb : List Int) (d diag x2 xa xb : Int) : Int :=
  let i0 : Int := if d = 0 then (la.length : Int) else farN
  let i1 := if x2 < i0 then x2 else i0
  let i2 := if xa < farN ∧ 0 ≤ xa - 1 ∧ xa - 1 < i1 ∧ xa - 1 - diag ≤ lb.length then xa - 1 else i1
  if xb < farN ∧ 0 ≤ xb - diag ∧ xb < i2 then xb else i2
theorem cand_cases (d diag x2 xa xb : Int) (hn : (la.length : Int) < farN) (c : Int) (hc : candN la lb d diag x2 xa xb = c) : c = farN ∨ (c < farN ∧ ((d = 0 ∧ c = la.length) ∨ c = x2 ∨ (c = xa - 1 ∧ xa < farN ∧ 0 ≤ xa - 1 ∧ xa - 1 - diag ≤ lb.length) ∨ (c = xb ∧ xb < farN ∧ 0 ≤ xb - diag))) := by
  unfold candN at hc
  simp only at hc
  generalize hi0 : (if d = 0 then (la.length : Int) else farN) = i0 at hc
  have e0 : i0 = farN ∨ (d = 0 ∧ i0 = la.length) := by
    by_cases h : d = 0
    · rw [if_pos h] at hi0; exact .inr ⟨h, hi0.symm⟩
    · rw [if_neg h] at hi0; exact .inl hi0.symm
  generalize hi1 : (if x2 < i0 then x2 else i0) = i1 at hc
  have e1 : (i1 = x2 ∧ x2 < i0) ∨ i1 = i0 := by
    by_cases h : x2 < i0
    · rw [if_pos h] at hi1; exact .inl ⟨hi1.symm, h⟩
    · rw [if_neg h] at hi1; exact .inr hi1.symm
  generalize hi2 : (if xa < farN ∧ 0 ≤ xa - 1 ∧ xa - 1 < i1 ∧ xa - 1 - diag ≤ (lb.length : Int) then xa - 1 else i1) = i2 at hc
  have e2 : (i2 = xa - 1 ∧ xa < farN ∧ 0 ≤ xa - 1 ∧ xa - 1 < i1 ∧ xa - 1 - diag ≤ (lb.length : Int)) ∨ i2 = i1 := by
    by_cases h : xa < farN ∧ 0 ≤ xa - 1 ∧ xa - 1 < i1 ∧ xa - 1 - diag ≤ (lb.length : Int)
    · rw [if_pos h] at hi2; exact .inl ⟨hi2.symm, h⟩
    · rw [if_neg h] at hi2; exact .inr hi2.symm
  have e3 : (c = xb ∧ xb < farN ∧ 0 ≤ xb - diag ∧ xb < i2) ∨ c = i2 := by
    by_cases h : xb < farN ∧ 0 ≤ xb - diag ∧ xb < i2
    · rw [if_pos h] at hc; exact .inl ⟨hc.symm, h⟩
    · rw [if_neg h] at hc; exact .inr hc.symm
  clear hi0 hi1 hi2 hc
  rcases e3 with h | h
  · obtain ⟨a1, a2, a3, a4⟩ := h
    clear e0 e1 e2
    exact .inr ⟨by omega, .inr (.inr (.inr ⟨a1, a2, a3⟩))⟩
  rcases e2 with h2 | h2
  · obtain ⟨a1, a2, a3, a4, a5⟩ := h2
    clear e0 e1
    exact .inr ⟨by omega, .inr (.inr (.inl ⟨by omega, a2, a3, a5⟩))⟩
  rcases e0 with h4 | h4
  · rcases e1 with h3 | h3
    · exact .inr ⟨by omega, .inr (.inl (by omega))⟩
    · exact .inl (by omega)
  · rcases e1 with h3 | h3
    · exact .inr ⟨by omega, .inr (.inl (by omega))⟩
    · exact .inr ⟨by omega, .inl ⟨h4.1, by omega⟩⟩
theorem cand_le (d diag x2 xa xb : Int) : (d = 0 → candN la lb d diag x2 xa xb ≤ la.length) ∧ candN la lb d diag x2 xa xb ≤ x2 ∧ (xa < farN → 0 ≤ xa - 1 → xa - 1 - diag ≤ lb.length → candN la lb d diag x2 xa xb ≤ xa - 1) ∧ (xb < farN → 0 ≤ xb - diag → candN la lb d diag x2 xa xb ≤ xb) := by
  unfold candN
  simp only
  generalize hi0 : (if d = 0 then (la.length : Int) else farN) = i0
  have e0 : d = 0 → i0 = la.length := fun h => by rw [← hi0, if_pos h]
  generalize hi1 : (if x2 < i0 then x2 else i0) = i1
  have e1 : i1 ≤ x2 ∧ i1 ≤ i0 := by rw [← hi1]; split <;> omega
  generalize hi2 : (if xa < farN ∧ 0 ≤ xa - 1 ∧ xa - 1 < i1 ∧ xa - 1 - diag ≤ (lb.length : Int) then xa - 1 else i1) = i2
  have e2 : i2 ≤ i1 ∧ (xa < farN → 0 ≤ xa - 1 → xa - 1 - diag ≤ lb.length → i2 ≤ xa - 1) := by rw [← hi2]; split <;> omega
  have e3 : (if xb < farN ∧ 0 ≤ xb - diag ∧ xb < i2 then xb else i2) ≤ i2 ∧ (xb < farN → 0 ≤ xb - diag → (if xb < farN ∧ 0 ≤ xb - diag ∧ xb < i2 then xb else i2) ≤ xb) := by split <;> omega
  refine ⟨fun h => ?_, ?_, fun h1 h2 h3 => ?_, e3.2⟩
  · have := e0 h; omega
  · omega
  · have := e2.2 h1 h2 h3; omega
/-- Back over things that are alike. -/
structure Slid (la lb : List Int) (diag : Int) (i j : Nat) : Prop where
  le : j ≤ i
  dg : diag ≤ j
  alike : ∀ t k : Nat, j ≤ t → t < i → (t : Int) - k = diag → ∃ x, la[t]? = some x ∧ lb[k]? = some x
  stop : ∀ t k : Nat, t + 1 = j → (t : Int) - k = diag → ∀ x, la[t]? = some x → lb[k]? = some x → False
theorem Slid.inS {d diag : Int} {i j : Nat} (h : Slid la lb diag i j) (hi : InS la lb d diag i) : InS la lb d diag j := by
  obtain ⟨k, h1, h2, h3, h4⟩ := hi
  have key : ∀ t : Nat, t ≤ i - j → ∃ k' : Nat, ((i - t : Nat) : Int) - k' = diag ∧ k' ≤ lb.length ∧ rR la lb (i - t) k' = rR la lb i k := by
    intro t
    induction t with
    | zero => intro _; exact ⟨k, by omega, h3, rfl⟩
    | succ t ih =>
      intro ht
      obtain ⟨k', e1, e2, e3⟩ := ih (by omega)
      have hj := h.dg
      have hle := h.le
      obtain ⟨x, a1, a2⟩ := h.alike (i - (t + 1)) (k' - 1) (by omega) (by omega) (by omega)
      refine ⟨k' - 1, by omega, by omega, ?_⟩
      rw [rR_match a1 a2, ← e3]
      congr 1 <;> omega
  obtain ⟨k', e1, e2, e3⟩ := key (i - j) (Nat.le_refl _)
  have hle := h.le
  rw [show i - (i - j) = j by omega] at e1 e3
  exact ⟨k', e1, by omega, e2, by omega⟩
/-- It goes as far as things are alike. -/
theorem Slid.far {diag : Int} {i0 i j : Nat} (h : Slid la lb diag i0 j) (hdiag : diag ≤ i) (hal : ∀ t k : Nat, i ≤ t → t < i0 → (t : Int) - k = diag → ∃ x, la[t]? = some x ∧ lb[k]? = some x) (hi : i ≤ i0) : j ≤ i := by
  rcases Nat.lt_or_ge i j with hlt | hge
  · exfalso
    have hj := h.le
    obtain ⟨k, hk⟩ : ∃ k : Nat, ((j - 1 : Nat) : Int) - k = diag := ⟨(((j - 1 : Nat) : Int) - diag).toNat, by omega⟩
    obtain ⟨x, a1, a2⟩ := hal (j - 1) k (by omega) (by omega) hk
    exact h.stop (j - 1) k (by omega) hk x a1 a2
  · exact hge
/-- Forward over things that are alike. -/
theorem run_to (i k : Nat) (hi : i ≤ la.length) (hk : k ≤ lb.length) : ∃ t : Nat, i + t ≤ la.length ∧ k + t ≤ lb.length ∧ rR la lb (i + t) (k + t) = rR la lb i k ∧ (∀ s, s < t → ∃ x, la[i + s]? = some x ∧ lb[k + s]? = some x) ∧
    ∀ x, la[i + t]? = some x → lb[k + t]? = some x → False := by
  generalize hn : la.length - i = n
  induction n generalizing i k with
  | zero => exact ⟨0, by omega, by omega, rfl, fun s hs => by omega, fun x hx => by have := (List.getElem?_eq_some_iff.1 hx).1; omega⟩
  | succ n ih =>
    by_cases h : ∃ x, la[i]? = some x ∧ lb[k]? = some x
    · obtain ⟨x, h1, h2⟩ := h
      have h3 := (List.getElem?_eq_some_iff.1 h1).1
      have h4 := (List.getElem?_eq_some_iff.1 h2).1
      obtain ⟨t, e1, e2, e3, e4, e5⟩ := ih (i + 1) (k + 1) (by omega) (by omega) (by omega)
      refine ⟨t + 1, by omega, by omega, ?_, fun s hs => ?_, fun x hx => ?_⟩
      · rw [rR_match h1 h2, ← e3]
        congr 1 <;> omega
      · rcases Nat.eq_zero_or_pos s with h0 | h0
        · subst h0; exact ⟨x, h1, h2⟩
        · have := e4 (s - 1) (by omega)
          rw [show i + 1 + (s - 1) = i + s by omega, show k + 1 + (s - 1) = k + s by omega] at this
          exact this
      · rw [show i + (t + 1) = i + 1 + t by omega] at hx
        rw [show k + (t + 1) = k + 1 + t by omega]
        exact e5 x hx
    · exact ⟨0, by omega, by omega, rfl, fun s hs => by omega, fun x hx hy => h ⟨x, hx, hy⟩⟩
end
end Go.Proofs.Ytbbmkgpgiacdeaa

/-
  The table of furthest places is right: plain laws.
-/
namespace Go.Proofs.Ytbbmkgpgiacdeaa
open Go.RowKit Zk Zx
set_option linter.unusedVariables false
section
variable {la lb : List Int}
theorem Bl.mono {d d' diag : Int} (h : Bl la lb d diag) (hd : d ≤ d') : Bl la lb d' diag := by
  rcases h with ⟨x, h1, h2⟩ | ⟨h1, h2⟩
  · exact .inl ⟨x, h1, h2.mono (by omega)⟩
  · exact .inr ⟨h1, h2.mono (by omega)⟩
theorem cand_sound (hn : (la.length : Int) < farN) {d off x2 xa xb : Int} (ho : -d ≤ off ∧ off ≤ d) (h2 : Good la lb (d - 2) off x2) (ha : Good la lb (d - 1) (off + 1) xa) (hb : Good la lb (d - 1) (off - 1) xb) {diag : Int}
    (hdiag : diag = (la.length : Int) - lb.length + off) : candN la lb d diag x2 xa xb = farN ∨ ∃ i : Nat, candN la lb d diag x2 xa xb = i ∧ InS la lb d diag i := by
  subst hdiag
  generalize hc : candN la lb d ((la.length : Int) - lb.length + off) x2 xa xb = c
  rcases cand_cases d _ x2 xa xb hn c hc with h | ⟨hf, h | h | h | h⟩
  · exact .inl h
  · obtain ⟨rfl, h⟩ := h
    refine .inr ⟨la.length, h, lb.length, by omega, by omega, by omega, ?_⟩
    rw [rR_endA (Nat.le_refl _)]
    omega
  · rcases h2.sound with h3 | ⟨i, h3, h4⟩
    · omega
    · exact .inr ⟨i, by omega, h4.mono (by omega)⟩
  · obtain ⟨h1, h5, h6, h7⟩ := h
    rcases ha.sound with h3 | ⟨i, h3, k, h4, h8, h9, h10⟩
    · omega
    · refine .inr ⟨i - 1, by omega, k, by omega, by omega, h9, ?_⟩
      have := (rR_stepA (la := la) (lb := lb) (i := i - 1) (k := k) (by omega)).1
      rw [show i - 1 + 1 = i by omega] at this
      omega
  · obtain ⟨h1, h5, h6⟩ := h
    rcases hb.sound with h3 | ⟨i, h3, k, h4, h8, h9, h10⟩
    · omega
    · refine .inr ⟨i, by omega, k - 1, by omega, by omega, by omega, ?_⟩
      have := (rR_stepB (la := la) (lb := lb) (i := i) (k := k - 1) (by omega)).1
      rw [show k - 1 + 1 = k by omega] at this
      omega
theorem cand_full (hn : (la.length : Int) < farN) {d off x2 xa xb : Int} (hd : 0 ≤ d) (h2 : Good la lb (d - 2) off x2) (ha : Good la lb (d - 1) (off + 1) xa) (hb : Good la lb (d - 1) (off - 1) xb) {diag : Int}
    (hdiag : diag = (la.length : Int) - lb.length + off) (hbl : ¬ Bl la lb d diag) (hpar : (d + off) % 2 = 0) {i : Nat} (hi : InS la lb d diag i) :
    ∃ t : Nat, candN la lb d diag x2 xa xb ≤ i + t ∧ i + t ≤ la.length ∧ ∀ s k : Nat, i ≤ s → s < i + t → (s : Int) - k = diag → ∃ x, la[s]? = some x ∧ lb[k]? = some x := by
  obtain ⟨k, hik, hin, hkm, hR⟩ := hi
  obtain ⟨t, e1, e2, e3, e4, e5⟩ := run_to (la := la) (lb := lb) i k hin hkm
  have hle := cand_le (la := la) (lb := lb) d diag x2 xa xb
  refine ⟨t, ?_, e1, fun s k' h3 h4 h5 => ?_⟩
  · have use2 : ∀ x : Nat, InS la lb (d - 2) diag x → x ≤ i + t → candN la lb d diag x2 xa xb ≤ i + t := fun x hx hxt => by
      have h3 := h2.full (by rw [← hdiag]; exact fun h => hbl (h.mono (by omega))) (by omega) x (by rw [← hdiag]; exact hx)
      have := hle.2.1
      omega
    have caseB : k + t < lb.length → (rR la lb (i + t) (k + t + 1) : Int) ≤ d - 1 → candN la lb d diag x2 xa xb ≤ i + t := fun hk' hR' => by
      have hin1 : InS la lb (d - 1) (diag - 1) (i + t) := ⟨k + t + 1, by omega, e1, by omega, hR'⟩
      by_cases hB : Bl la lb (d - 1) (diag - 1)
      · rcases hB with ⟨x, h1, kx, h3, h4, h5, h6⟩ | ⟨h1, h3⟩
        · exfalso
          refine hbl (.inl ⟨x + 1, by omega, 0, by omega, by omega, by omega, ?_⟩)
          have := (rR_stepA (la := la) (lb := lb) (i := x) (k := 0) (by omega)).2
          have hk0 : kx = 0 := by omega
          subst hk0
          omega
        · exact use2 0 (by rw [show diag - 1 + 1 = diag by omega, show d - 1 - 1 = d - 2 by omega] at h3; exact h3) (by omega)
      · have h3 := hb.full (by rw [show (la.length : Int) - lb.length + (off - 1) = diag - 1 by omega]; exact hB) (by omega) (i + t) (by rw [show (la.length : Int) - lb.length + (off - 1) = diag - 1 by omega]; exact hin1)
        rcases hb.sound with h4 | ⟨ib, h4, h5⟩
        · omega
        · rw [show (la.length : Int) - lb.length + (off - 1) = diag - 1 by omega] at h5
          have h5' := h5
          obtain ⟨kb, h6, h7, h8, h9⟩ := h5
          rcases Int.lt_or_le (xb - diag) 0 with h10 | h10
          · exact (hbl (.inl ⟨ib, by omega, h5'⟩)).elim
          · have := hle.2.2.2 (by omega) h10
            omega
    have caseA : i + t < la.length → (rR la lb (i + t + 1) (k + t) : Int) ≤ d - 1 → candN la lb d diag x2 xa xb ≤ i + t := fun hi' hR' => by
      have hin1 : InS la lb (d - 1) (diag + 1) (i + t + 1) := ⟨k + t, by omega, by omega, e2, hR'⟩
      by_cases hB : Bl la lb (d - 1) (diag + 1)
      · rcases hB with ⟨x, h1, h3⟩ | ⟨h1, kx, h3, h4, h5, h6⟩
        · rw [show diag + 1 - 1 = diag by omega, show d - 1 - 1 = d - 2 by omega] at h3
          exact use2 x h3 (by omega)
        · exfalso
          refine hbl (.inr ⟨by omega, kx + 1, by omega, by omega, by omega, ?_⟩)
          have := (rR_stepB (la := la) (lb := lb) (i := 0) (k := kx) (by omega)).2
          omega
      · have h3 := ha.full (by rw [show (la.length : Int) - lb.length + (off + 1) = diag + 1 by omega]; exact hB) (by omega) (i + t + 1) (by rw [show (la.length : Int) - lb.length + (off + 1) = diag + 1 by omega]; exact hin1)
        rcases ha.sound with h4 | ⟨ia, h4, h5⟩
        · omega
        · rw [show (la.length : Int) - lb.length + (off + 1) = diag + 1 by omega] at h5
          have h5' := h5
          obtain ⟨ka, h6, h7, h8, h9⟩ := h5
          rcases Int.lt_or_le (xa - 1) 0 with h10 | h10
          · have h0 : ia = 0 := by omega
            subst h0
            exact (hbl (.inr ⟨by omega, h5'⟩)).elim
          · have := hle.2.2.1 (by omega) h10 (by omega)
            omega
    have hR2 : (rR la lb (i + t) (k + t) : Int) ≤ d := by rw [e3]; exact hR
    rcases Nat.lt_or_ge (i + t) la.length with hi' | hi'
    · rcases Nat.lt_or_ge (k + t) lb.length with hk' | hk'
      · have hm := rR_mis (List.getElem?_eq_getElem hi') (List.getElem?_eq_getElem hk') (fun e => e5 _ (List.getElem?_eq_getElem hi') (by rw [e]; exact List.getElem?_eq_getElem hk'))
        rcases Nat.le_total (rR la lb (i + t + 1) (k + t)) (rR la lb (i + t) (k + t + 1)) with h3 | h3
        · rw [Nat.min_eq_left h3] at hm
          exact caseA hi' (by omega)
        · rw [Nat.min_eq_right h3] at hm
          exact caseB hk' (by omega)
      · refine caseA hi' ?_
        rw [rR_endB hk'] at hR2 ⊢
        omega
    · rcases Nat.lt_or_ge (k + t) lb.length with hk' | hk'
      · refine caseB hk' ?_
        rw [rR_endA hi'] at hR2 ⊢
        omega
      · rcases Int.lt_or_le 0 d with h0 | h0
        · refine use2 (i + t) ⟨k + t, by omega, e1, e2, ?_⟩ (Nat.le_refl _)
          rw [rR_endA hi']
          omega
        · have := hle.1 (by omega)
          omega
  · obtain ⟨x, h6, h7⟩ := e4 (s - i) (by omega)
    rw [show i + (s - i) = s by omega] at h6
    rw [show k + (s - i) = k' by omega] at h7
    exact ⟨x, h6, h7⟩
theorem good_far (hn : (la.length : Int) < farN) {d off x2 xa xb : Int} (hd : 0 ≤ d) (h2 : Good la lb (d - 2) off x2) (ha : Good la lb (d - 1) (off + 1) xa) (hb : Good la lb (d - 1) (off - 1) xb) {diag : Int}
    (hdiag : diag = (la.length : Int) - lb.length + off) (hc : candN la lb d diag x2 xa xb = farN) : Good la lb d off farN :=
  ⟨.inl rfl, fun hbl hpar i hi => by
    rw [← hdiag] at hbl hi
    obtain ⟨t, h1, h3, _⟩ := cand_full hn hd h2 ha hb hdiag hbl hpar hi
    omega⟩
theorem good_slid (hn : (la.length : Int) < farN) {d off x2 xa xb : Int} (hd : 0 ≤ d) (ho : -d ≤ off ∧ off ≤ d) (h2 : Good la lb (d - 2) off x2) (ha : Good la lb (d - 1) (off + 1) xa) (hb : Good la lb (d - 1) (off - 1) xb) {diag : Int}
    (hdiag : diag = (la.length : Int) - lb.length + off) {i0 j : Nat} (hc : candN la lb d diag x2 xa xb = i0) (hi0 : (i0 : Int) ≠ farN) (hs : Slid la lb diag i0 j) : Good la lb d off j := by
  have hin : InS la lb d diag i0 := by
    rcases cand_sound hn ho h2 ha hb hdiag with h | ⟨i, h, h3⟩
    · omega
    · rw [hc] at h
      rw [show i0 = i by omega]
      exact h3
  refine ⟨.inr ⟨j, rfl, by rw [← hdiag]; exact hs.inS hin⟩, fun hbl hpar i hi => ?_⟩
  rw [← hdiag] at hbl hi
  obtain ⟨t, h1, h3, h4⟩ := cand_full hn hd h2 ha hb hdiag hbl hpar hi
  rw [hc] at h1
  rcases Nat.le_total i0 i with h5 | h5
  · have := hs.le
    omega
  · have := hs.far (i := i) (by obtain ⟨k, h6, _⟩ := hi; omega) (fun s k h6 h7 h8 => h4 s k h6 (by omega) h8) h5
    omega
/-- The begin is reached. -/
theorem good_zero {d : Int} {v : Int} (h : Good la lb d (-((la.length : Int) - lb.length)) v) : (v = 0 → (rR la lb 0 0 : Int) ≤ d) ∧ (d = rR la lb 0 0 → v = 0) := by
  have e : (la.length : Int) - lb.length + -((la.length : Int) - lb.length) = 0 := by omega
  have hs := h.sound
  have hf := h.full
  rw [e] at hs hf
  constructor
  · intro hv
    rcases hs with h1 | ⟨i, h1, k, h2, h3, h4, h5⟩
    · rw [hv] at h1; cases h1
    · have h6 : i = 0 := by omega
      have h7 : k = 0 := by omega
      subst h6; subst h7
      exact h5
  · intro hd
    have hp := (rR_facts la lb 0 0).1
    have h1 := hf (fun hB => by
      rcases hB with ⟨x, h1, _⟩ | ⟨h1, _⟩ <;> omega) (by omega) 0 ⟨0, by omega, by omega, by omega, by omega⟩
    rcases hs with h2 | ⟨i, h2, _⟩
    · rw [h2] at h1; exact absurd h1 (by decide)
    · omega
theorem rR_begin (k : Nat) : k ≤ lb.length → rR la lb 0 0 ≤ k + rR la lb 0 k := by
  induction k with
  | zero => intro _; omega
  | succ k ih =>
    intro h
    have h1 := ih (by omega)
    have h2 := (rR_stepB (la := la) (lb := lb) (i := 0) (k := k) (by omega)).1
    omega
/-- What 'near' is asked on the way. -/
theorem near_iff {i k : Nat} (hi : i < la.length) (hk : k ≤ lb.length) (hway : (k : Int) - i ≤ (rR la lb 0 0 : Int) - rR la lb i k) {r d off v : Int} (hr : r + 1 = rR la lb i k) (hoff : off = (i : Int) + 1 - k - ((la.length : Int) - lb.length))
    (hd : (d = r ∧ (r + off) % 2 = 0) ∨ (d = r - 1 ∧ (r + off) % 2 ≠ 0)) (hv : Good la lb d off v) (hn : (la.length : Int) < farN) : v ≤ (i : Int) + 1 ↔ rR la lb (i + 1) k < rR la lb i k := by
  have e : (la.length : Int) - lb.length + off = (i : Int) + 1 - k := by omega
  have hs := hv.sound
  have hf := hv.full
  rw [e] at hs hf
  constructor
  · intro h
    rcases hs with h1 | ⟨iv, h1, h2⟩
    · unfold farN at *; omega
    · have h3 := h2.upn (i + 1 - iv) (by omega) (by omega)
      rw [show iv + (i + 1 - iv) = i + 1 by omega] at h3
      obtain ⟨k', h4, h5, h6, h7⟩ := h3
      have h8 : k' = k := by omega
      subst h8
      omega
  · intro h
    have hp := (rR_facts la lb (i + 1) k).1
    have h9 : (rR la lb (i + 1) k : Int) ≤ d := by omega
    have := hf (fun hB => ?_) (by omega) (i + 1) ⟨k, by omega, by omega, hk, h9⟩
    · omega
    · rcases hB with ⟨x, h1, h2⟩ | ⟨h1, k', h2, h3, h4, h5⟩
      · rw [show (i : Int) + 1 - k - 1 = (i : Int) - k by omega] at h1 h2
        have h3 := h2.upn (i - x) (by omega) (by omega)
        rw [show x + (i - x) = i by omega] at h3
        obtain ⟨k', h4, h5, h6, h7⟩ := h3
        have h8 : k' = k := by omega
        subst h8
        omega
      · have h6 := rR_begin (la := la) (lb := lb) k' h4
        omega
end
end Go.Proofs.Ytbbmkgpgiacdeaa

/-
  Many blocks as one piece; two pieces as one, apart from each other; slices with a bound. General; nothing here names a program.
-/
namespace Go.Proofs.Ytbbmkgpgiacdeaa.Zx
open Go.RowKit Zk
set_option linter.unusedVariables false
set_option linter.unusedSimpArgs false
/-- Blocks known whole, by their numbers. -/
def heapR (t : Nat) (ss : Nat → Option (Array Value)) : Res where
  dom i := (ss i).isSome = true
  holds w := ∀ i cur, ss i = some cur → Blk w i t cur
  stable w w' h hh := fun i cur hi => (h i (by simp [hi])).trans (hh i cur hi)
def upd (ss : Nat → Option (Array Value)) (b : Nat) (cur : Array Value) : Nat → Option (Array Value) := fun i => if i = b then some cur else ss i
theorem upd_same (ss : Nat → Option (Array Value)) (b : Nat) (cur : Array Value) : upd ss b cur b = some cur := by unfold upd; rw [if_pos rfl]
theorem upd_ne {ss : Nat → Option (Array Value)} {b i : Nat} {cur : Array Value} (h : i ≠ b) : upd ss b cur i = ss i := by unfold upd; rw [if_neg h]
theorem heapR_none (t : Nat) (w : World) : (heapR t fun _ => none).holds w := fun i cur h => by cases h
/-- What lies in a block reads. -/
theorem heapR_rs {t : Nat} {ss : Nat → Option (Array Value)} {w : World} (h : (heapR t ss).holds w) {b o n c : Nat} {cur : Array Value} {xs : List Value} (hb : ss b = some cur) (hx : xs.length = n) (hcell : ∀ j u, xs[j]? = some u → cur[o + j]? = some u) (hnc : n ≤ c) (hc : c ≤ 9223372036854775807) :
    Rs w 1 (some ⟨b, o, none⟩) n c xs :=
  ⟨⟨by omega, fun hn => ⟨_, rfl, (h b cur hb).lt, fun j u hu => by rw [Addr.add_lit]; exact ((h b cur hb).cell (o + j)).trans (hcell j u hu)⟩⟩, hnc, hc⟩
/-- Two pieces as one, apart from each other. -/
def sep (r s : Res) : Res where
  dom i := r.dom i ∨ s.dom i
  holds w := r.holds w ∧ s.holds w ∧ ∀ i, r.dom i → ¬ s.dom i
  stable w w' h hh := ⟨r.stable w w' (fun i hi => h i (.inl hi)) hh.1, s.stable w w' (fun i hi => h i (.inr hi)) hh.2.1, hh.2.2⟩
section
variable {w0 w w' : World} {M : Nat → Prop} {rs : List Res}
theorem St.sepj {r s : Res} (S : St w0 M (rs ++ [r, s]) w) : St w0 M (rs ++ [sep r s]) w :=
  ⟨S.os, S.tape, S.output, S.size, S.old, fun q hq => by
    rcases List.mem_append.1 hq with hq | hq
    · exact S.res q (List.mem_append_left _ hq)
    · obtain rfl := List.mem_singleton.1 hq
      have h1 := S.res r (by simp)
      have h2 := S.res s (by simp)
      have h := S.apart
      rw [List.pairwise_append, List.pairwise_cons] at h
      exact ⟨⟨h1.1, h2.1, h.2.1.1 s (by simp)⟩, fun i hi => by rcases hi with hi | hi; exact h1.2 i hi; exact h2.2 i hi⟩, by
    have h := S.apart
    rw [List.pairwise_append] at h ⊢
    refine ⟨h.1, List.pairwise_singleton _ _, fun a ha b hb i hi => ?_⟩
    obtain rfl := List.mem_singleton.1 hb
    intro hx
    rcases hx with hx | hx
    · exact h.2.2 a ha r (by simp) i hi hx
    · exact h.2.2 a ha s (by simp) i hi hx⟩
theorem St.seps {r s : Res} (S : St w0 M (rs ++ [sep r s]) w) : St w0 M (rs ++ [r, s]) w := by
  have h := S.res (sep r s) (by simp)
  have hp := S.apart
  rw [List.pairwise_append] at hp
  refine ⟨S.os, S.tape, S.output, S.size, S.old, fun q hq => ?_, ?_⟩
  · rcases List.mem_append.1 hq with hq | hq
    · exact S.res q (List.mem_append_left _ hq)
    · rcases List.mem_cons.1 hq with rfl | hq
      · exact ⟨h.1.1, fun i hi => h.2 i (.inl hi)⟩
      · obtain rfl := List.mem_singleton.1 hq
        exact ⟨h.1.2.1, fun i hi => h.2 i (.inr hi)⟩
  · rw [List.pairwise_append, List.pairwise_cons]
    refine ⟨hp.1, ⟨fun b hb => ?_, List.pairwise_singleton _ _⟩, fun a ha b hb i hi hx => ?_⟩
    · obtain rfl := List.mem_singleton.1 hb
      exact h.1.2.2
    · rcases List.mem_cons.1 hb with rfl | hb
      · exact hp.2.2 a ha _ (List.mem_singleton_self _) i hi (.inl hx)
      · obtain rfl := List.mem_singleton.1 hb
        exact hp.2.2 a ha _ (List.mem_singleton_self _) i hi (.inr hx)
theorem St.turnedS {r s r' s' : Res} (S : St w0 (fun i => r.dom i ∨ s.dom i) [r', s'] w) : Turned w0 w (sep r s) (sep r' s') := by
  have S2 : St w0 (fun i => r.dom i ∨ s.dom i) ([] ++ [sep r' s']) w := St.sepj (rs := []) S
  have h := S2.res (sep r' s') (by simp)
  exact ⟨S.os, S.tape, S.output, S.size, S.old, h.1, fun i hi => by
    have h2 := h.2 i hi
    rcases h2.2 with h3 | h3
    · exact .inr ⟨h3, h2.1⟩
    · exact .inl h3⟩
/-- A new row is one block more. -/
theorem heap_join {t : Nat} {ss : Nat → Option (Array Value)} {b n c : Nat} {xs : List Value} (S : St w0 M (rs ++ [heapR t ss, row t 1 (some ⟨b, 0, none⟩) n c xs]) w) :
    ∃ cur, cur.size = c ∧ ss b = none ∧ c ≤ 9223372036854775807 ∧ St w0 M (rs ++ [heapR t (upd ss b cur)]) w := by
  have hr := S.res (row t 1 (some ⟨b, 0, none⟩) n c xs) (by simp)
  have hh := S.res (heapR t ss) (by simp)
  have hp := S.apart
  rw [List.pairwise_append, List.pairwise_cons] at hp
  have hno : ss b = none := by
    cases hb : ss b with
    | none => rfl
    | some cur => exact (hp.2.1.1 _ (List.mem_singleton_self _) b (by simp [heapR, hb]) rfl).elim
  rcases hr.1.2 with ⟨h, _⟩ | ⟨g, cap, cur, h, _, hg, hnc, hcm, hcs, _⟩
  · cases h
  · cases h
    refine ⟨cur, by omega, hno, by unfold maxLen at hcm; exact hcm, S.os, S.tape, S.output, S.size, S.old, fun q hq => ?_, ?_⟩
    · rcases List.mem_append.1 hq with hq | hq
      · exact S.res q (List.mem_append_left _ hq)
      · obtain rfl := List.mem_singleton.1 hq
        refine ⟨fun i cur' hi => ?_, fun i hi => ?_⟩
        · by_cases e : i = b
          · subst e
            rw [upd_same] at hi
            cases hi
            exact hg
          · rw [upd_ne e] at hi
            exact hh.1 i cur' hi
        · by_cases e : i = b
          · subst e
            exact hr.2 i rfl
          · refine hh.2 i ?_
            have hi' : (upd ss b cur i).isSome = true := hi
            rw [upd_ne e] at hi'
            exact hi'
    · rw [List.pairwise_append]
      refine ⟨hp.1, List.pairwise_singleton _ _, fun a ha q hq i hi hx => ?_⟩
      obtain rfl := List.mem_singleton.1 hq
      by_cases e : i = b
      · subst e
        exact hp.2.2 a ha _ (List.mem_cons_of_mem _ (List.mem_singleton_self _)) i hi rfl
      · have hi' : (upd ss b cur i).isSome = true := hx
        rw [upd_ne e] at hi'
        exact hp.2.2 a ha (heapR t ss) List.mem_cons_self i hi hi'
end
section
variable {P : Program} {S : World → Prop} {N : Nat} {Q : Post} {K : Env → World → Prop} {env : Env} {w0 w : World} {M : Nat → Prop} {rs : List Res} {dst : Option Tmp} {d : Tmp} {ty : TypeId} {pos : String} {after : Array Edge} {g : Option (Nat × Bool)}
/-- A store into one of many blocks. -/
theorem o_stH {st : TypeId} {x y : Operand} {b o t : Nat} {ss : Nat → Option (Array Value)} {cs : Array Value} {v : Value} (S : St w0 M rs w) (k : Nat) (hk : rs[k]? = some (heapR t ss)) (hs : ss b = some cs) (hx : ev env x = some (.pointer (some ⟨b, o, none⟩))) (hy : ev env y = some v)
    (hv : v.oneCell' = true) (hsz : (P.info? st).map (·.size) = some 1) (ho : o < cs.size)
    (h : ∀ w', St w0 M (rs.set k (heapR t (upd ss b (cs.setIfInBounds o v)))) w' → K env w') : O P N Q ⟨none, .store st x y, ty, pos, after, g⟩ env w K := fun a ha => by
  have hH : (heapR t ss).holds w := S.get k hk
  have hB : Blk w b t cs := hH b cs hs
  have hc : w.cell? ⟨b, o, none⟩ = some cs[o] := (hB.cell o).trans (Array.getElem?_eq_getElem ho)
  have hr : (storeVar st ⟨b, o, none⟩ v).run P w = .ok () (w.setCell ⟨b, o, none⟩ v) := by
    simp only [storeVar, Sem.run_bind, sizeOf_run hsz, cells_one hv, Result.andThen_ok]
    simp [storeCells, hv, stored, hc, hB.frozen o, run_store, go_sem]
  unfold Oper.wp execOp
  simp only [ha.eval hx, ha.eval hy, Instr.storeAt, Instr.sureAddr, Sem.run_bind, Sem.run_pure, Result.andThen_ok, hr]
  have hdom : ∀ i, (heapR t (upd ss b (cs.setIfInBounds o v))).dom i → (heapR t ss).dom i := fun i hi => by
    by_cases e : i = b
    · subst e; show (ss i).isSome = true; rw [hs]; rfl
    · have hi' : (upd ss b (cs.setIfInBounds o v) i).isSome = true := hi
      rw [upd_ne e] at hi'
      exact hi'
  refine ⟨env, ha, h _ (S.upd k hk rfl rfl rfl (by simp) (fun i hi hn => Below.heap_setCell w ⟨b, o, none⟩ v i (fun e => hn (show (ss i).isSome = true by rw [show i = b from e, hs]; rfl))) (fun i cur hi => ?_) fun i hi => .inl (hdom i hi))⟩
  by_cases e : i = b
  · subst e
    rw [upd_same] at hi
    cases hi
    exact hB.set_ o v
  · rw [upd_ne e] at hi
    exact (Below.heap_setCell w ⟨b, o, none⟩ v i e).trans (hH i cur hi)
/-- A slice with a bound. -/
theorem y_sliceX {x : Operand} {t e : TypeId} {A : Option Addr} {n c l u m size : Nat} {kl kh km : IntKind} {jl jh jm : Int} {i j k : Operand} (ht : P.underlying t = some (.slice e)) (hsz : (P.info? e).map (·.size) = some size) (hx : ev env x = some (.slice A n c))
    (hi : ev env i = some (.int kl jl)) (hj : ev env j = some (.int kh jh)) (hm : ev env k = some (.int km jm)) (el : jl = (l : Int)) (eu : jh = (u : Int)) (em : jm = (m : Int)) (h1 : l ≤ u) (h2 : u ≤ m) (h3 : m ≤ c) :
    Y P S env ⟨dst, .slice t x (some i) (some j) (some k), ty, pos, after, g⟩ (.slice (cutA A m l size) (u - l) (m - l)) := fun N a w' ha _ => by
  subst el; subst eu; subst em
  have he : P.elem t = e := by simp [Program.elem, ht]
  have h4 := run_slice_lhm (P := P) (w := w') (t := t) (a := A) (len := n) (cap := c) (by rw [he]; exact ht) kl kh km (l : Int) (u : Int) (m : Int) (by omega) (by omega) (by omega) (by omega)
  rw [he] at h4
  simp only [execOp, ha.eval hx, Option.map_some, Option.map_none, ha.eval hi, ha.eval hj, ha.eval hm, Instr.sliceAt, Sem.run_bind, run_underlying ht, Result.andThen_ok, h4, sizeOf_run hsz, Sem.run_pure, Int.toNat_natCast]
  rfl
theorem T_loop7 {t1 t2 t3 t4 t5 t6 t7 : Type} {c : Code} (ks : Env) (V : t1 → t2 → t3 → t4 → t5 → t6 → t7 → Env) (μ : t1 → t2 → t3 → t4 → t5 → t6 → t7 → Nat) (Rel : t1 → t2 → t3 → t4 → t5 → t6 → t7 → World → Prop) (z1 : t1) (z2 : t2) (z3 : t3) (z4 : t4) (z5 : t5) (z6 : t6) (z7 : t7) (hs : Sub (V z1 z2 z3 z4 z5 z6 z7) env) (hk : Sub ks env) (h0 : Rel z1 z2 z3 z4 z5 z6 z7 w)
    (round : ∀ a1 a2 a3 a4 a5 a6 a7 w, Rel a1 a2 a3 a4 a5 a6 a7 w → T P N c (thenQ (fun e' w' => ∃ p1 p2 p3 p4 p5 p6 p7, μ p1 p2 p3 p4 p5 p6 p7 < μ a1 a2 a3 a4 a5 a6 a7 ∧ Rel p1 p2 p3 p4 p5 p6 p7 w' ∧ Sub (V p1 p2 p3 p4 p5 p6 p7 ++ ks) e') Q) (V a1 a2 a3 a4 a5 a6 a7 ++ ks) w) : T P N (.loop c) Q env w :=
  T_loop (fun m e w => ∃ a1 a2 a3 a4 a5 a6 a7, m = μ a1 a2 a3 a4 a5 a6 a7 ∧ Rel a1 a2 a3 a4 a5 a6 a7 w ∧ Sub (V a1 a2 a3 a4 a5 a6 a7 ++ ks) e) (μ z1 z2 z3 z4 z5 z6 z7) ⟨z1, z2, z3, z4, z5, z6, z7, rfl, h0, Sub.app hs hk⟩ fun m e w ⟨a1, a2, a3, a4, a5, a6, a7, hm, hr, hsub⟩ => T_weak hsub (T_mono (fun e w ⟨p1, p2, p3, p4, p5, p6, p7, h1, h2, h3⟩ => ⟨μ p1 p2 p3 p4 p5 p6 p7, by omega, p1, p2, p3, p4, p5, p6, p7, rfl, h2, h3⟩) (round a1 a2 a3 a4 a5 a6 a7 w hr))
theorem T_loop8 {t1 t2 t3 t4 t5 t6 t7 t8 : Type} {c : Code} (ks : Env) (V : t1 → t2 → t3 → t4 → t5 → t6 → t7 → t8 → Env) (μ : t1 → t2 → t3 → t4 → t5 → t6 → t7 → t8 → Nat) (Rel : t1 → t2 → t3 → t4 → t5 → t6 → t7 → t8 → World → Prop) (z1 : t1) (z2 : t2) (z3 : t3) (z4 : t4) (z5 : t5) (z6 : t6) (z7 : t7) (z8 : t8) (hs : Sub (V z1 z2 z3 z4 z5 z6 z7 z8) env) (hk : Sub ks env) (h0 : Rel z1 z2 z3 z4 z5 z6 z7 z8 w)
    (round : ∀ a1 a2 a3 a4 a5 a6 a7 a8 w, Rel a1 a2 a3 a4 a5 a6 a7 a8 w → T P N c (thenQ (fun e' w' => ∃ p1 p2 p3 p4 p5 p6 p7 p8, μ p1 p2 p3 p4 p5 p6 p7 p8 < μ a1 a2 a3 a4 a5 a6 a7 a8 ∧ Rel p1 p2 p3 p4 p5 p6 p7 p8 w' ∧ Sub (V p1 p2 p3 p4 p5 p6 p7 p8 ++ ks) e') Q) (V a1 a2 a3 a4 a5 a6 a7 a8 ++ ks) w) : T P N (.loop c) Q env w :=
  T_loop (fun m e w => ∃ a1 a2 a3 a4 a5 a6 a7 a8, m = μ a1 a2 a3 a4 a5 a6 a7 a8 ∧ Rel a1 a2 a3 a4 a5 a6 a7 a8 w ∧ Sub (V a1 a2 a3 a4 a5 a6 a7 a8 ++ ks) e) (μ z1 z2 z3 z4 z5 z6 z7 z8) ⟨z1, z2, z3, z4, z5, z6, z7, z8, rfl, h0, Sub.app hs hk⟩ fun m e w ⟨a1, a2, a3, a4, a5, a6, a7, a8, hm, hr, hsub⟩ => T_weak hsub (T_mono (fun e w ⟨p1, p2, p3, p4, p5, p6, p7, p8, h1, h2, h3⟩ => ⟨μ p1 p2 p3 p4 p5 p6 p7 p8, by omega, p1, p2, p3, p4, p5, p6, p7, p8, rfl, h2, h3⟩) (round a1 a2 a3 a4 a5 a6 a7 a8 w hr))
theorem T_loop9 {t1 t2 t3 t4 t5 t6 t7 t8 t9 : Type} {c : Code} (ks : Env) (V : t1 → t2 → t3 → t4 → t5 → t6 → t7 → t8 → t9 → Env) (μ : t1 → t2 → t3 → t4 → t5 → t6 → t7 → t8 → t9 → Nat) (Rel : t1 → t2 → t3 → t4 → t5 → t6 → t7 → t8 → t9 → World → Prop) (z1 : t1) (z2 : t2) (z3 : t3) (z4 : t4) (z5 : t5) (z6 : t6) (z7 : t7) (z8 : t8) (z9 : t9) (hs : Sub (V z1 z2 z3 z4 z5 z6 z7 z8 z9) env) (hk : Sub ks env) (h0 : Rel z1 z2 z3 z4 z5 z6 z7 z8 z9 w)
    (round : ∀ a1 a2 a3 a4 a5 a6 a7 a8 a9 w, Rel a1 a2 a3 a4 a5 a6 a7 a8 a9 w → T P N c (thenQ (fun e' w' => ∃ p1 p2 p3 p4 p5 p6 p7 p8 p9, μ p1 p2 p3 p4 p5 p6 p7 p8 p9 < μ a1 a2 a3 a4 a5 a6 a7 a8 a9 ∧ Rel p1 p2 p3 p4 p5 p6 p7 p8 p9 w' ∧ Sub (V p1 p2 p3 p4 p5 p6 p7 p8 p9 ++ ks) e') Q) (V a1 a2 a3 a4 a5 a6 a7 a8 a9 ++ ks) w) : T P N (.loop c) Q env w :=
  T_loop (fun m e w => ∃ a1 a2 a3 a4 a5 a6 a7 a8 a9, m = μ a1 a2 a3 a4 a5 a6 a7 a8 a9 ∧ Rel a1 a2 a3 a4 a5 a6 a7 a8 a9 w ∧ Sub (V a1 a2 a3 a4 a5 a6 a7 a8 a9 ++ ks) e) (μ z1 z2 z3 z4 z5 z6 z7 z8 z9) ⟨z1, z2, z3, z4, z5, z6, z7, z8, z9, rfl, h0, Sub.app hs hk⟩ fun m e w ⟨a1, a2, a3, a4, a5, a6, a7, a8, a9, hm, hr, hsub⟩ => T_weak hsub (T_mono (fun e w ⟨p1, p2, p3, p4, p5, p6, p7, p8, p9, h1, h2, h3⟩ => ⟨μ p1 p2 p3 p4 p5 p6 p7 p8 p9, by omega, p1, p2, p3, p4, p5, p6, p7, p8, p9, rfl, h2, h3⟩) (round a1 a2 a3 a4 a5 a6 a7 a8 a9 w hr))
/-- A guard that was itself passed over, where the order is drawn. -/
theorem DL_gnu {ops : Array Oper} {i : Nat} {d : Tmp} {op : Op} {order : List (Nat × Bool)} {j : Nat} {b : Bool} {t : Tmp} (hi : ops[i]? = some ⟨some d, op, ty, pos, after, some (j, b)⟩)
    (hj : (ops[j]?).bind (·.dst) = some t) (ht : look env t = some undef) (hd : Nat.blt d N = true) (h : DL P N ops Q S order ((d, undef) :: env) w) : DL P N ops Q S ((i, true) :: order) env w :=
  DL_yi hi rfl (fun a ha => .inr ⟨by
    have : ((none : Option Bool) == some b) = false := by cases b <;> rfl
    simp [Region.wanted, yielded, hj, ha.vals t _ ht, undef], rfl⟩) hd h
end
end Go.Proofs.Ytbbmkgpgiacdeaa.Zx

/-
  Rows of elements of many cells: an element stored whole, a tail cleared, a row cut. General; nothing here names a program.
-/
namespace Go.Proofs.Ytbbmkgpgiacdeaa.Zx
open Go.RowKit Zk
set_option linter.unusedVariables false
set_option linter.unusedSimpArgs false
section
variable {P : Program} {N : Nat} {Q : Post} {env : Env} {w w0 : World} {M : Nat → Prop} {rs : List Res} {K : Env → World → Prop} {ty : TypeId} {pos : String} {after : Array Edge} {g : Option (Nat × Bool)}
theorem row_cells {w : World} {e k n c : Nat} {A : Option Addr} {xs : List Value} (h : w.ownsRow 0 e k (.slice A n c) n xs) (hn : 0 < n) : ∃ b cur, A = some ⟨b, 0, none⟩ ∧ Blk w b e cur ∧ n ≤ c ∧ c ≤ maxLen ∧ cur.size = c * k ∧ cur.toList.take (n * k) = xs := by
  rcases h.2 with ⟨h1, h2⟩ | ⟨b, cap, cur, h1, _, hg, hnc, hcm, hcs, hx⟩
  · omega
  · cases h1
    exact ⟨b, cur, rfl, hg, hnc, hcm, hcs, hx⟩
theorem cells_row {w : World} {e k n c b : Nat} {xs : List Value} {cur : Array Value} (hg : Blk w b e cur) (hnc : n ≤ c) (hcm : c ≤ maxLen) (hcs : cur.size = c * k) (hx : cur.toList.take (n * k) = xs) (hl : xs.length = n * k) : w.ownsRow 0 e k (.slice (some ⟨b, 0, none⟩) n c) n xs :=
  ⟨hl, .inr ⟨b, c, cur, rfl, Nat.zero_le _, hg, hnc, hcm, hcs, hx⟩⟩
/-- The beginning of an own row is one. -/
theorem St.rowcut (S : St w0 M rs w) (i : Nat) {e k n c m : Nat} {A : Option Addr} {xs : List Value} (hk : rs[i]? = some (Zx.row e k A n c xs)) (hm : m ≤ n) : St w0 M (rs.set i (Zx.row e k A m c (xs.take (m * k)))) w := by
  have hown : w.ownsRow 0 e k (.slice A n c) n xs := S.get i hk
  refine S.upd i hk rfl rfl rfl (Nat.le_refl _) (fun _ _ _ => rfl) ?_ fun j hj => .inl (show (Value.slice A n c).ownBlock = some j by
      have h2 : (Value.slice A m c).ownBlock = some j := hj
      cases A <;> exact h2)
  show w.ownsRow 0 e k (.slice A m c) m (xs.take (m * k))
  have hle : m * k ≤ n * k := Nat.mul_le_mul_right _ hm
  have hl : (xs.take (m * k)).length = m * k := by rw [List.length_take, hown.1]; omega
  rcases hown.2 with ⟨h1, h2⟩ | ⟨b, cap, cur, h1, h0, hg, hnc, hcm, hcs, hx⟩
  · cases h1
    exact ⟨hl, .inl ⟨by rw [show m = 0 by omega, h2], by omega⟩⟩
  · cases h1
    exact ⟨hl, .inr ⟨b, c, cur, rfl, h0, hg, by omega, hcm, hcs, by rw [← hx, List.take_take, Nat.min_eq_left hle]⟩⟩
theorem o_strowE {st : TypeId} {x y : Operand} {e n c k size : Nat} {A : Option Addr} {xs : List Value} {vs : Array Value} (S : St w0 M rs w) (i : Nat) (hk : rs[i]? = some (row e size A n c xs)) (hx : ev env x = some (pR A k size)) (hy : ev env y = some (.agg vs))
    (hv : ∀ u ∈ vs.toList, u.oneCell' = true) (hvs : vs.size = size) (hsz : (P.info? st).map (·.size) = some size) (hkn : k < n)
    (h : ∀ w', St w0 M (rs.set i (row e size A n c (xs.take (k * size) ++ vs.toList ++ xs.drop ((k + 1) * size)))) w' → K env w') : O P N Q ⟨none, .store st x y, ty, pos, after, g⟩ env w K := fun a ha => by
  have hown : w.ownsRow 0 e size (.slice A n c) n xs := S.get i hk
  obtain ⟨b, cur, rfl, hg, hnc, hcm, hcs, hxs⟩ := row_cells hown (by omega)
  have hxa : a.eval x = .pointer (some ⟨b, k * size, none⟩) := by
    rw [ha.eval hx]
    simp [pR, Addr.add_mid]
  have hle : (k + 1) * size ≤ n * size := Nat.mul_le_mul_right _ hkn
  have hle2 : n * size ≤ c * size := Nat.mul_le_mul_right _ hnc
  have e1 : (k + 1) * size = k * size + size := Nat.succ_mul _ _
  have hcl : cur.toList.length = c * size := by rw [Array.length_toList]; exact hcs
  refine wp_stB st x y rfl b (k * size) hxa vs (ha.eval hy) e cur hg (by rw [hvs]; exact hsz) (by rw [hvs]; omega) hv fun w' h2 h3 => ⟨env, ha, h w' (S.upd i hk h3.os h3.tape h3.output h3.size (fun j hj hn => h3.block j hj (fun e => hn (by injection e with e; rw [e]; rfl))) ?_ fun j hj => .inl hj)⟩
  have hvl : vs.toList.length = size := by rw [Array.length_toList, hvs]
  refine cells_row h2 hnc hcm ?_ ?_ ?_
  · rw [List.size_toArray, List.length_append, List.length_append, List.length_take, List.length_drop, hvl, hvs, hcl]; omega
  rotate_left
  · rw [List.length_append, List.length_append, List.length_take, List.length_drop, hvl, hown.1]; omega
  rw [hvs]
  show (cur.toList.take (k * size) ++ vs.toList ++ cur.toList.drop (k * size + size)).take (n * size) = _
  have l1 : (cur.toList.take (k * size) ++ vs.toList).length = k * size + size := by rw [List.length_append, List.length_take, hvl]; omega
  rw [List.take_append, l1, List.take_of_length_le (by rw [l1]; omega), ← hxs, List.take_take, Nat.min_eq_left (by omega), e1, List.drop_take]
/-- clear(s), s a tail of an own row. -/
theorem o_clearR {x : Operand} {t e n c l size : Nat} {z : Value} {A : Option Addr} {xs : List Value} (S : St w0 M rs w) (i : Nat) (hk : rs[i]? = some (row e size A n c xs)) (ht : P.underlying t = some (.slice e)) (hz : ∀ W, (zeroValue e).run P W = .ok z W) (hzs : z.cells.size = size)
    (hz1 : ∀ u ∈ z.cells.toList, u.oneCell' = true) (hx : ev env x = some (.slice (cutA A c l size) (n - l) (c - l))) (hl : l < n)
    (h : ∀ w' ys, ys.take (l * size) = xs.take (l * size) → ys.length = n * size → St w0 M (rs.set i (row e size A n c ys)) w' → K env w') : O P N Q ⟨none, .call { callee := .builtin .clear, args := #[x], argTypes := #[t] }, ty, pos, after, g⟩ env w K := fun a ha => by
  have hown : w.ownsRow 0 e size (.slice A n c) n xs := S.get i hk
  obtain ⟨b, cur, rfl, hg, hnc, hcm, hcs, hxs⟩ := row_cells hown (by omega)
  have hle2 : n * size ≤ c * size := Nat.mul_le_mul_right _ hnc
  have hle1 : l * size ≤ n * size := Nat.mul_le_mul_right _ (by omega)
  have hsub : (n - l) * size = n * size - l * size := Nat.sub_mul _ _ _
  have hxa : a.eval x = .slice (some ⟨b, l * size, none⟩) (n - l) (c - l) := by
    rw [ha.eval hx]
    unfold cutA
    rw [if_neg (by omega)]
    simp [Addr.add_mid]
  have hzl : (Builtin.zeroCells z.cells (n - l)).size = (n - l) * size := by simp [Builtin.zeroCells, hzs]
  have hz1' : ∀ u ∈ (Builtin.zeroCells z.cells (n - l)).toList, u.oneCell' = true := fun u hu => by
    rcases Nat.eq_zero_or_pos size with h0 | h0
    · rw [h0, Nat.mul_zero] at hzl
      rw [Array.eq_empty_of_size_eq_zero hzl] at hu
      simp at hu
    · simp only [Builtin.zeroCells, Array.toList_map, List.mem_map] at hu
      obtain ⟨q, hq, rfl⟩ := hu
      have : q % z.cells.size < z.cells.size := Nat.mod_lt _ (by omega)
      rw [getElem!_pos z.cells _ this]
      exact hz1 _ (by simp)
  have hr := run_storeCells_at (P := P) b (l * size) e (Builtin.zeroCells z.cells (n - l)).toList 0 cur w hg (by simp only [Nat.add_zero, Array.length_toList, hzl]; omega) hz1'
  simp only [Nat.add_zero, Array.length_toList, hzl] at hr
  obtain ⟨m, hm⟩ : ∃ m, n - l = m + 1 := ⟨n - l - 1, by omega⟩
  have hrun : (Builtin.clear_ #[t] ty #[.slice (some ⟨b, l * size, none⟩) (n - l) (c - l)]).run P w = .ok (.tuple #[]) (w.setRow b (cur.toList.take (l * size) ++ (Builtin.zeroCells z.cells (n - l)).toList ++ cur.toList.drop (l * size + (n - l) * size)).toArray) := by
    rw [hm] at hr ⊢
    simp [Builtin.clear_, run_underlying ht, hz, hr]
  have h2 := setRow_heap w b cur (cur.toList.take (l * size) ++ (Builtin.zeroCells z.cells (n - l)).toList ++ cur.toList.drop (l * size + (n - l) * size)).toArray e _ hg
  generalize hw' : w.setRow b (cur.toList.take (l * size) ++ (Builtin.zeroCells z.cells (n - l)).toList ++ cur.toList.drop (l * size + (n - l) * size)).toArray = w' at hrun h2
  have h3 : w.grownBy w' (some b) := by
    subst hw'
    exact ⟨rfl, rfl, rfl, by simp, fun k hk hne => setRow_other w b k _ (fun e => hne (by rw [e]))⟩
  unfold Oper.wp execOp
  simp only [resolve, invoke, builtin, Sem.run_bind, Sem.run_pure, Result.andThen_ok, List.map_toArray, List.map_cons, List.map_nil, hxa, hrun]
  have hll : (cur.toList.take (l * size)).length = l * size := by rw [List.length_take, Array.length_toList]; omega
  refine ⟨env, ha, h w' ((cur.toList.take (l * size) ++ (Builtin.zeroCells z.cells (n - l)).toList ++ cur.toList.drop (l * size + (n - l) * size)).take (n * size)) ?_ ?_ (S.upd i hk h3.os h3.tape h3.output h3.size (fun j hj hn => h3.block j hj (fun e => hn (by injection e with e; rw [e]; rfl))) ?_ fun j hj => .inl hj)⟩
  · rw [List.take_take, Nat.min_eq_left hle1, List.append_assoc, List.take_left' hll, ← hxs, List.take_take, Nat.min_eq_left hle1]
  · rw [List.length_take, List.length_append, List.length_append, hll, Array.length_toList, hzl, List.length_drop, Array.length_toList]
    omega
  · refine cells_row h2 hnc hcm ?_ rfl ?_
    · rw [List.size_toArray, List.length_append, List.length_append, hll, Array.length_toList, hzl, List.length_drop, Array.length_toList]
      omega
    · rw [List.length_take, List.length_append, List.length_append, hll, Array.length_toList, hzl, List.length_drop, Array.length_toList]
      omega
end
theorem flat_set {α : Type} (f : α → List Value) {size : Nat} (hf : ∀ x, (f x).length = size) : ∀ (xs : List α) (k : Nat) (x : α), k < xs.length → (xs.flatMap f).take (k * size) ++ f x ++ (xs.flatMap f).drop ((k + 1) * size) = (xs.set k x).flatMap f
  | y :: xs, 0, x, _ => by
    rw [Nat.zero_mul, List.take_zero, List.nil_append, Nat.zero_add, Nat.one_mul, List.flatMap_cons, List.drop_left' (hf y), List.set_cons_zero, List.flatMap_cons]
  | y :: xs, k + 1, x, h => by
    have ih := flat_set f hf xs k x (by simpa using h)
    have e1 : (k + 1) * size = (f y).length + k * size := by rw [hf, Nat.succ_mul]; omega
    have e2 : (k + 1 + 1) * size = (f y).length + (k + 1) * size := by rw [hf, Nat.succ_mul (k + 1)]; omega
    have e3 : (f y ++ xs.flatMap f).drop ((k + 1 + 1) * size) = (xs.flatMap f).drop ((k + 1) * size) := by rw [e2, List.drop_length_add_append]
    have e4 : (f y ++ xs.flatMap f).take ((k + 1) * size) = f y ++ (xs.flatMap f).take (k * size) := by rw [e1, List.take_length_add_append]
    rw [List.flatMap_cons, e3, e4, List.set_cons_succ, List.flatMap_cons, ← ih]
    simp only [List.append_assoc]
theorem flat_take {α : Type} (f : α → List Value) {size : Nat} (hf : ∀ x, (f x).length = size) : ∀ (xs : List α) (k : Nat), (xs.flatMap f).take (k * size) = (xs.take k).flatMap f
  | _, 0 => by simp
  | [], k + 1 => by simp
  | y :: xs, k + 1 => by
    rw [List.flatMap_cons, List.take_succ_cons, List.flatMap_cons, ← flat_take f hf xs k, show (k + 1) * size = (f y).length + k * size by rw [hf, Nat.succ_mul]; omega, List.take_length_add_append]
end Go.Proofs.Ytbbmkgpgiacdeaa.Zx

/-
  Sizes and zeros of the seat's types.
-/
namespace Go.Proofs.Ytbbmkgpgiacdeaa
open Go.RowKit Zk Zx
set_option linter.unusedVariables false
set_option linter.unusedSimpArgs false
theorem hmix : Try.prog.follows .mixedOrders = true := by kernel_rfl
theorem is0 : (Try.prog.underlying 0).isSome = true := by kernel_rfl
theorem sz0 : (Try.prog.info? 0).map (·.size) = some 1 := by kernel_rfl
theorem is1 : (Try.prog.underlying 1).isSome = true := by kernel_rfl
theorem sz1 : (Try.prog.info? 1).map (·.size) = some 1 := by kernel_rfl
theorem zz1 (W : World) : (zeroValue 1).run Try.prog W = .ok (.nilFunc) W := by kernel_rfl
theorem is2 : (Try.prog.underlying 2).isSome = true := by kernel_rfl
theorem sz2 : (Try.prog.info? 2).map (·.size) = some 1 := by kernel_rfl
theorem zz2 (W : World) : (zeroValue 2).run Try.prog W = .ok (.int .i64 0) W := by kernel_rfl
theorem is3 : (Try.prog.underlying 3).isSome = true := by kernel_rfl
theorem sz3 : (Try.prog.info? 3).map (·.size) = some 1 := by kernel_rfl
theorem zz3 (W : World) : (zeroValue 3).run Try.prog W = .ok (.int .i64 0) W := by kernel_rfl
theorem is4 : (Try.prog.underlying 4).isSome = true := by kernel_rfl
theorem sz4 : (Try.prog.info? 4).map (·.size) = some 1 := by kernel_rfl
theorem zz4 (W : World) : (zeroValue 4).run Try.prog W = .ok (.bool false) W := by kernel_rfl
theorem is5 : (Try.prog.underlying 5).isSome = true := by kernel_rfl
theorem sz5 : (Try.prog.info? 5).map (·.size) = some 1 := by kernel_rfl
theorem zz5 (W : World) : (zeroValue 5).run Try.prog W = .ok (.int .u8 0) W := by kernel_rfl
theorem is9 : (Try.prog.underlying 9).isSome = true := by kernel_rfl
theorem sz9 : (Try.prog.info? 9).map (·.size) = some 1 := by kernel_rfl
theorem zz9 (W : World) : (zeroValue 9).run Try.prog W = .ok (.string ⟨#[]⟩) W := by kernel_rfl
theorem is20 : (Try.prog.underlying 20).isSome = true := by kernel_rfl
theorem sz20 : (Try.prog.info? 20).map (·.size) = some 1 := by kernel_rfl
theorem zz20 (W : World) : (zeroValue 20).run Try.prog W = .ok (.nilIface) W := by kernel_rfl
theorem is22 : (Try.prog.underlying 22).isSome = true := by kernel_rfl
theorem sz22 : (Try.prog.info? 22).map (·.size) = some 1 := by kernel_rfl
theorem zz22 (W : World) : (zeroValue 22).run Try.prog W = .ok (.slice none 0 0) W := by kernel_rfl
theorem te22 : Elem Try.prog 22 3 (.int .i64 0) 1 8 := ⟨Try.underlying22, by kernel_rfl, rfl, by decide⟩
theorem is25 : (Try.prog.underlying 25).isSome = true := by kernel_rfl
theorem sz25 : (Try.prog.info? 25).map (·.size) = some 1 := by kernel_rfl
theorem zz25 (W : World) : (zeroValue 25).run Try.prog W = .ok (.slice none 0 0) W := by kernel_rfl
theorem te25 : Elem Try.prog 25 34 (.agg #[.int .i64 0, .int .i64 0]) 2 16 := ⟨Try.underlying25, by kernel_rfl, rfl, by decide⟩
theorem is26 : (Try.prog.underlying 26).isSome = true := by kernel_rfl
theorem sz26 : (Try.prog.info? 26).map (·.size) = some 1 := by kernel_rfl
theorem zz26 (W : World) : (zeroValue 26).run Try.prog W = .ok (.int .i64 0) W := by kernel_rfl
theorem is27 : (Try.prog.underlying 27).isSome = true := by kernel_rfl
theorem sz27 : (Try.prog.info? 27).map (·.size) = some 1 := by kernel_rfl
theorem is34 : (Try.prog.underlying 34).isSome = true := by kernel_rfl
theorem sz34 : (Try.prog.info? 34).map (·.size) = some 2 := by kernel_rfl
theorem zz34 (W : World) : (zeroValue 34).run Try.prog W = .ok (.agg #[.int .i64 0, .int .i64 0]) W := by kernel_rfl
theorem is36 : (Try.prog.underlying 36).isSome = true := by kernel_rfl
theorem sz36 : (Try.prog.info? 36).map (·.size) = some 1 := by kernel_rfl
theorem zz36 (W : World) : (zeroValue 36).run Try.prog W = .ok (.slice none 0 0) W := by kernel_rfl
theorem te36 : Elem Try.prog 36 43 (.agg #[.int .i64 0, .int .i64 0, .int .i64 0, .int .i64 0]) 4 32 := ⟨Try.underlying36, by kernel_rfl, rfl, by decide⟩
theorem is37 : (Try.prog.underlying 37).isSome = true := by kernel_rfl
theorem sz37 : (Try.prog.info? 37).map (·.size) = some 1 := by kernel_rfl
theorem is39 : (Try.prog.underlying 39).isSome = true := by kernel_rfl
theorem sz39 : (Try.prog.info? 39).map (·.size) = some 1 := by kernel_rfl
theorem zz39 (W : World) : (zeroValue 39).run Try.prog W = .ok (.slice none 0 0) W := by kernel_rfl
theorem te39 : Elem Try.prog 39 44 (.agg #[.int .i64 0, .int .i64 0, .int .i64 0, .int .i64 0]) 4 32 := ⟨Try.underlying39, by kernel_rfl, rfl, by decide⟩
theorem is43 : (Try.prog.underlying 43).isSome = true := by kernel_rfl
theorem sz43 : (Try.prog.info? 43).map (·.size) = some 4 := by kernel_rfl
theorem zz43 (W : World) : (zeroValue 43).run Try.prog W = .ok (.agg #[.int .i64 0, .int .i64 0, .int .i64 0, .int .i64 0]) W := by kernel_rfl
theorem is44 : (Try.prog.underlying 44).isSome = true := by kernel_rfl
theorem sz44 : (Try.prog.info? 44).map (·.size) = some 4 := by kernel_rfl
theorem zz44 (W : World) : (zeroValue 44).run Try.prog W = .ok (.agg #[.int .i64 0, .int .i64 0, .int .i64 0, .int .i64 0]) W := by kernel_rfl
theorem is45 : (Try.prog.underlying 45).isSome = true := by kernel_rfl
theorem sz45 : (Try.prog.info? 45).map (·.size) = some 1 := by kernel_rfl
theorem is48 : (Try.prog.underlying 48).isSome = true := by kernel_rfl
theorem sz48 : (Try.prog.info? 48).map (·.size) = some 1 := by kernel_rfl
theorem zz48 (W : World) : (zeroValue 48).run Try.prog W = .ok (.int .u16 0) W := by kernel_rfl
theorem is52 : (Try.prog.underlying 52).isSome = true := by kernel_rfl
theorem sz52 : (Try.prog.info? 52).map (·.size) = some 1 := by kernel_rfl
theorem is56 : (Try.prog.underlying 56).isSome = true := by kernel_rfl
theorem sz56 : (Try.prog.info? 56).map (·.size) = some 1 := by kernel_rfl
theorem zz56 (W : World) : (zeroValue 56).run Try.prog W = .ok (.nilFunc) W := by kernel_rfl
theorem is60 : (Try.prog.underlying 60).isSome = true := by kernel_rfl
theorem sz60 : (Try.prog.info? 60).map (·.size) = some 1 := by kernel_rfl
theorem zz60 (W : World) : (zeroValue 60).run Try.prog W = .ok (.nilFunc) W := by kernel_rfl
theorem is63 : (Try.prog.underlying 63).isSome = true := by kernel_rfl
theorem sz63 : (Try.prog.info? 63).map (·.size) = some 1 := by kernel_rfl
theorem zz63 (W : World) : (zeroValue 63).run Try.prog W = .ok (.map none) W := by kernel_rfl
theorem is65 : (Try.prog.underlying 65).isSome = true := by kernel_rfl
theorem sz65 : (Try.prog.info? 65).map (·.size) = some 1 := by kernel_rfl
theorem is69 : (Try.prog.underlying 69).isSome = true := by kernel_rfl
theorem sz69 : (Try.prog.info? 69).map (·.size) = some 1 := by kernel_rfl
theorem zz69 (W : World) : (zeroValue 69).run Try.prog W = .ok (.pointer none) W := by kernel_rfl
theorem is71 : (Try.prog.underlying 71).isSome = true := by kernel_rfl
theorem sz71 : (Try.prog.info? 71).map (·.size) = some 4 := by kernel_rfl
theorem zz71 (W : World) : (zeroValue 71).run Try.prog W = .ok (.agg #[.int .i64 0, .int .i64 0, .int .i64 0, .int .i64 0]) W := by kernel_rfl
theorem is72 : (Try.prog.underlying 72).isSome = true := by kernel_rfl
theorem sz72 : (Try.prog.info? 72).map (·.size) = some 1 := by kernel_rfl
theorem zz72 (W : World) : (zeroValue 72).run Try.prog W = .ok (.slice none 0 0) W := by kernel_rfl
theorem te72 : Elem Try.prog 72 71 (.agg #[.int .i64 0, .int .i64 0, .int .i64 0, .int .i64 0]) 4 32 := ⟨Try.underlying72, by kernel_rfl, rfl, by decide⟩
theorem is74 : (Try.prog.underlying 74).isSome = true := by kernel_rfl
theorem sz74 : (Try.prog.info? 74).map (·.size) = some 4 := by kernel_rfl
theorem zz74 (W : World) : (zeroValue 74).run Try.prog W = .ok (.agg #[.slice none 0 0, .slice none 0 0, .slice none 0 0, .slice none 0 0]) W := by kernel_rfl
theorem is76 : (Try.prog.underlying 76).isSome = true := by kernel_rfl
theorem sz76 : (Try.prog.info? 76).map (·.size) = some 1 := by kernel_rfl
theorem zz76 (W : World) : (zeroValue 76).run Try.prog W = .ok (.nilFunc) W := by kernel_rfl
theorem is78 : (Try.prog.underlying 78).isSome = true := by kernel_rfl
theorem sz78 : (Try.prog.info? 78).map (·.size) = some 4 := by kernel_rfl
theorem zz78 (W : World) : (zeroValue 78).run Try.prog W = .ok (.agg #[.int .i64 0, .int .i64 0, .int .i64 0, .int .i64 0]) W := by kernel_rfl
theorem is79 : (Try.prog.underlying 79).isSome = true := by kernel_rfl
theorem sz79 : (Try.prog.info? 79).map (·.size) = some 1 := by kernel_rfl
theorem zz79 (W : World) : (zeroValue 79).run Try.prog W = .ok (.slice none 0 0) W := by kernel_rfl
theorem te79 : Elem Try.prog 79 78 (.agg #[.int .i64 0, .int .i64 0, .int .i64 0, .int .i64 0]) 4 32 := ⟨Try.underlying79, by kernel_rfl, rfl, by decide⟩
theorem is82 : (Try.prog.underlying 82).isSome = true := by kernel_rfl
theorem sz82 : (Try.prog.info? 82).map (·.size) = some 1 := by kernel_rfl
theorem zz82 (W : World) : (zeroValue 82).run Try.prog W = .ok (.int .u64 0) W := by kernel_rfl
theorem is83 : (Try.prog.underlying 83).isSome = true := by kernel_rfl
theorem sz83 : (Try.prog.info? 83).map (·.size) = some 1 := by kernel_rfl
theorem zz83 (W : World) : (zeroValue 83).run Try.prog W = .ok (.nilFunc) W := by kernel_rfl
theorem is84 : (Try.prog.underlying 84).isSome = true := by kernel_rfl
theorem sz84 : (Try.prog.info? 84).map (·.size) = some 1 := by kernel_rfl
theorem zz84 (W : World) : (zeroValue 84).run Try.prog W = .ok (.slice none 0 0) W := by kernel_rfl
theorem te84 : Elem Try.prog 84 22 (.slice none 0 0) 1 24 := ⟨Try.underlying84, by kernel_rfl, rfl, by decide⟩
theorem is86 : (Try.prog.underlying 86).isSome = true := by kernel_rfl
theorem sz86 : (Try.prog.info? 86).map (·.size) = some 1 := by kernel_rfl
theorem zz86 (W : World) : (zeroValue 86).run Try.prog W = .ok (.map none) W := by kernel_rfl
theorem is90 : (Try.prog.underlying 90).isSome = true := by kernel_rfl
theorem sz90 : (Try.prog.info? 90).map (·.size) = some 1 := by kernel_rfl
theorem zz90 (W : World) : (zeroValue 90).run Try.prog W = .ok (.pointer none) W := by kernel_rfl
theorem is91 : (Try.prog.underlying 91).isSome = true := by kernel_rfl
theorem sz91 : (Try.prog.info? 91).map (·.size) = some 1 := by kernel_rfl
theorem is95 : (Try.prog.underlying 95).isSome = true := by kernel_rfl
theorem sz95 : (Try.prog.info? 95).map (·.size) = some 1 := by kernel_rfl
theorem zz95 (W : World) : (zeroValue 95).run Try.prog W = .ok (.int .i64 0) W := by kernel_rfl
theorem is96 : (Try.prog.underlying 96).isSome = true := by kernel_rfl
theorem sz96 : (Try.prog.info? 96).map (·.size) = some 1 := by kernel_rfl
theorem is102 : (Try.prog.underlying 102).isSome = true := by kernel_rfl
theorem sz102 : (Try.prog.info? 102).map (·.size) = some 1 := by kernel_rfl
theorem zz102 (W : World) : (zeroValue 102).run Try.prog W = .ok (.int .u32 0) W := by kernel_rfl
theorem is104 : (Try.prog.underlying 104).isSome = true := by kernel_rfl
theorem sz104 : (Try.prog.info? 104).map (·.size) = some 1 := by kernel_rfl
theorem zz104 (W : World) : (zeroValue 104).run Try.prog W = .ok (.int .u64 0) W := by kernel_rfl
theorem is107 : (Try.prog.underlying 107).isSome = true := by kernel_rfl
theorem sz107 : (Try.prog.info? 107).map (·.size) = some 4 := by kernel_rfl
theorem zz107 (W : World) : (zeroValue 107).run Try.prog W = .ok (.agg #[.slice none 0 0, .slice none 0 0, .slice none 0 0, .slice none 0 0]) W := by kernel_rfl
theorem is110 : (Try.prog.underlying 110).isSome = true := by kernel_rfl
theorem sz110 : (Try.prog.info? 110).map (·.size) = some 1 := by kernel_rfl
theorem zz110 (W : World) : (zeroValue 110).run Try.prog W = .ok (.int .u64 0) W := by kernel_rfl
theorem is114 : (Try.prog.underlying 114).isSome = true := by kernel_rfl
theorem sz114 : (Try.prog.info? 114).map (·.size) = some 1 := by kernel_rfl
theorem zz114 (W : World) : (zeroValue 114).run Try.prog W = .ok (.pointer none) W := by kernel_rfl
theorem is118 : (Try.prog.underlying 118).isSome = true := by kernel_rfl
theorem sz118 : (Try.prog.info? 118).map (·.size) = some 1 := by kernel_rfl
theorem zz118 (W : World) : (zeroValue 118).run Try.prog W = .ok (.pointer none) W := by kernel_rfl
end Go.Proofs.Ytbbmkgpgiacdeaa

/-
  The field: at.
-/
namespace Go.Proofs.Ytbbmkgpgiacdeaa
open Go.RowKit Zk Zx
set_option linter.unusedVariables false
set_option linter.unusedSimpArgs false

/-- The field at block g: the lists, and the rows that are filled. -/
def FR (w : World) (g : Nat) (A : Option Addr) (n ca : Nat) (B : Option Addr) (m cb : Nat) (la lb : List Int) (D : List (List Int)) : Prop :=
  ∃ R nr cr S vs, Blk w g 107 #[.slice A n ca, .slice B m cb, .slice R nr cr, S] ∧ Rs w 1 A n ca (iL la) ∧ Rs w 1 B m cb (iL lb) ∧ Rs w 1 R nr cr vs ∧ nr = D.length ∧
    ∀ d x, D[d]? = some x → ∃ ad, vs[d]? = some (.slice ad x.length x.length) ∧ Rs w 1 ad x.length x.length (iL x) ∧ x.length = 2 * d + 1
theorem FR.like {w w' : World} {g n ca m cb : Nat} {A B : Option Addr} {la lb : List Int} {D : List (List Int)} (h : FR w g A n ca B m cb la lb D) (l : Like w w') : FR w' g A n ca B m cb la lb D := by
  obtain ⟨R, nr, cr, S, vs, h1, h2, h3, h4, h5, h6⟩ := h
  exact ⟨R, nr, cr, S, vs, h1.below l h1.lt, h2.like l, h3.like l, h4.like l, h5, fun d x hx => by
    obtain ⟨ad, a1, a2, a3⟩ := h6 d x hx
    exact ⟨ad, a1, a2.like l, a3⟩⟩
/-- What 'at' answers. -/
def atV (D : List (List Int)) (d off : Int) : Int := if d < 0 ∨ off < -d ∨ off > d then farN else (D.getD d.toNat []).getD (d + off).toNat 0
theorem lenI {w : World} {A : Option Addr} {n c : Nat} {xs : List Int} (h : Rs w 1 A n c (iL xs)) : xs.length = n := by
  have := h.len
  simpa using this


set_option maxRecDepth 100000 in
theorem fat (g : Nat) (A : Option Addr) (n ca : Nat) (B : Option Addr) (m cb : Nat) (la lb : List Int) (D : List (List Int)) (d off : Int) (w0 : World) (hf : FR w0 g A n ca B m cb la lb D) (hd : d < D.length) (hd1 : -4611686018427387904 < d) (hof : -4611686018427387904 < off ∧ off < 4611686018427387904) (hD : D.length ≤ 1048576) :
    Calls Try.prog 87 #[.pointer (some ⟨g, 0, none⟩), .int .i64 d, .int .i64 off] w0 fun e w' => ∃ u, e = .returned u ∧ Like w0 w' ∧ u = .int .i64 (atV D d off) := by
  refine enter1 (env := [(0, .pointer (some ⟨g, 0, none⟩)), (1, .int .i64 d), (2, .int .i64 off)]) [.pointer (some ⟨g, 0, none⟩), .int .i64 d, .int .i64 off] Try.func87 rfl Try.ntmps87 rfl rfl ?_
  obtain ⟨R, nr, cr, SS, vs, hB, hA1, hB1, hR1, hnr, hrows⟩ := hf; have hla := lenI hA1; have hlb := lenI hB1; have S0 := St.start w0 noM
  refine T_seq fun K1 hK1 => ?_
  refine T_region ?_
  refine L_y (y_assign rfl) rfl ?_
  refine L_nil ?_
  refine hK1 _ _ ?_
  refine T_seq fun K2 hK2 => ?_
  refine T_seq fun K3 hK3 => ?_
  refine T_region ?_
  refine L_y (y_move rfl) rfl ?_
  refine L_y (y_lss rfl rfl) rfl ?_
  refine L_y (y_move rfl) rfl ?_
  refine L_split 9 rfl (fun h9 => ?_) (fun h9 => ?_)
  ·
    refine L_gno rfl rfl rfl ?_
    refine L_gno rfl rfl rfl ?_
    refine L_gno rfl rfl rfl ?_
    refine L_gno rfl rfl rfl ?_
    refine L_y ((by first | exact y_pickT rfl rfl | exact y_pickF rfl rfl)) rfl ?_
    refine L_y (y_move rfl) rfl ?_
    refine L_gno rfl rfl rfl ?_
    refine L_gno rfl rfl rfl ?_
    refine L_gno rfl rfl rfl ?_
    refine L_y ((by first | exact y_pickT rfl rfl | exact y_pickF rfl rfl)) rfl ?_
    refine L_nil ?_
    refine hK3 _ _ ?_
    refine T_true rfl ?_
    refine T_seq fun K4 hK4 => ?_
    refine T_region ?_
    refine L_y (y_assign rfl) rfl ?_
    refine L_nil ?_
    refine hK4 _ _ ?_
    refine T_ret ?_
    repeat (first | with_reducible refine up_then ?_ | with_reducible refine up_in ?_)
    refine ret1 rfl rfl ?_
    first | exact ⟨_, rfl, S0.like0, by rw [hval]⟩ | exact ⟨_, rfl, S0.like0, by rw [atV, if_pos (by omega)]; rfl⟩
  ·
    refine L_gyes rfl rfl ?_
    refine L_y (y_move rfl) rfl ?_
    refine L_gyes rfl rfl ?_
    refine L_y (y_move rfl) rfl ?_
    refine L_gyes rfl rfl ?_
    refine L_y (y_neg rfl (i64w (by omega))) rfl ?_
    refine L_gyes rfl rfl ?_
    refine L_y (y_lss rfl rfl) rfl ?_
    refine L_y ((by first | exact y_pickT rfl rfl | exact y_pickF rfl rfl)) rfl ?_
    refine L_y (y_move rfl) rfl ?_
    refine L_split 15 rfl (fun h15 => ?_) (fun h15 => ?_)
    ·
      refine L_gno rfl rfl rfl ?_
      refine L_gno rfl rfl rfl ?_
      refine L_gno rfl rfl rfl ?_
      refine L_y ((by first | exact y_pickT rfl rfl | exact y_pickF rfl rfl)) rfl ?_
      refine L_nil ?_
      refine hK3 _ _ ?_
      refine T_true rfl ?_
      refine T_seq fun K5 hK5 => ?_
      refine T_region ?_
      refine L_y (y_assign rfl) rfl ?_
      refine L_nil ?_
      refine hK5 _ _ ?_
      refine T_ret ?_
      repeat (first | with_reducible refine up_then ?_ | with_reducible refine up_in ?_)
      refine ret1 rfl rfl ?_
      first | exact ⟨_, rfl, S0.like0, by rw [hval]⟩ | exact ⟨_, rfl, S0.like0, by rw [atV, if_pos (by omega)]; rfl⟩
    ·
      refine L_gyes rfl rfl ?_
      refine L_y (y_move rfl) rfl ?_
      refine L_gyes rfl rfl ?_
      refine L_y (y_move rfl) rfl ?_
      refine L_gyes rfl rfl ?_
      refine L_y (y_gtr rfl rfl) rfl ?_
      refine L_y ((by first | exact y_pickT rfl rfl | exact y_pickF rfl rfl)) rfl ?_
      refine L_nil ?_
      refine hK3 _ _ ?_
      refine T_cond rfl (fun h19 => ?_) (fun h19 => ?_)
      ·
        refine T_seq fun K6 hK6 => ?_
        refine T_region ?_
        refine L_y (y_assign rfl) rfl ?_
        refine L_nil ?_
        refine hK6 _ _ ?_
        refine T_ret ?_
        repeat (first | with_reducible refine up_then ?_ | with_reducible refine up_in ?_)
        refine ret1 rfl rfl ?_
        first | exact ⟨_, rfl, S0.like0, by rw [hval]⟩ | exact ⟨_, rfl, S0.like0, by rw [atV, if_pos (by omega)]; rfl⟩
      ·
        obtain ⟨d0, rfl⟩ : ∃ d0 : Nat, d = (d0 : Int) := ⟨d.toNat, by omega⟩
        obtain ⟨x, hx⟩ : ∃ x, D[d0]? = some x := ⟨_, List.getElem?_eq_getElem (by omega)⟩
        obtain ⟨ad, hv1, hv2, hv3⟩ := hrows d0 x hx
        obtain ⟨j, hj⟩ : ∃ j : Nat, (d0 : Int) + off = j := ⟨((d0 : Int) + off).toNat, by omega⟩
        obtain ⟨y, hy⟩ : ∃ y, x[j]? = some y := ⟨_, List.getElem?_eq_getElem (by omega)⟩
        have hval : atV D d0 off = y := by rw [atV, if_neg (by omega), hj, Int.toNat_natCast, Int.toNat_natCast, List.getD_eq_getElem?_getD, List.getD_eq_getElem?_getD, hx, Option.getD_some, hy]; rfl
        refine T_skip ?_
        refine hK2 _ _ ?_
        refine T_seq fun K7 hK7 => ?_
        refine T_region ?_
        refine L_y (y_move rfl) rfl ?_
        refine L_y (y_nilp rfl) rfl ?_
        refine L_y (y_fieldA 2 Try.underlying107 rfl sz84 rfl rfl rfl) rfl ?_
        refine L_y (y_ldc Try.underlying84 rfl rfl (((S0.rdB hB).cell _).trans (show (#[Value.slice A n ca, .slice B m cb, .slice R nr cr, SS] : Array Value)[2]? = some (Value.slice R nr cr) from rfl))) rfl ?_
        refine L_y (y_move rfl) rfl ?_
        refine L_y (y_idx Try.underlying84 sz22 rfl rfl (S0.rd hR1) inferInstance (by omega)) rfl ?_
        refine L_y (y_ldr Try.underlying22 rfl rfl (S0.rd hR1) hv1) rfl ?_
        refine L_y (y_move rfl) rfl ?_
        refine L_y (y_move rfl) rfl ?_
        refine L_y (y_add rfl rfl (i64w (by omega))) rfl ?_
        refine L_y (y_idx Try.underlying22 sz3 rfl rfl (S0.rd hv2) (Nt.mk (by omega) : Nt _ (j)) (by omega)) rfl ?_
        refine L_y (y_ldr Try.underlying3 rfl rfl (S0.rd hv2) (iL_get _ _ _ hy)) rfl ?_
        refine L_y (y_assign rfl) rfl ?_
        refine L_nil ?_
        refine hK7 _ _ ?_
        refine T_ret ?_
        repeat (first | with_reducible refine up_then ?_ | with_reducible refine up_in ?_)
        refine ret1 rfl rfl ?_
        first | exact ⟨_, rfl, S0.like0, by rw [hval]⟩ | exact ⟨_, rfl, S0.like0, by rw [atV, if_pos (by omega)]; rfl⟩
end Go.Proofs.Ytbbmkgpgiacdeaa

/-
  The field: slide.
-/
namespace Go.Proofs.Ytbbmkgpgiacdeaa
open Go.RowKit Zk Zx
set_option linter.unusedVariables false
set_option linter.unusedSimpArgs false

set_option maxRecDepth 100000 in
theorem fslide (g : Nat) (A : Option Addr) (n ca : Nat) (B : Option Addr) (m cb : Nat) (la lb : List Int) (D : List (List Int)) (i : Nat) (diag : Int) (w0 : World) (hf : FR w0 g A n ca B m cb la lb D) (hn : n ≤ 1048576) (hm : m ≤ 1048576) (hi : i ≤ n) (hdi : diag ≤ i) (hdm : (i : Int) - diag ≤ m) :
    Calls Try.prog 89 #[.pointer (some ⟨g, 0, none⟩), .int .i64 (i : Int), .int .i64 diag] w0 fun e w' => ∃ u, e = .returned u ∧ Like w0 w' ∧ ∃ j : Nat, u = .int .i64 (j : Int) ∧ Slid la lb diag i j := by
  refine enter1 (env := [(0, .pointer (some ⟨g, 0, none⟩)), (1, .int .i64 (i : Int)), (2, .int .i64 diag)]) [.pointer (some ⟨g, 0, none⟩), .int .i64 (i : Int), .int .i64 diag] Try.func89 rfl Try.ntmps89 rfl rfl ?_
  obtain ⟨R, nr, cr, SS, vs, hB, hA1, hB1, hR1, hnr, hrows⟩ := hf; have hla := lenI hA1; have hlb := lenI hB1; have S0 := St.start w0 noM
  refine T_seq fun K1 hK1 => ?_
  refine T_region ?_
  refine L_y (y_assign rfl) rfl ?_
  refine L_nil ?_
  refine hK1 _ _ ?_
  refine T_seq fun K2 hK2 => ?_
  refine T_block ?_
  refine T_loop1 [(0, _), (2, _)] (fun (j : Nat) => [(1, .int .i64 (j : Int))]) (fun (j : Nat) => j) (fun (j : Nat) (w : World) => ((j ≤ i ∧ diag ≤ j) ∧ ∀ t k : Nat, j ≤ t → t < i → (t : Int) - k = diag → ∃ x, la[t]? = some x ∧ lb[k]? = some x) ∧ St w0 noM [] w) i (Sub.cons rfl (by first | rfl | exact congrArg (Value.int _) (by omega)) (Sub.nil _)) (Sub.cons rfl rfl (Sub.cons rfl rfl (Sub.nil _))) ?_ ?_
  ·
    exact ⟨⟨⟨Nat.le_refl _, hdi⟩, fun t k h1 h2 => by omega⟩, S0⟩
  ·
    intro j w1 hrel
    obtain ⟨⟨⟨hj, hdj⟩, hal⟩, S1⟩ := hrel
    refine T_seq fun K3 hK3 => ?_
    refine T_seq fun K4 hK4 => ?_
    refine T_drawnL [(0, true), (1, true), (2, true), (3, true), (4, true), (5, true), (6, true), (7, true), (8, true), (9, true), (10, true), (11, true), (12, true), (13, true), (14, true), (15, true), (16, true), (17, true), (18, true), (19, true), (20, true), (21, true), (22, true), (23, true), (24, true), (25, true), (26, true), (27, true), (28, true)] hmix (by kernel_rfl) fun w2 l2 => ?_
    have S2 := S1.like l2
    refine DL_y rfl (y_move rfl) rfl ?_
    refine DL_y rfl (y_gtr rfl rfl) rfl ?_
    refine DL_y rfl (y_move rfl) rfl ?_
    refine DL_split 9 rfl (fun h9 => ?_) (fun h9 => ?_)
    ·
      refine DL_gyes rfl rfl rfl (y_move rfl) rfl ?_
      refine DL_gyes rfl rfl rfl (y_move rfl) rfl ?_
      refine DL_gyes rfl rfl rfl (y_sub rfl rfl (i64w (by omega))) rfl ?_
      refine DL_gyes rfl rfl rfl (y_gtr rfl rfl) rfl ?_
      refine DL_y rfl ((by first | exact y_pickT rfl rfl | exact y_pickF rfl rfl)) rfl ?_
      refine DL_y rfl (y_move rfl) rfl ?_
      refine DL_split 15 rfl (fun h15 => ?_) (fun h15 => ?_)
      ·
        obtain ⟨x, hx⟩ : ∃ x, la[j - 1]? = some x := ⟨_, List.getElem?_eq_getElem (by omega)⟩
        obtain ⟨k, hk⟩ : ∃ k : Nat, ((j - 1 : Nat) : Int) - k = diag := ⟨(((j - 1 : Nat) : Int) - diag).toNat, by omega⟩
        obtain ⟨y, hy⟩ : ∃ y, lb[k]? = some y := ⟨_, List.getElem?_eq_getElem (by omega)⟩
        refine DL_gyes rfl rfl rfl (y_move rfl) rfl ?_
        refine DL_gyes rfl rfl rfl (y_nilp rfl) rfl ?_
        refine DL_gyes rfl rfl rfl (y_fieldA 0 Try.underlying107 rfl sz22 rfl rfl rfl) rfl ?_
        refine DL_gyes rfl rfl rfl (y_ldc Try.underlying22 rfl rfl (((S2.rdB hB).cell _).trans (show (#[Value.slice A n ca, .slice B m cb, .slice R nr cr, SS] : Array Value)[0]? = some (Value.slice A n ca) from rfl))) rfl ?_
        refine DL_gyes rfl rfl rfl (y_move rfl) rfl ?_
        refine DL_gyes rfl rfl rfl (y_sub rfl rfl (i64w (by omega))) rfl ?_
        refine DL_gyes rfl rfl rfl (y_idx Try.underlying22 sz3 rfl rfl (S2.rd hA1) (Nt.mk (by omega) : Nt _ (j - 1)) (by omega)) rfl ?_
        refine DL_gyes rfl rfl rfl (y_ldr Try.underlying3 rfl rfl (S2.rd hA1) (iL_get _ _ _ hx)) rfl ?_
        refine DL_gyes rfl rfl rfl (y_move rfl) rfl ?_
        refine DL_gyes rfl rfl rfl (y_nilp rfl) rfl ?_
        refine DL_gyes rfl rfl rfl (y_fieldA 1 Try.underlying107 rfl sz22 rfl rfl rfl) rfl ?_
        refine DL_gyes rfl rfl rfl (y_ldc Try.underlying22 rfl rfl (((S2.rdB hB).cell _).trans (show (#[Value.slice A n ca, .slice B m cb, .slice R nr cr, SS] : Array Value)[1]? = some (Value.slice B m cb) from rfl))) rfl ?_
        refine DL_gyes rfl rfl rfl (y_move rfl) rfl ?_
        refine DL_gyes rfl rfl rfl (y_move rfl) rfl ?_
        refine DL_gyes rfl rfl rfl (y_sub rfl rfl (i64w (by omega))) rfl ?_
        refine DL_gyes rfl rfl rfl (y_sub rfl rfl (i64w (by omega))) rfl ?_
        refine DL_gyes rfl rfl rfl (y_idx Try.underlying22 sz3 rfl rfl (S2.rd hB1) (Nt.mk (by omega) : Nt _ (k)) (by omega)) rfl ?_
        refine DL_gyes rfl rfl rfl (y_ldr Try.underlying3 rfl rfl (S2.rd hB1) (iL_get _ _ _ hy)) rfl ?_
        refine DL_gyes rfl rfl rfl (y_eql rfl rfl) rfl ?_
        refine DL_y rfl ((by first | exact y_pickT rfl rfl | exact y_pickF rfl rfl)) rfl ?_
        refine DL_nil ?_
        refine hK4 _ _ ?_
        refine T_cond rfl (fun h35 => ?_) (fun h35 => ?_)
        ·
          refine T_skip ?_
          refine hK3 _ _ ?_
          refine T_block ?_
          refine T_region ?_
          refine L_y (y_move rfl) rfl ?_
          refine L_y (y_sub rfl rfl (i64w (by omega))) rfl ?_
          refine L_y (y_assign rfl) rfl ?_
          refine L_nil ?_
          refine ⟨j - 1, by omega, ⟨⟨⟨by omega, by omega⟩, fun t k2 h1 h2 h3 => by rcases Nat.lt_or_ge t j with h4 | h4; (have e1 : t = j - 1 := by omega); (have e2 : k2 = k := by omega); subst e1; subst e2; exact ⟨x, hx, by rw [h35]; exact hy⟩; exact hal t k2 h4 h2 h3⟩, S2⟩, ?_⟩
          exact (Sub.cons rfl (congrArg (Value.int _) (by omega)) (Sub.cons rfl rfl (Sub.cons rfl rfl (Sub.nil _))))
        ·
          refine T_exit ?_
          refine hK2 _ _ ?_
          refine T_seq fun K5 hK5 => ?_
          refine T_region ?_
          refine L_y (y_move rfl) rfl ?_
          refine L_y (y_assign rfl) rfl ?_
          refine L_nil ?_
          refine hK5 _ _ ?_
          refine T_ret ?_
          repeat (first | with_reducible refine up_then ?_ | with_reducible refine up_in ?_)
          refine ret1 rfl rfl ?_
          first | exact ⟨_, rfl, S2.like0, j, rfl, hj, hdj, hal, fun t k2 h1 h2 z hz1 hz2 => by (have e1 : t = j - 1 := by omega); (have e2 : k2 = k := by omega); subst e1; subst e2; rw [hx] at hz1; rw [hy] at hz2; exact h35 (by rw [Option.some.inj hz1, Option.some.inj hz2])⟩ | exact ⟨_, rfl, S2.like0, j, rfl, hj, hdj, hal, fun t k2 h1 h2 z hz1 hz2 => by omega⟩
      ·
        refine DL_gno rfl rfl rfl rfl ?_
        refine DL_gno rfl rfl rfl rfl ?_
        refine DL_gno rfl rfl rfl rfl ?_
        refine DL_gno rfl rfl rfl rfl ?_
        refine DL_gno rfl rfl rfl rfl ?_
        refine DL_gno rfl rfl rfl rfl ?_
        refine DL_gno rfl rfl rfl rfl ?_
        refine DL_gno rfl rfl rfl rfl ?_
        refine DL_gno rfl rfl rfl rfl ?_
        refine DL_gno rfl rfl rfl rfl ?_
        refine DL_gno rfl rfl rfl rfl ?_
        refine DL_gno rfl rfl rfl rfl ?_
        refine DL_gno rfl rfl rfl rfl ?_
        refine DL_gno rfl rfl rfl rfl ?_
        refine DL_gno rfl rfl rfl rfl ?_
        refine DL_gno rfl rfl rfl rfl ?_
        refine DL_gno rfl rfl rfl rfl ?_
        refine DL_gno rfl rfl rfl rfl ?_
        refine DL_gno rfl rfl rfl rfl ?_
        refine DL_y rfl ((by first | exact y_pickT rfl rfl | exact y_pickF rfl rfl)) rfl ?_
        refine DL_nil ?_
        refine hK4 _ _ ?_
        refine T_false rfl ?_
        refine T_exit ?_
        refine hK2 _ _ ?_
        refine T_seq fun K6 hK6 => ?_
        refine T_region ?_
        refine L_y (y_move rfl) rfl ?_
        refine L_y (y_assign rfl) rfl ?_
        refine L_nil ?_
        refine hK6 _ _ ?_
        refine T_ret ?_
        repeat (first | with_reducible refine up_then ?_ | with_reducible refine up_in ?_)
        refine ret1 rfl rfl ?_
        first | exact ⟨_, rfl, S2.like0, j, rfl, hj, hdj, hal, fun t k2 h1 h2 z hz1 hz2 => by (have e1 : t = j - 1 := by omega); (have e2 : k2 = k := by omega); subst e1; subst e2; rw [hx] at hz1; rw [hy] at hz2; exact h35 (by rw [Option.some.inj hz1, Option.some.inj hz2])⟩ | exact ⟨_, rfl, S2.like0, j, rfl, hj, hdj, hal, fun t k2 h1 h2 z hz1 hz2 => by omega⟩
    ·
      refine DL_gno rfl rfl rfl rfl ?_
      refine DL_gno rfl rfl rfl rfl ?_
      refine DL_gno rfl rfl rfl rfl ?_
      refine DL_gno rfl rfl rfl rfl ?_
      refine DL_y rfl ((by first | exact y_pickT rfl rfl | exact y_pickF rfl rfl)) rfl ?_
      refine DL_y rfl (y_move rfl) rfl ?_
      refine DL_gno rfl rfl rfl rfl ?_
      refine DL_gno rfl rfl rfl rfl ?_
      refine DL_gno rfl rfl rfl rfl ?_
      refine DL_gno rfl rfl rfl rfl ?_
      refine DL_gno rfl rfl rfl rfl ?_
      refine DL_gno rfl rfl rfl rfl ?_
      refine DL_gno rfl rfl rfl rfl ?_
      refine DL_gno rfl rfl rfl rfl ?_
      refine DL_gno rfl rfl rfl rfl ?_
      refine DL_gno rfl rfl rfl rfl ?_
      refine DL_gno rfl rfl rfl rfl ?_
      refine DL_gno rfl rfl rfl rfl ?_
      refine DL_gno rfl rfl rfl rfl ?_
      refine DL_gno rfl rfl rfl rfl ?_
      refine DL_gno rfl rfl rfl rfl ?_
      refine DL_gno rfl rfl rfl rfl ?_
      refine DL_gno rfl rfl rfl rfl ?_
      refine DL_gno rfl rfl rfl rfl ?_
      refine DL_gno rfl rfl rfl rfl ?_
      refine DL_y rfl ((by first | exact y_pickT rfl rfl | exact y_pickF rfl rfl)) rfl ?_
      refine DL_nil ?_
      refine hK4 _ _ ?_
      refine T_false rfl ?_
      refine T_exit ?_
      refine hK2 _ _ ?_
      refine T_seq fun K7 hK7 => ?_
      refine T_region ?_
      refine L_y (y_move rfl) rfl ?_
      refine L_y (y_assign rfl) rfl ?_
      refine L_nil ?_
      refine hK7 _ _ ?_
      refine T_ret ?_
      repeat (first | with_reducible refine up_then ?_ | with_reducible refine up_in ?_)
      refine ret1 rfl rfl ?_
      first | exact ⟨_, rfl, S2.like0, j, rfl, hj, hdj, hal, fun t k2 h1 h2 z hz1 hz2 => by (have e1 : t = j - 1 := by omega); (have e2 : k2 = k := by omega); subst e1; subst e2; rw [hx] at hz1; rw [hy] at hz2; exact h35 (by rw [Option.some.inj hz1, Option.some.inj hz2])⟩ | exact ⟨_, rfl, S2.like0, j, rfl, hj, hdj, hal, fun t k2 h1 h2 z hz1 hz2 => by omega⟩
end Go.Proofs.Ytbbmkgpgiacdeaa

/-
  The field: best.
-/
namespace Go.Proofs.Ytbbmkgpgiacdeaa
open Go.RowKit Zk Zx
set_option linter.unusedVariables false
set_option linter.unusedSimpArgs false

/-- What is known of the rows that are there. -/
def Tab (la lb : List Int) (D : List (List Int)) : Prop := ∀ d off : Int, d < D.length → Good la lb d off (atV D d off)
theorem good_range {la lb : List Int} {d off v : Int} (h : Good la lb d off v) (hn : la.length ≤ 1048576) : 0 ≤ v ∧ v ≤ farN := by
  rcases h.sound with h1 | ⟨i, h1, k, h2, h3, _⟩
  · rw [h1]; unfold farN; omega
  · unfold farN; omega
def c1 (la : List Int) (d : Int) : Int := if d = 0 then (la.length : Int) else farN
def c2 (la : List Int) (d x2 : Int) : Int := if x2 < c1 la d then x2 else c1 la d
def c3 (la lb : List Int) (d diag x2 xa : Int) : Int := if xa < farN ∧ 0 ≤ xa - 1 ∧ xa - 1 < c2 la d x2 ∧ xa - 1 - diag ≤ lb.length then xa - 1 else c2 la d x2
theorem cand_c (la lb : List Int) (d diag x2 xa xb : Int) : candN la lb d diag x2 xa xb = if xb < farN ∧ 0 ≤ xb - diag ∧ xb < c3 la lb d diag x2 xa then xb else c3 la lb d diag x2 xa := rfl
theorem c1_r (la : List Int) (d : Int) (h : la.length ≤ 1048576) : 0 ≤ c1 la d ∧ c1 la d ≤ farN := by unfold c1; split <;> unfold farN <;> omega
theorem c2_r (la : List Int) (d x2 : Int) (h : la.length ≤ 1048576) (h2 : 0 ≤ x2) : 0 ≤ c2 la d x2 ∧ c2 la d x2 ≤ farN := by have := c1_r la d h; unfold c2; split <;> omega
theorem c3_r (la lb : List Int) (d diag x2 xa : Int) (h : la.length ≤ 1048576) (h2 : 0 ≤ x2) : 0 ≤ c3 la lb d diag x2 xa ∧ c3 la lb d diag x2 xa ≤ farN := by
  have := c2_r la d x2 h h2
  unfold c3
  by_cases h3 : xa < farN ∧ 0 ≤ xa - 1 ∧ xa - 1 < c2 la d x2 ∧ xa - 1 - diag ≤ lb.length
  · rw [if_pos h3]; omega
  · rw [if_neg h3]; omega


set_option maxRecDepth 100000 in
theorem fbest (g : Nat) (A : Option Addr) (n ca : Nat) (B : Option Addr) (m cb : Nat) (la lb : List Int) (D : List (List Int)) (d off en : Int) (w0 : World) (hf : FR w0 g A n ca B m cb la lb D) (hn : n ≤ 1048576) (hm : m ≤ 1048576) (hD : D.length ≤ 1048576) (hdD : d = D.length) (hd0 : 0 ≤ d) (ho1 : -d ≤ off) (ho2 : off ≤ d) (he : en = (n : Int) - m) (ht : Tab la lb D) :
    Calls Try.prog 86 #[.pointer (some ⟨g, 0, none⟩), .int .i64 d, .int .i64 off, .int .i64 en] w0 fun e w' => ∃ u, e = .returned u ∧ Like w0 w' ∧ ∃ v : Int, u = .int .i64 v ∧ Good la lb d off v := by
  refine enter1 (env := [(0, .pointer (some ⟨g, 0, none⟩)), (1, .int .i64 d), (2, .int .i64 off), (3, .int .i64 en)]) [.pointer (some ⟨g, 0, none⟩), .int .i64 d, .int .i64 off, .int .i64 en] Try.func86 rfl Try.ntmps86 rfl rfl ?_
  have hf0 := hf; obtain ⟨R, nr, cr, SS, vs, hB, hA1, hB1, hR1, hnr, hrows⟩ := hf; have hla := lenI hA1; have hlb := lenI hB1; have S0 := St.start w0 noM
  refine T_seq fun K1 hK1 => ?_
  refine T_region ?_
  refine L_y (y_assign rfl) rfl ?_
  refine L_nil ?_
  refine hK1 _ _ ?_
  refine T_seq fun K2 hK2 => ?_
  have hlf : (la.length : Int) < farN := by unfold farN; omega
  have hdg : en + off = (la.length : Int) - lb.length + off := by omega
  have hg2 := ht (d - 2) off (by omega)
  have hga := ht (d - 1) (off + 1) (by omega)
  have hgb := ht (d - 1) (off - 1) (by omega)
  have hr2 := good_range hg2 (by omega)
  have hra := good_range hga (by omega)
  have hrb := good_range hgb (by omega)
  have hfN : farN = 1073741824 := rfl
  have hc1 := c1_r la d (by omega)
  have hc2 := c2_r la d (atV D (d - 2) off) (by omega) hr2.1
  have hc3 := c3_r la lb d (en + off) (atV D (d - 2) off) (atV D (d - 1) (off + 1)) (by omega) hr2.1
  refine T_region ?_
  refine L_y (y_move rfl) rfl ?_
  refine L_y (y_move rfl) rfl ?_
  refine L_y (y_add rfl rfl (i64w (by omega))) rfl ?_
  refine L_y (y_assign rfl) rfl ?_
  refine L_nil ?_
  refine hK2 _ _ ?_
  refine T_seq fun K3 hK3 => ?_
  refine T_region ?_
  refine L_y (y_assign rfl) rfl ?_
  refine L_nil ?_
  refine hK3 _ _ ?_
  refine T_seqR (fun (e : Env) (w : World) => Sub [(0, .pointer (some ⟨g, 0, none⟩)), (1, .int .i64 d), (2, .int .i64 off), (9, .int .i64 (en + off)), (10, .int .i64 (c1 la d))] e ∧ St w0 noM [] w) ?_ ?_
  ·
    refine T_seq fun K5 hK5 => ?_
    refine T_region ?_
    refine L_y (y_move rfl) rfl ?_
    refine L_y (y_eql rfl rfl) rfl ?_
    refine L_nil ?_
    refine hK5 _ _ ?_
    refine T_cond rfl (fun h18 => ?_) (fun h18 => ?_)
    ·
      refine T_region ?_
      refine L_y (y_move rfl) rfl ?_
      refine L_y (y_nilp rfl) rfl ?_
      refine L_y (y_fieldA 0 Try.underlying107 rfl sz22 rfl rfl rfl) rfl ?_
      refine L_y (y_ldc Try.underlying22 rfl rfl (((S0.rdB hB).cell _).trans (show (#[Value.slice A n ca, .slice B m cb, .slice R nr cr, SS] : Array Value)[0]? = some (Value.slice A n ca) from rfl))) rfl ?_
      refine L_y (y_len Try.underlying22 rfl) rfl ?_
      refine L_y (y_assign rfl) rfl ?_
      refine L_nil ?_
      exact ⟨(Sub.cons rfl (by first | rfl | exact congrArg (Value.int _) (by omega)) (Sub.cons rfl (by first | rfl | exact congrArg (Value.int _) (by omega)) (Sub.cons rfl (by first | rfl | exact congrArg (Value.int _) (by omega)) (Sub.cons rfl (by first | rfl | exact congrArg (Value.int _) (by omega)) (Sub.cons rfl (congrArg (Value.int _) (by first | (rw [c1, if_pos (by omega)]; omega) | (rw [c1, if_neg (by omega)]; rfl))) (Sub.nil _)))))), S0⟩
    ·
      refine T_skip ?_
      exact ⟨(Sub.cons rfl (by first | rfl | exact congrArg (Value.int _) (by omega)) (Sub.cons rfl (by first | rfl | exact congrArg (Value.int _) (by omega)) (Sub.cons rfl (by first | rfl | exact congrArg (Value.int _) (by omega)) (Sub.cons rfl (by first | rfl | exact congrArg (Value.int _) (by omega)) (Sub.cons rfl (congrArg (Value.int _) (by first | (rw [c1, if_pos (by omega)]; omega) | (rw [c1, if_neg (by omega)]; rfl))) (Sub.nil _)))))), S0⟩
  ·
    rintro e1 w1 ⟨hsub, S1⟩
    refine T_weak hsub ?_
    refine T_seqR (fun (e : Env) (w : World) => Sub [(0, .pointer (some ⟨g, 0, none⟩)), (1, .int .i64 d), (2, .int .i64 off), (9, .int .i64 (en + off)), (10, .int .i64 (c2 la d (atV D (d - 2) off)))] e ∧ St w0 noM [] w) ?_ ?_
    ·
      refine T_seq fun K7 hK7 => ?_
      refine T_region ?_
      refine L_y (y_move rfl) rfl ?_
      refine L_y (y_move rfl) rfl ?_
      refine L_y (y_sub rfl rfl (i64w (by omega))) rfl ?_
      refine L_y (y_move rfl) rfl ?_
      refine L_o (o_call Try.func87 rfl rfl (fat g A n ca B m cb la lb D (d - 2) (off) w1 (hf0.like S1.like0) (by omega) (by omega) (by omega) hD) rfl rfl ?_)
      rintro e2 w2 ⟨v2, rfl, l2, rfl⟩
      refine ⟨_, rfl, ?_⟩
      have S2 := S1.like l2
      refine L_y (y_assign rfl) rfl ?_
      refine L_nil ?_
      refine hK7 _ _ ?_
      refine T_seq fun K8 hK8 => ?_
      refine T_region ?_
      refine L_y (y_move rfl) rfl ?_
      refine L_y (y_move rfl) rfl ?_
      refine L_y (y_lss rfl rfl) rfl ?_
      refine L_nil ?_
      refine hK8 _ _ ?_
      refine T_cond rfl (fun h31 => ?_) (fun h31 => ?_)
      ·
        refine T_region ?_
        refine L_y (y_move rfl) rfl ?_
        refine L_y (y_assign rfl) rfl ?_
        refine L_nil ?_
        exact ⟨(Sub.cons rfl (by first | rfl | exact congrArg (Value.int _) (by omega)) (Sub.cons rfl (by first | rfl | exact congrArg (Value.int _) (by omega)) (Sub.cons rfl (by first | rfl | exact congrArg (Value.int _) (by omega)) (Sub.cons rfl (by first | rfl | exact congrArg (Value.int _) (by omega)) (Sub.cons rfl (congrArg (Value.int _) (by first | rw [c2, if_pos (by omega)] | rw [c2, if_neg (by omega)])) (Sub.nil _)))))), S2⟩
      ·
        refine T_skip ?_
        exact ⟨(Sub.cons rfl (by first | rfl | exact congrArg (Value.int _) (by omega)) (Sub.cons rfl (by first | rfl | exact congrArg (Value.int _) (by omega)) (Sub.cons rfl (by first | rfl | exact congrArg (Value.int _) (by omega)) (Sub.cons rfl (by first | rfl | exact congrArg (Value.int _) (by omega)) (Sub.cons rfl (congrArg (Value.int _) (by first | rw [c2, if_pos (by omega)] | rw [c2, if_neg (by omega)])) (Sub.nil _)))))), S2⟩
    ·
      rintro e3 w3 ⟨hsub, S3⟩
      refine T_weak hsub ?_
      refine T_seqR (fun (e : Env) (w : World) => Sub [(0, .pointer (some ⟨g, 0, none⟩)), (1, .int .i64 d), (2, .int .i64 off), (9, .int .i64 (en + off)), (10, .int .i64 (c3 la lb d (en + off) (atV D (d - 2) off) (atV D (d - 1) (off + 1))))] e ∧ St w0 noM [] w) ?_ ?_
      ·
        refine T_seq fun K10 hK10 => ?_
        refine T_region ?_
        refine L_y (y_move rfl) rfl ?_
        refine L_y (y_move rfl) rfl ?_
        refine L_y (y_sub rfl rfl (i64w (by omega))) rfl ?_
        refine L_y (y_move rfl) rfl ?_
        refine L_y (y_add rfl rfl (i64w (by omega))) rfl ?_
        refine L_o (o_call Try.func87 rfl rfl (fat g A n ca B m cb la lb D (d - 1) (off + 1) w3 (hf0.like S3.like0) (by omega) (by omega) (by omega) hD) rfl rfl ?_)
        rintro e4 w4 ⟨v4, rfl, l4, rfl⟩
        refine ⟨_, rfl, ?_⟩
        have S4 := S3.like l4
        refine L_y (y_assign rfl) rfl ?_
        refine L_nil ?_
        refine hK10 _ _ ?_
        refine T_seq fun K11 hK11 => ?_
        refine T_region ?_
        refine L_y (y_move rfl) rfl ?_
        refine L_y (y_lss rfl rfl) rfl ?_
        refine L_y (y_move rfl) rfl ?_
        refine L_split 41 rfl (fun h41 => ?_) (fun h41 => ?_)
        ·
          refine L_gyes rfl rfl ?_
          refine L_y (y_move rfl) rfl ?_
          refine L_gyes rfl rfl ?_
          refine L_y (y_sub rfl rfl (i64w (by omega))) rfl ?_
          refine L_gyes rfl rfl ?_
          refine L_y (y_geq rfl rfl) rfl ?_
          refine L_y ((by first | exact y_pickT rfl rfl | exact y_pickF rfl rfl)) rfl ?_
          refine L_y (y_move rfl) rfl ?_
          refine L_split 46 rfl (fun h46 => ?_) (fun h46 => ?_)
          ·
            refine L_gyes rfl rfl ?_
            refine L_y (y_move rfl) rfl ?_
            refine L_gyes rfl rfl ?_
            refine L_y (y_sub rfl rfl (i64w (by omega))) rfl ?_
            refine L_gyes rfl rfl ?_
            refine L_y (y_move rfl) rfl ?_
            refine L_gyes rfl rfl ?_
            refine L_y (y_lss rfl rfl) rfl ?_
            refine L_y ((by first | exact y_pickT rfl rfl | exact y_pickF rfl rfl)) rfl ?_
            refine L_y (y_move rfl) rfl ?_
            refine L_split 52 rfl (fun h52 => ?_) (fun h52 => ?_)
            ·
              refine L_gyes rfl rfl ?_
              refine L_y (y_move rfl) rfl ?_
              refine L_gyes rfl rfl ?_
              refine L_y (y_sub rfl rfl (i64w (by omega))) rfl ?_
              refine L_gyes rfl rfl ?_
              refine L_y (y_move rfl) rfl ?_
              refine L_gyes rfl rfl ?_
              refine L_y (y_sub rfl rfl (i64w (by omega))) rfl ?_
              refine L_gyes rfl rfl ?_
              refine L_y (y_move rfl) rfl ?_
              refine L_gyes rfl rfl ?_
              refine L_y (y_nilp rfl) rfl ?_
              refine L_gyes rfl rfl ?_
              refine L_y (y_fieldA 1 Try.underlying107 rfl sz22 rfl rfl rfl) rfl ?_
              refine L_gyes rfl rfl ?_
              refine L_y (y_ldc Try.underlying22 rfl rfl (((S4.rdB hB).cell _).trans (show (#[Value.slice A n ca, .slice B m cb, .slice R nr cr, SS] : Array Value)[1]? = some (Value.slice B m cb) from rfl))) rfl ?_
              refine L_gyes rfl rfl ?_
              refine L_y (y_len Try.underlying22 rfl) rfl ?_
              refine L_gyes rfl rfl ?_
              refine L_y (y_leq rfl rfl) rfl ?_
              refine L_y ((by first | exact y_pickT rfl rfl | exact y_pickF rfl rfl)) rfl ?_
              refine L_nil ?_
              refine hK11 _ _ ?_
              refine T_cond rfl (fun h63 => ?_) (fun h63 => ?_)
              ·
                refine T_region ?_
                refine L_y (y_move rfl) rfl ?_
                refine L_y (y_sub rfl rfl (i64w (by omega))) rfl ?_
                refine L_y (y_assign rfl) rfl ?_
                refine L_nil ?_
                exact ⟨(Sub.cons rfl (by first | rfl | exact congrArg (Value.int _) (by omega)) (Sub.cons rfl (by first | rfl | exact congrArg (Value.int _) (by omega)) (Sub.cons rfl (by first | rfl | exact congrArg (Value.int _) (by omega)) (Sub.cons rfl (by first | rfl | exact congrArg (Value.int _) (by omega)) (Sub.cons rfl (congrArg (Value.int _) (by first | rw [c3, if_pos ⟨by omega, by omega, by omega, by omega⟩] | rw [c3, if_neg (fun h => by obtain ⟨q1, q2, q3, q4⟩ := h; omega)])) (Sub.nil _)))))), S4⟩
              ·
                refine T_skip ?_
                exact ⟨(Sub.cons rfl (by first | rfl | exact congrArg (Value.int _) (by omega)) (Sub.cons rfl (by first | rfl | exact congrArg (Value.int _) (by omega)) (Sub.cons rfl (by first | rfl | exact congrArg (Value.int _) (by omega)) (Sub.cons rfl (by first | rfl | exact congrArg (Value.int _) (by omega)) (Sub.cons rfl (congrArg (Value.int _) (by first | rw [c3, if_pos ⟨by omega, by omega, by omega, by omega⟩] | rw [c3, if_neg (fun h => by obtain ⟨q1, q2, q3, q4⟩ := h; omega)])) (Sub.nil _)))))), S4⟩
            ·
              refine L_gno rfl rfl rfl ?_
              refine L_gno rfl rfl rfl ?_
              refine L_gno rfl rfl rfl ?_
              refine L_gno rfl rfl rfl ?_
              refine L_gno rfl rfl rfl ?_
              refine L_gno rfl rfl rfl ?_
              refine L_gno rfl rfl rfl ?_
              refine L_gno rfl rfl rfl ?_
              refine L_gno rfl rfl rfl ?_
              refine L_gno rfl rfl rfl ?_
              refine L_y ((by first | exact y_pickT rfl rfl | exact y_pickF rfl rfl)) rfl ?_
              refine L_nil ?_
              refine hK11 _ _ ?_
              refine T_false rfl ?_
              refine T_skip ?_
              exact ⟨(Sub.cons rfl (by first | rfl | exact congrArg (Value.int _) (by omega)) (Sub.cons rfl (by first | rfl | exact congrArg (Value.int _) (by omega)) (Sub.cons rfl (by first | rfl | exact congrArg (Value.int _) (by omega)) (Sub.cons rfl (by first | rfl | exact congrArg (Value.int _) (by omega)) (Sub.cons rfl (congrArg (Value.int _) (by first | rw [c3, if_pos ⟨by omega, by omega, by omega, by omega⟩] | rw [c3, if_neg (fun h => by obtain ⟨q1, q2, q3, q4⟩ := h; omega)])) (Sub.nil _)))))), S4⟩
          ·
            refine L_gno rfl rfl rfl ?_
            refine L_gno rfl rfl rfl ?_
            refine L_gno rfl rfl rfl ?_
            refine L_gno rfl rfl rfl ?_
            refine L_y ((by first | exact y_pickT rfl rfl | exact y_pickF rfl rfl)) rfl ?_
            refine L_y (y_move rfl) rfl ?_
            refine L_gno rfl rfl rfl ?_
            refine L_gno rfl rfl rfl ?_
            refine L_gno rfl rfl rfl ?_
            refine L_gno rfl rfl rfl ?_
            refine L_gno rfl rfl rfl ?_
            refine L_gno rfl rfl rfl ?_
            refine L_gno rfl rfl rfl ?_
            refine L_gno rfl rfl rfl ?_
            refine L_gno rfl rfl rfl ?_
            refine L_gno rfl rfl rfl ?_
            refine L_y ((by first | exact y_pickT rfl rfl | exact y_pickF rfl rfl)) rfl ?_
            refine L_nil ?_
            refine hK11 _ _ ?_
            refine T_false rfl ?_
            refine T_skip ?_
            exact ⟨(Sub.cons rfl (by first | rfl | exact congrArg (Value.int _) (by omega)) (Sub.cons rfl (by first | rfl | exact congrArg (Value.int _) (by omega)) (Sub.cons rfl (by first | rfl | exact congrArg (Value.int _) (by omega)) (Sub.cons rfl (by first | rfl | exact congrArg (Value.int _) (by omega)) (Sub.cons rfl (congrArg (Value.int _) (by first | rw [c3, if_pos ⟨by omega, by omega, by omega, by omega⟩] | rw [c3, if_neg (fun h => by obtain ⟨q1, q2, q3, q4⟩ := h; omega)])) (Sub.nil _)))))), S4⟩
        ·
          refine L_gno rfl rfl rfl ?_
          refine L_gno rfl rfl rfl ?_
          refine L_gno rfl rfl rfl ?_
          refine L_y ((by first | exact y_pickT rfl rfl | exact y_pickF rfl rfl)) rfl ?_
          refine L_y (y_move rfl) rfl ?_
          refine L_gno rfl rfl rfl ?_
          refine L_gno rfl rfl rfl ?_
          refine L_gno rfl rfl rfl ?_
          refine L_gno rfl rfl rfl ?_
          refine L_y ((by first | exact y_pickT rfl rfl | exact y_pickF rfl rfl)) rfl ?_
          refine L_y (y_move rfl) rfl ?_
          refine L_gno rfl rfl rfl ?_
          refine L_gno rfl rfl rfl ?_
          refine L_gno rfl rfl rfl ?_
          refine L_gno rfl rfl rfl ?_
          refine L_gno rfl rfl rfl ?_
          refine L_gno rfl rfl rfl ?_
          refine L_gno rfl rfl rfl ?_
          refine L_gno rfl rfl rfl ?_
          refine L_gno rfl rfl rfl ?_
          refine L_gno rfl rfl rfl ?_
          refine L_y ((by first | exact y_pickT rfl rfl | exact y_pickF rfl rfl)) rfl ?_
          refine L_nil ?_
          refine hK11 _ _ ?_
          refine T_false rfl ?_
          refine T_skip ?_
          exact ⟨(Sub.cons rfl (by first | rfl | exact congrArg (Value.int _) (by omega)) (Sub.cons rfl (by first | rfl | exact congrArg (Value.int _) (by omega)) (Sub.cons rfl (by first | rfl | exact congrArg (Value.int _) (by omega)) (Sub.cons rfl (by first | rfl | exact congrArg (Value.int _) (by omega)) (Sub.cons rfl (congrArg (Value.int _) (by first | rw [c3, if_pos ⟨by omega, by omega, by omega, by omega⟩] | rw [c3, if_neg (fun h => by obtain ⟨q1, q2, q3, q4⟩ := h; omega)])) (Sub.nil _)))))), S4⟩
      ·
        rintro e8 w8 ⟨hsub, S8⟩
        refine T_weak hsub ?_
        refine T_seqR (fun (e : Env) (w : World) => Sub [(0, .pointer (some ⟨g, 0, none⟩)), (1, .int .i64 d), (2, .int .i64 off), (9, .int .i64 (en + off)), (10, .int .i64 (candN la lb d (en + off) (atV D (d - 2) off) (atV D (d - 1) (off + 1)) (atV D (d - 1) (off - 1))))] e ∧ St w0 noM [] w) ?_ ?_
        ·
          refine T_seq fun K13 hK13 => ?_
          refine T_region ?_
          refine L_y (y_move rfl) rfl ?_
          refine L_y (y_move rfl) rfl ?_
          refine L_y (y_sub rfl rfl (i64w (by omega))) rfl ?_
          refine L_y (y_move rfl) rfl ?_
          refine L_y (y_sub rfl rfl (i64w (by omega))) rfl ?_
          refine L_o (o_call Try.func87 rfl rfl (fat g A n ca B m cb la lb D (d - 1) (off - 1) w8 (hf0.like S8.like0) (by omega) (by omega) (by omega) hD) rfl rfl ?_)
          rintro e9 w9 ⟨v9, rfl, l9, rfl⟩
          refine ⟨_, rfl, ?_⟩
          have S9 := S8.like l9
          refine L_y (y_assign rfl) rfl ?_
          refine L_nil ?_
          refine hK13 _ _ ?_
          refine T_seq fun K14 hK14 => ?_
          refine T_region ?_
          refine L_y (y_move rfl) rfl ?_
          refine L_y (y_lss rfl rfl) rfl ?_
          refine L_y (y_move rfl) rfl ?_
          refine L_split 74 rfl (fun h74 => ?_) (fun h74 => ?_)
          ·
            refine L_gyes rfl rfl ?_
            refine L_y (y_move rfl) rfl ?_
            refine L_gyes rfl rfl ?_
            refine L_y (y_move rfl) rfl ?_
            refine L_gyes rfl rfl ?_
            refine L_y (y_sub rfl rfl (i64w (by omega))) rfl ?_
            refine L_gyes rfl rfl ?_
            refine L_y (y_geq rfl rfl) rfl ?_
            refine L_y ((by first | exact y_pickT rfl rfl | exact y_pickF rfl rfl)) rfl ?_
            refine L_y (y_move rfl) rfl ?_
            refine L_split 80 rfl (fun h80 => ?_) (fun h80 => ?_)
            ·
              refine L_gyes rfl rfl ?_
              refine L_y (y_move rfl) rfl ?_
              refine L_gyes rfl rfl ?_
              refine L_y (y_move rfl) rfl ?_
              refine L_gyes rfl rfl ?_
              refine L_y (y_lss rfl rfl) rfl ?_
              refine L_y ((by first | exact y_pickT rfl rfl | exact y_pickF rfl rfl)) rfl ?_
              refine L_nil ?_
              refine hK14 _ _ ?_
              refine T_cond rfl (fun h84 => ?_) (fun h84 => ?_)
              ·
                refine T_region ?_
                refine L_y (y_move rfl) rfl ?_
                refine L_y (y_assign rfl) rfl ?_
                refine L_nil ?_
                exact ⟨(Sub.cons rfl (by first | rfl | exact congrArg (Value.int _) (by omega)) (Sub.cons rfl (by first | rfl | exact congrArg (Value.int _) (by omega)) (Sub.cons rfl (by first | rfl | exact congrArg (Value.int _) (by omega)) (Sub.cons rfl (by first | rfl | exact congrArg (Value.int _) (by omega)) (Sub.cons rfl (congrArg (Value.int _) (by first | rw [cand_c, if_pos ⟨by omega, by omega, by omega⟩] | rw [cand_c, if_neg (fun h => by obtain ⟨q1, q2, q3⟩ := h; omega)])) (Sub.nil _)))))), S9⟩
              ·
                refine T_skip ?_
                exact ⟨(Sub.cons rfl (by first | rfl | exact congrArg (Value.int _) (by omega)) (Sub.cons rfl (by first | rfl | exact congrArg (Value.int _) (by omega)) (Sub.cons rfl (by first | rfl | exact congrArg (Value.int _) (by omega)) (Sub.cons rfl (by first | rfl | exact congrArg (Value.int _) (by omega)) (Sub.cons rfl (congrArg (Value.int _) (by first | rw [cand_c, if_pos ⟨by omega, by omega, by omega⟩] | rw [cand_c, if_neg (fun h => by obtain ⟨q1, q2, q3⟩ := h; omega)])) (Sub.nil _)))))), S9⟩
            ·
              refine L_gno rfl rfl rfl ?_
              refine L_gno rfl rfl rfl ?_
              refine L_gno rfl rfl rfl ?_
              refine L_y ((by first | exact y_pickT rfl rfl | exact y_pickF rfl rfl)) rfl ?_
              refine L_nil ?_
              refine hK14 _ _ ?_
              refine T_false rfl ?_
              refine T_skip ?_
              exact ⟨(Sub.cons rfl (by first | rfl | exact congrArg (Value.int _) (by omega)) (Sub.cons rfl (by first | rfl | exact congrArg (Value.int _) (by omega)) (Sub.cons rfl (by first | rfl | exact congrArg (Value.int _) (by omega)) (Sub.cons rfl (by first | rfl | exact congrArg (Value.int _) (by omega)) (Sub.cons rfl (congrArg (Value.int _) (by first | rw [cand_c, if_pos ⟨by omega, by omega, by omega⟩] | rw [cand_c, if_neg (fun h => by obtain ⟨q1, q2, q3⟩ := h; omega)])) (Sub.nil _)))))), S9⟩
          ·
            refine L_gno rfl rfl rfl ?_
            refine L_gno rfl rfl rfl ?_
            refine L_gno rfl rfl rfl ?_
            refine L_gno rfl rfl rfl ?_
            refine L_y ((by first | exact y_pickT rfl rfl | exact y_pickF rfl rfl)) rfl ?_
            refine L_y (y_move rfl) rfl ?_
            refine L_gno rfl rfl rfl ?_
            refine L_gno rfl rfl rfl ?_
            refine L_gno rfl rfl rfl ?_
            refine L_y ((by first | exact y_pickT rfl rfl | exact y_pickF rfl rfl)) rfl ?_
            refine L_nil ?_
            refine hK14 _ _ ?_
            refine T_false rfl ?_
            refine T_skip ?_
            exact ⟨(Sub.cons rfl (by first | rfl | exact congrArg (Value.int _) (by omega)) (Sub.cons rfl (by first | rfl | exact congrArg (Value.int _) (by omega)) (Sub.cons rfl (by first | rfl | exact congrArg (Value.int _) (by omega)) (Sub.cons rfl (by first | rfl | exact congrArg (Value.int _) (by omega)) (Sub.cons rfl (congrArg (Value.int _) (by first | rw [cand_c, if_pos ⟨by omega, by omega, by omega⟩] | rw [cand_c, if_neg (fun h => by obtain ⟨q1, q2, q3⟩ := h; omega)])) (Sub.nil _)))))), S9⟩
        ·
          rintro e12 w12 ⟨hsub, S12⟩
          refine T_weak hsub ?_
          refine T_seq fun K15 hK15 => ?_
          refine T_seq fun K16 hK16 => ?_
          refine T_region ?_
          refine L_y (y_move rfl) rfl ?_
          refine L_y (y_eql rfl rfl) rfl ?_
          refine L_nil ?_
          refine hK16 _ _ ?_
          refine T_cond rfl (fun h87 => ?_) (fun h87 => ?_)
          ·
            refine T_seq fun K17 hK17 => ?_
            refine T_region ?_
            refine L_y (y_assign rfl) rfl ?_
            refine L_nil ?_
            refine hK17 _ _ ?_
            refine T_ret ?_
            repeat (first | with_reducible refine up_then ?_ | with_reducible refine up_in ?_)
            refine ret1 rfl rfl ?_
            first | exact ⟨_, rfl, S12.like0, _, rfl, good_slid hlf hd0 ⟨ho1, ho2⟩ hg2 hga hgb hdg hi0 (by omega) hsl⟩ | exact ⟨_, rfl, S12.like0, farN, rfl, good_far hlf hd0 hg2 hga hgb hdg h87⟩
          ·
            obtain ⟨i0, hi0, hin⟩ := (cand_sound hlf ⟨ho1, ho2⟩ hg2 hga hgb hdg).resolve_left h87
            have hin2 := hin
            obtain ⟨k0, hk1, hk2, hk3, hk4⟩ := hin2
            have hi0n : i0 ≤ n := by omega
            have hi0d : (en + off) ≤ (i0 : Int) := by omega
            have hi0m : (i0 : Int) - (en + off) ≤ m := by omega
            rw [hi0]
            refine T_skip ?_
            refine hK15 _ _ ?_
            refine T_seq fun K18 hK18 => ?_
            refine T_region ?_
            refine L_y (y_move rfl) rfl ?_
            refine L_y (y_move rfl) rfl ?_
            refine L_y (y_move rfl) rfl ?_
            refine L_o (o_call Try.func89 rfl rfl (fslide g A n ca B m cb la lb D i0 (en + off) w12 (hf0.like S12.like0) (by omega) (by omega) hi0n hi0d hi0m) rfl rfl ?_)
            rintro e13 w13 ⟨v13, rfl, l13, j, rfl, hsl⟩
            refine ⟨_, rfl, ?_⟩
            have S13 := S12.like l13
            refine L_y (y_assign rfl) rfl ?_
            refine L_nil ?_
            refine hK18 _ _ ?_
            refine T_ret ?_
            repeat (first | with_reducible refine up_then ?_ | with_reducible refine up_in ?_)
            refine ret1 rfl rfl ?_
            first | exact ⟨_, rfl, S13.like0, _, rfl, good_slid hlf hd0 ⟨ho1, ho2⟩ hg2 hga hgb hdg hi0 (by omega) hsl⟩ | exact ⟨_, rfl, S13.like0, farN, rfl, good_far hlf hd0 hg2 hga hgb hdg h87⟩
end Go.Proofs.Ytbbmkgpgiacdeaa

/-
  The field: near.
-/
namespace Go.Proofs.Ytbbmkgpgiacdeaa
open Go.RowKit Zk Zx
set_option linter.unusedVariables false
set_option linter.unusedSimpArgs false

theorem tmod2 (x : Int) : x.tmod 2 = 0 ↔ x % 2 = 0 := by
  rw [← Int.dvd_iff_tmod_eq_zero, ← Int.dvd_iff_emod_eq_zero]


set_option maxRecDepth 100000 in
theorem fnear (g : Nat) (A : Option Addr) (n ca : Nat) (B : Option Addr) (m cb : Nat) (la lb : List Int) (D : List (List Int)) (i k r : Nat) (rI : Int) (w0 : World) (hf : FR w0 g A n ca B m cb la lb D) (hrI : rI = r) (hn : n ≤ 1048576) (hm : m ≤ 1048576) (hD : D.length ≤ 1048576) (hi : i < n) (hk : k ≤ m) (hway : (k : Int) - i ≤ (rR la lb 0 0 : Int) - rR la lb i k) (hr : r + 1 = rR la lb i k) (hrD : r < D.length) (ht : Tab la lb D) :
    Calls Try.prog 78 #[.pointer (some ⟨g, 0, none⟩), .int .i64 ((i : Int) + 1), .int .i64 (k : Int), .int .i64 rI] w0 fun e w' => ∃ u, e = .returned u ∧ Like w0 w' ∧ u = .bool (decide (rR la lb (i + 1) k < rR la lb i k)) := by
  refine enter1 (env := [(0, .pointer (some ⟨g, 0, none⟩)), (1, .int .i64 ((i : Int) + 1)), (2, .int .i64 (k : Int)), (3, .int .i64 rI)]) [.pointer (some ⟨g, 0, none⟩), .int .i64 ((i : Int) + 1), .int .i64 (k : Int), .int .i64 rI] Try.func78 rfl Try.ntmps78 rfl rfl ?_
  subst hrI; have hf0 := hf; obtain ⟨R, nr, cr, SS, vs, hB, hA1, hB1, hR1, hnr, hrows⟩ := hf; have hla := lenI hA1; have hlb := lenI hB1; have hi2 : i < la.length := (by omega); have hk2 : k ≤ lb.length := (by omega); have hlf : (la.length : Int) < farN := (by unfold farN; omega); have S0 := St.start w0 noM
  refine T_seq fun K1 hK1 => ?_
  refine T_region ?_
  refine L_y (y_assign rfl) rfl ?_
  refine L_nil ?_
  refine hK1 _ _ ?_
  refine T_seq fun K2 hK2 => ?_
  refine T_seq fun K3 hK3 => ?_
  refine T_region ?_
  refine L_y (y_move rfl) rfl ?_
  refine L_y (y_lss rfl rfl) rfl ?_
  refine L_nil ?_
  refine hK3 _ _ ?_
  refine T_cond rfl (fun h11 => ?_) (fun h11 => ?_)
  ·
    exact absurd h11 (by omega)
  ·
    refine T_skip ?_
    refine hK2 _ _ ?_
    refine T_seq fun K4 hK4 => ?_
    refine T_drawnL [(0, true), (1, true), (2, true), (3, true), (4, true), (5, true), (6, true), (7, true), (8, true), (9, true), (10, true), (11, true), (12, true), (13, true), (14, true), (15, true)] hmix (by kernel_rfl) fun w1 l1 => ?_
    have S1 := S0.like l1
    refine DL_y rfl (y_move rfl) rfl ?_
    refine DL_y rfl (y_move rfl) rfl ?_
    refine DL_y rfl (y_sub rfl rfl (i64w (by omega))) rfl ?_
    refine DL_y rfl (y_move rfl) rfl ?_
    refine DL_y rfl (y_nilp rfl) rfl ?_
    refine DL_y rfl (y_fieldA 0 Try.underlying107 rfl sz22 rfl rfl rfl) rfl ?_
    refine DL_y rfl (y_ldc Try.underlying22 rfl rfl (((S1.rdB hB).cell _).trans (show (#[Value.slice A n ca, .slice B m cb, .slice R nr cr, SS] : Array Value)[0]? = some (Value.slice A n ca) from rfl))) rfl ?_
    refine DL_y rfl (y_len Try.underlying22 rfl) rfl ?_
    refine DL_y rfl (y_move rfl) rfl ?_
    refine DL_y rfl (y_nilp rfl) rfl ?_
    refine DL_y rfl (y_fieldA 1 Try.underlying107 rfl sz22 rfl rfl rfl) rfl ?_
    refine DL_y rfl (y_ldc Try.underlying22 rfl rfl (((S1.rdB hB).cell _).trans (show (#[Value.slice A n ca, .slice B m cb, .slice R nr cr, SS] : Array Value)[1]? = some (Value.slice B m cb) from rfl))) rfl ?_
    refine DL_y rfl (y_len Try.underlying22 rfl) rfl ?_
    refine DL_y rfl (y_sub rfl rfl (i64w (by omega))) rfl ?_
    refine DL_y rfl (y_sub rfl rfl (i64w (by omega))) rfl ?_
    refine DL_y rfl (y_assign rfl) rfl ?_
    refine DL_nil ?_
    refine hK4 _ _ ?_
    refine T_seq fun K5 hK5 => ?_
    refine T_seq fun K6 hK6 => ?_
    refine T_region ?_
    refine L_y (y_move rfl) rfl ?_
    refine L_y (y_move rfl) rfl ?_
    refine L_y (y_add rfl rfl (i64w (by omega))) rfl ?_
    refine L_y (y_rem rfl rfl (by omega) rfl) rfl ?_
    refine L_y (y_neq rfl rfl) rfl ?_
    refine L_nil ?_
    refine hK6 _ _ ?_
    refine T_cond rfl (fun h31 => ?_) (fun h31 => ?_)
    ·
      have hpar : ((r : Int) + ((i : Int) + 1 - k - ((n : Int) - m))) % 2 ≠ 0 := fun h => h31 ((tmod2 _).2 h)
      have hni := near_iff (la := la) (lb := lb) hi2 hk2 hway (show (r : Int) + 1 = (rR la lb i k : Int) by omega) (off := (i : Int) + 1 - k - ((n : Int) - m)) (by omega) (.inr ⟨rfl, hpar⟩) (ht _ _ (by omega)) hlf
      refine T_region ?_
      refine L_y (y_move rfl) rfl ?_
      refine L_y (y_sub rfl rfl (i64w (by omega))) rfl ?_
      refine L_y (y_assign rfl) rfl ?_
      refine L_nil ?_
      refine hK5 _ _ ?_
      refine T_seq fun K7 hK7 => ?_
      refine T_region ?_
      refine L_y (y_move rfl) rfl ?_
      refine L_y (y_move rfl) rfl ?_
      refine L_y (y_move rfl) rfl ?_
      refine L_o (o_call Try.func87 rfl rfl (fat g A n ca B m cb la lb D ((r : Int) - 1) ((i : Int) + 1 - k - ((n : Int) - m)) w1 (hf0.like S1.like0) (by omega) (by omega) (by omega) hD) rfl rfl ?_)
      rintro e2 w2 ⟨v2, rfl, l2, rfl⟩
      refine ⟨_, rfl, ?_⟩
      have S2 := S1.like l2
      refine L_y (y_move rfl) rfl ?_
      refine L_y (y_leq rfl rfl) rfl ?_
      refine L_y (y_assign rfl) rfl ?_
      refine L_nil ?_
      refine hK7 _ _ ?_
      refine T_ret ?_
      repeat (first | with_reducible refine up_then ?_ | with_reducible refine up_in ?_)
      refine ret1 rfl rfl ?_
      exact ⟨_, rfl, S2.like0, congrArg Value.bool (by rw [decide_eq_decide]; exact hni)⟩
    ·
      have hpar : ((r : Int) + ((i : Int) + 1 - k - ((n : Int) - m))) % 2 = 0 := (tmod2 _).1 (Classical.byContradiction h31)
      have hni := near_iff (la := la) (lb := lb) hi2 hk2 hway (show (r : Int) + 1 = (rR la lb i k : Int) by omega) (off := (i : Int) + 1 - k - ((n : Int) - m)) (by omega) (.inl ⟨rfl, hpar⟩) (ht _ _ (by omega)) hlf
      refine T_skip ?_
      refine hK5 _ _ ?_
      refine T_seq fun K8 hK8 => ?_
      refine T_region ?_
      refine L_y (y_move rfl) rfl ?_
      refine L_y (y_move rfl) rfl ?_
      refine L_y (y_move rfl) rfl ?_
      refine L_o (o_call Try.func87 rfl rfl (fat g A n ca B m cb la lb D (r) ((i : Int) + 1 - k - ((n : Int) - m)) w1 (hf0.like S1.like0) (by omega) (by omega) (by omega) hD) rfl rfl ?_)
      rintro e3 w3 ⟨v3, rfl, l3, rfl⟩
      refine ⟨_, rfl, ?_⟩
      have S3 := S1.like l3
      refine L_y (y_move rfl) rfl ?_
      refine L_y (y_leq rfl rfl) rfl ?_
      refine L_y (y_assign rfl) rfl ?_
      refine L_nil ?_
      refine hK8 _ _ ?_
      refine T_ret ?_
      repeat (first | with_reducible refine up_then ?_ | with_reducible refine up_in ?_)
      refine ret1 rfl rfl ?_
      exact ⟨_, rfl, S3.like0, congrArg Value.bool (by rw [decide_eq_decide]; exact hni)⟩
end Go.Proofs.Ytbbmkgpgiacdeaa

/-
  What is kept of two lists: plain laws.
-/
namespace Go.Proofs.Ytbbmkgpgiacdeaa
open Go.RowKit Zk Zx
set_option linter.unusedVariables false
/-- The places that are kept. -/
def keepT (la lb : List Int) (i k : Nat) : List (Nat × Nat) :=
  if i < la.length ∧ k < lb.length ∧ la[i]? = lb[k]? then (i, k) :: keepT la lb (i + 1) (k + 1)
  else if i < la.length ∧ rR la lb (i + 1) k < rR la lb i k then keepT la lb (i + 1) k
  else if k < lb.length then keepT la lb i (k + 1) else []
termination_by (la.length - i) + (lb.length - k)
def pf (p : Nat × Nat) : List Value := [.int .i64 (p.1 : Int), .int .i64 (p.2 : Int)]
theorem pf_len (xs : List (Nat × Nat)) : (xs.flatMap pf).length = xs.length * 2 := by
  induction xs with
  | nil => rfl
  | cons x xs ih => rw [List.flatMap_cons, List.length_append, ih, List.length_cons]; simp only [pf, List.length_cons, List.length_nil]; omega
theorem pf_one (xs : List (Nat × Nat)) : ∀ u ∈ xs.flatMap pf, u.oneCell' = true := fun u hu => by
  obtain ⟨p, _, hp⟩ := List.mem_flatMap.1 hu
  simp only [pf, List.mem_cons, List.not_mem_nil, or_false] at hp
  rcases hp with rfl | rfl <;> rfl
theorem pf_get : ∀ (xs : List (Nat × Nat)) (i : Nat) (x : Nat × Nat), xs[i]? = some x → (xs.flatMap pf)[i * 2]? = some (.int .i64 (x.1 : Int)) ∧ (xs.flatMap pf)[i * 2 + 1]? = some (Value.int .i64 (x.2 : Int))
  | [], i, x, h => by cases h
  | y :: xs, 0, x, h => by
    obtain rfl : y = x := by simpa using h
    exact ⟨rfl, rfl⟩
  | y :: xs, i + 1, x, h => by
    have := pf_get xs i x (by simpa using h)
    rw [List.flatMap_cons, show (i + 1) * 2 = i * 2 + 1 + 1 by omega]
    exact this
section
variable {la lb : List Int} {i k : Nat}
theorem keep_hit (h : i < la.length ∧ k < lb.length ∧ la[i]? = lb[k]?) : keepT la lb i k = (i, k) :: keepT la lb (i + 1) (k + 1) := by rw [keepT, if_pos h]
theorem keep_a (h : ¬ (i < la.length ∧ k < lb.length ∧ la[i]? = lb[k]?)) (h2 : i < la.length ∧ rR la lb (i + 1) k < rR la lb i k) : keepT la lb i k = keepT la lb (i + 1) k := by rw [keepT, if_neg h, if_pos h2]
theorem keep_b (h : ¬ (i < la.length ∧ k < lb.length ∧ la[i]? = lb[k]?)) (h2 : ¬ (i < la.length ∧ rR la lb (i + 1) k < rR la lb i k)) (h3 : k < lb.length) : keepT la lb i k = keepT la lb i (k + 1) := by rw [keepT, if_neg h, if_neg h2, if_pos h3]
theorem keep_end (h1 : la.length ≤ i) (h2 : lb.length ≤ k) : keepT la lb i k = [] := by rw [keepT, if_neg (by omega), if_neg (by omega), if_neg (by omega)]
theorem no_hit (h : ¬ (i < la.length ∧ k < lb.length ∧ la[i]? = lb[k]?)) : ∀ x, la[i]? = some x → lb[k]? = some x → False := fun x h1 h2 => h ⟨(List.getElem?_eq_some_iff.1 h1).1, (List.getElem?_eq_some_iff.1 h2).1, by rw [h1, h2]⟩
theorem mis (h : ¬ (i < la.length ∧ k < lb.length ∧ la[i]? = lb[k]?)) (hi : i < la.length) (hk : k < lb.length) : rR la lb i k = min (rR la lb (i + 1) k) (rR la lb i (k + 1)) + 1 :=
  rR_mis (List.getElem?_eq_getElem hi) (List.getElem?_eq_getElem hk) fun e => h ⟨hi, hk, by rw [List.getElem?_eq_getElem hi, List.getElem?_eq_getElem hk, e]⟩
/-- No hit, and further in the second list. -/
theorem rR_b (h : ¬ (i < la.length ∧ k < lb.length ∧ la[i]? = lb[k]?)) (h2 : ¬ (i < la.length ∧ rR la lb (i + 1) k < rR la lb i k)) (hk : k < lb.length) : rR la lb i (k + 1) + 1 = rR la lb i k := by
  rcases Nat.lt_or_ge i la.length with hi | hi
  · have := mis h hi hk
    omega
  · rw [rR_endA hi, rR_endA hi]; omega
theorem rR_a (hi : i < la.length) (h2 : rR la lb (i + 1) k < rR la lb i k) : rR la lb (i + 1) k + 1 = rR la lb i k := by
  have := rR_stepA (la := la) (lb := lb) (k := k) hi
  omega
theorem k_lt (h2 : ¬ (i < la.length ∧ rR la lb (i + 1) k < rR la lb i k)) (hr : 0 < rR la lb i k) (hi : i ≤ la.length) (hk : k ≤ lb.length) : k < lb.length := by
  rcases Nat.lt_or_ge k lb.length with h | h
  · exact h
  · exfalso
    rw [rR_endB h, rR_endB h] at h2
    rw [rR_endB h] at hr
    omega
theorem rR_hit (h : i < la.length ∧ k < lb.length ∧ la[i]? = lb[k]?) : rR la lb i k = rR la lb (i + 1) (k + 1) :=
  rR_match (List.getElem?_eq_getElem h.1) (h.2.2.symm.trans (List.getElem?_eq_getElem h.1))
end
theorem keep_len (la lb : List Int) : ∀ (n i k : Nat), (la.length - i) + (lb.length - k) = n → i ≤ la.length → k ≤ lb.length → 2 * (keepT la lb i k).length + rR la lb i k = (la.length - i) + (lb.length - k) := by
  intro n
  induction n using Nat.strongRecOn with
  | ind n ih =>
    intro i k hn hi hk
    by_cases h : i < la.length ∧ k < lb.length ∧ la[i]? = lb[k]?
    · have := ih _ (by omega) (i + 1) (k + 1) rfl (by omega) (by omega)
      rw [keep_hit h, List.length_cons, rR_hit h]
      omega
    · by_cases h2 : i < la.length ∧ rR la lb (i + 1) k < rR la lb i k
      · have := ih _ (by omega) (i + 1) k rfl (by omega) (by omega)
        have h3 := rR_a h2.1 h2.2
        rw [keep_a h h2]
        omega
      · rcases Nat.lt_or_ge k lb.length with h3 | h3
        · have := ih _ (by omega) i (k + 1) rfl (by omega) (by omega)
          have h4 := rR_b h h2 h3
          rw [keep_b h h2 h3]
          omega
        · rcases Nat.lt_or_ge i la.length with h4 | h4
          · rw [rR_endB h3, rR_endB h3] at h2
            omega
          · rw [keep_end h4 h3, rR_endA h4]
            simp only [List.length_nil]
            omega
/-- What is kept rises, and is one in both. -/
theorem keep_ok (la lb : List Int) : ∀ (n i k : Nat), (la.length - i) + (lb.length - k) = n → (∀ p ∈ keepT la lb i k, i ≤ p.1 ∧ p.1 < la.length ∧ k ≤ p.2 ∧ p.2 < lb.length ∧ la[p.1]? = lb[p.2]?) ∧ (keepT la lb i k).Pairwise fun p q => p.1 < q.1 ∧ p.2 < q.2 := by
  intro n
  induction n using Nat.strongRecOn with
  | ind n ih =>
    intro i k hn
    by_cases h : i < la.length ∧ k < lb.length ∧ la[i]? = lb[k]?
    · obtain ⟨h1, h2⟩ := ih _ (by omega) (i + 1) (k + 1) rfl
      rw [keep_hit h]
      refine ⟨fun p hp => ?_, List.pairwise_cons.2 ⟨fun p hp => ?_, h2⟩⟩
      · rcases List.mem_cons.1 hp with rfl | hp
        · exact ⟨Nat.le_refl _, h.1, Nat.le_refl _, h.2.1, h.2.2⟩
        · obtain ⟨a1, a2, a3, a4, a5⟩ := h1 p hp
          exact ⟨by omega, a2, by omega, a4, a5⟩
      · obtain ⟨a1, a2, a3, a4, a5⟩ := h1 p hp
        exact ⟨by omega, by omega⟩
    · by_cases h2 : i < la.length ∧ rR la lb (i + 1) k < rR la lb i k
      · obtain ⟨h3, h4⟩ := ih _ (by omega) (i + 1) k rfl
        rw [keep_a h h2]
        exact ⟨fun p hp => by obtain ⟨a1, a2, a3, a4, a5⟩ := h3 p hp; exact ⟨by omega, a2, by omega, a4, a5⟩, h4⟩
      · rcases Nat.lt_or_ge k lb.length with h5 | h5
        · obtain ⟨h3, h4⟩ := ih _ (by omega) i (k + 1) rfl
          rw [keep_b h h2 h5]
          exact ⟨fun p hp => by obtain ⟨a1, a2, a3, a4, a5⟩ := h3 p hp; exact ⟨by omega, a2, by omega, a4, a5⟩, h4⟩
        · have e : keepT la lb i k = [] := by rw [keepT, if_neg h, if_neg h2, if_neg (by omega)]
          rw [e]
          exact ⟨(fun p hp => by cases hp), List.Pairwise.nil⟩
/-- As many as the lists have in common at most, from two places on. -/
def lC (la lb : List Int) (i k : Nat) : Nat := ((la.length - i) + (lb.length - k) - rR la lb i k) / 2
theorem lC_endA {la lb : List Int} {i k : Nat} (h : la.length ≤ i) : lC la lb i k = 0 := by
  unfold lC
  rw [rR_endA h]
  omega
theorem lC_endB {la lb : List Int} {i k : Nat} (h : lb.length ≤ k) : lC la lb i k = 0 := by
  unfold lC
  rw [rR_endB h]
  omega
theorem lC_hit {la lb : List Int} {i k : Nat} (h : i < la.length ∧ k < lb.length ∧ la[i]? = lb[k]?) : lC la lb i k = lC la lb (i + 1) (k + 1) + 1 ∧ lC la lb (i + 1) k ≤ lC la lb i k ∧ lC la lb i (k + 1) ≤ lC la lb i k := by
  have h1 := rR_hit h
  have h2 := rR_stepA (la := la) (lb := lb) (k := k) h.1
  have h3 := rR_stepB (la := la) (lb := lb) (i := i) h.2.1
  have h4 := rR_facts la lb (i + 1) (k + 1)
  have h5 := rR_facts la lb i k
  unfold lC
  omega
theorem lC_mis {la lb : List Int} {i k : Nat} (h : ¬ (i < la.length ∧ k < lb.length ∧ la[i]? = lb[k]?)) (hi : i < la.length) (hk : k < lb.length) : lC la lb i k = max (lC la lb (i + 1) k) (lC la lb i (k + 1)) := by
  have h1 := mis h hi hk
  have h4 := rR_facts la lb (i + 1) k
  have h5 := rR_facts la lb i (k + 1)
  have h6 := rR_facts la lb i k
  unfold lC
  rcases Nat.le_total (rR la lb (i + 1) k) (rR la lb i (k + 1)) with h7 | h7
  · rw [Nat.min_eq_left h7] at h1
    rw [Nat.max_eq_left (by omega)]
    omega
  · rw [Nat.min_eq_right h7] at h1
    rw [Nat.max_eq_right (by omega)]
    omega
end Go.Proofs.Ytbbmkgpgiacdeaa

/-
  The field: way.
-/
namespace Go.Proofs.Ytbbmkgpgiacdeaa
open Go.RowKit Zk Zx
set_option linter.unusedVariables false
set_option linter.unusedSimpArgs false

set_option maxRecDepth 100000 in
theorem fway (g : Nat) (A : Option Addr) (n ca : Nat) (B : Option Addr) (m cb : Nat) (la lb : List Int) (D : List (List Int)) (r0 : Nat) (w0 : World) (hf : FR w0 g A n ca B m cb la lb D) (hn : n ≤ 1048576) (hm : m ≤ 1048576) (hD : D.length ≤ 1048576) (hr0 : r0 = rR la lb 0 0) (hrD : D.length = r0 + 1) (ht : Tab la lb D) :
    Calls Try.prog 65 #[.pointer (some ⟨g, 0, none⟩), .int .i64 (r0 : Int)] w0 fun e w' => ∃ u, e = .returned u ∧ Like w0 w' ∧ ∃ A m c, u = .slice A m c ∧ w'.ownsRow w0.heap.size 34 2 (.slice A m c) m ((keepT la lb 0 0).flatMap pf) := by
  refine enter1 (env := [(0, .pointer (some ⟨g, 0, none⟩)), (1, .int .i64 (r0 : Int))]) [.pointer (some ⟨g, 0, none⟩), .int .i64 (r0 : Int)] Try.func65 rfl Try.ntmps65 rfl rfl ?_
  have hf0 := hf; obtain ⟨R, nr, cr, SS, vs, hB, hA1, hB1, hR1, hnr, hrows⟩ := hf; have hla := lenI hA1; have hlb := lenI hB1; have S0 := St.start w0 noM
  refine T_seq fun K1 hK1 => ?_
  refine T_region ?_
  refine L_y (y_assign rfl) rfl ?_
  refine L_nil ?_
  refine hK1 _ _ ?_
  refine T_scope (fun _ _ _ h => h) ?_
  refine T_seq fun K2 hK2 => ?_
  refine T_region ?_
  have S1 := S0.nilrow 34 2
  refine L_y (y_assign rfl) rfl ?_
  refine L_nil ?_
  refine hK2 _ _ ?_
  refine T_seq fun K3 hK3 => ?_
  refine T_region ?_
  refine L_y (y_assign rfl) rfl ?_
  refine L_y (y_assign rfl) rfl ?_
  refine L_nil ?_
  refine hK3 _ _ ?_
  refine T_seq fun K4 hK4 => ?_
  refine T_label ?_
  refine hK4 _ _ ?_
  refine T_block ?_
  refine T_loop6 [(0, _)] (fun (i : Nat) (k : Nat) (r : Nat) (A1 : Option Addr) (c1 : Nat) (ps : List (Nat × Nat)) => [(1, .int .i64 (r : Int)), (5, .slice A1 ps.length c1), (6, .int .i64 (i : Int)), (7, .int .i64 (k : Int))]) (fun (i : Nat) (k : Nat) (r : Nat) (A1 : Option Addr) (c1 : Nat) (ps : List (Nat × Nat)) => (n - i) + (m - k)) (fun (i : Nat) (k : Nat) (r : Nat) (A1 : Option Addr) (c1 : Nat) (ps : List (Nat × Nat)) (w : World) => (i ≤ n ∧ k ≤ m ∧ r = rR la lb i k ∧ (k : Int) - i ≤ (rR la lb 0 0 : Int) - rR la lb i k ∧ rR la lb i k ≤ rR la lb 0 0 ∧ ps.length ≤ i ∧ ps ++ keepT la lb i k = keepT la lb 0 0) ∧ St w0 noM [row 34 2 A1 ps.length c1 (ps.flatMap pf)] w) 0 0 r0 none 0 [] (Sub.cons rfl (by first | rfl | exact congrArg (Value.int _) (by omega)) (Sub.cons rfl (by first | rfl | exact congrArg (Value.int _) (by omega)) (Sub.cons rfl (by first | rfl | exact congrArg (Value.int _) (by omega)) (Sub.cons rfl (by first | rfl | exact congrArg (Value.int _) (by omega)) (Sub.nil _))))) (Sub.cons rfl rfl (Sub.nil _)) ?_ ?_
  ·
    exact ⟨⟨Nat.zero_le _, Nat.zero_le _, hr0, by omega, by omega, Nat.le_refl _, rfl⟩, S1⟩
  ·
    intro i k r A1 c1 ps w2 hrel
    obtain ⟨⟨hi, hk, hr, hway, hrl, hpl, hps⟩, S2⟩ := hrel
    refine T_block ?_
    refine T_seq fun K5 hK5 => ?_
    refine T_seq fun K6 hK6 => ?_
    refine T_drawnL [(0, true), (1, true), (2, true), (3, true), (4, true), (5, true), (6, true), (7, true), (8, true), (9, true), (10, true), (11, true), (12, true), (13, true), (14, true), (15, true), (16, true), (17, true), (18, true), (19, true), (20, true), (21, true), (22, true), (23, true), (24, true), (25, true), (26, true), (27, true), (28, true), (29, true), (30, true), (31, true), (32, true)] hmix (by kernel_rfl) fun w3 l3 => ?_
    have S3 := S2.like l3
    refine DL_y rfl (y_move rfl) rfl ?_
    refine DL_y rfl (y_move rfl) rfl ?_
    refine DL_y rfl (y_nilp rfl) rfl ?_
    refine DL_y rfl (y_fieldA 0 Try.underlying107 rfl sz22 rfl rfl rfl) rfl ?_
    refine DL_y rfl (y_ldc Try.underlying22 rfl rfl (((S3.rdB hB).cell _).trans (show (#[Value.slice A n ca, .slice B m cb, .slice R nr cr, SS] : Array Value)[0]? = some (Value.slice A n ca) from rfl))) rfl ?_
    refine DL_y rfl (y_len Try.underlying22 rfl) rfl ?_
    refine DL_y rfl (y_lss rfl rfl) rfl ?_
    refine DL_y rfl (y_move rfl) rfl ?_
    refine DL_split 15 rfl (fun h15 => ?_) (fun h15 => ?_)
    ·
      refine DL_gyes rfl rfl rfl (y_move rfl) rfl ?_
      refine DL_gyes rfl rfl rfl (y_move rfl) rfl ?_
      refine DL_gyes rfl rfl rfl (y_nilp rfl) rfl ?_
      refine DL_gyes rfl rfl rfl (y_fieldA 1 Try.underlying107 rfl sz22 rfl rfl rfl) rfl ?_
      refine DL_gyes rfl rfl rfl (y_ldc Try.underlying22 rfl rfl (((S3.rdB hB).cell _).trans (show (#[Value.slice A n ca, .slice B m cb, .slice R nr cr, SS] : Array Value)[1]? = some (Value.slice B m cb) from rfl))) rfl ?_
      refine DL_gyes rfl rfl rfl (y_len Try.underlying22 rfl) rfl ?_
      refine DL_gyes rfl rfl rfl (y_lss rfl rfl) rfl ?_
      refine DL_y rfl ((by first | exact y_pickT rfl rfl | exact y_pickF rfl rfl)) rfl ?_
      refine DL_y rfl (y_move rfl) rfl ?_
      refine DL_split 24 rfl (fun h24 => ?_) (fun h24 => ?_)
      ·
        obtain ⟨x, hx⟩ : ∃ x, la[i]? = some x := ⟨_, List.getElem?_eq_getElem (by omega)⟩
        obtain ⟨y, hy⟩ : ∃ y, lb[k]? = some y := ⟨_, List.getElem?_eq_getElem (by omega)⟩
        refine DL_gyes rfl rfl rfl (y_move rfl) rfl ?_
        refine DL_gyes rfl rfl rfl (y_nilp rfl) rfl ?_
        refine DL_gyes rfl rfl rfl (y_fieldA 0 Try.underlying107 rfl sz22 rfl rfl rfl) rfl ?_
        refine DL_gyes rfl rfl rfl (y_ldc Try.underlying22 rfl rfl (((S3.rdB hB).cell _).trans (show (#[Value.slice A n ca, .slice B m cb, .slice R nr cr, SS] : Array Value)[0]? = some (Value.slice A n ca) from rfl))) rfl ?_
        refine DL_gyes rfl rfl rfl (y_move rfl) rfl ?_
        refine DL_gyes rfl rfl rfl (y_idx Try.underlying22 sz3 rfl rfl (S3.rd hA1) inferInstance (by omega)) rfl ?_
        refine DL_gyes rfl rfl rfl (y_ldr Try.underlying3 rfl rfl (S3.rd hA1) (iL_get _ _ _ hx)) rfl ?_
        refine DL_gyes rfl rfl rfl (y_move rfl) rfl ?_
        refine DL_gyes rfl rfl rfl (y_nilp rfl) rfl ?_
        refine DL_gyes rfl rfl rfl (y_fieldA 1 Try.underlying107 rfl sz22 rfl rfl rfl) rfl ?_
        refine DL_gyes rfl rfl rfl (y_ldc Try.underlying22 rfl rfl (((S3.rdB hB).cell _).trans (show (#[Value.slice A n ca, .slice B m cb, .slice R nr cr, SS] : Array Value)[1]? = some (Value.slice B m cb) from rfl))) rfl ?_
        refine DL_gyes rfl rfl rfl (y_move rfl) rfl ?_
        refine DL_gyes rfl rfl rfl (y_idx Try.underlying22 sz3 rfl rfl (S3.rd hB1) inferInstance (by omega)) rfl ?_
        refine DL_gyes rfl rfl rfl (y_ldr Try.underlying3 rfl rfl (S3.rd hB1) (iL_get _ _ _ hy)) rfl ?_
        refine DL_gyes rfl rfl rfl (y_eql rfl rfl) rfl ?_
        refine DL_y rfl ((by first | exact y_pickT rfl rfl | exact y_pickF rfl rfl)) rfl ?_
        refine DL_nil ?_
        refine hK6 _ _ ?_
        refine T_cond rfl (fun h40 => ?_) (fun h40 => ?_)
        ·
          refine T_seq fun K7 hK7 => ?_
          refine T_region ?_
          refine L_y (y_move rfl) rfl ?_
          refine L_y (y_move rfl) rfl ?_
          refine L_y (y_move rfl) rfl ?_
          refine L_y (y_build rfl (show _ = some #[Value.int .i64 (i : Int), Value.int .i64 (k : Int)] by kernel_rfl)) rfl ?_
          refine L_o (o_bsl [_, _] te25 zz34 S3 rfl rfl rfl rfl rfl rfl rfl rfl fun b4 w4 S4 => ?_)
          refine L_o (o_app te25 S4 0 rfl rfl rfl (by first | exact S4.row 0 rfl | exact S4.row 1 rfl) (fun u hu => pf_one [(i, k)] u hu) rfl (by omega) (by omega) fun A5 c5 w5 S5 => ?_)
          have S5d := S5.drop (rs' := [_]) (.cons_cons _ (.cons _ (.refl _)))
          refine L_y (y_assign rfl) rfl ?_
          refine L_nil ?_
          refine hK7 _ _ ?_
          refine T_seq fun K8 hK8 => ?_
          refine T_region ?_
          refine L_y (y_move rfl) rfl ?_
          refine L_y (y_add rfl rfl (i64w (by omega))) rfl ?_
          refine L_y (y_assign rfl) rfl ?_
          refine L_nil ?_
          refine hK8 _ _ ?_
          refine T_seq fun K9 hK9 => ?_
          refine T_region ?_
          refine L_y (y_move rfl) rfl ?_
          refine L_y (y_add rfl rfl (i64w (by omega))) rfl ?_
          refine L_y (y_assign rfl) rfl ?_
          refine L_nil ?_
          refine hK9 _ _ ?_
          refine T_exit ?_
          have hh : i < la.length ∧ k < lb.length ∧ la[i]? = lb[k]? := ⟨by omega, by omega, by rw [hx, hy, h40]⟩
          have hrh := rR_hit hh
          have S90 := S5d.rowc 0 rfl (n' := (ps ++ [(i, k)]).length) (xs' := (ps ++ [(i, k)]).flatMap pf) (by simp) (by rw [List.flatMap_append])
          refine ⟨i + 1, k + 1, r, _, _, ps ++ [(i, k)], by omega, ⟨⟨by omega, by omega, by omega, by omega, by omega, by rw [List.length_append]; simp only [List.length_cons, List.length_nil]; omega, by rw [← hps, keep_hit hh, List.append_assoc]; rfl⟩, S90⟩, ?_⟩
          exact (Sub.cons rfl (by first | rfl | exact congrArg (Value.int _) (by omega)) (Sub.cons rfl (by first | rfl | (rw [List.length_append]; rfl)) (Sub.cons rfl (by first | rfl | exact congrArg (Value.int _) (by omega)) (Sub.cons rfl (by first | rfl | exact congrArg (Value.int _) (by omega)) (Sub.cons rfl rfl (Sub.nil _))))))
        ·
          refine T_skip ?_
          refine hK5 _ _ ?_
          refine T_seq fun K10 hK10 => ?_
          refine T_seq fun K11 hK11 => ?_
          have hno : ¬ (i < la.length ∧ k < lb.length ∧ la[i]? = lb[k]?) := (fun h => by have h9 := h.2.2; rw [hx, hy] at h9; exact h40 (Option.some.inj h9))
          refine T_region ?_
          refine L_y (y_move rfl) rfl ?_
          refine L_y (y_eql rfl rfl) rfl ?_
          refine L_nil ?_
          refine hK11 _ _ ?_
          refine T_cond rfl (fun h52 => ?_) (fun h52 => ?_)
          ·
            refine T_seq fun K12 hK12 => ?_
            refine T_region ?_
            refine L_y (y_move rfl) rfl ?_
            refine L_y (y_assign rfl) rfl ?_
            refine L_nil ?_
            refine hK12 _ _ ?_
            refine T_ret ?_
            repeat (first | with_reducible refine up_then ?_ | with_reducible refine up_in ?_)
            refine ret1 rfl rfl ?_
            have hz := rR_zero (by omega) (by omega) (by omega) (no_hit hno)
            have he : ps = keepT la lb 0 0 := by rw [← hps, keep_end (by omega) (by omega), List.append_nil]
            exact ⟨_, rfl, S3.like0, _, _, _, rfl, by rw [← he]; exact S3.own 0 rfl⟩
          ·
            refine T_skip ?_
            refine hK10 _ _ ?_
            refine T_seq fun K13 hK13 => ?_
            refine T_region ?_
            refine L_y (y_move rfl) rfl ?_
            refine L_y (y_sub rfl rfl (i64w (by omega))) rfl ?_
            refine L_y (y_assign rfl) rfl ?_
            refine L_nil ?_
            refine hK13 _ _ ?_
            refine T_seq fun K14 hK14 => ?_
            refine T_region ?_
            refine L_y (y_move rfl) rfl ?_
            refine L_y (y_move rfl) rfl ?_
            refine L_y (y_nilp rfl) rfl ?_
            refine L_y (y_fieldA 0 Try.underlying107 rfl sz22 rfl rfl rfl) rfl ?_
            refine L_y (y_ldc Try.underlying22 rfl rfl (((S3.rdB hB).cell _).trans (show (#[Value.slice A n ca, .slice B m cb, .slice R nr cr, SS] : Array Value)[0]? = some (Value.slice A n ca) from rfl))) rfl ?_
            refine L_y (y_len Try.underlying22 rfl) rfl ?_
            refine L_y (y_lss rfl rfl) rfl ?_
            refine L_y (y_move rfl) rfl ?_
            refine L_split 63 rfl (fun h63 => ?_) (fun h63 => ?_)
            ·
              refine L_gyes rfl rfl ?_
              refine L_y (y_move rfl) rfl ?_
              refine L_gyes rfl rfl ?_
              refine L_y (y_move rfl) rfl ?_
              refine L_gyes rfl rfl ?_
              refine L_y (y_add rfl rfl (i64w (by omega))) rfl ?_
              refine L_gyes rfl rfl ?_
              refine L_y (y_move rfl) rfl ?_
              refine L_gyes rfl rfl ?_
              refine L_y (y_move rfl) rfl ?_
              refine L_gyes rfl rfl ?_
              refine L_o (o_call Try.func78 rfl rfl (fnear g A n ca B m cb la lb D i k (r - 1) ((r : Int) - 1) w3 (hf0.like S3.like0) (by omega) (by omega) (by omega) (by omega) (by omega) (by omega) hway (by omega) (by omega) ht) rfl rfl ?_)
              rintro e7 w7 ⟨v7, rfl, l7, rfl⟩
              refine ⟨_, rfl, ?_⟩
              have S7 := S3.like l7
              refine L_y ((by first | exact y_pickT rfl rfl | exact y_pickF rfl rfl)) rfl ?_
              refine L_nil ?_
              refine hK14 _ _ ?_
              refine T_condB rfl (fun h70 => ?_) (fun h70 => ?_)
              ·
                refine T_region ?_
                refine L_y (y_move rfl) rfl ?_
                refine L_y (y_add rfl rfl (i64w (by omega))) rfl ?_
                refine L_y (y_assign rfl) rfl ?_
                refine L_nil ?_
                have hm := of_decide_eq_true h70
                have hra := rR_a (la := la) (lb := lb) (by omega) hm
                refine ⟨i + 1, k, r - 1, A1, c1, ps, by omega, ⟨⟨by omega, by omega, by omega, by omega, by omega, by omega, by rw [← hps, keep_a hno ⟨by omega, hm⟩]⟩, S7⟩, ?_⟩
                exact (Sub.cons rfl (by first | rfl | exact congrArg (Value.int _) (by omega)) (Sub.cons rfl (by first | rfl | (rw [List.length_append]; rfl)) (Sub.cons rfl (by first | rfl | exact congrArg (Value.int _) (by omega)) (Sub.cons rfl (by first | rfl | exact congrArg (Value.int _) (by omega)) (Sub.cons rfl rfl (Sub.nil _))))))
              ·
                refine T_region ?_
                refine L_y (y_move rfl) rfl ?_
                refine L_y (y_add rfl rfl (i64w (by omega))) rfl ?_
                refine L_y (y_assign rfl) rfl ?_
                refine L_nil ?_
                have hm : ¬ (i < la.length ∧ rR la lb (i + 1) k < rR la lb i k) := fun h => of_decide_eq_false h70 h.2
                have hkl := k_lt hm (by omega) (by omega) (by omega)
                have hrb := rR_b hno hm hkl
                refine ⟨i, k + 1, r - 1, A1, c1, ps, by omega, ⟨⟨by omega, by omega, by omega, by omega, by omega, by omega, by rw [← hps, keep_b hno hm hkl]⟩, S7⟩, ?_⟩
                exact (Sub.cons rfl (by first | rfl | exact congrArg (Value.int _) (by omega)) (Sub.cons rfl (by first | rfl | (rw [List.length_append]; rfl)) (Sub.cons rfl (by first | rfl | exact congrArg (Value.int _) (by omega)) (Sub.cons rfl (by first | rfl | exact congrArg (Value.int _) (by omega)) (Sub.cons rfl rfl (Sub.nil _))))))
            ·
              refine L_gno rfl rfl rfl ?_
              refine L_gno rfl rfl rfl ?_
              refine L_gno rfl rfl rfl ?_
              refine L_gno rfl rfl rfl ?_
              refine L_gno rfl rfl rfl ?_
              refine L_gno rfl rfl rfl ?_
              refine L_y ((by first | exact y_pickT rfl rfl | exact y_pickF rfl rfl)) rfl ?_
              refine L_nil ?_
              refine hK14 _ _ ?_
              refine T_false rfl ?_
              refine T_region ?_
              refine L_y (y_move rfl) rfl ?_
              refine L_y (y_add rfl rfl (i64w (by omega))) rfl ?_
              refine L_y (y_assign rfl) rfl ?_
              refine L_nil ?_
              have hm : ¬ (i < la.length ∧ rR la lb (i + 1) k < rR la lb i k) := fun h => by omega
              have hkl := k_lt hm (by omega) (by omega) (by omega)
              have hrb := rR_b hno hm hkl
              refine ⟨i, k + 1, r - 1, A1, c1, ps, by omega, ⟨⟨by omega, by omega, by omega, by omega, by omega, by omega, by rw [← hps, keep_b hno hm hkl]⟩, S3⟩, ?_⟩
              exact (Sub.cons rfl (by first | rfl | exact congrArg (Value.int _) (by omega)) (Sub.cons rfl (by first | rfl | (rw [List.length_append]; rfl)) (Sub.cons rfl (by first | rfl | exact congrArg (Value.int _) (by omega)) (Sub.cons rfl (by first | rfl | exact congrArg (Value.int _) (by omega)) (Sub.cons rfl rfl (Sub.nil _))))))
      ·
        refine DL_gno rfl rfl rfl rfl ?_
        refine DL_gno rfl rfl rfl rfl ?_
        refine DL_gno rfl rfl rfl rfl ?_
        refine DL_gno rfl rfl rfl rfl ?_
        refine DL_gno rfl rfl rfl rfl ?_
        refine DL_gno rfl rfl rfl rfl ?_
        refine DL_gno rfl rfl rfl rfl ?_
        refine DL_gno rfl rfl rfl rfl ?_
        refine DL_gno rfl rfl rfl rfl ?_
        refine DL_gno rfl rfl rfl rfl ?_
        refine DL_gno rfl rfl rfl rfl ?_
        refine DL_gno rfl rfl rfl rfl ?_
        refine DL_gno rfl rfl rfl rfl ?_
        refine DL_gno rfl rfl rfl rfl ?_
        refine DL_gno rfl rfl rfl rfl ?_
        refine DL_y rfl ((by first | exact y_pickT rfl rfl | exact y_pickF rfl rfl)) rfl ?_
        refine DL_nil ?_
        refine hK6 _ _ ?_
        refine T_false rfl ?_
        refine T_skip ?_
        refine hK5 _ _ ?_
        refine T_seq fun K15 hK15 => ?_
        refine T_seq fun K16 hK16 => ?_
        have hno : ¬ (i < la.length ∧ k < lb.length ∧ la[i]? = lb[k]?) := (fun h => by omega)
        refine T_region ?_
        refine L_y (y_move rfl) rfl ?_
        refine L_y (y_eql rfl rfl) rfl ?_
        refine L_nil ?_
        refine hK16 _ _ ?_
        refine T_cond rfl (fun h52 => ?_) (fun h52 => ?_)
        ·
          refine T_seq fun K17 hK17 => ?_
          refine T_region ?_
          refine L_y (y_move rfl) rfl ?_
          refine L_y (y_assign rfl) rfl ?_
          refine L_nil ?_
          refine hK17 _ _ ?_
          refine T_ret ?_
          repeat (first | with_reducible refine up_then ?_ | with_reducible refine up_in ?_)
          refine ret1 rfl rfl ?_
          have hz := rR_zero (by omega) (by omega) (by omega) (no_hit hno)
          have he : ps = keepT la lb 0 0 := by rw [← hps, keep_end (by omega) (by omega), List.append_nil]
          exact ⟨_, rfl, S3.like0, _, _, _, rfl, by rw [← he]; exact S3.own 0 rfl⟩
        ·
          refine T_skip ?_
          refine hK15 _ _ ?_
          refine T_seq fun K18 hK18 => ?_
          refine T_region ?_
          refine L_y (y_move rfl) rfl ?_
          refine L_y (y_sub rfl rfl (i64w (by omega))) rfl ?_
          refine L_y (y_assign rfl) rfl ?_
          refine L_nil ?_
          refine hK18 _ _ ?_
          refine T_seq fun K19 hK19 => ?_
          refine T_region ?_
          refine L_y (y_move rfl) rfl ?_
          refine L_y (y_move rfl) rfl ?_
          refine L_y (y_nilp rfl) rfl ?_
          refine L_y (y_fieldA 0 Try.underlying107 rfl sz22 rfl rfl rfl) rfl ?_
          refine L_y (y_ldc Try.underlying22 rfl rfl (((S3.rdB hB).cell _).trans (show (#[Value.slice A n ca, .slice B m cb, .slice R nr cr, SS] : Array Value)[0]? = some (Value.slice A n ca) from rfl))) rfl ?_
          refine L_y (y_len Try.underlying22 rfl) rfl ?_
          refine L_y (y_lss rfl rfl) rfl ?_
          refine L_y (y_move rfl) rfl ?_
          refine L_split 63 rfl (fun h63 => ?_) (fun h63 => ?_)
          ·
            refine L_gyes rfl rfl ?_
            refine L_y (y_move rfl) rfl ?_
            refine L_gyes rfl rfl ?_
            refine L_y (y_move rfl) rfl ?_
            refine L_gyes rfl rfl ?_
            refine L_y (y_add rfl rfl (i64w (by omega))) rfl ?_
            refine L_gyes rfl rfl ?_
            refine L_y (y_move rfl) rfl ?_
            refine L_gyes rfl rfl ?_
            refine L_y (y_move rfl) rfl ?_
            refine L_gyes rfl rfl ?_
            refine L_o (o_call Try.func78 rfl rfl (fnear g A n ca B m cb la lb D i k (r - 1) ((r : Int) - 1) w3 (hf0.like S3.like0) (by omega) (by omega) (by omega) (by omega) (by omega) (by omega) hway (by omega) (by omega) ht) rfl rfl ?_)
            rintro e9 w9 ⟨v9, rfl, l9, rfl⟩
            refine ⟨_, rfl, ?_⟩
            have S9 := S3.like l9
            refine L_y ((by first | exact y_pickT rfl rfl | exact y_pickF rfl rfl)) rfl ?_
            refine L_nil ?_
            refine hK19 _ _ ?_
            refine T_condB rfl (fun h70 => ?_) (fun h70 => ?_)
            ·
              refine T_region ?_
              refine L_y (y_move rfl) rfl ?_
              refine L_y (y_add rfl rfl (i64w (by omega))) rfl ?_
              refine L_y (y_assign rfl) rfl ?_
              refine L_nil ?_
              have hm := of_decide_eq_true h70
              have hra := rR_a (la := la) (lb := lb) (by omega) hm
              refine ⟨i + 1, k, r - 1, A1, c1, ps, by omega, ⟨⟨by omega, by omega, by omega, by omega, by omega, by omega, by rw [← hps, keep_a hno ⟨by omega, hm⟩]⟩, S9⟩, ?_⟩
              exact (Sub.cons rfl (by first | rfl | exact congrArg (Value.int _) (by omega)) (Sub.cons rfl (by first | rfl | (rw [List.length_append]; rfl)) (Sub.cons rfl (by first | rfl | exact congrArg (Value.int _) (by omega)) (Sub.cons rfl (by first | rfl | exact congrArg (Value.int _) (by omega)) (Sub.cons rfl rfl (Sub.nil _))))))
            ·
              refine T_region ?_
              refine L_y (y_move rfl) rfl ?_
              refine L_y (y_add rfl rfl (i64w (by omega))) rfl ?_
              refine L_y (y_assign rfl) rfl ?_
              refine L_nil ?_
              have hm : ¬ (i < la.length ∧ rR la lb (i + 1) k < rR la lb i k) := fun h => of_decide_eq_false h70 h.2
              have hkl := k_lt hm (by omega) (by omega) (by omega)
              have hrb := rR_b hno hm hkl
              refine ⟨i, k + 1, r - 1, A1, c1, ps, by omega, ⟨⟨by omega, by omega, by omega, by omega, by omega, by omega, by rw [← hps, keep_b hno hm hkl]⟩, S9⟩, ?_⟩
              exact (Sub.cons rfl (by first | rfl | exact congrArg (Value.int _) (by omega)) (Sub.cons rfl (by first | rfl | (rw [List.length_append]; rfl)) (Sub.cons rfl (by first | rfl | exact congrArg (Value.int _) (by omega)) (Sub.cons rfl (by first | rfl | exact congrArg (Value.int _) (by omega)) (Sub.cons rfl rfl (Sub.nil _))))))
          ·
            refine L_gno rfl rfl rfl ?_
            refine L_gno rfl rfl rfl ?_
            refine L_gno rfl rfl rfl ?_
            refine L_gno rfl rfl rfl ?_
            refine L_gno rfl rfl rfl ?_
            refine L_gno rfl rfl rfl ?_
            refine L_y ((by first | exact y_pickT rfl rfl | exact y_pickF rfl rfl)) rfl ?_
            refine L_nil ?_
            refine hK19 _ _ ?_
            refine T_false rfl ?_
            refine T_region ?_
            refine L_y (y_move rfl) rfl ?_
            refine L_y (y_add rfl rfl (i64w (by omega))) rfl ?_
            refine L_y (y_assign rfl) rfl ?_
            refine L_nil ?_
            have hm : ¬ (i < la.length ∧ rR la lb (i + 1) k < rR la lb i k) := fun h => by omega
            have hkl := k_lt hm (by omega) (by omega) (by omega)
            have hrb := rR_b hno hm hkl
            refine ⟨i, k + 1, r - 1, A1, c1, ps, by omega, ⟨⟨by omega, by omega, by omega, by omega, by omega, by omega, by rw [← hps, keep_b hno hm hkl]⟩, S3⟩, ?_⟩
            exact (Sub.cons rfl (by first | rfl | exact congrArg (Value.int _) (by omega)) (Sub.cons rfl (by first | rfl | (rw [List.length_append]; rfl)) (Sub.cons rfl (by first | rfl | exact congrArg (Value.int _) (by omega)) (Sub.cons rfl (by first | rfl | exact congrArg (Value.int _) (by omega)) (Sub.cons rfl rfl (Sub.nil _))))))
    ·
      refine DL_gno rfl rfl rfl rfl ?_
      refine DL_gno rfl rfl rfl rfl ?_
      refine DL_gno rfl rfl rfl rfl ?_
      refine DL_gno rfl rfl rfl rfl ?_
      refine DL_gno rfl rfl rfl rfl ?_
      refine DL_gno rfl rfl rfl rfl ?_
      refine DL_gno rfl rfl rfl rfl ?_
      refine DL_y rfl ((by first | exact y_pickT rfl rfl | exact y_pickF rfl rfl)) rfl ?_
      refine DL_y rfl (y_move rfl) rfl ?_
      refine DL_gno rfl rfl rfl rfl ?_
      refine DL_gno rfl rfl rfl rfl ?_
      refine DL_gno rfl rfl rfl rfl ?_
      refine DL_gno rfl rfl rfl rfl ?_
      refine DL_gno rfl rfl rfl rfl ?_
      refine DL_gno rfl rfl rfl rfl ?_
      refine DL_gno rfl rfl rfl rfl ?_
      refine DL_gno rfl rfl rfl rfl ?_
      refine DL_gno rfl rfl rfl rfl ?_
      refine DL_gno rfl rfl rfl rfl ?_
      refine DL_gno rfl rfl rfl rfl ?_
      refine DL_gno rfl rfl rfl rfl ?_
      refine DL_gno rfl rfl rfl rfl ?_
      refine DL_gno rfl rfl rfl rfl ?_
      refine DL_gno rfl rfl rfl rfl ?_
      refine DL_y rfl ((by first | exact y_pickT rfl rfl | exact y_pickF rfl rfl)) rfl ?_
      refine DL_nil ?_
      refine hK6 _ _ ?_
      refine T_false rfl ?_
      refine T_skip ?_
      refine hK5 _ _ ?_
      refine T_seq fun K20 hK20 => ?_
      refine T_seq fun K21 hK21 => ?_
      have hno : ¬ (i < la.length ∧ k < lb.length ∧ la[i]? = lb[k]?) := (fun h => by omega)
      refine T_region ?_
      refine L_y (y_move rfl) rfl ?_
      refine L_y (y_eql rfl rfl) rfl ?_
      refine L_nil ?_
      refine hK21 _ _ ?_
      refine T_cond rfl (fun h52 => ?_) (fun h52 => ?_)
      ·
        refine T_seq fun K22 hK22 => ?_
        refine T_region ?_
        refine L_y (y_move rfl) rfl ?_
        refine L_y (y_assign rfl) rfl ?_
        refine L_nil ?_
        refine hK22 _ _ ?_
        refine T_ret ?_
        repeat (first | with_reducible refine up_then ?_ | with_reducible refine up_in ?_)
        refine ret1 rfl rfl ?_
        have hz := rR_zero (by omega) (by omega) (by omega) (no_hit hno)
        have he : ps = keepT la lb 0 0 := by rw [← hps, keep_end (by omega) (by omega), List.append_nil]
        exact ⟨_, rfl, S3.like0, _, _, _, rfl, by rw [← he]; exact S3.own 0 rfl⟩
      ·
        refine T_skip ?_
        refine hK20 _ _ ?_
        refine T_seq fun K23 hK23 => ?_
        refine T_region ?_
        refine L_y (y_move rfl) rfl ?_
        refine L_y (y_sub rfl rfl (i64w (by omega))) rfl ?_
        refine L_y (y_assign rfl) rfl ?_
        refine L_nil ?_
        refine hK23 _ _ ?_
        refine T_seq fun K24 hK24 => ?_
        refine T_region ?_
        refine L_y (y_move rfl) rfl ?_
        refine L_y (y_move rfl) rfl ?_
        refine L_y (y_nilp rfl) rfl ?_
        refine L_y (y_fieldA 0 Try.underlying107 rfl sz22 rfl rfl rfl) rfl ?_
        refine L_y (y_ldc Try.underlying22 rfl rfl (((S3.rdB hB).cell _).trans (show (#[Value.slice A n ca, .slice B m cb, .slice R nr cr, SS] : Array Value)[0]? = some (Value.slice A n ca) from rfl))) rfl ?_
        refine L_y (y_len Try.underlying22 rfl) rfl ?_
        refine L_y (y_lss rfl rfl) rfl ?_
        refine L_y (y_move rfl) rfl ?_
        refine L_split 63 rfl (fun h63 => ?_) (fun h63 => ?_)
        ·
          refine L_gyes rfl rfl ?_
          refine L_y (y_move rfl) rfl ?_
          refine L_gyes rfl rfl ?_
          refine L_y (y_move rfl) rfl ?_
          refine L_gyes rfl rfl ?_
          refine L_y (y_add rfl rfl (i64w (by omega))) rfl ?_
          refine L_gyes rfl rfl ?_
          refine L_y (y_move rfl) rfl ?_
          refine L_gyes rfl rfl ?_
          refine L_y (y_move rfl) rfl ?_
          refine L_gyes rfl rfl ?_
          refine L_o (o_call Try.func78 rfl rfl (fnear g A n ca B m cb la lb D i k (r - 1) ((r : Int) - 1) w3 (hf0.like S3.like0) (by omega) (by omega) (by omega) (by omega) (by omega) (by omega) hway (by omega) (by omega) ht) rfl rfl ?_)
          rintro e11 w11 ⟨v11, rfl, l11, rfl⟩
          refine ⟨_, rfl, ?_⟩
          have S11 := S3.like l11
          refine L_y ((by first | exact y_pickT rfl rfl | exact y_pickF rfl rfl)) rfl ?_
          refine L_nil ?_
          refine hK24 _ _ ?_
          refine T_condB rfl (fun h70 => ?_) (fun h70 => ?_)
          ·
            refine T_region ?_
            refine L_y (y_move rfl) rfl ?_
            refine L_y (y_add rfl rfl (i64w (by omega))) rfl ?_
            refine L_y (y_assign rfl) rfl ?_
            refine L_nil ?_
            have hm := of_decide_eq_true h70
            have hra := rR_a (la := la) (lb := lb) (by omega) hm
            refine ⟨i + 1, k, r - 1, A1, c1, ps, by omega, ⟨⟨by omega, by omega, by omega, by omega, by omega, by omega, by rw [← hps, keep_a hno ⟨by omega, hm⟩]⟩, S11⟩, ?_⟩
            exact (Sub.cons rfl (by first | rfl | exact congrArg (Value.int _) (by omega)) (Sub.cons rfl (by first | rfl | (rw [List.length_append]; rfl)) (Sub.cons rfl (by first | rfl | exact congrArg (Value.int _) (by omega)) (Sub.cons rfl (by first | rfl | exact congrArg (Value.int _) (by omega)) (Sub.cons rfl rfl (Sub.nil _))))))
          ·
            refine T_region ?_
            refine L_y (y_move rfl) rfl ?_
            refine L_y (y_add rfl rfl (i64w (by omega))) rfl ?_
            refine L_y (y_assign rfl) rfl ?_
            refine L_nil ?_
            have hm : ¬ (i < la.length ∧ rR la lb (i + 1) k < rR la lb i k) := fun h => of_decide_eq_false h70 h.2
            have hkl := k_lt hm (by omega) (by omega) (by omega)
            have hrb := rR_b hno hm hkl
            refine ⟨i, k + 1, r - 1, A1, c1, ps, by omega, ⟨⟨by omega, by omega, by omega, by omega, by omega, by omega, by rw [← hps, keep_b hno hm hkl]⟩, S11⟩, ?_⟩
            exact (Sub.cons rfl (by first | rfl | exact congrArg (Value.int _) (by omega)) (Sub.cons rfl (by first | rfl | (rw [List.length_append]; rfl)) (Sub.cons rfl (by first | rfl | exact congrArg (Value.int _) (by omega)) (Sub.cons rfl (by first | rfl | exact congrArg (Value.int _) (by omega)) (Sub.cons rfl rfl (Sub.nil _))))))
        ·
          refine L_gno rfl rfl rfl ?_
          refine L_gno rfl rfl rfl ?_
          refine L_gno rfl rfl rfl ?_
          refine L_gno rfl rfl rfl ?_
          refine L_gno rfl rfl rfl ?_
          refine L_gno rfl rfl rfl ?_
          refine L_y ((by first | exact y_pickT rfl rfl | exact y_pickF rfl rfl)) rfl ?_
          refine L_nil ?_
          refine hK24 _ _ ?_
          refine T_false rfl ?_
          refine T_region ?_
          refine L_y (y_move rfl) rfl ?_
          refine L_y (y_add rfl rfl (i64w (by omega))) rfl ?_
          refine L_y (y_assign rfl) rfl ?_
          refine L_nil ?_
          have hm : ¬ (i < la.length ∧ rR la lb (i + 1) k < rR la lb i k) := fun h => by omega
          have hkl := k_lt hm (by omega) (by omega) (by omega)
          have hrb := rR_b hno hm hkl
          refine ⟨i, k + 1, r - 1, A1, c1, ps, by omega, ⟨⟨by omega, by omega, by omega, by omega, by omega, by omega, by rw [← hps, keep_b hno hm hkl]⟩, S3⟩, ?_⟩
          exact (Sub.cons rfl (by first | rfl | exact congrArg (Value.int _) (by omega)) (Sub.cons rfl (by first | rfl | (rw [List.length_append]; rfl)) (Sub.cons rfl (by first | rfl | exact congrArg (Value.int _) (by omega)) (Sub.cons rfl (by first | rfl | exact congrArg (Value.int _) (by omega)) (Sub.cons rfl rfl (Sub.nil _))))))
end Go.Proofs.Ytbbmkgpgiacdeaa

/-
  The field: row.
-/
namespace Go.Proofs.Ytbbmkgpgiacdeaa
open Go.RowKit Zk Zx
set_option linter.unusedVariables false
set_option linter.unusedSimpArgs false

/-- The room that is left: nothing yet, or a block. -/
def Room (ss : Nat → Option (Array Value)) (SA : Option Addr) (ns cs : Nat) : Prop := (SA = none ∧ ns = 0 ∧ cs = 0) ∨ ∃ st cur, SA = some ⟨st, 0, none⟩ ∧ ss st = some cur ∧ cur.size = cs ∧ ns ≤ cs ∧ cs ≤ 9223372036854775807
theorem Room.le {ss : Nat → Option (Array Value)} {SA : Option Addr} {ns cs : Nat} (h : Room ss SA ns cs) : ns ≤ cs ∧ cs ≤ 9223372036854775807 := by
  rcases h with ⟨_, h1, h2⟩ | ⟨_, _, _, _, _, h1, h2⟩ <;> omega
theorem upd_id {ss : Nat → Option (Array Value)} {b : Nat} {cur : Array Value} (h : ss b = some cur) : upd ss b cur = ss := by
  funext i
  by_cases e : i = b
  · subst e; rw [upd_same, h]
  · rw [upd_ne e]
theorem upd_upd (ss : Nat → Option (Array Value)) (b : Nat) (c1 c2 : Array Value) : upd (upd ss b c1) b c2 = upd ss b c2 := by
  funext i
  by_cases e : i = b
  · subst e; rw [upd_same, upd_same]
  · rw [upd_ne e, upd_ne e, upd_ne e]
theorem cutA_at (st c l : Nat) (h : c ≠ l) : cutA (some ⟨st, 0, none⟩) c l 1 = some ⟨st, l, none⟩ := by
  unfold cutA
  rw [if_neg h, Nat.mul_one]
  show some (Addr.add ⟨st, 0, none⟩ l) = _
  rw [Addr.add_lit, Nat.zero_add]


set_option maxRecDepth 100000 in
theorem frow (g : Nat) (X0 X1 X2 : Value) (SA : Option Addr) (ns cs : Nat) (ss : Nat → Option (Array Value)) (k : Nat) (kI : Int) (w0 : World) (hkI : kI = k) (hw : (sep (blk g 107 #[X0, X1, X2, .slice SA ns cs]) (heapR 3 ss)).holds w0) (hlt : ∀ i, (sep (blk g 107 #[X0, X1, X2, .slice SA ns cs]) (heapR 3 ss)).dom i → i < w0.heap.size) (hroom : Room ss SA ns cs) (hk1 : 1 ≤ k) (hk2 : k ≤ 1048576) (hns : ns ≤ 1099511627776) :
    Calls Try.prog 85 #[.pointer (some ⟨g, 0, none⟩), .int .i64 kI] w0 fun e w' => ∃ u, e = .returned u ∧ ∃ st fr cs' cur, u = .slice (some ⟨st, fr, none⟩) k k ∧ Turned w0 w' (sep (blk g 107 #[X0, X1, X2, .slice SA ns cs]) (heapR 3 ss)) (sep (blk g 107 #[X0, X1, X2, .slice (some ⟨st, 0, none⟩) (fr + k) cs']) (heapR 3 (upd ss st cur))) ∧ cur.size = cs' ∧ fr + k ≤ cs' ∧ cs' ≤ 9223372036854775807 ∧ ((SA = some ⟨st, 0, none⟩ ∧ fr = ns ∧ ss st = some cur) ∨ (fr = 0 ∧ ss st = none)) := by
  refine enter1 (env := [(0, .pointer (some ⟨g, 0, none⟩)), (1, .int .i64 kI)]) [.pointer (some ⟨g, 0, none⟩), .int .i64 kI] Try.func85 rfl Try.ntmps85 rfl rfl ?_
  subst hkI; have hrl := hroom.le; have S0 := St.borrow2 (blk g 107 #[X0, X1, X2, .slice SA ns cs]) (heapR 3 ss) hw.1 hw.2.1 hlt hw.2.2
  refine T_seq fun K1 hK1 => ?_
  refine T_region ?_
  refine L_y (y_assign rfl) rfl ?_
  refine L_nil ?_
  refine hK1 _ _ ?_
  refine T_seq fun K2 hK2 => ?_
  refine T_seq fun K3 hK3 => ?_
  refine T_drawnL [(0, true), (1, true), (2, true), (3, true), (4, true), (5, true), (6, true), (7, true), (8, true), (9, true), (10, true), (11, true), (12, true)] hmix (by kernel_rfl) fun w1 l1 => ?_
  have S1 := S0.like l1
  refine DL_y rfl (y_move rfl) rfl ?_
  refine DL_y rfl (y_nilp rfl) rfl ?_
  refine DL_y rfl (y_fieldA 3 Try.underlying107 rfl sz22 rfl rfl rfl) rfl ?_
  refine DL_y rfl (y_ldc Try.underlying22 rfl rfl (((S1.blk 0 rfl).cell _).trans (by rfl))) rfl ?_
  refine DL_y rfl (y_cap Try.underlying22 rfl) rfl ?_
  refine DL_y rfl (y_move rfl) rfl ?_
  refine DL_y rfl (y_nilp rfl) rfl ?_
  refine DL_y rfl (y_fieldA 3 Try.underlying107 rfl sz22 rfl rfl rfl) rfl ?_
  refine DL_y rfl (y_ldc Try.underlying22 rfl rfl (((S1.blk 0 rfl).cell _).trans (by rfl))) rfl ?_
  refine DL_y rfl (y_len Try.underlying22 rfl) rfl ?_
  refine DL_y rfl (y_sub rfl rfl (i64w (by omega))) rfl ?_
  refine DL_y rfl (y_move rfl) rfl ?_
  refine DL_y rfl (y_lss rfl rfl) rfl ?_
  refine DL_nil ?_
  refine hK3 _ _ ?_
  refine T_cond rfl (fun h18 => ?_) (fun h18 => ?_)
  ·
    refine T_region ?_
    refine L_y (y_move rfl) rfl ?_
    refine L_y (y_move rfl) rfl ?_
    refine L_y (y_max rfl rfl) rfl ?_
    refine L_o (o_make te22 rfl S1 rfl rfl inferInstance (Nt.mk (by omega) : Nt _ (max k 4096)) rfl (by omega) (by omega) (by omega) fun b2 w2 S2 => ?_)
    refine L_y (y_nilp rfl) rfl ?_
    refine L_y (y_fieldA 3 Try.underlying107 rfl sz22 rfl rfl rfl) rfl ?_
    refine L_o (o_st1 S2 0 rfl rfl rfl rfl sz22 (by simp; done) fun w3 S3 => ?_)
    refine L_nil ?_
    refine hK2 _ _ ?_
    refine T_seq fun K4 hK4 => ?_
    obtain ⟨cur, hcs, hno, hcm, S80⟩ := heap_join (rs := [_]) S3
    have S81 := S80.blkc 0 rfl (cs' := #[X0, X1, X2, .slice (some ⟨b2, 0, none⟩) 0 (max k 4096)]) rfl
    refine T_region ?_
    refine L_y (y_move rfl) rfl ?_
    refine L_y (y_nilp rfl) rfl ?_
    refine L_y (y_fieldA 3 Try.underlying107 rfl sz22 rfl rfl rfl) rfl ?_
    refine L_y (y_ldc Try.underlying22 rfl rfl (((S81.blk 0 rfl).cell _).trans (by rfl))) rfl ?_
    refine L_y (y_len Try.underlying22 rfl) rfl ?_
    refine L_y (y_assign rfl) rfl ?_
    refine L_nil ?_
    refine hK4 _ _ ?_
    refine T_seq fun K5 hK5 => ?_
    refine T_region ?_
    refine L_y (y_move rfl) rfl ?_
    refine L_y (y_move rfl) rfl ?_
    refine L_y (y_nilp rfl) rfl ?_
    refine L_y (y_fieldA 3 Try.underlying107 rfl sz22 rfl rfl rfl) rfl ?_
    refine L_y (y_ldc Try.underlying22 rfl rfl (((S81.blk 0 rfl).cell _).trans (by rfl))) rfl ?_
    refine L_y (y_move rfl) rfl ?_
    refine L_y (y_move rfl) rfl ?_
    refine L_y (y_add rfl rfl (i64w (by omega))) rfl ?_
    refine L_y (y_sliceH Try.underlying22 sz3 rfl rfl inferInstance (by omega)) rfl ?_
    refine L_y (y_nilp rfl) rfl ?_
    refine L_y (y_fieldA 3 Try.underlying107 rfl sz22 rfl rfl rfl) rfl ?_
    refine L_o (o_st1 S81 0 rfl rfl rfl rfl sz22 (by simp; done) fun w4 S4 => ?_)
    refine L_nil ?_
    refine hK5 _ _ ?_
    refine T_seq fun K6 hK6 => ?_
    have S85 := S4.blkc 0 rfl (cs' := #[X0, X1, X2, .slice (some ⟨b2, 0, none⟩) (0 + k) (max k 4096)]) (by rw [cutA_at _ _ _ (by omega)]; rfl)
    refine T_region ?_
    refine L_y (y_move rfl) rfl ?_
    refine L_y (y_nilp rfl) rfl ?_
    refine L_y (y_fieldA 3 Try.underlying107 rfl sz22 rfl rfl rfl) rfl ?_
    refine L_y (y_ldc Try.underlying22 rfl rfl (((S85.blk 0 rfl).cell _).trans (by rfl))) rfl ?_
    refine L_y (y_move rfl) rfl ?_
    refine L_y (y_move rfl) rfl ?_
    refine L_y (y_move rfl) rfl ?_
    refine L_y (y_add rfl rfl (i64w (by omega))) rfl ?_
    refine L_y (y_move rfl) rfl ?_
    refine L_y (y_move rfl) rfl ?_
    refine L_y (y_add rfl rfl (i64w (by omega))) rfl ?_
    refine L_y (y_sliceX Try.underlying22 sz3 rfl rfl rfl rfl (l := 0) (u := 0 + k) (m := 0 + k) (by omega) (by omega) (by omega) (by omega) (by omega) (by omega)) rfl ?_
    refine L_y (y_assign rfl) rfl ?_
    refine L_nil ?_
    refine hK6 _ _ ?_
    refine T_ret ?_
    repeat (first | with_reducible refine up_then ?_ | with_reducible refine up_in ?_)
    refine ret1 rfl rfl ?_
    exact ⟨_, rfl, b2, 0, max k 4096, cur, by rw [cutA_at _ _ _ (by omega)]; congr 1 <;> omega, S85.turnedS, hcs, by omega, by omega, .inr ⟨rfl, hno⟩⟩
  ·
    obtain ⟨st, cur, rfl, hss, hcs, hns2, hcm⟩ : ∃ st cur, SA = some ⟨st, 0, none⟩ ∧ ss st = some cur ∧ cur.size = cs ∧ ns ≤ cs ∧ cs ≤ 9223372036854775807 := hroom.resolve_left (fun h => by omega)
    refine T_skip ?_
    refine hK2 _ _ ?_
    refine T_seq fun K7 hK7 => ?_
    refine T_region ?_
    refine L_y (y_move rfl) rfl ?_
    refine L_y (y_nilp rfl) rfl ?_
    refine L_y (y_fieldA 3 Try.underlying107 rfl sz22 rfl rfl rfl) rfl ?_
    refine L_y (y_ldc Try.underlying22 rfl rfl (((S1.blk 0 rfl).cell _).trans (by rfl))) rfl ?_
    refine L_y (y_len Try.underlying22 rfl) rfl ?_
    refine L_y (y_assign rfl) rfl ?_
    refine L_nil ?_
    refine hK7 _ _ ?_
    refine T_seq fun K8 hK8 => ?_
    refine T_region ?_
    refine L_y (y_move rfl) rfl ?_
    refine L_y (y_move rfl) rfl ?_
    refine L_y (y_nilp rfl) rfl ?_
    refine L_y (y_fieldA 3 Try.underlying107 rfl sz22 rfl rfl rfl) rfl ?_
    refine L_y (y_ldc Try.underlying22 rfl rfl (((S1.blk 0 rfl).cell _).trans (by rfl))) rfl ?_
    refine L_y (y_move rfl) rfl ?_
    refine L_y (y_move rfl) rfl ?_
    refine L_y (y_add rfl rfl (i64w (by omega))) rfl ?_
    refine L_y (y_sliceH Try.underlying22 sz3 rfl rfl inferInstance (by omega)) rfl ?_
    refine L_y (y_nilp rfl) rfl ?_
    refine L_y (y_fieldA 3 Try.underlying107 rfl sz22 rfl rfl rfl) rfl ?_
    refine L_o (o_st1 S1 0 rfl rfl rfl rfl sz22 (by simp; done) fun w5 S5 => ?_)
    refine L_nil ?_
    refine hK8 _ _ ?_
    refine T_seq fun K9 hK9 => ?_
    have S85 := S5.blkc 0 rfl (cs' := #[X0, X1, X2, .slice (some ⟨st, 0, none⟩) (ns + k) cs]) (by rw [cutA_at _ _ _ (by omega)]; rfl)
    refine T_region ?_
    refine L_y (y_move rfl) rfl ?_
    refine L_y (y_nilp rfl) rfl ?_
    refine L_y (y_fieldA 3 Try.underlying107 rfl sz22 rfl rfl rfl) rfl ?_
    refine L_y (y_ldc Try.underlying22 rfl rfl (((S85.blk 0 rfl).cell _).trans (by rfl))) rfl ?_
    refine L_y (y_move rfl) rfl ?_
    refine L_y (y_move rfl) rfl ?_
    refine L_y (y_move rfl) rfl ?_
    refine L_y (y_add rfl rfl (i64w (by omega))) rfl ?_
    refine L_y (y_move rfl) rfl ?_
    refine L_y (y_move rfl) rfl ?_
    refine L_y (y_add rfl rfl (i64w (by omega))) rfl ?_
    refine L_y (y_sliceX Try.underlying22 sz3 rfl rfl rfl rfl (l := ns) (u := ns + k) (m := ns + k) (by omega) (by omega) (by omega) (by omega) (by omega) (by omega)) rfl ?_
    refine L_y (y_assign rfl) rfl ?_
    refine L_nil ?_
    refine hK9 _ _ ?_
    refine T_ret ?_
    repeat (first | with_reducible refine up_then ?_ | with_reducible refine up_in ?_)
    refine ret1 rfl rfl ?_
    exact ⟨_, rfl, st, ns, cs, cur, by rw [cutA_at _ _ _ (by omega)]; congr 1 <;> omega, by rw [upd_id hss]; exact S85.turnedS, hcs, by omega, by omega, .inl ⟨rfl, rfl, hss⟩⟩
end Go.Proofs.Ytbbmkgpgiacdeaa

/-
  The field's rows in memory.
-/
namespace Go.Proofs.Ytbbmkgpgiacdeaa
open Go.RowKit Zk Zx
set_option linter.unusedVariables false
/-- The rows lie in the blocks ss, below the room that is left. -/
def RowsOk (ss : Nat → Option (Array Value)) (SA : Option Addr) (ns : Nat) (D : List (List Int)) (vs : List Value) : Prop :=
  ∀ d x, D[d]? = some x → ∃ s o cur, vs[d]? = some (.slice (some ⟨s, o, none⟩) x.length x.length) ∧ x.length = 2 * d + 1 ∧ ss s = some cur ∧ (∀ j y, x[j]? = some y → cur[o + j]? = some (Value.int .i64 y)) ∧ (SA = some ⟨s, 0, none⟩ → o + x.length ≤ ns)
theorem RowsOk.upd {ss : Nat → Option (Array Value)} {SA : Option Addr} {ns : Nat} {D : List (List Int)} {vs : List Value} (h : RowsOk ss SA ns D vs) {st : Nat} {cur' : Array Value}
    (hc : ∀ cur, ss st = some cur → SA = some ⟨st, 0, none⟩ ∧ ∀ i, i < ns → cur'[i]? = cur[i]?) : RowsOk (Zx.upd ss st cur') SA ns D vs := fun d x hx => by
  obtain ⟨s, o, cur, h1, h2, h3, h4, h5⟩ := h d x hx
  by_cases e : s = st
  · subst e
    obtain ⟨h6, h7⟩ := hc cur h3
    refine ⟨s, o, cur', h1, h2, upd_same _ _ _, fun j y hy => ?_, h5⟩
    have hj := (List.getElem?_eq_some_iff.1 hy).1
    rw [h7 _ (by have := h5 h6; omega)]
    exact h4 j y hy
  · exact ⟨s, o, cur, h1, h2, by rw [upd_ne e]; exact h3, h4, h5⟩
/-- One row more. -/
theorem RowsOk.add {ss : Nat → Option (Array Value)} {SA : Option Addr} {ns : Nat} {D : List (List Int)} {vs : List Value} {st fr : Nat} {cur cur0 : Array Value} {x : List Int} (h : RowsOk ss SA ns D vs) (hl : vs.length = D.length) (hx : x.length = 2 * D.length + 1)
    (hcase : (SA = some ⟨st, 0, none⟩ ∧ fr = ns ∧ ss st = some cur0) ∨ (fr = 0 ∧ ss st = none)) (hpre : ∀ i, i < fr → cur[i]? = cur0[i]?) (hcell : ∀ j y, x[j]? = some y → cur[fr + j]? = some (Value.int .i64 y)) {k : Nat} (hk : k = x.length) :
    RowsOk (Zx.upd ss st cur) (some ⟨st, 0, none⟩) (fr + k) (D ++ [x]) (vs ++ [.slice (some ⟨st, fr, none⟩) k k]) := by
  subst hk
  have h2 : RowsOk (Zx.upd ss st cur) SA ns D vs := h.upd fun c hc => by
    rcases hcase with ⟨h1, h3, h4⟩ | ⟨_, h4⟩
    · rw [h4] at hc
      cases hc
      exact ⟨h1, fun i hi => hpre i (by omega)⟩
    · rw [h4] at hc; cases hc
  intro d y hy
  rcases Nat.lt_or_ge d D.length with hd | hd
  · rw [List.getElem?_append_left hd] at hy
    obtain ⟨s, o, c, a1, a2, a3, a4, a5⟩ := h2 d y hy
    obtain ⟨s', o', c', b1, b2, b3, b4, b5⟩ := h d y hy
    refine ⟨s, o, c, by rw [List.getElem?_append_left (by omega)]; exact a1, a2, a3, a4, fun e => ?_⟩
    have e2 : s = st := by injection e with e; injection e with e; exact e.symm
    subst e2
    rw [b1] at a1
    simp only [Option.some.injEq, Value.slice.injEq, Addr.mk.injEq, and_true] at a1
    obtain ⟨rfl, rfl⟩ := a1
    rcases hcase with ⟨h1, h3, h4⟩ | ⟨_, h4⟩
    · have := b5 h1
      omega
    · rw [h4] at b3; cases b3
  · rw [List.getElem?_append_right hd] at hy
    have hd2 : d - D.length = 0 := by have := (List.getElem?_eq_some_iff.1 hy).1; simp at this; omega
    rw [hd2] at hy
    obtain rfl : x = y := by simpa using hy
    have hde : d = D.length := by omega
    subst hde
    exact ⟨st, fr, cur, by rw [List.getElem?_append_right (by omega), hl, Nat.sub_self]; rfl, hx, upd_same _ _ _, hcell, fun _ => Nat.le_refl _⟩
theorem FR.of {w0 w : World} {M : Nat → Prop} {R : Option Addr} {nr cr g n ca m cb ns : Nat} {vs : List Value} {A B : Option Addr} {SS : Value} {ss : Nat → Option (Array Value)} {la lb : List Int} {D : List (List Int)} {SA : Option Addr}
    (S : St w0 M [row 22 1 R nr cr vs, blk g 107 #[.slice A n ca, .slice B m cb, .slice R nr cr, SS], heapR 3 ss] w) (ha : Rs w 1 A n ca (iL la)) (hb : Rs w 1 B m cb (iL lb)) (hnr : nr = D.length) (ho : RowsOk ss SA ns D vs) (hD : D.length ≤ 1048576) : FR w g A n ca B m cb la lb D :=
  ⟨R, nr, cr, SS, vs, S.blk 1 rfl, ha, hb, S.row 0 rfl, hnr, fun d x hx => by
    obtain ⟨s, o, cur, h1, h2, h3, h4, _⟩ := ho d x hx
    have hd := (List.getElem?_eq_some_iff.1 hx).1
    exact ⟨_, h1, heapR_rs (S.get 2 rfl) h3 (by simp) (fun j u hu => by
      unfold iL at hu
      rw [List.getElem?_map] at hu
      cases hj : x[j]? with
      | none => rw [hj] at hu; cases hu
      | some y =>
        rw [hj] at hu
        simp only [Option.map_some, Option.some.injEq] at hu
        subst hu
        exact h4 j y hj) (Nat.le_refl _) (by omega), h2⟩⟩
theorem tab_nil (la lb : List Int) : Tab la lb [] := fun d off hd => by
  have e : atV [] d off = farN := by
    rw [atV, if_pos (.inl (by simpa using hd))]
  rw [e]
  exact good_out (.inl (by simpa using hd))
theorem atV_old (D : List (List Int)) (x : List Int) (d off : Int) (hd : d < D.length) : atV (D ++ [x]) d off = atV D d off := by
  unfold atV
  by_cases h : d < 0 ∨ off < -d ∨ off > d
  · rw [if_pos h, if_pos h]
  · rw [if_neg h, if_neg h]
    have e : (D ++ [x]).getD d.toNat [] = D.getD d.toNat [] := by rw [List.getD_eq_getElem?_getD, List.getD_eq_getElem?_getD, List.getElem?_append_left (by omega)]
    rw [e]
theorem tab_add {la lb : List Int} {D : List (List Int)} {x : List Int} (h : Tab la lb D) (hx : x.length = 2 * D.length + 1) (hg : ∀ (t : Nat) y, x[t]? = some y → Good la lb D.length ((t : Int) - D.length) y) : Tab la lb (D ++ [x]) := fun d off hd => by
  rw [List.length_append] at hd
  rcases Int.lt_or_le d D.length with h1 | h1
  · rw [atV_old D x d off h1]
    exact h d off h1
  · have hde : d = (D.length : Int) := by simp at hd; omega
    subst hde
    unfold atV
    by_cases h2 : (D.length : Int) < 0 ∨ off < -(D.length : Int) ∨ off > (D.length : Int)
    · rw [if_pos h2]
      exact good_out h2
    · rw [if_neg h2, Int.toNat_natCast, List.getD_eq_getElem?_getD (l := D ++ [x]), List.getElem?_append_right (Nat.le_refl _), Nat.sub_self]
      obtain ⟨t, ht⟩ : ∃ t : Nat, (D.length : Int) + off = t := ⟨((D.length : Int) + off).toNat, by omega⟩
      obtain ⟨y, hy⟩ : ∃ y, x[t]? = some y := ⟨_, List.getElem?_eq_getElem (by omega)⟩
      have := hg t y hy
      rw [ht, Int.toNat_natCast, List.getD_eq_getElem?_getD]
      show Good la lb D.length off (x[t]?.getD 0)
      rw [hy, show off = (t : Int) - D.length by omega]
      exact this
theorem heapc {w0 w : World} {M : Nat → Prop} {rs : List Res} {t : Nat} {ss ss' : Nat → Option (Array Value)} (S : St w0 M rs w) (k : Nat) (hk : rs[k]? = some (heapR t ss)) (h : ss = ss') : St w0 M (rs.set k (heapR t ss')) w := by
  subst h
  obtain ⟨h1, h2⟩ := List.getElem?_eq_some_iff.1 hk
  rw [← h2, List.set_getElem_self]
  exact S
end Go.Proofs.Ytbbmkgpgiacdeaa

/-
  The field: fill.
-/
namespace Go.Proofs.Ytbbmkgpgiacdeaa
open Go.RowKit Zk Zx
set_option linter.unusedVariables false
set_option linter.unusedSimpArgs false

theorem St_swap2 {w0 w : World} {M : Nat → Prop} {a b : Res} (S : St w0 M [a, b] w) : St w0 M [b, a] w :=
  ⟨S.os, S.tape, S.output, S.size, S.old, fun q hq => S.res q (by rcases List.mem_cons.1 hq with rfl | hq; exact List.mem_cons_of_mem _ (List.mem_singleton_self _); obtain rfl := List.mem_singleton.1 hq; exact List.mem_cons_self), by
    have h := S.apart
    rw [List.pairwise_cons] at h ⊢
    refine ⟨fun q hq i hi hx => ?_, List.pairwise_singleton _ _⟩
    obtain rfl := List.mem_singleton.1 hq
    exact h.1 _ (List.mem_singleton_self _) i hx hi⟩
theorem now_rs {t : Nat} {ss : Nat → Option (Array Value)} {w : World} (h : (heapR t ss).holds w) {b o n : Nat} {cur : Array Value} (hb : ss b = some cur) (ho : o + n ≤ cur.size) (hn : n ≤ 9223372036854775807) : Rs w 1 (some ⟨b, o, none⟩) n n ((cur.toList.drop o).take n) :=
  heapR_rs h hb (by rw [List.length_take, List.length_drop, Array.length_toList]; omega) (fun j u hu => by
    rw [List.getElem?_take] at hu
    split at hu
    · rw [List.getElem?_drop, Array.getElem?_toList] at hu; exact hu
    · cases hu) (Nat.le_refl _) hn
theorem pR_at (b o k size : Nat) : pR (some ⟨b, o, none⟩) k size = .pointer (some ⟨b, o + k * size, none⟩) := by
  unfold pR
  rw [Option.map_some, Addr.add_lit]
theorem fill_step {cur cur0 : Array Value} {fr j k : Nat} {xs : List Int} {v : Int} (hk : k = fr + j) (hxl : xs.length = j) (hb : k < cur.size) (h1 : ∀ i, i < fr → cur[i]? = cur0[i]?) (h2 : ∀ (t : Nat) y, xs[t]? = some y → cur[fr + t]? = some (Value.int .i64 y)) :
    (∀ i, i < fr → (cur.setIfInBounds k (.int .i64 v))[i]? = cur0[i]?) ∧ ∀ (t : Nat) y, (xs ++ [v])[t]? = some y → (cur.setIfInBounds k (.int .i64 v))[fr + t]? = some (Value.int .i64 y) := by
  subst hk
  refine ⟨fun i hi => ?_, fun t y hy => ?_⟩
  · rw [Array.getElem?_setIfInBounds_ne (by omega)]
    exact h1 i hi
  · rcases Nat.lt_or_ge t xs.length with ht | ht
    · rw [List.getElem?_append_left ht] at hy
      rw [Array.getElem?_setIfInBounds_ne (by omega)]
      exact h2 t y hy
    · rw [List.getElem?_append_right ht] at hy
      have h0 : t - xs.length = 0 := by have := (List.getElem?_eq_some_iff.1 hy).1; simp at this; omega
      rw [h0] at hy
      obtain rfl : v = y := by simpa using hy
      have e : t = j := by omega
      subst e
      rw [Array.getElem?_setIfInBounds_self_of_lt hb]
theorem good_step {la lb : List Int} {d j : Nat} {xs : List Int} {v : Int} (hxl : xs.length = j) (h : ∀ (t : Nat) y, xs[t]? = some y → Good la lb d ((t : Int) - d) y) (hv : Good la lb d ((j : Int) - d) v) : ∀ (t : Nat) y, (xs ++ [v])[t]? = some y → Good la lb d ((t : Int) - d) y := fun t y hy => by
  rcases Nat.lt_or_ge t xs.length with ht | ht
  · rw [List.getElem?_append_left ht] at hy
    exact h t y hy
  · rw [List.getElem?_append_right ht] at hy
    have h0 : t - xs.length = 0 := by have := (List.getElem?_eq_some_iff.1 hy).1; simp at this; omega
    rw [h0] at hy
    obtain rfl : v = y := by simpa using hy
    have e : t = j := by omega
    subst e
    exact hv


set_option maxRecDepth 100000 in
theorem ffill (g : Nat) (A : Option Addr) (n ca : Nat) (B : Option Addr) (m cb : Nat) (la lb : List Int) (w0 : World) (hw : Blk w0 g 107 #[.slice A n ca, .slice B m cb, .slice none 0 0, .slice none 0 0]) (hA1 : Rs w0 1 A n ca (iL la)) (hB1 : Rs w0 1 B m cb (iL lb)) (hAg : ∀ ad, 0 < n → A = some ad → ¬ ad.block = g) (hBg : ∀ ad, 0 < m → B = some ad → ¬ ad.block = g) (hn : n ≤ 4096) (hm : m ≤ 4096) :
    Calls Try.prog 77 #[.pointer (some ⟨g, 0, none⟩)] w0 fun e w' => ∃ u, e = .returned u ∧ ∃ X, Turned w0 w' (blk g 107 #[.slice A n ca, .slice B m cb, .slice none 0 0, .slice none 0 0]) (blk g 107 X) ∧ u = .int .i64 (rR la lb 0 0 : Int) ∧ ∃ D, FR w' g A n ca B m cb la lb D ∧ D.length = rR la lb 0 0 + 1 ∧ Tab la lb D := by
  refine enter1 (env := [(0, .pointer (some ⟨g, 0, none⟩))]) [.pointer (some ⟨g, 0, none⟩)] Try.func77 rfl Try.ntmps77 rfl rfl ?_
  have hla := lenI hA1; have hlb := lenI hB1; have hrf := rR_facts la lb 0 0; have S0 := St.borrow1 (blk g 107 #[.slice A n ca, .slice B m cb, .slice none 0 0, .slice none 0 0]) hw (fun i hi => by (have hi2 : i = g := hi); subst hi2; exact hw.lt)
  refine T_seq fun K1 hK1 => ?_
  refine T_region ?_
  refine L_y (y_assign rfl) rfl ?_
  refine L_nil ?_
  refine hK1 _ _ ?_
  refine T_seq fun K2 hK2 => ?_
  refine T_drawnL [(0, true), (1, true), (2, true), (3, true), (4, true), (5, true), (6, true), (7, true), (8, true), (9, true), (10, true), (11, true)] hmix (by kernel_rfl) fun w1 l1 => ?_
  have S1 := S0.like l1
  refine DL_y rfl (y_move rfl) rfl ?_
  refine DL_y rfl (y_nilp rfl) rfl ?_
  refine DL_y rfl (y_fieldA 0 Try.underlying107 rfl sz22 rfl rfl rfl) rfl ?_
  refine DL_y rfl (y_ldc Try.underlying22 rfl rfl (((S1.blk 0 rfl).cell _).trans (by rfl))) rfl ?_
  refine DL_y rfl (y_len Try.underlying22 rfl) rfl ?_
  refine DL_y rfl (y_move rfl) rfl ?_
  refine DL_y rfl (y_nilp rfl) rfl ?_
  refine DL_y rfl (y_fieldA 1 Try.underlying107 rfl sz22 rfl rfl rfl) rfl ?_
  refine DL_y rfl (y_ldc Try.underlying22 rfl rfl (((S1.blk 0 rfl).cell _).trans (by rfl))) rfl ?_
  refine DL_y rfl (y_len Try.underlying22 rfl) rfl ?_
  refine DL_y rfl (y_assign rfl) rfl ?_
  refine DL_y rfl (y_assign rfl) rfl ?_
  refine DL_nil ?_
  refine hK2 _ _ ?_
  refine T_seq fun K3 hK3 => ?_
  refine T_region ?_
  refine L_y (y_move rfl) rfl ?_
  refine L_y (y_move rfl) rfl ?_
  refine L_y (y_sub rfl rfl (i64w (by omega))) rfl ?_
  refine L_y (y_assign rfl) rfl ?_
  refine L_nil ?_
  refine hK3 _ _ ?_
  refine T_seq fun K4 hK4 => ?_
  refine T_region ?_
  refine L_y (y_assign rfl) rfl ?_
  refine L_nil ?_
  refine hK4 _ _ ?_
  refine T_block ?_
  refine T_loop9 [(0, _), (5, _)] (fun (d : Nat) (R : Option Addr) (cr : Nat) (vs : List Value) (SA : Option Addr) (ns : Nat) (cs : Nat) (ss : Nat → Option (Array Value)) (D : List (List Int)) => [(0, .pointer (some ⟨g, 0, none⟩)), (5, .int .i64 ((n : Int) - m)), (6, .int .i64 (d : Int))]) (fun (d : Nat) (R : Option Addr) (cr : Nat) (vs : List Value) (SA : Option Addr) (ns : Nat) (cs : Nat) (ss : Nat → Option (Array Value)) (D : List (List Int)) => rR la lb 0 0 + 1 - d) (fun (d : Nat) (R : Option Addr) (cr : Nat) (vs : List Value) (SA : Option Addr) (ns : Nat) (cs : Nat) (ss : Nat → Option (Array Value)) (D : List (List Int)) (w : World) => (d ≤ rR la lb 0 0 ∧ D.length = d ∧ vs.length = d ∧ Room ss SA ns cs ∧ RowsOk ss SA ns D vs ∧ Tab la lb D ∧ ns ≤ d * 1048576) ∧ St w0 (blk g 107 #[.slice A n ca, .slice B m cb, .slice none 0 0, .slice none 0 0]).dom [row 22 1 R d cr vs, blk g 107 #[.slice A n ca, .slice B m cb, .slice R d cr, .slice SA ns cs], heapR 3 ss] w) 0 none 0 [] none 0 0 (fun _ => none) [] (Sub.cons rfl (by first | rfl | exact congrArg (Value.int _) (by omega)) (Sub.cons rfl (by first | rfl | exact congrArg (Value.int _) (by omega)) (Sub.cons rfl (by first | rfl | exact congrArg (Value.int _) (by omega)) (Sub.nil _)))) (Sub.cons rfl rfl (Sub.cons rfl rfl (Sub.nil _))) ?_ ?_
  ·
    have S52 := St_swap2 (S1.nilrow 22 1)
    have S53 := S52.new (Like.refl _) (heapR 3 fun _ => none) (heapR_none _ _) (fun i hi => by cases hi)
    exact ⟨⟨Nat.zero_le _, rfl, rfl, .inl ⟨rfl, rfl, rfl⟩, (fun d x hx => by cases hx), tab_nil la lb, Nat.zero_le _⟩, S53⟩
  ·
    intro d R cr vs SA ns cs ss D w2 hrel
    obtain ⟨⟨hd, hDd, hvd, hroom, hrow, htab, hns⟩, S2⟩ := hrel
    refine T_seq fun K5 hK5 => ?_
    refine T_block ?_
    refine T_seq fun K6 hK6 => ?_
    have S60 := St.sepj (rs := [_]) S2
    refine T_region ?_
    refine L_y (y_move rfl) rfl ?_
    refine L_y (y_move rfl) rfl ?_
    refine L_y (y_mul rfl rfl (i64w (by omega))) rfl ?_
    refine L_y (y_add rfl rfl (i64w (by omega))) rfl ?_
    refine L_o (o_call Try.func85 rfl rfl (frow g _ _ _ SA ns cs ss (2 * d + 1) _ w2 (by omega) (S60.get 1 rfl) (S60.lt 1 rfl) hroom (by omega) (by omega) (by omega)) rfl rfl ?_)
    rintro e3 w3 ⟨v3, rfl, st, fr, cs2, cur0, rfl, T3, hcs, hfit, hcmx, hcase⟩
    refine ⟨_, rfl, ?_⟩
    have S3 := S60.turn 1 rfl T3
    have S62 := St.seps (rs := [_]) S3
    refine L_y (y_assign rfl) rfl ?_
    refine L_nil ?_
    refine hK6 _ _ ?_
    refine T_seq fun K7 hK7 => ?_
    refine T_seq fun K8 hK8 => ?_
    refine T_region ?_
    refine L_y (y_move rfl) rfl ?_
    refine L_y (y_neg rfl (i64w (by omega))) rfl ?_
    refine L_y (y_assign rfl) rfl ?_
    refine L_nil ?_
    refine hK8 _ _ ?_
    refine T_block ?_
    refine T_loop3 [(0, _), (5, _), (6, _), (7, _)] (fun (j : Nat) (cur : Array Value) (xs : List Int) => [(0, .pointer (some ⟨g, 0, none⟩)), (5, .int .i64 ((n : Int) - m)), (6, .int .i64 (d : Int)), (7, .slice (some ⟨st, fr, none⟩) (2 * d + 1) (2 * d + 1)), (8, .int .i64 ((j : Int) - d))]) (fun (j : Nat) (cur : Array Value) (xs : List Int) => 2 * d + 1 - j) (fun (j : Nat) (cur : Array Value) (xs : List Int) (w : World) => (j ≤ 2 * d + 1 ∧ xs.length = j ∧ cur.size = cs2 ∧ (∀ i, i < fr → cur[i]? = cur0[i]?) ∧ (∀ (t : Nat) y, xs[t]? = some y → cur[fr + t]? = some (Value.int .i64 y)) ∧ ∀ (t : Nat) y, xs[t]? = some y → Good la lb d ((t : Int) - d) y) ∧ St w0 (blk g 107 #[.slice A n ca, .slice B m cb, .slice none 0 0, .slice none 0 0]).dom [row 22 1 R d cr vs, blk g 107 #[.slice A n ca, .slice B m cb, .slice R d cr, .slice (some ⟨st, 0, none⟩) (fr + (2 * d + 1)) cs2], heapR 3 (Zx.upd ss st cur)] w) 0 cur0 [] (Sub.cons rfl (by first | rfl | exact congrArg (Value.int _) (by omega)) (Sub.cons rfl (by first | rfl | exact congrArg (Value.int _) (by omega)) (Sub.cons rfl (by first | rfl | exact congrArg (Value.int _) (by omega)) (Sub.cons rfl (by first | rfl | exact congrArg (Value.int _) (by omega)) (Sub.cons rfl (by first | rfl | exact congrArg (Value.int _) (by omega)) (Sub.nil _)))))) (Sub.cons rfl rfl (Sub.cons rfl rfl (Sub.cons rfl rfl (Sub.cons rfl rfl (Sub.nil _))))) ?_ ?_
    ·
      exact ⟨⟨Nat.zero_le _, rfl, hcs, fun i hi => rfl, (fun t y hy => by cases hy), (fun t y hy => by cases hy)⟩, S62⟩
    ·
      intro j cur xs w4 hrel
      obtain ⟨⟨hj, hxl, hcsz, hpre, hcell, hgood⟩, S4⟩ := hrel
      refine T_seq fun K9 hK9 => ?_
      refine T_seq fun K10 hK10 => ?_
      refine T_region ?_
      refine L_y (y_move rfl) rfl ?_
      refine L_y (y_move rfl) rfl ?_
      refine L_y (y_leq rfl rfl) rfl ?_
      refine L_nil ?_
      refine hK10 _ _ ?_
      refine T_cond rfl (fun h33 => ?_) (fun h33 => ?_)
      ·
        have hrow2 : RowsOk (Zx.upd ss st cur) SA ns D vs := hrow.upd fun c hc => by rcases hcase with ⟨q1, q2, q3⟩ | ⟨q1, q2⟩; (rw [q3] at hc; cases hc; exact ⟨q1, fun i hi => hpre i (by omega)⟩); (rw [q2] at hc; cases hc)
        refine T_skip ?_
        refine hK9 _ _ ?_
        refine T_seq fun K11 hK11 => ?_
        refine T_block ?_
        refine T_region ?_
        refine L_y (y_move rfl) rfl ?_
        refine L_y (y_move rfl) rfl ?_
        refine L_y (y_move rfl) rfl ?_
        refine L_y (y_add rfl rfl (i64w (by omega))) rfl ?_
        refine L_y (y_move rfl) rfl ?_
        refine L_y (y_move rfl) rfl ?_
        refine L_y (y_move rfl) rfl ?_
        refine L_y (y_move rfl) rfl ?_
        refine L_o (o_call Try.func86 rfl rfl (fbest g A n ca B m cb la lb D (d : Int) ((j : Int) - d) ((n : Int) - m) w4 (FR.of S4 (S4.rdM hA1 hAg) (S4.rdM hB1 hBg) hDd.symm hrow2 (by omega)) (by omega) (by omega) (by omega) (by omega) (by omega) (by omega) (by omega) rfl htab) rfl rfl ?_)
        rintro e5 w5 ⟨v5, rfl, l5, v, rfl, hgv⟩
        refine ⟨_, rfl, ?_⟩
        have S5 := S4.like l5
        refine L_y (y_idx Try.underlying22 sz3 rfl rfl (now_rs (S5.get 2 rfl) (upd_same _ _ _) (by omega) (by omega)) (Nt.mk (by omega) : Nt _ (j)) (by omega)) rfl ?_
        refine L_o (o_stH (o := fr + j * 1) S5 2 rfl (upd_same _ _ _) (congrArg some (pR_at st fr j 1)) rfl rfl sz3 (by rw [hcsz]; omega) fun w6 S6 => ?_)
        refine L_nil ?_
        refine hK11 _ _ ?_
        refine T_region ?_
        refine L_y (y_move rfl) rfl ?_
        refine L_y (y_add rfl rfl (i64w (by omega))) rfl ?_
        refine L_y (y_assign rfl) rfl ?_
        refine L_nil ?_
        have S91 := heapc S6 2 rfl (upd_upd _ _ _ _)
        have hst := fill_step (v := v) (k := fr + j * 1) (by omega) hxl (by omega) hpre hcell
        refine ⟨j + 1, _, xs ++ [v], by omega, ⟨⟨by omega, by rw [List.length_append]; simp only [List.length_cons, List.length_nil]; omega, by rw [Array.size_setIfInBounds]; exact hcsz, hst.1, hst.2, good_step hxl hgood hgv⟩, S91⟩, ?_⟩
        exact (Sub.cons rfl (by first | rfl | exact congrArg (Value.int _) (by omega)) (Sub.cons rfl (by first | rfl | exact congrArg (Value.int _) (by omega)) (Sub.cons rfl (by first | rfl | exact congrArg (Value.int _) (by omega)) (Sub.cons rfl (by first | rfl | exact congrArg (Value.int _) (by omega)) (Sub.cons rfl (by first | rfl | exact congrArg (Value.int _) (by omega)) (Sub.cons rfl rfl (Sub.cons rfl rfl (Sub.cons rfl rfl (Sub.cons rfl rfl (Sub.nil _))))))))))
      ·
        refine T_exit ?_
        refine hK7 _ _ ?_
        refine T_seq fun K12 hK12 => ?_
        refine T_region ?_
        refine L_y (y_move rfl) rfl ?_
        refine L_y (y_move rfl) rfl ?_
        refine L_y (y_nilp rfl) rfl ?_
        refine L_y (y_fieldA 2 Try.underlying107 rfl sz84 rfl rfl rfl) rfl ?_
        refine L_y (y_ldc Try.underlying84 rfl rfl (((S4.blk 1 rfl).cell _).trans (by rfl))) rfl ?_
        refine L_y (y_move rfl) rfl ?_
        refine L_o (o_bsl [_] te84 zz22 S4 rfl rfl rfl rfl rfl rfl rfl rfl fun b7 w7 S7 => ?_)
        refine L_o (o_app te84 S7 0 rfl rfl rfl (by first | exact S7.row 0 rfl | exact S7.row 3 rfl) (by first | exact bL_one _ | exact iL_one _ | (intro u hu; simp at hu; subst hu; rfl) | (simp; done) | (simp [Value.oneCell']; done)) rfl (by omega) (by omega) fun A8 c8 w8 S8 => ?_)
        have S8d := S8.drop (rs' := [_, _, _]) (.cons_cons _ (.cons_cons _ (.cons_cons _ (.cons _ (.refl _)))))
        refine L_y (y_nilp rfl) rfl ?_
        refine L_y (y_fieldA 2 Try.underlying107 rfl sz84 rfl rfl rfl) rfl ?_
        refine L_o (o_st1 S8d 1 rfl rfl rfl rfl sz84 (by simp; done) fun w9 S9 => ?_)
        refine L_nil ?_
        refine hK12 _ _ ?_
        refine T_seq fun K13 hK13 => ?_
        have S70 := S9.blkc 1 rfl (cs' := #[.slice A n ca, .slice B m cb, .slice A8 (d + 1) c8, .slice (some ⟨st, 0, none⟩) (fr + (2 * d + 1)) cs2]) rfl
        have hje : j = 2 * d + 1 := by omega
        have hrow3 := hrow.add (x := xs) (by omega) (by omega) hcase hpre hcell (k := 2 * d + 1) (by omega)
        have htab3 := tab_add htab (x := xs) (by omega) (by rw [hDd]; exact hgood)
        have hDl : (D ++ [xs]).length = d + 1 := by rw [List.length_append, hDd]; rfl
        have hfr3 := FR.of S70 (S70.rdM hA1 hAg) (S70.rdM hB1 hBg) hDl.symm hrow3 (by omega)
        have hgz := good_zero (la := la) (lb := lb) (d := (d : Int)) (v := atV (D ++ [xs]) d (0 - ((n : Int) - m))) (by rw [hla, hlb, ← Int.zero_sub]; exact htab3 d _ (by omega))
        refine T_region ?_
        refine L_y (y_move rfl) rfl ?_
        refine L_y (y_move rfl) rfl ?_
        refine L_y (y_move rfl) rfl ?_
        refine L_y (y_neg rfl (i64w (by omega))) rfl ?_
        refine L_o (o_call Try.func87 rfl rfl (fat g A n ca B m cb la lb (D ++ [xs]) (d : Int) (0 - ((n : Int) - m)) w9 hfr3 (by omega) (by omega) (by omega) (by omega)) rfl rfl ?_)
        rintro e10 w10 ⟨v10, rfl, l10, rfl⟩
        refine ⟨_, rfl, ?_⟩
        have S10 := S70.like l10
        refine L_y (y_eql rfl rfl) rfl ?_
        refine L_nil ?_
        refine hK13 _ _ ?_
        refine T_cond rfl (fun h61 => ?_) (fun h61 => ?_)
        ·
          have hle := hgz.1 h61
          have hde : d = rR la lb 0 0 := by omega
          refine T_seq fun K14 hK14 => ?_
          refine T_region ?_
          refine L_y (y_move rfl) rfl ?_
          refine L_y (y_assign rfl) rfl ?_
          refine L_nil ?_
          refine hK14 _ _ ?_
          refine T_ret ?_
          repeat (first | with_reducible refine up_then ?_ | with_reducible refine up_in ?_)
          refine ret1 rfl rfl ?_
          exact ⟨_, rfl, _, S10.turned1 1 rfl, by rw [hde], D ++ [xs], FR.of S10 (S10.rdM hA1 hAg) (S10.rdM hB1 hBg) hDl.symm hrow3 (by omega), by omega, htab3⟩
        ·
          have hne : ¬ ((d : Int) = rR la lb 0 0) := fun h => h61 (hgz.2 h)
          refine T_skip ?_
          refine hK5 _ _ ?_
          refine T_region ?_
          refine L_y (y_move rfl) rfl ?_
          refine L_y (y_add rfl rfl (i64w (by omega))) rfl ?_
          refine L_y (y_assign rfl) rfl ?_
          refine L_nil ?_
          refine ⟨d + 1, A8, c8, _, _, _, _, _, D ++ [xs], by omega, ⟨⟨by omega, hDl, by rw [List.length_append, hvd]; rfl, .inr ⟨st, cur, rfl, upd_same _ _ _, hcsz, by omega, by omega⟩, hrow3, htab3, by omega⟩, S10⟩, ?_⟩
          exact (Sub.cons rfl (by first | rfl | exact congrArg (Value.int _) (by omega)) (Sub.cons rfl (by first | rfl | exact congrArg (Value.int _) (by omega)) (Sub.cons rfl (by first | rfl | exact congrArg (Value.int _) (by omega)) (Sub.cons rfl rfl (Sub.cons rfl rfl (Sub.nil _))))))
end Go.Proofs.Ytbbmkgpgiacdeaa

/-
  The program: start, Diff, Distance.
-/
namespace Go.Proofs.Ytbbmkgpgiacdeaa
open Go.RowKit Zk Zx
set_option linter.unusedVariables false
set_option linter.unusedSimpArgs false

set_option maxRecDepth 100000 in
theorem fstart (A B : Option Addr) (n ca m cb : Nat) (la lb : List Int) (w0 : World) (ha : Rs w0 1 A n ca (iL la)) (hb : Rs w0 1 B m cb (iL lb)) (hn : n ≤ 800) (hm : m ≤ 800) :
    Calls Try.prog 64 #[.slice A n ca, .slice B m cb] w0 fun e w' => ∃ u, e = .returned u ∧ Like w0 w' ∧ ∃ g D, u = .tuple #[.pointer (some ⟨g, 0, none⟩), .int .i64 (rR la lb 0 0 : Int), .int .i64 0] ∧ FR w' g A n ca B m cb la lb D ∧ D.length = rR la lb 0 0 + 1 ∧ Tab la lb D := by
  refine enter1 (env := [(0, .slice A n ca), (1, .slice B m cb)]) [.slice A n ca, .slice B m cb] Try.func64 rfl Try.ntmps64 rfl rfl ?_
  have hrf := rR_facts la lb 0 0; have hla := lenI ha; have hlb := lenI hb; have S0 := St.start w0 noM
  refine T_seq fun K1 hK1 => ?_
  refine T_region ?_
  refine L_y (y_assign rfl) rfl ?_
  refine L_y (y_assign rfl) rfl ?_
  refine L_y (y_assign rfl) rfl ?_
  refine L_nil ?_
  refine hK1 _ _ ?_
  refine T_seq fun K2 hK2 => ?_
  refine T_seq fun K3 hK3 => ?_
  refine T_region ?_
  refine L_y (y_move rfl) rfl ?_
  refine L_y (y_len Try.underlying22 rfl) rfl ?_
  refine L_y (y_gtr rfl rfl) rfl ?_
  refine L_y (y_move rfl) rfl ?_
  refine L_split 11 rfl (fun h11 => ?_) (fun h11 => ?_)
  ·
    exact absurd h11 (by omega)
  ·
    refine L_gyes rfl rfl ?_
    refine L_y (y_move rfl) rfl ?_
    refine L_gyes rfl rfl ?_
    refine L_y (y_len Try.underlying22 rfl) rfl ?_
    refine L_gyes rfl rfl ?_
    refine L_y (y_gtr rfl rfl) rfl ?_
    refine L_y ((by first | exact y_pickT rfl rfl | exact y_pickF rfl rfl)) rfl ?_
    refine L_nil ?_
    refine hK3 _ _ ?_
    refine T_cond rfl (fun h15 => ?_) (fun h15 => ?_)
    ·
      exact absurd h15 (by omega)
    ·
      refine T_skip ?_
      refine hK2 _ _ ?_
      refine T_seq fun K4 hK4 => ?_
      refine T_region ?_
      refine L_y (y_move rfl) rfl ?_
      refine L_y (y_move rfl) rfl ?_
      refine L_y (y_build rfl (show _ = some #[Value.slice A n ca, .slice B m cb, .slice none 0 0, .slice none 0 0] by kernel_rfl)) rfl ?_
      refine L_o (o_box rfl S0 rfl fun b2 w2 hb2 S2 => ?_)
      refine L_y (y_assign rfl) rfl ?_
      refine L_nil ?_
      refine hK4 _ _ ?_
      refine T_seq fun K5 hK5 => ?_
      refine T_region ?_
      refine L_y (y_move rfl) rfl ?_
      refine L_y (y_move rfl) rfl ?_
      refine L_o (o_call Try.func77 rfl rfl (ffill _ A n ca B m cb la lb w2 (S2.blk 0 rfl) (S2.rd ha) (S2.rd hb) (fun ad h0 hA e => absurd (old_block ha h0 hA) (by omega)) (fun ad h0 hA e => absurd (old_block hb h0 hA) (by omega)) (by omega) (by omega)) rfl rfl ?_)
      rintro e3 w3 ⟨v3, rfl, X, T3, rfl, D, hfr, hDl, htab⟩
      refine ⟨_, rfl, ?_⟩
      have S3 := S2.turn 0 rfl T3
      refine L_y (y_assign rfl) rfl ?_
      refine L_y (y_assign rfl) rfl ?_
      refine L_y (y_assign rfl) rfl ?_
      refine L_nil ?_
      refine hK5 _ _ ?_
      refine T_ret ?_
      repeat (first | with_reducible refine up_then ?_ | with_reducible refine up_in ?_)
      refine ret3 rfl rfl rfl rfl ?_
      exact ⟨_, rfl, S3.like0, _, D, rfl, hfr, hDl, htab⟩


set_option maxRecDepth 100000 in
theorem fstartL (A B : Option Addr) (n ca m cb : Nat) (la lb : List Int) (w0 : World) (ha : Rs w0 1 A n ca (iL la)) (hb : Rs w0 1 B m cb (iL lb)) (hlong : 800 < n ∨ 800 < m) :
    Calls Try.prog 64 #[.slice A n ca, .slice B m cb] w0 fun e w' => ∃ u, e = .returned u ∧ Like w0 w' ∧ u = .tuple #[.pointer none, .int .i64 0, .int .i64 3] := by
  refine enter1 (env := [(0, .slice A n ca), (1, .slice B m cb)]) [.slice A n ca, .slice B m cb] Try.func64 rfl Try.ntmps64 rfl rfl ?_
  have hrf := rR_facts la lb 0 0; have hla := lenI ha; have hlb := lenI hb; have S0 := St.start w0 noM
  refine T_seq fun K1 hK1 => ?_
  refine T_region ?_
  refine L_y (y_assign rfl) rfl ?_
  refine L_y (y_assign rfl) rfl ?_
  refine L_y (y_assign rfl) rfl ?_
  refine L_nil ?_
  refine hK1 _ _ ?_
  refine T_seq fun K2 hK2 => ?_
  refine T_seq fun K3 hK3 => ?_
  refine T_region ?_
  refine L_y (y_move rfl) rfl ?_
  refine L_y (y_len Try.underlying22 rfl) rfl ?_
  refine L_y (y_gtr rfl rfl) rfl ?_
  refine L_y (y_move rfl) rfl ?_
  refine L_split 11 rfl (fun h11 => ?_) (fun h11 => ?_)
  ·
    refine L_gno rfl rfl rfl ?_
    refine L_gno rfl rfl rfl ?_
    refine L_gno rfl rfl rfl ?_
    refine L_y ((by first | exact y_pickT rfl rfl | exact y_pickF rfl rfl)) rfl ?_
    refine L_nil ?_
    refine hK3 _ _ ?_
    refine T_true rfl ?_
    refine T_seq fun K4 hK4 => ?_
    refine T_region ?_
    refine L_y (y_assign rfl) rfl ?_
    refine L_y (y_assign rfl) rfl ?_
    refine L_y (y_assign rfl) rfl ?_
    refine L_nil ?_
    refine hK4 _ _ ?_
    refine T_ret ?_
    repeat (first | with_reducible refine up_then ?_ | with_reducible refine up_in ?_)
    refine ret3 rfl rfl rfl rfl ?_
    exact ⟨_, rfl, S0.like0, rfl⟩
  ·
    refine L_gyes rfl rfl ?_
    refine L_y (y_move rfl) rfl ?_
    refine L_gyes rfl rfl ?_
    refine L_y (y_len Try.underlying22 rfl) rfl ?_
    refine L_gyes rfl rfl ?_
    refine L_y (y_gtr rfl rfl) rfl ?_
    refine L_y ((by first | exact y_pickT rfl rfl | exact y_pickF rfl rfl)) rfl ?_
    refine L_nil ?_
    refine hK3 _ _ ?_
    refine T_cond rfl (fun h15 => ?_) (fun h15 => ?_)
    ·
      refine T_seq fun K5 hK5 => ?_
      refine T_region ?_
      refine L_y (y_assign rfl) rfl ?_
      refine L_y (y_assign rfl) rfl ?_
      refine L_y (y_assign rfl) rfl ?_
      refine L_nil ?_
      refine hK5 _ _ ?_
      refine T_ret ?_
      repeat (first | with_reducible refine up_then ?_ | with_reducible refine up_in ?_)
      refine ret3 rfl rfl rfl rfl ?_
      exact ⟨_, rfl, S0.like0, rfl⟩
    ·
      exact absurd h15 (by omega)


set_option maxRecDepth 100000 in
theorem fdiff (A B : Option Addr) (n ca m cb : Nat) (la lb : List Int) (w0 : World) (ha : Rs w0 1 A n ca (iL la)) (hb : Rs w0 1 B m cb (iL lb)) (hn : n ≤ 800) (hm : m ≤ 800) :
    Calls Try.prog 53 #[.slice A n ca, .slice B m cb] w0 fun e w' => ∃ u, e = .returned u ∧ Like w0 w' ∧ ∃ A m c, u = .tuple #[.slice A m c, .int .i64 0] ∧ w'.ownsRow w0.heap.size 34 2 (.slice A m c) m ((keepT la lb 0 0).flatMap pf) := by
  refine enter1 (env := [(0, .slice A n ca), (1, .slice B m cb)]) [.slice A n ca, .slice B m cb] Try.func53 rfl Try.ntmps53 rfl rfl ?_
  have hrf := rR_facts la lb 0 0; have hla := lenI ha; have hlb := lenI hb; have S0 := St.start w0 noM
  refine T_seq fun K1 hK1 => ?_
  refine T_region ?_
  refine L_y (y_assign rfl) rfl ?_
  refine L_y (y_assign rfl) rfl ?_
  refine L_nil ?_
  refine hK1 _ _ ?_
  refine T_seq fun K2 hK2 => ?_
  refine T_region ?_
  refine L_y (y_move rfl) rfl ?_
  refine L_y (y_move rfl) rfl ?_
  refine L_o (o_call Try.func64 rfl rfl (fstart A B n ca m cb la lb w0 (S0.rd ha) (S0.rd hb) hn hm) rfl rfl ?_)
  rintro e1 w1 ⟨v1, rfl, l1, g, D, rfl, hfr, hDl, htab⟩
  refine ⟨_, rfl, ?_⟩
  have S1 := S0.like l1
  refine L_y (y_move rfl) rfl ?_
  refine L_y (y_extract rfl rfl) rfl ?_
  refine L_y (y_extract rfl rfl) rfl ?_
  refine L_y (y_extract rfl rfl) rfl ?_
  refine L_y (y_assign rfl) rfl ?_
  refine L_y (y_assign rfl) rfl ?_
  refine L_y (y_assign rfl) rfl ?_
  refine L_nil ?_
  refine hK2 _ _ ?_
  refine T_seq fun K3 hK3 => ?_
  refine T_seq fun K4 hK4 => ?_
  refine T_region ?_
  refine L_y (y_move rfl) rfl ?_
  refine L_y (y_neq rfl rfl) rfl ?_
  refine L_nil ?_
  refine hK4 _ _ ?_
  refine T_false rfl ?_
  refine T_skip ?_
  refine hK3 _ _ ?_
  refine T_seq fun K5 hK5 => ?_
  refine T_region ?_
  refine L_y (y_move rfl) rfl ?_
  refine L_y (y_move rfl) rfl ?_
  refine L_o (o_call Try.func65 rfl rfl (fway g A n ca B m cb la lb D (rR la lb 0 0) w1 hfr (by omega) (by omega) (by omega) rfl hDl htab) rfl rfl ?_)
  rintro e2 w2 ⟨v2, rfl, l2, AR, mR, cR, rfl, O2⟩
  refine ⟨_, rfl, ?_⟩
  have S2 := S1.adopt l2 O2
  refine L_y (y_assign rfl) rfl ?_
  refine L_y (y_assign rfl) rfl ?_
  refine L_nil ?_
  refine hK5 _ _ ?_
  refine T_ret ?_
  repeat (first | with_reducible refine up_then ?_ | with_reducible refine up_in ?_)
  refine ret2 rfl rfl rfl ?_
  exact ⟨_, rfl, S2.like0, AR, mR, cR, rfl, S2.own 0 rfl⟩


set_option maxRecDepth 100000 in
theorem fdiffL (A B : Option Addr) (n ca m cb : Nat) (la lb : List Int) (w0 : World) (ha : Rs w0 1 A n ca (iL la)) (hb : Rs w0 1 B m cb (iL lb)) (hlong : 800 < n ∨ 800 < m) :
    Calls Try.prog 53 #[.slice A n ca, .slice B m cb] w0 fun e w' => ∃ u, e = .returned u ∧ Like w0 w' ∧ u = .tuple #[.slice none 0 0, .int .i64 3] := by
  refine enter1 (env := [(0, .slice A n ca), (1, .slice B m cb)]) [.slice A n ca, .slice B m cb] Try.func53 rfl Try.ntmps53 rfl rfl ?_
  have hrf := rR_facts la lb 0 0; have hla := lenI ha; have hlb := lenI hb; have S0 := St.start w0 noM
  refine T_seq fun K1 hK1 => ?_
  refine T_region ?_
  refine L_y (y_assign rfl) rfl ?_
  refine L_y (y_assign rfl) rfl ?_
  refine L_nil ?_
  refine hK1 _ _ ?_
  refine T_seq fun K2 hK2 => ?_
  refine T_region ?_
  refine L_y (y_move rfl) rfl ?_
  refine L_y (y_move rfl) rfl ?_
  refine L_o (o_call Try.func64 rfl rfl (fstartL A B n ca m cb la lb w0 (S0.rd ha) (S0.rd hb) hlong) rfl rfl ?_)
  rintro e1 w1 ⟨v1, rfl, l1, rfl⟩
  refine ⟨_, rfl, ?_⟩
  have S1 := S0.like l1
  refine L_y (y_move rfl) rfl ?_
  refine L_y (y_extract rfl rfl) rfl ?_
  refine L_y (y_extract rfl rfl) rfl ?_
  refine L_y (y_extract rfl rfl) rfl ?_
  refine L_y (y_assign rfl) rfl ?_
  refine L_y (y_assign rfl) rfl ?_
  refine L_y (y_assign rfl) rfl ?_
  refine L_nil ?_
  refine hK2 _ _ ?_
  refine T_seq fun K3 hK3 => ?_
  refine T_seq fun K4 hK4 => ?_
  refine T_region ?_
  refine L_y (y_move rfl) rfl ?_
  refine L_y (y_neq rfl rfl) rfl ?_
  refine L_nil ?_
  refine hK4 _ _ ?_
  refine T_true rfl ?_
  refine T_seq fun K5 hK5 => ?_
  refine T_region ?_
  refine L_y (y_move rfl) rfl ?_
  refine L_y (y_assign rfl) rfl ?_
  refine L_y (y_assign rfl) rfl ?_
  refine L_nil ?_
  refine hK5 _ _ ?_
  refine T_ret ?_
  repeat (first | with_reducible refine up_then ?_ | with_reducible refine up_in ?_)
  refine ret2 rfl rfl rfl ?_
  exact ⟨_, rfl, S1.like0, rfl⟩


end Go.Proofs.Ytbbmkgpgiacdeaa
