/-
  A walk over an association list: the frame is known only at the slots that matter. General; nothing here names a program.
-/
import Derived.Test.YtmgimcdkeelnpaaZm
import Derived.Defers
namespace Go.Proofs.Ytmgimcdkeelnpaa.Zx
open Go.RowKit Zk
set_option linter.unusedVariables false
set_option linter.unusedSimpArgs false

abbrev Env := List (Nat × Value)
def look : Env → Nat → Option Value
  | [], _ => none
  | (i, v) :: r, n => bif Nat.beq i n then (bif Nat.beq i 1000000 then none else some v) else look r n
def ev (e : Env) : Operand → Option Value
  | .tmp t => look e t
  | .const v => some v
  | .func f => some (.func (.func f) #[] #[])
  | .global g => some (.pointer (some ⟨g, 0, none⟩))

/-- The calls that wait for the end stand in a place of their own, behind all slots. -/
def decD : Value → Deferred
  | .agg #[.int _ f, .agg xs] => ⟨.fn (.func f.toNat) #[], xs⟩
  | _ => default
def decL : Value → List Deferred
  | .agg xs => xs.toList.map decD
  | _ => []
def dfs : Env → List Deferred
  | [] => []
  | (i, v) :: r => bif Nat.beq i 1000000 then decL v else dfs r
theorem look_none : ∀ e : Env, look e 1000000 = none
  | [] => rfl
  | (i, u) :: r => by
    simp only [look]
    cases hb : Nat.beq i 1000000 with
    | true => rfl
    | false => exact look_none r
theorem dfs_app : ∀ (e1 e2 : Env), dfs (e1 ++ e2) = dfs e1 ∨ dfs (e1 ++ e2) = dfs e2
  | [], e2 => .inr rfl
  | (i, u) :: r, e2 => by
    simp only [List.cons_append, dfs]
    cases Nat.beq i 1000000 with
    | true => exact .inl rfl
    | false => exact dfs_app r e2
theorem dfs_put (e : Env) (d : Nat) (v : Value) (h : d < 1000000) : dfs ((d, v) :: e) = dfs e := by
  have : Nat.beq d 1000000 = false := by
    cases hb : Nat.beq d 1000000 with
    | true => have : d = 1000000 := by simpa using hb
              omega
    | false => rfl
  simp only [dfs, this, cond_false]

structure Fits (N : Nat) (e : Env) (a : Act) : Prop where
  defers : a.defers = dfs e
  small : N ≤ 1000000
  size : a.tmps.size = N
  vals : ∀ i v, look e i = some v → a.tmps[i]? = some v

theorem Fits.eval {N : Nat} {e : Env} {a : Act} (h : Fits N e a) {x : Operand} {v : Value} (hx : ev e x = some v) : a.eval x = v := by
  cases x with
  | tmp t =>
    have := h.vals t v hx
    simp [Act.eval, this]
  | const c => simpa [ev, Act.eval] using hx
  | func f => simpa [ev, Act.eval] using hx
  | global g => simpa [ev, Act.eval] using hx

theorem Fits.put {N : Nat} {e : Env} {a : Act} (h : Fits N e a) (d : Nat) (v : Value) (hd : Nat.blt d N = true) : Fits N ((d, v) :: e) (a.put (some d) v) := by
  have hd' : d < N := by simpa using hd
  refine ⟨by rw [dfs_put _ _ _ (Nat.lt_of_lt_of_le hd' h.small)]; exact h.defers, h.small, by simp [Act.put, h.size], fun i u hu => ?_⟩
  simp only [look] at hu
  by_cases hi : d = i
  · subst hi
    have : Nat.beq d d = true := by simp
    have hk : Nat.beq d 1000000 = false := by
      cases hb : Nat.beq d 1000000 with
      | true =>
        have h3 : d = 1000000 := by simpa using hb
        have := h.small
        omega
      | false => rfl
    rw [this, hk] at hu
    simp only [cond_true, cond_false, Option.some.injEq] at hu
    subst hu
    simp [Act.put, h.size, hd']
  · have : Nat.beq d i = false := by
      cases hb : Nat.beq d i with
      | true => exact absurd (by simpa using hb) hi
      | false => rfl
    rw [this] at hu
    simp only [cond_false] at hu
    simp only [Act.put]
    rw [Array.getElem?_setIfInBounds_ne hi]
    exact h.vals i u hu

/-- e' is known of whatever e is known of. -/
def Sub (e' e : Env) : Prop := dfs e' = dfs e ∧ ∀ i v, look e' i = some v → look e i = some v
theorem Sub.refl (e : Env) : Sub e e := ⟨rfl, fun _ _ h => h⟩
theorem Sub.nil (e : Env) (hd : dfs e = [] := by rfl) : Sub [] e := ⟨hd.symm, fun _ _ h => by cases h⟩
theorem Sub.cons {e' e : Env} {i : Nat} {v u : Value} (h : look e i = some u) (hv : u = v) (hs : Sub e' e) : Sub ((i, v) :: e') e := by
  subst hv
  refine ⟨?_, ?_⟩
  · simp only [dfs]
    cases hb : Nat.beq i 1000000 with
    | true =>
      have : i = 1000000 := by simpa using hb
      subst this
      rw [look_none] at h
      cases h
    | false => exact hs.1
  intro j w hj
  simp only [look] at hj
  cases hb : Nat.beq i j with
  | true =>
    rw [hb] at hj
    have : i = j := by simpa using hb
    subst this
    cases hc : Nat.beq i 1000000 with
    | true =>
      rw [hc] at hj
      cases hj
    | false =>
      rw [hc] at hj
      simp only [cond_true, cond_false] at hj
      rw [h, hj]
  | false =>
    rw [hb] at hj
    exact hs.2 j w hj
theorem look_app (e1 e2 : Env) (i : Nat) : look (e1 ++ e2) i = (look e1 i).or (look e2 i) := by
  induction e1 with
  | nil => simp [look]
  | cons p e1 ih =>
    obtain ⟨j, v⟩ := p
    simp only [List.cons_append, look]
    cases hb : Nat.beq j i with
    | true =>
      have h1 : j = i := by simpa using hb
      subst h1
      cases hc : Nat.beq j 1000000 with
      | true =>
        have h2 : j = 1000000 := by simpa using hc
        subst h2
        simp [look_none]
      | false => simp
    | false => simpa using ih
theorem Sub.app {e1 e2 e : Env} (h1 : Sub e1 e) (h2 : Sub e2 e) : Sub (e1 ++ e2) e := ⟨(dfs_app e1 e2).elim (fun h => h.trans h1.1) (fun h => h.trans h2.1), fun i v h => by
  rw [look_app] at h
  cases hl : look e1 i with
  | none => rw [hl] at h; exact h2.2 i v (by simpa using h)
  | some u => rw [hl] at h; simp only [Option.some_or] at h; exact h1.2 i v (by rw [hl, h])⟩
theorem Fits.sub {N : Nat} {e e' : Env} {a : Act} (h : Fits N e a) (hs : Sub e' e) : Fits N e' a := ⟨h.defers.trans hs.1.symm, h.small, h.size, fun i v hv => h.vals i v (hs.2 i v hv)⟩

abbrev Post := Exit → Env → World → Prop
def lift (N : Nat) (Q : Post) : Exit → Act → World → Prop
  | .panic _, _, _ => False
  | .outgrown, _, _ => False
  | e, a, w => ∃ env, Fits N env a ∧ Q e env w
def thenQ (K : Env → World → Prop) (Q : Post) : Post
  | .normal, e, w => K e w
  | x, e, w => Q x e w
def inB (id : Nat) (Q : Post) : Post
  | .exit i, e, w => if i = id then Q .normal e w else Q (.exit i) e w
  | x, e, w => Q x e w

section
variable {P : Program} {N : Nat} {Q : Post} {env : Env} {w : World}
def T (P : Program) (N : Nat) (c : Code) (Q : Post) (env : Env) (w : World) : Prop := ∀ a, Fits N env a → c.wp P (lift N Q) a w

theorem T_weak {c : Code} {env' : Env} (hs : Sub env' env) (h : T P N c Q env' w) : T P N c Q env w := fun a ha => h a (ha.sub hs)
theorem T_seq {x y : Code} (h : ∀ K : Env → World → Prop, (∀ e w, T P N y Q e w → K e w) → T P N x (thenQ K Q) env w) : T P N (.seq x y) Q env w := fun a ha =>
  wp_seq (Code.wp_mono (by
    intro e a w h
    cases e with
    | normal =>
      obtain ⟨e', h1, h2⟩ := h
      exact h2 a h1
    | panic c => exact h.elim
    | outgrown => exact h.elim
    | exit i => exact h
    | goto l => exact h
    | ret => exact h) (h (fun e w => T P N y Q e w) (fun _ _ h => h) a ha))
/-- A sequence with a relation in between. -/
theorem T_seqR {x y : Code} (R : Env → World → Prop) (h1 : T P N x (thenQ R Q) env w) (h2 : ∀ e w, R e w → T P N y Q e w) : T P N (.seq x y) Q env w :=
  T_seq fun K hK => fun a ha => Code.wp_mono (by
    intro e a w h
    cases e with
    | normal =>
      obtain ⟨e', h3, h4⟩ := h
      exact ⟨e', h3, hK _ _ (h2 _ _ h4)⟩
    | panic c => exact h.elim
    | outgrown => exact h.elim
    | exit i => exact h
    | goto l => exact h
    | ret => exact h) (h1 a ha)
/-- What behind the end is asked may be less. -/
theorem T_mono {c : Code} {R R' : Env → World → Prop} (hr : ∀ e w, R e w → R' e w) (h : T P N c (thenQ R Q) env w) : T P N c (thenQ R' Q) env w := fun a ha => Code.wp_mono (by
    intro e a w h
    cases e with
    | normal =>
      obtain ⟨e', h3, h4⟩ := h
      exact ⟨e', h3, hr _ _ h4⟩
    | panic c => exact h.elim
    | outgrown => exact h.elim
    | exit i => exact h
    | goto l => exact h
    | ret => exact h) (h a ha)
theorem T_skip (h : Q .normal env w) : T P N .skip Q env w := fun a ha => wp_skip ⟨env, ha, h⟩
theorem T_ret (h : Q .ret env w) : T P N .ret Q env w := fun a ha => wp_ret ⟨env, ha, h⟩
theorem T_exit {id : Nat} (h : Q (.exit id) env w) : T P N (.exit id) Q env w := fun a ha => wp_exit ⟨env, ha, h⟩
theorem T_block {id : Nat} {c : Code} (h : T P N c (inB id Q) env w) : T P N (.block id c) Q env w := fun a ha =>
  wp_block (Code.wp_mono (by
    intro e a w h
    cases e with
    | normal => exact h
    | panic c => exact h.elim
    | outgrown => exact h.elim
    | exit i =>
      obtain ⟨e', h3, h4⟩ := h
      simp only [inB] at h4
      simp only [Exit.inBlock]
      split
      · rename_i hi
        rw [if_pos hi] at h4
        exact ⟨e', h3, h4⟩
      · rename_i hi
        rw [if_neg hi] at h4
        exact ⟨e', h3, h4⟩
    | goto l => exact h
    | ret => exact h) (h a ha))
/-- A block with a relation behind it. -/
theorem T_blockR {id : Nat} {c : Code} (R : Env → World → Prop) (h1 : ∀ Q' : Post, (∀ e w, R e w → Q' .normal e w) → (∀ x e w, x ≠ .normal → Q x e w → Q' x e w) → T P N c (inB id Q') env w) (h2 : ∀ e w, R e w → Q .normal e w) : T P N (.block id c) Q env w :=
  T_block (h1 Q h2 (fun _ _ _ _ h => h))
theorem T_cond {c : Operand} {x y : Code} {p : Prop} {inst : Decidable p} (hc : ev env c = some (.bool (@decide p inst))) (ht : p → T P N x Q env w) (hf : ¬p → T P N y Q env w) : T P N (.cond c x y) Q env w := fun a ha => by
  refine wp_cond_split (ha.eval hc) (fun h => ht (of_decide_eq_true h) a ha) (fun h => hf (of_decide_eq_false h) a ha)
theorem T_condB {c : Operand} {x y : Code} {b : Bool} (hc : ev env c = some (.bool b)) (ht : b = true → T P N x Q env w) (hf : b = false → T P N y Q env w) : T P N (.cond c x y) Q env w := fun a ha => by
  refine wp_cond_split (ha.eval hc) (fun h => ht h a ha) (fun h => hf h a ha)
theorem T_true {c : Operand} {x y : Code} (hc : ev env c = some (.bool true)) (ht : T P N x Q env w) : T P N (.cond c x y) Q env w := fun a ha => wp_cond_true (ha.eval hc) (ht a ha)
theorem T_false {c : Operand} {x y : Code} (hc : ev env c = some (.bool false)) (ht : T P N y Q env w) : T P N (.cond c x y) Q env w := fun a ha => wp_cond_false (ha.eval hc) (ht a ha)

/-- A loop: the relation bears a number that every round lowers. -/
theorem T_loop {c : Code} (R : Nat → Env → World → Prop) (m : Nat) (h0 : R m env w)
    (round : ∀ m e w, R m e w → T P N c (thenQ (fun e' w' => ∃ m', m' < m ∧ R m' e' w') Q) e w) : T P N (.loop c) Q env w := by
  intro a0 ha0 b k cs
  have key : ∀ n a w, (∃ e, Fits N e a ∧ R n e w) →
      ∃ e a' w', lift N Q e a' w' ∧ Arrives P (lone (b.at a (.code c :: .inLoop c :: k)) cs w) b k cs e a' w' := by
    intro n
    induction n using Nat.strongRecOn with
    | _ n ih =>
      intro a w ⟨e0, he0, hR⟩
      obtain ⟨e, a₁, w₁, hq, harr⟩ := round n e0 w hR a he0 b (.inLoop c :: k) cs
      cases e with
      | normal =>
        obtain ⟨e1, hf1, m', hlt, hR1⟩ := hq
        obtain ⟨e₂, a₂, w₂, hq₂, harr₂⟩ := ih m' hlt a₁ w₁ ⟨e1, hf1, hR1⟩
        exact ⟨e₂, a₂, w₂, hq₂, .of_steps (Steps.trans harr (.one step_inLoop)) harr₂⟩
      | exit id => exact ⟨.exit id, a₁, w₁, hq, .pass (x := .inLoop c) rfl (fun _ _ => .inl (by simp)) harr⟩
      | goto l => exact ⟨.goto l, a₁, w₁, hq, .pass (x := .inLoop c) rfl (fun _ _ => .inl (by simp)) harr⟩
      | ret => exact ⟨.ret, a₁, w₁, hq, .pass (x := .inLoop c) rfl (fun _ _ => .inl (by simp)) harr⟩
      | panic ch => exact hq.elim
      | outgrown => exact hq.elim
  obtain ⟨e, a', w', hq, harr⟩ := key m a0 w ⟨env, ha0, h0⟩
  exact ⟨e, a', w', hq, .of_steps (.one step_loop) harr⟩

/-! ### operations in the text's order -/
def L (P : Program) (N : Nat) (ops : Array Oper) (Q : Post) (rest : List Oper) (env : Env) (w : World) : Prop := ∀ a, Fits N env a → wpList P ops (lift N Q) rest a w
theorem T_region {id : Nat} {l : List Oper} (h : L P N l.toArray Q l env w) : T P N (.region id l.toArray false) Q env w := fun a ha => wp_region_lit (h a ha)
theorem L_nil {ops : Array Oper} (h : Q .normal env w) : L P N ops Q [] env w := fun a ha => ⟨env, ha, h⟩

/-- One operation: what it leads to. -/
def O (P : Program) (N : Nat) (Q : Post) (o : Oper) (env : Env) (w : World) (K : Env → World → Prop) : Prop :=
  ∀ a, Fits N env a → o.wp P a w (fun a' w' => ∃ e', Fits N e' a' ∧ K e' w') (lift N Q)
theorem L_o {ops : Array Oper} {rest : List Oper} {d : Option Tmp} {op : Op} {ty : TypeId} {pos : String} {after : Array Edge}
    (h : O P N Q ⟨d, op, ty, pos, after, none⟩ env w (L P N ops Q rest)) : L P N ops Q (⟨d, op, ty, pos, after, none⟩ :: rest) env w := fun a ha =>
  wpList_plain rfl fun K hK => Oper.wp_mono (fun a w ⟨e', h1, h2⟩ => hK _ _ (h2 a h1)) (h a ha)

/-- All worlds that are as w is in w's own blocks. -/
def Like (w w' : World) : Prop := Below w.heap.size w w'
theorem Like.refl (w : World) : Like w w := Below.refl _ _
theorem Like.drew (w : World) : Like w w.drew := (Below.refl _ _).drew
theorem Like.trans {a b c : World} (h : Like a b) (k : Like b c) : Like a c := Below.trans h (Below.mono k h.size)
theorem Like.cell {w w' : World} (h : Like w w') {p : Addr} {v : Value} (hc : w.cell? p = some v) : w'.cell? p = some v :=
  (Below.cell h (World.block_lt_of_cell? w p hc)).trans hc

/-- The operation yields v in every world of S and leaves it as it is. -/
def Y (P : Program) (S : World → Prop) (env : Env) (o : Oper) (v : Value) : Prop := ∀ N a w, Fits N env a → S w → (execOp a.eval o).run P w = .ok (.value v) w
theorem o_y {d : Tmp} {op : Op} {ty : TypeId} {pos : String} {after : Array Edge} {g : Option (Nat × Bool)} {v : Value} {S : World → Prop} {K : Env → World → Prop}
    (hy : Y P S env ⟨some d, op, ty, pos, after, g⟩ v) (hS : S w) (hd : Nat.blt d N = true) (h : K ((d, v) :: env) w) : O P N Q ⟨some d, op, ty, pos, after, g⟩ env w K := fun a ha => by
  unfold Oper.wp
  rw [hy N a w ha hS]
  exact ⟨_, ha.put d v hd, h⟩
theorem L_y {ops : Array Oper} {rest : List Oper} {d : Tmp} {op : Op} {ty : TypeId} {pos : String} {after : Array Edge} {v : Value}
    (hy : Y P (Like w) env ⟨some d, op, ty, pos, after, none⟩ v) (hd : Nat.blt d N = true) (h : L P N ops Q rest ((d, v) :: env) w) : L P N ops Q (⟨some d, op, ty, pos, after, none⟩ :: rest) env w :=
  L_o (o_y hy (Like.refl w) hd h)
/-- The same where the operation has no slot of its own to write (nilCheck). -/
theorem L_y0 {ops : Array Oper} {rest : List Oper} {op : Op} {ty : TypeId} {pos : String} {after : Array Edge} {v : Value}
    (hy : Y P (Like w) env ⟨none, op, ty, pos, after, none⟩ v) (h : L P N ops Q rest env w) : L P N ops Q (⟨none, op, ty, pos, after, none⟩ :: rest) env w :=
  L_o fun a ha => by
    unfold Oper.wp
    rw [hy N a w ha (Like.refl w)]
    exact ⟨_, ha, h⟩
/-! guards -/
theorem L_gyes {ops : Array Oper} {rest : List Oper} {d : Tmp} {op : Op} {ty : TypeId} {pos : String} {after : Array Edge} {j : Nat} {b : Bool} {t : Tmp}
    (hj : (ops[j]?).bind (·.dst) = some t) (ht : look env t = some (.bool b)) (h : L P N ops Q (⟨d, op, ty, pos, after, none⟩ :: rest) env w) : L P N ops Q (⟨d, op, ty, pos, after, some (j, b)⟩ :: rest) env w := fun a ha => by
  have h1 := h a ha
  have hw : yielded ops a.tmps j = some b := by
    simp [yielded, hj, ha.vals t _ ht]
  unfold wpList at h1 ⊢
  simp only [Region.wanted, hw, if_true, beq_self_eq_true] at h1 ⊢
  exact h1
theorem L_gno {ops : Array Oper} {rest : List Oper} {d : Tmp} {op : Op} {ty : TypeId} {pos : String} {after : Array Edge} {j : Nat} {b : Bool} {t : Tmp}
    (hj : (ops[j]?).bind (·.dst) = some t) (ht : look env t = some (.bool (!b))) (hd : Nat.blt d N = true) (h : L P N ops Q rest ((d, undef) :: env) w) : L P N ops Q (⟨some d, op, ty, pos, after, some (j, b)⟩ :: rest) env w := fun a ha => by
  have h1 := h _ (ha.put d undef hd)
  have hw : yielded ops a.tmps j = some (!b) := by
    simp [yielded, hj, ha.vals t _ ht]
  unfold wpList
  have hne : (some (!b) == some b) = false := by cases b <;> rfl
  simp only [Region.wanted, hw, hne, Bool.false_eq_true, if_false]
  exact h1
/-- A test known by a proposition: two ways. -/
theorem L_split {ops : Array Oper} {rest : List Oper} (t : Tmp) {p : Prop} {inst : Decidable p} (ht : look env t = some (.bool (@decide p inst)))
    (h1 : p → L P N ops Q rest ((t, .bool true) :: env) w) (h2 : ¬p → L P N ops Q rest ((t, .bool false) :: env) w) : L P N ops Q rest env w := fun a ha => by
  by_cases hp : p
  · exact h1 hp a (ha.sub (Sub.cons ht (by rw [decide_eq_true hp]) (Sub.refl _)))
  · exact h2 hp a (ha.sub (Sub.cons ht (by rw [decide_eq_false hp]) (Sub.refl _)))
theorem L_splitB {ops : Array Oper} {rest : List Oper} (t : Tmp) {b : Bool} (ht : look env t = some (.bool b))
    (h1 : b = true → L P N ops Q rest ((t, .bool true) :: env) w) (h2 : b = false → L P N ops Q rest ((t, .bool false) :: env) w) : L P N ops Q rest env w := fun a ha => by
  cases b with
  | true => exact h1 rfl a (ha.sub (Sub.cons ht rfl (Sub.refl _)))
  | false => exact h2 rfl a (ha.sub (Sub.cons ht rfl (Sub.refl _)))
theorem L_weak {ops : Array Oper} {rest : List Oper} {env' : Env} (hs : Sub env' env) (h : L P N ops Q rest env' w) : L P N ops Q rest env w := fun a ha => h a (ha.sub hs)

/-! ### the function's frame -/
def bodyQ (P : Program) (fn : Func) (R : Ending → World → Prop) : Post
  | .ret, env, w | .normal, env, w => dfs env = [] ∧ ∃ v, (∀ N a, Fits N env a → (results fn a.tmps).run P w = .ok v w) ∧ R (.returned v) w
  | _, _, _ => False
theorem enter {f : FuncId} {fn : Func} {c : Code} {args : List Value} {R : Ending → World → Prop} (hf : P.funcs[f]? = some fn) (hb : fn.body = some c) (hn : fn.ntmps = N)
    (hN : Nat.ble args.length N = true) (henv : ∀ i v, look env i = some v → args[i]? = some v) (h : T P N c (bodyQ P fn R) env w) (hd0 : dfs env = [] := by rfl) (hsm : Nat.ble N 1000000 = true := by rfl) : Calls P f args.toArray w R := by
  refine calls_of_wp hf hb ?_
  have hsm' : N ≤ 1000000 := by simpa using hsm
  have hN' : args.length ≤ N := by simpa using hN
  have hfit : Fits N env { tmps := args.toArray ++ Array.replicate (fn.ntmps - args.toArray.size) undef, defers := [] } := by
    refine ⟨hd0.symm, hsm', by simp [hn]; omega, fun i v hv => ?_⟩
    have h1 := henv i v hv
    have h2 := (List.getElem?_eq_some_iff.1 h1).1
    rw [Array.getElem?_append_left (by simpa using h2)]
    simpa using h1
  refine Code.wp_mono (fun e a w hq => ?_) (h _ hfit)
  cases e with
  | normal =>
    obtain ⟨e', h1, h0, v, h2, h3⟩ := hq
    exact ⟨h1.defers.trans h0, v, h2 N a h1, h3⟩
  | ret =>
    obtain ⟨e', h1, h0, v, h2, h3⟩ := hq
    exact ⟨h1.defers.trans h0, v, h2 N a h1, h3⟩
  | panic c => exact hq.elim
  | outgrown => exact hq.elim
  | exit i => obtain ⟨_, _, h⟩ := hq; exact h.elim
  | goto i => obtain ⟨_, _, h⟩ := hq; exact h.elim
/-- The parameters in their slots. -/
def envOf : List Value → Nat → Env
  | [], _ => []
  | v :: vs, k => (k, v) :: envOf vs (k + 1)
theorem look_envOf : ∀ (vs : List Value) (k i : Nat) (v : Value), look (envOf vs k) i = some v → k ≤ i ∧ vs[i - k]? = some v
  | [], _, _, _, h => by cases h
  | u :: vs, k, i, v, h => by
    simp only [envOf, look] at h
    cases hb : Nat.beq k i with
    | true =>
      rw [hb] at h
      have : k = i := by simpa using hb
      subst this
      cases hc : Nat.beq k 1000000 with
      | true =>
        rw [hc] at h
        cases h
      | false =>
        rw [hc] at h
        simp only [cond_true, cond_false] at h
        simp [h]
    | false =>
      rw [hb] at h
      have hne : k ≠ i := fun hki => by
        subst hki
        have h1 : Nat.beq k k = true := by simp
        rw [h1] at hb
        cases hb
      obtain ⟨h1, h2⟩ := look_envOf vs (k + 1) i v h
      refine ⟨by omega, ?_⟩
      rw [show i - k = (i - (k + 1)) + 1 by omega]
      simpa using h2
theorem enter1 {f : FuncId} {fn : Func} {c : Code} (args : List Value) {R : Ending → World → Prop} (hf : P.funcs[f]? = some fn) (hb : fn.body = some c) (hn : fn.ntmps = N)
    (hN : Nat.ble args.length N = true) (he : envOf args 0 = env) (h : T P N c (bodyQ P fn R) env w) (hd0 : dfs env = [] := by rfl) (hsm : Nat.ble N 1000000 = true := by rfl) : Calls P f args.toArray w R :=
  enter hf hb hn hN (by subst he; intro i v hv; simpa using (look_envOf _ _ _ _ hv).2) h hd0 hsm
theorem up_then {K : Env → World → Prop} {Q : Post} (h : Q .ret env w) : thenQ K Q .ret env w := h
theorem up_in {id : Nat} {Q : Post} (h : Q .ret env w) : inB id Q .ret env w := h
theorem Fits.getD {N : Nat} {e : Env} {a : Act} (h : Fits N e a) {t : Nat} {v : Value} (ht : look e t = some v) : a.tmps.getD t undef = v := by
  simp [h.vals t v ht]
theorem ret0 {fn : Func} {R : Ending → World → Prop} (hr : fn.results = #[]) (h : R (.returned (.tuple #[])) w) (hd0 : dfs env = [] := by rfl) : bodyQ P fn R .ret env w :=
  ⟨hd0, _, fun N a ha => results_none hr _ _ _, h⟩
theorem end0 {fn : Func} {R : Ending → World → Prop} (hr : fn.results = #[]) (h : R (.returned (.tuple #[])) w) (hd0 : dfs env = [] := by rfl) : bodyQ P fn R .normal env w :=
  ⟨hd0, _, fun N a ha => results_none hr _ _ _, h⟩
theorem ret1 {fn : Func} {R : Ending → World → Prop} {t : Tmp} {v : Value} (hr : fn.results = #[.tmp t]) (ht : look env t = some v) (h : R (.returned v) w) (hd0 : dfs env = [] := by rfl) : bodyQ P fn R .ret env w :=
  ⟨hd0, _, fun N a ha => by rw [results_tmp hr, ha.getD ht], h⟩
theorem ret2 {fn : Func} {R : Ending → World → Prop} {t u : Tmp} {v x : Value} (hr : fn.results = #[.tmp t, .tmp u]) (ht : look env t = some v) (hu : look env u = some x) (h : R (.returned (.tuple #[v, x])) w) (hd0 : dfs env = [] := by rfl) : bodyQ P fn R .ret env w :=
  ⟨hd0, _, fun N a ha => by rw [results_tmp2 hr, ha.getD ht, ha.getD hu], h⟩
theorem ret3 {fn : Func} {R : Ending → World → Prop} {t u s : Tmp} {v x y : Value} (hr : fn.results = #[.tmp t, .tmp u, .tmp s]) (ht : look env t = some v) (hu : look env u = some x) (hs : look env s = some y) (h : R (.returned (.tuple #[v, x, y])) w) (hd0 : dfs env = [] := by rfl) : bodyQ P fn R .ret env w :=
  ⟨hd0, _, fun N a ha => by simp [results, hr, ha.vals t _ ht, ha.vals u _ hu, ha.vals s _ hs], h⟩
end
end Go.Proofs.Ytmgimcdkeelnpaa.Zx
