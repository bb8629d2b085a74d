/-
  Regions that draw their order. General; nothing here names a program.
-/
import Derived.Test.YtmgimcdkeelnpaaZo
namespace Go.Proofs.Ytmgimcdkeelnpaa.Zx
open Go.RowKit Zk
set_option linter.unusedVariables false
set_option linter.unusedSimpArgs false

/-- An order in which a region may be walked: (number, quiet?). A quiet operation may come up and nobody who may come before it touches its slots; another one is the only one that may come up. -/
def ordB (ops : Array Oper) : Nat → Array Bool → List (Nat × Bool) → Bool
  | _, listed, [] => (Region.ready .any ops listed).isEmpty
  | 0, _, _ :: _ => false
  | f + 1, listed, (i, true) :: r => (Region.ready .any ops listed).contains i && Region.free .any ops listed i && ordB ops f (listed.setIfInBounds i true) r
  | f + 1, listed, (i, false) :: r => (match Region.ready .any ops listed with | [j] => Nat.beq j i | _ => false) && ordB ops f (listed.setIfInBounds i true) r

section
variable {P : Program} {N : Nat} {Q : Post} {env : Env} {w : World} {S : World → Prop} {ops : Array Oper}
def DL (P : Program) (N : Nat) (ops : Array Oper) (Q : Post) (S : World → Prop) (order : List (Nat × Bool)) (env : Env) (w : World) : Prop :=
  Region.noSelect ops = true → S w → ∀ a, Fits N env a → ∀ fuel listed, ordB ops fuel listed order = true → wpAnyH P .any ops (lift N Q) S fuel listed a w
theorem T_drawn {id : Nat} {l : List Oper} (S : World → Prop) (order : List (Nat × Bool)) (hm : P.follows .mixedOrders = true) (hB : (Region.noSelect l.toArray && ordB l.toArray l.toArray.size (Array.replicate l.toArray.size false) order) = true)
    (hS : ∀ w1, Like w w1 → S w1) (h : ∀ w1, Like w w1 → DL P N l.toArray Q S order env w1) : T P N (.region id l.toArray true) Q env w := fun a ha => by
  simp only [Bool.and_eq_true] at hB
  exact wp_region_held hm (h _ (Like.drew w) hB.1 (hS _ (Like.drew w)) a ha _ _ hB.2)
/-- All worlds like the one behind the draw. -/
theorem T_drawnL {id : Nat} {l : List Oper} (order : List (Nat × Bool)) (hm : P.follows .mixedOrders = true) (hB : (Region.noSelect l.toArray && ordB l.toArray l.toArray.size (Array.replicate l.toArray.size false) order) = true)
    (h : ∀ w1, Like w w1 → DL P N l.toArray Q (Like w1) order env w1) : T P N (.region id l.toArray true) Q env w := fun a ha => by
  simp only [Bool.and_eq_true] at hB
  exact wp_region_held hm (h _ (Like.drew w) hB.1 (Like.refl _) a ha _ _ hB.2)
theorem DL_nil (h : Q .normal env w) : DL P N ops Q S [] env w := fun _ _ a ha fuel listed hB => by
  have hr : Region.ready .any ops listed = [] := by
    cases fuel <;> simpa [ordB] using hB
  exact wpAnyH_done hr ⟨env, ha, h⟩ fuel
theorem DL_yi {i : Nat} {o : Oper} {d : Tmp} {v : Value} {order : List (Nat × Bool)} (hi : ops[i]? = some o) (hdst : o.dst = some d) (hy : ∀ a, Fits N env a → YieldsIf P ops S o v a) (hd : Nat.blt d N = true)
    (h : DL P N ops Q S order ((d, v) :: env) w) : DL P N ops Q S ((i, true) :: order) env w := fun hs hS a ha fuel listed hB => by
  cases fuel with
  | zero => simp [ordB] at hB
  | succ fuel =>
    simp only [ordB, Bool.and_eq_true] at hB
    refine wpAnyH_take hi hs hB.1.2 hB.1.1 (fun c a w hq => hq.elim) (hy a ha) hS ?_
    rw [hdst]
    exact h hs hS _ (ha.put d v hd) fuel _ hB.2
theorem DL_y {i : Nat} {d : Tmp} {op : Op} {ty : TypeId} {pos : String} {after : Array Edge} {v : Value} {order : List (Nat × Bool)} (hi : ops[i]? = some ⟨some d, op, ty, pos, after, none⟩)
    (hy : Y P S env ⟨some d, op, ty, pos, after, none⟩ v) (hd : Nat.blt d N = true) (h : DL P N ops Q S order ((d, v) :: env) w) : DL P N ops Q S ((i, true) :: order) env w :=
  DL_yi hi rfl (fun a ha => .inl ⟨by simp [Region.wanted], fun w hw => hy N a w ha hw⟩) hd h
theorem DL_gyes {i : Nat} {d : Tmp} {op : Op} {ty : TypeId} {pos : String} {after : Array Edge} {v : Value} {order : List (Nat × Bool)} {j : Nat} {b : Bool} {t : Tmp} (hi : ops[i]? = some ⟨some d, op, ty, pos, after, some (j, b)⟩)
    (hj : (ops[j]?).bind (·.dst) = some t) (ht : look env t = some (.bool b))
    (hy : Y P S env ⟨some d, op, ty, pos, after, some (j, b)⟩ v) (hd : Nat.blt d N = true) (h : DL P N ops Q S order ((d, v) :: env) w) : DL P N ops Q S ((i, true) :: order) env w :=
  DL_yi hi rfl (fun a ha => .inl ⟨by simp [Region.wanted, yielded, hj, ha.vals t _ ht], fun w hw => hy N a w ha hw⟩) hd h
theorem DL_gno {i : Nat} {d : Tmp} {op : Op} {ty : TypeId} {pos : String} {after : Array Edge} {order : List (Nat × Bool)} {j : Nat} {b : Bool} {t : Tmp} (hi : ops[i]? = some ⟨some d, op, ty, pos, after, some (j, b)⟩)
    (hj : (ops[j]?).bind (·.dst) = some t) (ht : look env t = some (.bool (!b))) (hd : Nat.blt d N = true) (h : DL P N ops Q S order ((d, undef) :: env) w) : DL P N ops Q S ((i, true) :: order) env w :=
  DL_yi hi rfl (fun a ha => .inr ⟨by
    have : (some (!b) == some b) = false := by cases b <;> rfl
    simp [Region.wanted, yielded, hj, ha.vals t _ ht], rfl⟩) hd h
theorem DL_o {i : Nat} {d : Option Tmp} {op : Op} {ty : TypeId} {pos : String} {after : Array Edge} {order : List (Nat × Bool)} (hi : ops[i]? = some ⟨d, op, ty, pos, after, none⟩)
    (h : O P N Q ⟨d, op, ty, pos, after, none⟩ env w (fun e' w' => S w' ∧ DL P N ops Q S order e' w')) : DL P N ops Q S ((i, false) :: order) env w := fun hs hS a ha fuel listed hB => by
  cases fuel with
  | zero => simp [ordB] at hB
  | succ fuel =>
    simp only [ordB, Bool.and_eq_true] at hB
    obtain ⟨h1, h2⟩ := hB
    have hr : Region.ready .any ops listed = [i] := by
      split at h1
      · rename_i j hj
        have : j = i := by simpa using h1
        rw [hj, this]
      · cases h1
    refine wpAnyH_all hr (by simp) fun j hj => ?_
    obtain rfl := List.mem_singleton.1 hj
    unfold wpOp
    simp only [hi, Region.wanted, if_true]
    exact .inl (Oper.wp_mono (fun a' w' ⟨e', h3, h4, h5⟩ => ⟨h4, h5 hs h4 a' h3 fuel _ h2⟩) (h a ha))
theorem DL_ogyes {i : Nat} {d : Option Tmp} {op : Op} {ty : TypeId} {pos : String} {after : Array Edge} {order : List (Nat × Bool)} {j : Nat} {b : Bool} {t : Tmp} (hi : ops[i]? = some ⟨d, op, ty, pos, after, some (j, b)⟩)
    (hj : (ops[j]?).bind (·.dst) = some t) (ht : look env t = some (.bool b))
    (h : O P N Q ⟨d, op, ty, pos, after, some (j, b)⟩ env w (fun e' w' => S w' ∧ DL P N ops Q S order e' w')) : DL P N ops Q S ((i, false) :: order) env w := fun hs hS a ha fuel listed hB => by
  cases fuel with
  | zero => simp [ordB] at hB
  | succ fuel =>
    simp only [ordB, Bool.and_eq_true] at hB
    obtain ⟨h1, h2⟩ := hB
    have hr : Region.ready .any ops listed = [i] := by
      split at h1
      · rename_i j hj
        have : j = i := by simpa using h1
        rw [hj, this]
      · cases h1
    have hy : yielded ops a.tmps j = some b := by simp [yielded, hj, ha.vals t _ ht]
    refine wpAnyH_all hr (by simp) fun j hj => ?_
    obtain rfl := List.mem_singleton.1 hj
    unfold wpOp
    simp only [hi, Region.wanted, hy, beq_self_eq_true, if_true]
    exact .inl (Oper.wp_mono (fun a' w' ⟨e', h3, h4, h5⟩ => ⟨h4, h5 hs h4 a' h3 fuel _ h2⟩) (h a ha))
/-- A guarded operation that does not come, where it is the only one that may come up. -/
theorem DL_ogno {i : Nat} {d : Tmp} {op : Op} {ty : TypeId} {pos : String} {after : Array Edge} {order : List (Nat × Bool)} {j : Nat} {b : Bool} {t : Tmp} (hi : ops[i]? = some ⟨some d, op, ty, pos, after, some (j, b)⟩)
    (hj : (ops[j]?).bind (·.dst) = some t) (ht : look env t = some (.bool (!b))) (hd : Nat.blt d N = true) (h : DL P N ops Q S order ((d, undef) :: env) w) : DL P N ops Q S ((i, false) :: order) env w := fun hs hS a ha fuel listed hB => by
  cases fuel with
  | zero => simp [ordB] at hB
  | succ fuel =>
    simp only [ordB, Bool.and_eq_true] at hB
    obtain ⟨h1, h2⟩ := hB
    have hr : Region.ready .any ops listed = [i] := by
      split at h1
      · rename_i j hj
        have : j = i := by simpa using h1
        rw [hj, this]
      · cases h1
    have hy : yielded ops a.tmps j = some (!b) := by simp [yielded, hj, ha.vals t _ ht]
    have hne : (some (!b) == some b) = false := by cases b <;> rfl
    refine wpAnyH_all hr (by simp) fun j hj => ?_
    obtain rfl := List.mem_singleton.1 hj
    unfold wpOp
    simp only [hi, Region.wanted, hy, hne, Bool.false_eq_true, if_false]
    exact ⟨hS, h hs hS _ (ha.put d undef hd) fuel _ h2⟩
theorem DL_split {order : List (Nat × Bool)} (t : Tmp) {p : Prop} {inst : Decidable p} (ht : look env t = some (.bool (@decide p inst)))
    (h1 : p → DL P N ops Q S order ((t, .bool true) :: env) w) (h2 : ¬p → DL P N ops Q S order ((t, .bool false) :: env) w) : DL P N ops Q S order env w := fun hs hS a ha => by
  by_cases hp : p
  · exact h1 hp hs hS a (ha.sub (Sub.cons ht (by rw [decide_eq_true hp]) (Sub.refl _)))
  · exact h2 hp hs hS a (ha.sub (Sub.cons ht (by rw [decide_eq_false hp]) (Sub.refl _)))
theorem DL_splitB {order : List (Nat × Bool)} (t : Tmp) {b : Bool} (ht : look env t = some (.bool b))
    (h1 : b = true → DL P N ops Q S order ((t, .bool true) :: env) w) (h2 : b = false → DL P N ops Q S order ((t, .bool false) :: env) w) : DL P N ops Q S order env w := fun hs hS a ha => by
  cases b with
  | true => exact h1 rfl hs hS a (ha.sub (Sub.cons ht rfl (Sub.refl _)))
  | false => exact h2 rfl hs hS a (ha.sub (Sub.cons ht rfl (Sub.refl _)))
theorem DL_weak {order : List (Nat × Bool)} {env' : Env} (hs : Sub env' env) (h : DL P N ops Q S order env' w) : DL P N ops Q S order env w := fun h1 h2 a ha => h h1 h2 a (ha.sub hs)

/-! ### quiet operations, then a tail in the text's order -/
def HL (P : Program) (N : Nat) (ops : Array Oper) (K : Env → Prop) (w : World) (rest : List Oper) (env : Env) : Prop := ∀ a, Fits N env a → wpStill P ops w (fun a' => ∃ e', Fits N e' a' ∧ K e') rest a
theorem T_tail {id : Nat} {l : List Oper} (n : Nat) (hm : P.follows .mixedOrders = true) (hB : Region.lexTailB .any l.toArray n = true)
    (h : ∀ w1, Like w w1 → ∀ K : Env → Prop, (∀ e, L P N l.toArray Q (l.drop n) e w1 → K e) → HL P N l.toArray K w1 (l.take n) env) : T P N (.region id l.toArray true) Q env w := fun a ha => by
  refine wp_region_still_tail n hm hB ?_
  have mono : ∀ (rest : List Oper) (a : Act) (Q1 Q2 : Act → Prop), (∀ a, Q1 a → Q2 a) → wpStill P l.toArray w.drew Q1 rest a → wpStill P l.toArray w.drew Q2 rest a := by
    intro rest
    induction rest with
    | nil => intro a Q1 Q2 hq h; exact hq a h
    | cons o rest ih =>
      intro a Q1 Q2 hq h
      unfold wpStill at h ⊢
      split
      · rename_i hw
        rw [if_pos hw] at h
        exact Oper.still_mono (fun a h => ih a Q1 Q2 hq h) h
      · rename_i hw
        rw [if_neg hw] at h
        exact ih _ Q1 Q2 hq h
  exact mono _ _ _ _ (fun a' ⟨e', h1, h2⟩ => h2 a' h1) (h w.drew (Like.drew w) (fun e => L P N l.toArray Q (l.drop n) e w.drew) (fun _ h => h) a ha)
theorem HL_nil {K : Env → Prop} (h : K env) : HL P N ops K w [] env := fun a ha => ⟨env, ha, h⟩
theorem HL_y {K : Env → Prop} {rest : List Oper} {d : Tmp} {op : Op} {ty : TypeId} {pos : String} {after : Array Edge} {v : Value}
    (hy : Y P (Like w) env ⟨some d, op, ty, pos, after, none⟩ v) (hd : Nat.blt d N = true) (h : HL P N ops K w rest ((d, v) :: env)) : HL P N ops K w (⟨some d, op, ty, pos, after, none⟩ :: rest) env := fun a ha => by
  unfold wpStill
  rw [if_pos (by simp [Region.wanted])]
  unfold Oper.still
  rw [hy N a w ha (Like.refl w), Oper.stillUpon_value]
  exact h _ (ha.put d v hd)
theorem HL_gyes {K : Env → Prop} {rest : List Oper} {d : Option Tmp} {op : Op} {ty : TypeId} {pos : String} {after : Array Edge} {j : Nat} {b : Bool} {t : Tmp}
    (hj : (ops[j]?).bind (·.dst) = some t) (ht : look env t = some (.bool b)) (h : HL P N ops K w (⟨d, op, ty, pos, after, none⟩ :: rest) env) : HL P N ops K w (⟨d, op, ty, pos, after, some (j, b)⟩ :: rest) env := fun a ha => by
  have h1 := h a ha
  have hw : yielded ops a.tmps j = some b := by simp [yielded, hj, ha.vals t _ ht]
  unfold wpStill at h1 ⊢
  simp only [Region.wanted, hw, if_true, beq_self_eq_true] at h1 ⊢
  exact h1
theorem HL_gno {K : Env → Prop} {rest : List Oper} {d : Tmp} {op : Op} {ty : TypeId} {pos : String} {after : Array Edge} {j : Nat} {b : Bool} {t : Tmp}
    (hj : (ops[j]?).bind (·.dst) = some t) (ht : look env t = some (.bool (!b))) (hd : Nat.blt d N = true) (h : HL P N ops K w rest ((d, undef) :: env)) : HL P N ops K w (⟨some d, op, ty, pos, after, some (j, b)⟩ :: rest) env := fun a ha => by
  have h1 := h _ (ha.put d undef hd)
  have hw : yielded ops a.tmps j = some (!b) := by simp [yielded, hj, ha.vals t _ ht]
  have hne : (some (!b) == some b) = false := by cases b <;> rfl
  unfold wpStill
  simp only [Region.wanted, hw, hne, Bool.false_eq_true, if_false]
  exact h1
theorem HL_split {K : Env → Prop} {rest : List Oper} (t : Tmp) {p : Prop} {inst : Decidable p} (ht : look env t = some (.bool (@decide p inst)))
    (h1 : p → HL P N ops K w rest ((t, .bool true) :: env)) (h2 : ¬p → HL P N ops K w rest ((t, .bool false) :: env)) : HL P N ops K w rest env := fun a ha => by
  by_cases hp : p
  · exact h1 hp a (ha.sub (Sub.cons ht (by rw [decide_eq_true hp]) (Sub.refl _)))
  · exact h2 hp a (ha.sub (Sub.cons ht (by rw [decide_eq_false hp]) (Sub.refl _)))
theorem HL_splitB {K : Env → Prop} {rest : List Oper} (t : Tmp) {b : Bool} (ht : look env t = some (.bool b))
    (h1 : b = true → HL P N ops K w rest ((t, .bool true) :: env)) (h2 : b = false → HL P N ops K w rest ((t, .bool false) :: env)) : HL P N ops K w rest env := fun a ha => by
  cases b with
  | true => exact h1 rfl a (ha.sub (Sub.cons ht rfl (Sub.refl _)))
  | false => exact h2 rfl a (ha.sub (Sub.cons ht rfl (Sub.refl _)))
theorem L_yb {rest : List Oper} {d : Tmp} {op : Op} {ty : TypeId} {pos : String} {after : Array Edge} {l : List UInt8} {k : Nat}
    (hy : Y P (Like w) env ⟨some d, op, ty, pos, after, none⟩ (.int .u8 (g8 l k))) (hd : Nat.blt d N = true) (h : 0 ≤ g8 l k → g8 l k ≤ 255 → L P N ops Q rest ((d, .int .u8 (g8 l k)) :: env) w) : L P N ops Q (⟨some d, op, ty, pos, after, none⟩ :: rest) env w :=
  L_y hy hd (h (g8_lo l k) (g8_hi l k))
theorem HL_yb {K : Env → Prop} {rest : List Oper} {d : Tmp} {op : Op} {ty : TypeId} {pos : String} {after : Array Edge} {l : List UInt8} {k : Nat}
    (hy : Y P (Like w) env ⟨some d, op, ty, pos, after, none⟩ (.int .u8 (g8 l k))) (hd : Nat.blt d N = true) (h : 0 ≤ g8 l k → g8 l k ≤ 255 → HL P N ops K w rest ((d, .int .u8 (g8 l k)) :: env)) : HL P N ops K w (⟨some d, op, ty, pos, after, none⟩ :: rest) env :=
  HL_y hy hd (h (g8_lo l k) (g8_hi l k))
theorem DL_yb {i : Nat} {d : Tmp} {op : Op} {ty : TypeId} {pos : String} {after : Array Edge} {l : List UInt8} {k : Nat} {order : List (Nat × Bool)} (hi : ops[i]? = some ⟨some d, op, ty, pos, after, none⟩)
    (hy : Y P S env ⟨some d, op, ty, pos, after, none⟩ (.int .u8 (g8 l k))) (hd : Nat.blt d N = true) (h : 0 ≤ g8 l k → g8 l k ≤ 255 → DL P N ops Q S order ((d, .int .u8 (g8 l k)) :: env) w) : DL P N ops Q S ((i, true) :: order) env w :=
  DL_y hi hy hd (h (g8_lo l k) (g8_hi l k))
/-! ### loops by the number of letters -/
theorem T_loop1 {α : Type} {c : Code} (ks : Env) (V : α → Env) (μ : α → Nat) (Rel : α → World → Prop) (a0 : α) (hs : Sub (V a0) env) (hk : Sub ks env) (h0 : Rel a0 w)
    (round : ∀ a w, Rel a w → T P N c (thenQ (fun e' w' => ∃ a', μ a' < μ a ∧ Rel a' w' ∧ Sub (V a' ++ ks) e') Q) (V a ++ ks) w) : T P N (.loop c) Q env w :=
  T_loop (fun m e w => ∃ a, m = μ a ∧ Rel a w ∧ Sub (V a ++ ks) e) (μ a0) ⟨a0, rfl, h0, Sub.app hs hk⟩ fun m e w ⟨a, hm, hr, hsub⟩ => T_weak hsub (T_mono (fun e w ⟨a', h1, h2, h3⟩ => ⟨μ a', by omega, a', rfl, h2, h3⟩) (round a w hr))
theorem T_loop2 {α β : Type} {c : Code} (ks : Env) (V : α → β → Env) (μ : α → β → Nat) (Rel : α → β → World → Prop) (a0 : α) (b0 : β) (hs : Sub (V a0 b0) env) (hk : Sub ks env) (h0 : Rel a0 b0 w)
    (round : ∀ a b w, Rel a b w → T P N c (thenQ (fun e' w' => ∃ a' b', μ a' b' < μ a b ∧ Rel a' b' w' ∧ Sub (V a' b' ++ ks) e') Q) (V a b ++ ks) w) : T P N (.loop c) Q env w :=
  T_loop (fun m e w => ∃ a b, m = μ a b ∧ Rel a b w ∧ Sub (V a b ++ ks) e) (μ a0 b0) ⟨a0, b0, rfl, h0, Sub.app hs hk⟩ fun m e w ⟨a, b, hm, hr, hsub⟩ => T_weak hsub (T_mono (fun e w ⟨a', b', h1, h2, h3⟩ => ⟨μ a' b', by omega, a', b', rfl, h2, h3⟩) (round a b w hr))
theorem T_loop3 {α β γ : Type} {c : Code} (ks : Env) (V : α → β → γ → Env) (μ : α → β → γ → Nat) (Rel : α → β → γ → World → Prop) (a0 : α) (b0 : β) (c0 : γ) (hs : Sub (V a0 b0 c0) env) (hk : Sub ks env) (h0 : Rel a0 b0 c0 w)
    (round : ∀ a b d w, Rel a b d w → T P N c (thenQ (fun e' w' => ∃ a' b' d', μ a' b' d' < μ a b d ∧ Rel a' b' d' w' ∧ Sub (V a' b' d' ++ ks) e') Q) (V a b d ++ ks) w) : T P N (.loop c) Q env w :=
  T_loop (fun m e w => ∃ a b d, m = μ a b d ∧ Rel a b d w ∧ Sub (V a b d ++ ks) e) (μ a0 b0 c0) ⟨a0, b0, c0, rfl, h0, Sub.app hs hk⟩ fun m e w ⟨a, b, d, hm, hr, hsub⟩ => T_weak hsub (T_mono (fun e w ⟨a', b', d', h1, h2, h3⟩ => ⟨μ a' b' d', by omega, a', b', d', rfl, h2, h3⟩) (round a b d w hr))
theorem T_loop4 {α β γ δ : Type} {c : Code} (ks : Env) (V : α → β → γ → δ → Env) (μ : α → β → γ → δ → Nat) (Rel : α → β → γ → δ → World → Prop) (a0 : α) (b0 : β) (c0 : γ) (d0 : δ) (hs : Sub (V a0 b0 c0 d0) env) (hk : Sub ks env) (h0 : Rel a0 b0 c0 d0 w)
    (round : ∀ a b d f w, Rel a b d f w → T P N c (thenQ (fun e' w' => ∃ a' b' d' f', μ a' b' d' f' < μ a b d f ∧ Rel a' b' d' f' w' ∧ Sub (V a' b' d' f' ++ ks) e') Q) (V a b d f ++ ks) w) : T P N (.loop c) Q env w :=
  T_loop (fun m e w => ∃ a b d f, m = μ a b d f ∧ Rel a b d f w ∧ Sub (V a b d f ++ ks) e) (μ a0 b0 c0 d0) ⟨a0, b0, c0, d0, rfl, h0, Sub.app hs hk⟩ fun m e w ⟨a, b, d, f, hm, hr, hsub⟩ => T_weak hsub (T_mono (fun e w ⟨a', b', d', f', h1, h2, h3⟩ => ⟨μ a' b' d' f', by omega, a', b', d', f', rfl, h2, h3⟩) (round a b d f w hr))
theorem T_loop5 {α β γ δ ε : Type} {c : Code} (ks : Env) (V : α → β → γ → δ → ε → Env) (μ : α → β → γ → δ → ε → Nat) (Rel : α → β → γ → δ → ε → World → Prop) (a0 : α) (b0 : β) (c0 : γ) (d0 : δ) (f0 : ε) (hs : Sub (V a0 b0 c0 d0 f0) env) (hk : Sub ks env) (h0 : Rel a0 b0 c0 d0 f0 w)
    (round : ∀ a b d f g w, Rel a b d f g w → T P N c (thenQ (fun e' w' => ∃ a' b' d' f' g', μ a' b' d' f' g' < μ a b d f g ∧ Rel a' b' d' f' g' w' ∧ Sub (V a' b' d' f' g' ++ ks) e') Q) (V a b d f g ++ ks) w) : T P N (.loop c) Q env w :=
  T_loop (fun m e w => ∃ a b d f g, m = μ a b d f g ∧ Rel a b d f g w ∧ Sub (V a b d f g ++ ks) e) (μ a0 b0 c0 d0 f0) ⟨a0, b0, c0, d0, f0, rfl, h0, Sub.app hs hk⟩ fun m e w ⟨a, b, d, f, g, hm, hr, hsub⟩ => T_weak hsub (T_mono (fun e w ⟨a', b', d', f', g', h1, h2, h3⟩ => ⟨μ a' b' d' f' g', by omega, a', b', d', f', g', rfl, h2, h3⟩) (round a b d f g w hr))
theorem T_loop6 {α β γ δ ε ζ : Type} {c : Code} (ks : Env) (V : α → β → γ → δ → ε → ζ → Env) (μ : α → β → γ → δ → ε → ζ → Nat) (Rel : α → β → γ → δ → ε → ζ → World → Prop) (a0 : α) (b0 : β) (c0 : γ) (d0 : δ) (f0 : ε) (g0 : ζ) (hs : Sub (V a0 b0 c0 d0 f0 g0) env) (hk : Sub ks env) (h0 : Rel a0 b0 c0 d0 f0 g0 w)
    (round : ∀ a b d f g h w, Rel a b d f g h w → T P N c (thenQ (fun e' w' => ∃ a' b' d' f' g' h', μ a' b' d' f' g' h' < μ a b d f g h ∧ Rel a' b' d' f' g' h' w' ∧ Sub (V a' b' d' f' g' h' ++ ks) e') Q) (V a b d f g h ++ ks) w) : T P N (.loop c) Q env w :=
  T_loop (fun m e w => ∃ a b d f g h, m = μ a b d f g h ∧ Rel a b d f g h w ∧ Sub (V a b d f g h ++ ks) e) (μ a0 b0 c0 d0 f0 g0) ⟨a0, b0, c0, d0, f0, g0, rfl, h0, Sub.app hs hk⟩ fun m e w ⟨a, b, d, f, g, h, hm, hr, hsub⟩ => T_weak hsub (T_mono (fun e w ⟨a', b', d', f', g', h', h1, h2, h3⟩ => ⟨μ a' b' d' f' g' h', by omega, a', b', d', f', g', h', rfl, h2, h3⟩) (round a b d f g h w hr))
end
end Go.Proofs.Ytmgimcdkeelnpaa.Zx
