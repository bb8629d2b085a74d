/-
  Regions that draw their order and hold ONE operation that breaks what the reads stand on (an append, a store): the barrier. General; nothing here names a program.
-/
import Derived.Test.YtmgimcdkeelnpaaZd
namespace Go.Proofs.Ytmgimcdkeelnpaa.Zx
open Go.RowKit Zk
set_option linter.unusedVariables false
set_option linter.unusedSimpArgs false

/-- Whoever is listed has its forerunners listed. -/
structure Cl (ops : Array Oper) (listed : Array Bool) : Prop where
  size : listed.size = ops.size
  closed : ∀ j oj, ops[j]? = some oj → listed.getD j false = true → ∀ e ∈ oj.after, Region.binds .any e = true → listed.getD e.on false = true
theorem Cl.start (ops : Array Oper) : Cl ops (Array.replicate ops.size false) :=
  ⟨by simp, fun j oj _ hl => (by rw [getD_replicate_false] at hl; cases hl)⟩
theorem Cl.set {ops : Array Oper} {listed : Array Bool} {i : Nat} (inv : Cl ops listed) (hi : i ∈ Region.ready .any ops listed) : Cl ops (listed.setIfInBounds i true) := by
  obtain ⟨_, oi, hoi, hall⟩ := mem_ready.1 hi
  refine ⟨by simp [inv.size], fun j oj hj hl e he hb => ?_⟩
  by_cases hij : i = j
  · subst hij
    have : oj = oi := Option.some.inj (hj.symm.trans hoi)
    subst this
    exact getD_set_true (hall e he hb)
  · rw [getD_set_ne false hij] at hl
    exact getD_set_true (inv.closed j oj hj hl e he hb)
/-- Each of the list is waited for by one behind it in the list, or by the barrier. -/
def sinkL (ops : Array Oper) (c : Nat) : List Nat → Bool
  | [] => true
  | i :: r => (Region.waitsFor .any ops c i || r.any fun j => Region.waitsFor .any ops j i) && sinkL ops c r
theorem sink_not {ops : Array Oper} {c : Nat} {listed : Array Bool} (inv : Cl ops listed) : ∀ (B : List Nat), sinkL ops c B = true → ∀ i ∈ B, listed.getD i false = false → c ∉ Region.ready .any ops listed
  | [], _, i, hi, _ => by cases hi
  | b :: r, hs, i, hi, hun => by
    simp only [sinkL, Bool.and_eq_true, Bool.or_eq_true] at hs
    rcases List.mem_cons.1 hi with rfl | hi
    · rcases hs.1 with hw | hw
      · intro hc
        obtain ⟨_, oc, hoc, hall⟩ := mem_ready.1 hc
        obtain ⟨o', ho', e, he, hb, hon⟩ := Region.waitsFor_spec hw
        have : o' = oc := Option.some.inj (ho'.symm.trans hoc)
        subst this
        have h2 := hall e he hb
        rw [hon, hun] at h2
        cases h2
      · obtain ⟨j, hj, hw⟩ := List.any_eq_true.1 hw
        refine sink_not inv r hs.2 j hj ?_
        obtain ⟨oj, hoj, e, he, hb, hon⟩ := Region.waitsFor_spec hw
        cases hl : listed.getD j false with
        | false => rfl
        | true =>
          have h2 := inv.closed j oj hoj hl e he hb
          rw [hon, hun] at h2
          cases h2
    · exact sink_not inv r hs.2 i hi hun

section
variable {P : Program} {ops : Array Oper} {Q : Exit → Act → World → Prop} {S : World → Prop} {c : Nat}
/-- Whatever order is picked from here on; S holds behind every operation, till the barrier comes. -/
def wpAnyZ (P : Program) (ops : Array Oper) (Q : Exit → Act → World → Prop) (S : World → Prop) (c : Nat) : Nat → Array Bool → Act → World → Prop
  | 0, listed, a, w => Region.ready .any ops listed = [] ∧ Q .normal a w
  | fuel + 1, listed, a, w =>
    (Region.ready .any ops listed = [] → Q .normal a w) ∧
    ∀ i ∈ Region.ready .any ops listed, (i = c → wpOp P ops Q i (wpAny P .any ops Q fuel (listed.setIfInBounds i true)) a w) ∧ (i ≠ c → wpOp P ops Q i (fun a' w' => S w' ∧ wpAnyZ P ops Q S c fuel (listed.setIfInBounds i true) a' w') a w)
theorem wpAny_of_Z : ∀ (fuel : Nat) (listed : Array Bool) (a : Act) (w : World), wpAnyZ P ops Q S c fuel listed a w → wpAny P .any ops Q fuel listed a w
  | 0, _, _, _, h => h
  | fuel + 1, _, _, _, h => ⟨h.1, fun i hi => by
    by_cases hc : i = c
    · exact (h.2 i hi).1 hc
    · exact wpOp_mono (fun a' w' h' => wpAny_of_Z fuel _ a' w' h'.2) ((h.2 i hi).2 hc)⟩
theorem wpAnyZ_first {i : Nat} {oi : Oper} {v : Value} {B : List Nat} (hs : sinkL ops c B = true) (hiB : i ∈ B) (hic : i ≠ c) (hi : ops[i]? = some oi) (hsel : ∀ (j : Nat) (o : Oper) cs b, ops[j]? = some o → o.op ≠ .select cs b)
    (hQ : ∀ c a w, Q (.panic c) (a.put oi.dst v) w → Q (.panic c) a w) :
    ∀ (fuel : Nat) (listed : Array Bool) (a : Act) (w : World), Cl ops listed →
      (∀ j oj, ops[j]? = some oj → j ≠ i → listed.getD j true = false → (∀ e ∈ oj.after, Region.binds .any e = true → e.on ≠ i) → oi.apart ops oj = true) →
      i ∈ Region.ready .any ops listed → YieldsIf P ops S oi v a → S w →
      wpAnyZ P ops Q S c fuel (listed.setIfInBounds i true) (a.put oi.dst v) w → wpAnyZ P ops Q S c (fuel + 1) listed a w := by
  intro fuel
  induction fuel with
  | zero =>
    intro listed a w inv _ hr hy hS H
    refine ⟨fun h => (by rw [h] at hr; cases hr), fun j hj => ?_⟩
    have hun : listed.getD i false = false := getD_both (mem_ready.1 hr).1
    have hjc : j ≠ c := fun e => sink_not inv B hs i hiB hun (e ▸ hj)
    refine ⟨fun e => absurd e hjc, fun _ => ?_⟩
    by_cases hji : j = i
    · subst hji; exact hy.wpOp hi hS ⟨hS, H⟩
    · have := ready_mono hj hji
      rw [H.1] at this
      cases this
  | succ fuel ih =>
    intro listed a w inv hfree hr hy hS H
    refine ⟨fun h => (by rw [h] at hr; cases hr), fun j hj => ?_⟩
    have hun : listed.getD i false = false := getD_both (mem_ready.1 hr).1
    have hjc : j ≠ c := fun e => sink_not inv B hs i hiB hun (e ▸ hj)
    refine ⟨fun e => absurd e hjc, fun _ => ?_⟩
    by_cases hji : j = i
    · subst hji; exact hy.wpOp hi hS ⟨hS, H⟩
    · have h1 := (H.2 j (ready_mono hj hji)).2 hjc
      obtain ⟨hjun, oj, hoj, hall⟩ := mem_ready.1 hj
      have hnot : ∀ e ∈ oj.after, Region.binds .any e = true → e.on ≠ i := fun e he hb heq => by
        have h1 := hall e he hb
        rw [heq, hun] at h1
        cases h1
      have h2 := wpOp_putIf hoj (hfree j oj hoj hji hjun hnot) (fun cs b => hsel i oi cs b hi) (fun cs b => hsel j oj cs b hoj) hQ hy h1
      have hfree' : ∀ k ok, ops[k]? = some ok → k ≠ i → (listed.setIfInBounds j true).getD k true = false →
          (∀ e ∈ ok.after, Region.binds .any e = true → e.on ≠ i) → oi.apart ops ok = true := fun k ok hk hki hunk hno => by
        refine hfree k ok hk hki ?_ hno
        by_cases hjk : j = k
        · subst hjk; exact hjun
        · rw [getD_set_ne true hjk] at hunk; exact hunk
      refine wpOp_mono (fun a' w' h3 => ⟨h3.2.1, ih (listed.setIfInBounds j true) a' w' (inv.set hj) hfree' (ready_mono hr (Ne.symm hji)) h3.1 h3.2.1 ?_⟩) h2
      rw [Array.setIfInBounds_comm _ _ hji]
      exact h3.2.2
end

/-- An order: (number, kind). 0: yields in any world; 1: yields in every world of S, and comes ahead of the barrier; 2: the only one that may come up, keeps S; 3: the only one that may come up, the barrier or behind it. -/
def ordZ (ops : Array Oper) (B : List Nat) (c : Nat) : Nat → Array Bool → List (Nat × Nat) → Bool
  | _, listed, [] => (Region.ready .any ops listed).isEmpty
  | 0, _, _ :: _ => false
  | f + 1, listed, (i, 0) :: r => (Region.ready .any ops listed).contains i && Region.free .any ops listed i && ordZ ops B c f (listed.setIfInBounds i true) r
  | f + 1, listed, (i, 1) :: r => (Region.ready .any ops listed).contains i && Region.free .any ops listed i && B.contains i && !Nat.beq i c && ordZ ops B c f (listed.setIfInBounds i true) r
  | f + 1, listed, (i, 2) :: r => (match Region.ready .any ops listed with | [j] => Nat.beq j i | _ => false) && !Nat.beq i c && ordZ ops B c f (listed.setIfInBounds i true) r
  | f + 1, listed, (i, _) :: r => (match Region.ready .any ops listed with | [j] => Nat.beq j i | _ => false) && ordZ ops B c f (listed.setIfInBounds i true) r

section
variable {P : Program} {N : Nat} {Q : Post} {env : Env} {w : World} {S : World → Prop} {ops : Array Oper} {B : List Nat} {c : Nat}
/-- 0: any world. -/
def ZA (P : Program) (N : Nat) (ops : Array Oper) (B : List Nat) (c : Nat) (Q : Post) (order : List (Nat × Nat)) (env : Env) (w : World) : Prop :=
  Region.noSelect ops = true → sinkL ops c B = true → ∀ a, Fits N env a → ∀ fuel listed, Cl ops listed → ordZ ops B c fuel listed order = true → wpAny P .any ops (lift N Q) fuel listed a w
/-- 1, 2: ahead of the barrier. -/
def ZB (P : Program) (N : Nat) (ops : Array Oper) (B : List Nat) (c : Nat) (Q : Post) (S : World → Prop) (order : List (Nat × Nat)) (env : Env) (w : World) : Prop :=
  Region.noSelect ops = true → sinkL ops c B = true → S w → ∀ a, Fits N env a → ∀ fuel listed, Cl ops listed → ordZ ops B c fuel listed order = true → wpAnyZ P ops (lift N Q) S c fuel listed a w
theorem T_zed {id : Nat} {l : List Oper} (B : List Nat) (c : Nat) (order : List (Nat × Nat)) (hm : P.follows .mixedOrders = true)
    (hB : (Region.noSelect l.toArray && sinkL l.toArray c B && ordZ l.toArray B c l.toArray.size (Array.replicate l.toArray.size false) order) = true)
    (h : ∀ w1, Like w w1 → ZA P N l.toArray B c Q order env w1) : T P N (.region id l.toArray true) Q env w := fun a ha => by
  simp only [Bool.and_eq_true] at hB
  exact wp_region_any hm (h _ (Like.drew w) hB.1.1 hB.1.2 a ha _ _ (Cl.start _) hB.2)
theorem ready_one {listed : Array Bool} {i : Nat} (h1 : (match Region.ready .any ops listed with | [j] => Nat.beq j i | _ => false) = true) : Region.ready .any ops listed = [i] := by
  split at h1
  · rename_i j hj
    have : j = i := by simpa using h1
    rw [hj, this]
  · cases h1
theorem mem_of_contains {listed : Array Bool} {i : Nat} (h : (Region.ready .any ops listed).contains i = true) : i ∈ Region.ready .any ops listed := by simpa using h
theorem ZA_y {i : Nat} {d : Tmp} {op : Op} {ty : TypeId} {pos : String} {after : Array Edge} {v : Value} {order : List (Nat × Nat)} (hi : ops[i]? = some ⟨some d, op, ty, pos, after, none⟩)
    (hy : Y P (fun _ => True) env ⟨some d, op, ty, pos, after, none⟩ v) (hd : Nat.blt d N = true) (h : ZA P N ops B c Q order ((d, v) :: env) w) : ZA P N ops B c Q ((i, 0) :: order) env w := fun hs hk a ha fuel listed inv hB => by
  cases fuel with
  | zero => simp [ordZ] at hB
  | succ fuel =>
    simp only [ordZ, Bool.and_eq_true] at hB
    refine wpAny_take hi hs hB.1.2 hB.1.1 (fun c a w hq => hq.elim) (.inl ⟨by simp [Region.wanted], fun w => hy N a w ha trivial⟩) ?_
    exact h hs hk _ (ha.put d v hd) fuel _ (inv.set (mem_of_contains hB.1.1)) hB.2
theorem ZA_B {order : List (Nat × Nat)} (S : World → Prop) (hS : S w) (h : ZB P N ops B c Q S order env w) : ZA P N ops B c Q order env w := fun hs hk a ha fuel listed inv hB =>
  wpAny_of_Z _ _ _ _ (h hs hk hS a ha fuel listed inv hB)
theorem ZB_y {i : Nat} {d : Tmp} {op : Op} {ty : TypeId} {pos : String} {after : Array Edge} {v : Value} {order : List (Nat × Nat)} (hi : ops[i]? = some ⟨some d, op, ty, pos, after, none⟩)
    (hy : Y P S env ⟨some d, op, ty, pos, after, none⟩ v) (hd : Nat.blt d N = true) (h : ZB P N ops B c Q S order ((d, v) :: env) w) : ZB P N ops B c Q S ((i, 1) :: order) env w := fun hs hk hS a ha fuel listed inv hB => by
  cases fuel with
  | zero => simp [ordZ] at hB
  | succ fuel =>
    simp only [ordZ, Bool.and_eq_true] at hB
    obtain ⟨⟨⟨⟨h1, h2⟩, h3⟩, h4⟩, h5⟩ := hB
    have hic : i ≠ c := fun e => by subst e; simp at h4
    refine wpAnyZ_first hk (by simpa using h3) hic hi (Region.noSelect_spec hs) (fun c a w hq => hq.elim) fuel listed a w inv (Region.free_spec hi h2) (mem_of_contains h1)
      (.inl ⟨by simp [Region.wanted], fun w hw => hy N a w ha hw⟩) hS ?_
    exact h hs hk hS _ (ha.put d v hd) fuel _ (inv.set (mem_of_contains h1)) h5
theorem ZB_yb {i : Nat} {d : Tmp} {op : Op} {ty : TypeId} {pos : String} {after : Array Edge} {l : List UInt8} {k : Nat} {order : List (Nat × Nat)} (hi : ops[i]? = some ⟨some d, op, ty, pos, after, none⟩)
    (hy : Y P S env ⟨some d, op, ty, pos, after, none⟩ (.int .u8 (g8 l k))) (hd : Nat.blt d N = true) (h : 0 ≤ g8 l k → g8 l k ≤ 255 → ZB P N ops B c Q S order ((d, .int .u8 (g8 l k)) :: env) w) : ZB P N ops B c Q S ((i, 1) :: order) env w :=
  ZB_y hi hy hd (h (g8_lo l k) (g8_hi l k))
theorem ZB_o {i : Nat} {d : Option Tmp} {op : Op} {ty : TypeId} {pos : String} {after : Array Edge} {order : List (Nat × Nat)} (hi : ops[i]? = some ⟨d, op, ty, pos, after, none⟩)
    (h : O P N Q ⟨d, op, ty, pos, after, none⟩ env w (fun e' w' => S w' ∧ ZB P N ops B c Q S order e' w')) : ZB P N ops B c Q S ((i, 2) :: order) env w := fun hs hk hS a ha fuel listed inv hB => by
  cases fuel with
  | zero => simp [ordZ] at hB
  | succ fuel =>
    simp only [ordZ, Bool.and_eq_true] at hB
    obtain ⟨⟨h1, h4⟩, h5⟩ := hB
    have hr := ready_one h1
    have hic : i ≠ c := fun e => by subst e; simp at h4
    refine ⟨fun h0 => (by rw [hr] at h0; cases h0), fun j hj => ?_⟩
    rw [hr] at hj
    obtain rfl := List.mem_singleton.1 hj
    refine ⟨fun e => absurd e hic, fun _ => ?_⟩
    unfold wpOp
    simp only [hi, Region.wanted, if_true]
    exact .inl (Oper.wp_mono (fun a' w' ⟨e', h3, h4, h6⟩ => ⟨h4, h6 hs hk h4 a' h3 fuel _ (inv.set (by rw [hr]; simp)) h5⟩) (h a ha))
/-- The barrier. -/
theorem ZB_c {d : Option Tmp} {op : Op} {ty : TypeId} {pos : String} {after : Array Edge} {order : List (Nat × Nat)} (hi : ops[c]? = some ⟨d, op, ty, pos, after, none⟩)
    (h : O P N Q ⟨d, op, ty, pos, after, none⟩ env w (ZA P N ops B c Q order)) : ZB P N ops B c Q S ((c, 3) :: order) env w := fun hs hk hS a ha fuel listed inv hB => by
  cases fuel with
  | zero => simp [ordZ] at hB
  | succ fuel =>
    simp only [ordZ, Bool.and_eq_true] at hB
    obtain ⟨h1, h5⟩ := hB
    have hr := ready_one h1
    refine ⟨fun h0 => (by rw [hr] at h0; cases h0), fun j hj => ?_⟩
    rw [hr] at hj
    obtain rfl := List.mem_singleton.1 hj
    refine ⟨fun _ => ?_, fun e => absurd rfl e⟩
    unfold wpOp
    simp only [hi, Region.wanted, if_true]
    exact .inl (Oper.wp_mono (fun a' w' ⟨e', h3, h6⟩ => h6 hs hk a' h3 fuel _ (inv.set (by rw [hr]; simp)) h5) (h a ha))
/-- Behind the barrier, or where one alone may come up. -/
theorem ZA_o {i : Nat} {d : Option Tmp} {op : Op} {ty : TypeId} {pos : String} {after : Array Edge} {order : List (Nat × Nat)} (hi : ops[i]? = some ⟨d, op, ty, pos, after, none⟩)
    (h : O P N Q ⟨d, op, ty, pos, after, none⟩ env w (ZA P N ops B c Q order)) : ZA P N ops B c Q ((i, 3) :: order) env w := fun hs hk a ha fuel listed inv hB => by
  cases fuel with
  | zero => simp [ordZ] at hB
  | succ fuel =>
    simp only [ordZ, Bool.and_eq_true] at hB
    obtain ⟨h1, h5⟩ := hB
    have hr := ready_one h1
    refine wpAny_all hr (by simp) fun j hj => ?_
    obtain rfl := List.mem_singleton.1 hj
    unfold wpOp
    simp only [hi, Region.wanted, if_true]
    exact .inl (Oper.wp_mono (fun a' w' ⟨e', h3, h6⟩ => h6 hs hk a' h3 fuel _ (inv.set (by rw [hr]; simp)) h5) (h a ha))
theorem ZA_oy {i : Nat} {d : Tmp} {op : Op} {ty : TypeId} {pos : String} {after : Array Edge} {v : Value} {order : List (Nat × Nat)} (hi : ops[i]? = some ⟨some d, op, ty, pos, after, none⟩)
    (hy : Y P (Like w) env ⟨some d, op, ty, pos, after, none⟩ v) (hd : Nat.blt d N = true) (h : ZA P N ops B c Q order ((d, v) :: env) w) : ZA P N ops B c Q ((i, 3) :: order) env w :=
  ZA_o hi (o_y hy (Like.refl w) hd h)
theorem ZA_nil (h : Q .normal env w) : ZA P N ops B c Q [] env w := fun _ _ a ha fuel listed inv hB => by
  have hr : Region.ready .any ops listed = [] := by
    cases fuel <;> simpa [ordZ] using hB
  exact wpAny_done hr ⟨env, ha, h⟩ fuel
end
end Go.Proofs.Ytmgimcdkeelnpaa.Zx
