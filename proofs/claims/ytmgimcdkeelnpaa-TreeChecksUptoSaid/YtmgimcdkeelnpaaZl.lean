/-
  General laws, second part: '==' on arrays.
-/
import Derived.Test.YtmgimcdkeelnpaaZk
namespace Go.Proofs.Ytmgimcdkeelnpaa.Zk
open Go.RowKit
set_option linter.unusedVariables false

section
variable {P : Program}
theorem run_equalIn_arr' (w : World) (d : Nat) {t e : TypeId} {n : Nat} {k : IntKind} (ht : P.underlying t = some (.array n e)) (d0 : TypeDesc) (he : P.underlying e = some d0) (hd : d0.isRow = false) (hs : (P.info? e).map (·.size) = some 1)
    (xs ys : Array Value) (f g : Nat → Int) (hx : ∀ i, i < n → xs[i]? = some (.int k (f i))) (hy : ∀ i, i < n → ys[i]? = some (.int k (g i)))
    (H : ∀ a b, (Op.equalIn d e (.int k a) (.int k b)).run P w = .ok (a == b) w) :
    (Op.equalIn (d + 1) t (.agg xs) (.agg ys)).run P w = .ok ((List.range n).all fun i => f i == g i) w := by
  cases hq : P.info? e with
  | none => simp [hq] at hs
  | some ie =>
    have h1 : ie.size = 1 := by simpa [hq] using hs
    have hagg : (isAgg e).run P w = .ok false w := by
      unfold isAgg
      rw [Sem.run_bind, run_underlying he w]
      cases d0 <;> simp_all [TypeDesc.isRow]
    have hsz : (sizeOf e).run P w = .ok 1 w := by simp [sizeOf, typeInfo, hq, h1]
    have hpx : ∀ i, i < n → (part e xs i).run P w = .ok (.int k (f i)) w := fun i hi => by simp [part, Sem.run_bind, hagg, hx i hi]
    have hpy : ∀ i, i < n → (part e ys i).run P w = .ok (.int k (g i)) w := fun i hi => by simp [part, Sem.run_bind, hagg, hy i hi]
    simp only [Op.equalIn, Sem.run_bind, run_underlying ht, Result.andThen_ok, hsz, Std.Legacy.Range.forIn_eq_forIn_range']
    have hr : [:n].size = n := by simp [Std.Legacy.Range.size]
    rw [hr]
    have key : ∀ (m s : Nat), s + m = n → (forIn (List.range' s m) ((none, ()) : Option Bool × Unit) fun i __s => do
              let __do_lift ← part e xs (i * 1)
              let __do_lift_1 ← part e ys (i * 1)
              let __do_lift ← Op.equalIn d e __do_lift __do_lift_1
              if (!__do_lift) = true then pure (ForInStep.done (some false, ())) else pure (ForInStep.yield (none, ())) : Sem (Option Bool × Unit)).run P w =
        .ok (if (List.range' s m).all (fun i => f i == g i) = true then none else some false, ()) w := by
      intro m
      induction m with
      | zero =>
        intro s hs
        simp
      | succ m ih =>
        intro s hs
        simp only [List.range'_succ, List.forIn_cons, Sem.run_bind, Nat.mul_one, hpx s (by omega), hpy s (by omega), Result.andThen_ok, H]
        by_cases hfg : f s = g s
        · simp only [hfg, beq_self_eq_true, Bool.not_true, Bool.false_eq_true, if_false, Sem.run_pure, Result.andThen_ok]
          have := ih (s + 1) (by omega)
          simp only [Nat.mul_one] at this
          rw [this]
          simp only [List.all_cons, hfg, beq_self_eq_true, Bool.true_and]
        · have hb : (f s == g s) = false := by simpa using hfg
          simp only [hb, Bool.not_false, if_true, Sem.run_pure, Result.andThen_ok, List.all_cons, Bool.false_and, Bool.false_eq_true, if_false]
    rw [List.range_eq_range']
    rw [key n 0 (by omega)]
    simp only [Result.andThen_ok]
    cases hall : (List.range' 0 n).all fun i => f i == g i <;> simp
/-- '==' on bytes in arrays. -/
theorem all_bytes (a b : List UInt8) (n : Nat) (ha : a.length = n) (hb : b.length = n) :
    ((List.range n).all fun i => (((a.getD i 0).toNat : Int)) == ((b.getD i 0).toNat : Int)) = (a == b) := by
  rw [Bool.eq_iff_iff, List.all_eq_true, beq_iff_eq]
  constructor
  · intro h
    apply List.ext_getElem (by omega)
    intro i h1 h2
    have := h i (by simp; omega)
    simp only [beq_iff_eq, List.getD_eq_getElem?_getD, List.getElem?_eq_getElem h1, List.getElem?_eq_getElem h2, Option.getD_some] at this
    exact UInt8.toNat_inj.1 (by omega)
  · rintro rfl i _
    simp
theorem run_equalIn_bytes (w : World) (d : Nat) {t e : TypeId} {n : Nat} (ht : P.underlying t = some (.array n e)) (he : P.underlying e = some (.int .u8)) (hs : (P.info? e).map (·.size) = some 1)
    (a b : List UInt8) (ha : a.length = n) (hb : b.length = n) (xs ys : Array Value) (hx : ∀ (i : Nat) (c : UInt8), a[i]? = some c → xs[i]? = some (Value.int .u8 (c.toNat : Int))) (hy : ∀ (i : Nat) (c : UInt8), b[i]? = some c → ys[i]? = some (Value.int .u8 (c.toNat : Int))) :
    (Op.equalIn (d + 2) t (.agg xs) (.agg ys)).run P w = .ok (a == b) w := by
  have get : ∀ (l : List UInt8) i, i < n → l.length = n → l[i]? = some (l.getD i 0) := by
    intro l i hi hl
    rw [List.getD_eq_getElem?_getD, List.getElem?_eq_getElem (by omega)]
    rfl
  rw [run_equalIn_arr' w (d + 1) ht _ he rfl hs xs ys (fun i => ((a.getD i 0).toNat : Int)) (fun i => ((b.getD i 0).toNat : Int)) (fun i hi => hx i _ (get a i hi ha)) (fun i hi => hy i _ (get b i hi hb))
    (fun x y => run_equalIn_int w d e .u8 .u8 x y he), all_bytes a b n ha hb]
theorem run_eql_bytes {t e : TypeId} {n : Nat} (ht : P.underlying t = some (.array n e)) (he : P.underlying e = some (.int .u8)) (hs : (P.info? e).map (·.size) = some 1)
    (a b : List UInt8) (ha : a.length = n) (hb : b.length = n) (w : World) : (binOp .eql t (.agg (bA a)) (.agg (bA b))).run P w = .ok (.bool (a == b)) w := by
  rw [run_eql_struct, run_equalIn_bytes w 9998 ht he hs a b ha hb _ _ (bA_get a) (bA_get b)]
  rfl
theorem run_neq_bytes {t e : TypeId} {n : Nat} (ht : P.underlying t = some (.array n e)) (he : P.underlying e = some (.int .u8)) (hs : (P.info? e).map (·.size) = some 1)
    (a b : List UInt8) (ha : a.length = n) (hb : b.length = n) (w : World) : (binOp .neq t (.agg (bA a)) (.agg (bA b))).run P w = .ok (.bool (!(a == b))) w := by
  rw [run_neq_struct, run_equalIn_bytes w 9998 ht he hs a b ha hb _ _ (bA_get a) (bA_get b)]
  rfl
end

theorem fold_set : ∀ (vs : List Value) (k off : Nat) (cs : Array Value), off + k + vs.length ≤ cs.size →
    (vs.zipIdx k).foldl (fun cs (p : Value × Nat) => cs.setIfInBounds (off + p.2) p.1) cs = (cs.toList.take (off + k) ++ vs ++ cs.toList.drop (off + k + vs.length)).toArray
  | [], k, off, cs, _ => by simp
  | v :: vs, k, off, cs, h => by
    have hk : off + k < cs.size := by simp at h; omega
    rw [List.zipIdx_cons, List.foldl_cons, fold_set vs (k + 1) off _ (by simp at h ⊢; omega)]
    congr 1
    simp only [Array.toList_setIfInBounds]
    have e1 : off + (k + 1) = (off + k) + 1 := by omega
    rw [e1, List.take_set, List.drop_set, if_pos (by omega)]
    have e2 : (List.take (off + k + 1) cs.toList).set (off + k) v = List.take (off + k) cs.toList ++ [v] := by
      rw [List.take_succ_eq_append_getElem (by simpa using hk), List.set_append_right _ _ (by simp; omega)]
      simp
      have : min (off + k) cs.size = off + k := by omega
      simp [this]
    rw [e2]
    simp
    congr 1
    omega
/-- 'build' of a part into a row of zeros. -/
theorem fill_part (place : Nat → Option (Nat × Nat)) (cells : Array Value) (i off size : Nat) (vs : Array Value) (v : Value) (hv : v.cells = vs) (rest : List (Nat × Value)) (hp : place i = some (off, size)) (hs : vs.size = size) (hl : off + size ≤ cells.size) :
    Instr.fill place cells ((i, v) :: rest) = Instr.fill place (cells.toList.take off ++ vs.toList ++ cells.toList.drop (off + size)).toArray rest := by
  have e : vs.zipIdx.foldl (fun cs (c, j) => cs.setIfInBounds (off + j) c) cells = (cells.toList.take off ++ vs.toList ++ cells.toList.drop (off + size)).toArray := by
    have := fold_set vs.toList 0 off cells (by simp; omega)
    simp only [Nat.add_zero, Array.length_toList, hs] at this
    rw [← this, ← Array.foldl_toList]
    simp
  rw [← e]
  conv => lhs; unfold Instr.fill
  simp only [hp, hv]
  rw [if_neg (by simp [hs]; omega)]

theorem Blk.range {w : World} {g : Nat} {t : TypeId} {cs : Array Value} (h : Blk w g t cs) : w.rangeAt g 0 cs.toList := fun j v hj => by
  rw [h.cell]
  simpa using hj
/-! ### a region that draws its order, reads old memory, and calls what makes memory of its own -/
/-- The worlds that are as w was below w's own blocks. -/
def Ext (w : World) : Type := { w' : World // Below w.heap.size w w' }
instance (w : World) : Inhabited (Ext w) := ⟨⟨w, Below.refl _ _⟩⟩
def ext (w : World) (x : Ext w) : World := x.1
theorem ext_below (w : World) (x : Ext w) : Below w.heap.size w (ext w x) := x.2
theorem cell_ext {w : World} {a : Addr} {v : Value} (h : w.cell? a = some v) (x : Ext w) : (ext w x).cell? a = some v :=
  ((ext_below w x).cell (World.block_lt_of_cell? w a h)).trans h
theorem blk_ext {w : World} {g : Nat} {t : TypeId} {cs : Array Value} (h : Blk w g t cs) (x : Ext w) : Blk (ext w x) g t cs := h.below (ext_below w x) h.lt
section
variable {P : Program}
theorem wp_region_ext {id : Nat} {Q : Exit → Act → World → Prop} {a : Act} {w : World} {l : List Oper} (hm : P.follows .mixedOrders = true) (hB : Region.lexB .any l.toArray = true)
    (h : wpQuiet P l.toArray (fun w' => ∃ x : Ext w, w' = ext w x) (fun a' => ∀ w', (∃ x : Ext w, w' = ext w x) → Q .normal a' w') l a) : (Code.region id l.toArray true).wp P Q a w :=
  wp_region_quiet (C := fun w' => ∃ x : Ext w, w' = ext w x) hm hB ⟨⟨w.drew, (Below.refl _ _).drew⟩, rfl⟩ (by simpa using h)
/-- A call in such a region: the callee's contract. -/
theorem calls_ext {f : FuncId} {args : Array Value} {w : World} {x : Ext w} {v : Value} (h : Calls P f args (ext w x) fun e w' => e = .returned v ∧ Below (ext w x).heap.size (ext w x) w') :
    Calls P f args (ext w x) fun e w'' => e = .returned v ∧ ∃ y : Ext w, w'' = ext w y :=
  h.mono fun e w' ⟨he, hb⟩ => ⟨he, ⟨w', (ext_below w x).trans (hb.mono (ext_below w x).size)⟩, rfl⟩
theorem calls_ext_same {f : FuncId} {args : Array Value} {w : World} {x : Ext w} {v : Value} (h : Calls P f args (ext w x) fun e w' => e = .returned v ∧ ext w x = w') :
    Calls P f args (ext w x) fun e w'' => e = .returned v ∧ ∃ y : Ext w, w'' = ext w y :=
  h.mono fun e w' ⟨he, hb⟩ => ⟨he, x, hb.symm⟩
/-- An operation whose value is known in all these worlds. -/
theorem quiet_val {ops : Array Oper} {w : World} {Q : Act → Prop} {rest : List Oper} {o : Oper} {a : Act} (hw : Region.wanted o (yielded ops a.tmps) = true) (v : Value)
    (hr : ∀ x : Ext w, (execOp a.eval o).run P (ext w x) = .ok (.value v) (ext w x)) (h : wpQuiet P ops (fun w' => ∃ x : Ext w, w' = ext w x) Q rest (a.put o.dst v)) :
    wpQuiet P ops (fun w' => ∃ x : Ext w, w' = ext w x) Q (o :: rest) a := by
  unfold wpQuiet
  rw [if_pos hw]
  refine ⟨v, fun w' hw' => ?_, h⟩
  obtain ⟨x, rfl⟩ := hw'
  unfold Oper.quietAt
  rw [hr x]
  exact ⟨rfl, rfl⟩
/-- A load of an array or a struct out of a known block. -/
theorem quiet_ldB {ops : Array Oper} {w : World} {Q : Act → Prop} {rest : List Oper} {o : Oper} {a : Act} (hw : Region.wanted o (yielded ops a.tmps) = true) (ty : TypeId) (x : Operand) (ho : o.op = .load ty x)
    (g off : Nat) (hx : a.eval x = .pointer (some ⟨g, off, none⟩)) (t : TypeId) (cs : Array Value) (hb : Blk w g t cs) (vs : List Value) (hv : (cs.toList.drop off).take vs.length = vs)
    (d : TypeDesc) (hu : P.underlying ty = some d) (hd : d.isRow = true) (hi : (P.info? ty).map (·.size) = some vs.length)
    (h : wpQuiet P ops (fun w' => ∃ x : Ext w, w' = ext w x) Q rest (a.put o.dst (.agg vs.toArray))) :
    wpQuiet P ops (fun w' => ∃ x : Ext w, w' = ext w x) Q (o :: rest) a := by
  refine quiet_val hw (.agg vs.toArray) (fun y => ?_) h
  have hr : (ext w y).rangeAt g off vs := fun j v hj => by
    rw [(blk_ext hb y).cell]
    have h2 : ((cs.toList.drop off).take vs.length)[j]? = some v := by rw [hv]; exact hj
    rw [List.getElem?_take] at h2
    split at h2
    · rw [List.getElem?_drop] at h2
      simpa using h2
    · cases h2
  unfold execOp
  simp only [ho, hx, Instr.loadAt, Instr.sureAddr, Sem.run_bind, Sem.run_pure, Result.andThen_ok, run_loadVar_mid (ext w y) g off ty vs d hr hu hd hi]
end
theorem whole_take (cs : Array Value) : (cs.toList.drop 0).take cs.toList.length = cs.toList := by rw [List.drop_zero, List.take_length]
section
variable {P : Program}
/-- 'build' of an array or a struct. -/
theorem quiet_bd {ops : Array Oper} {w : World} {Q : Act → Prop} {rest : List Oper} {o : Oper} {a : Act} (hw : Region.wanted o (yielded ops a.tmps) = true) (t : TypeId) (parts : List (Nat × Operand)) (ho : o.op = .build t parts.toArray)
    (ps : List (Nat × Value)) (hps : parts.map (fun x => (x.1, a.eval x.2)) = ps) (v : Value) (hr : ∀ W, (Instr.build t ps.toArray).run P W = .ok v W)
    (h : wpQuiet P ops (fun w' => ∃ x : Ext w, w' = ext w x) Q rest (a.put o.dst v)) :
    wpQuiet P ops (fun w' => ∃ x : Ext w, w' = ext w x) Q (o :: rest) a := by
  refine quiet_val hw v (fun y => ?_) h
  have e : (parts.toArray.map fun (i, x) => (i, a.eval x)) = ps.toArray := by
    rw [List.map_toArray, ← hps]
  unfold execOp
  simp only [ho, Sem.run_bind, e, hr, Result.andThen_ok, Sem.run_pure]
theorem wpList_bdl {w : World} {ops : Array Oper} {rest : List Oper} {o : Oper} {a : Act} {Q : Exit → Act → World → Prop} (hgd : o.guard = none) (t : TypeId) (parts : List (Nat × Operand)) (ho : o.op = .build t parts.toArray)
    (ps : List (Nat × Value)) (hps : parts.map (fun x => (x.1, a.eval x.2)) = ps) (v : Value) (hr : ∀ W, (Instr.build t ps.toArray).run P W = .ok v W)
    (h : wpList P ops Q rest (a.put o.dst v) w) : wpList P ops Q (o :: rest) a w := by
  refine wpList_run hgd v ?_ h
  have e : (parts.toArray.map fun (i, x) => (i, a.eval x)) = ps.toArray := by
    rw [List.map_toArray, ← hps]
  unfold execOp
  simp only [ho, Sem.run_bind, e, hr, Result.andThen_ok, Sem.run_pure]
end
section
variable {P : Program} {w : World}
/-- The same load where the operation stands under a guard that says yes. -/
theorem wpList_ldG {ops : Array Oper} {rest : List Oper} {o : Oper} {a : Act} {Q : Exit → Act → World → Prop} (hw : Region.wanted o (yielded ops a.tmps) = true) (ty : TypeId) (x : Operand) (ho : o.op = .load ty x)
    (g off : Nat) (hx : a.eval x = .pointer (some ⟨g, off, none⟩)) (t : TypeId) (cs : Array Value) (hb : Blk w g t cs) (vs : List Value) (hv : (cs.toList.drop off).take vs.length = vs)
    (d : TypeDesc) (hu : P.underlying ty = some d) (hd : d.isRow = true) (hi : (P.info? ty).map (·.size) = some vs.length)
    (h : wpList P ops Q rest (a.put o.dst (.agg vs.toArray)) w) : wpList P ops Q (o :: rest) a w :=
  BigFrame.wpList_want hw fun _ hK => wp_ldB ty x ho g off hx t cs hb vs hv d hu hd hi (hK _ _ h)
theorem wpList_bdG {ops : Array Oper} {rest : List Oper} {o : Oper} {a : Act} {Q : Exit → Act → World → Prop} (hw : Region.wanted o (yielded ops a.tmps) = true) (t : TypeId) (parts : List (Nat × Operand)) (ho : o.op = .build t parts.toArray)
    (ps : List (Nat × Value)) (hps : parts.map (fun x => (x.1, a.eval x.2)) = ps) (v : Value) (hr : ∀ W, (Instr.build t ps.toArray).run P W = .ok v W)
    (h : wpList P ops Q rest (a.put o.dst v) w) : wpList P ops Q (o :: rest) a w := by
  refine BigFrame.wpList_want hw fun K hK => ?_
  have e : (parts.toArray.map fun (i, x) => (i, a.eval x)) = ps.toArray := by
    rw [List.map_toArray, ← hps]
  unfold Oper.wp execOp
  simp only [ho, Sem.run_bind, e, hr, Result.andThen_ok, Sem.run_pure]
  exact hK _ _ h
end
end Go.Proofs.Ytmgimcdkeelnpaa.Zk
