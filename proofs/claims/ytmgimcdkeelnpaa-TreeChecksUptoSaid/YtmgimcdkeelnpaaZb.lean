/-
  Maps whose keys are bytes in arrays; families of pieces; a choice of pieces. General; nothing here names a program.
-/
import Derived.Test.YtmgimcdkeelnpaaZv
import Derived.Test.YtmgimcdkeelnpaaZp
import Derived.Test.YtmgimcdkeelnpaaZc
namespace Go.Proofs.Ytmgimcdkeelnpaa.Zx
open Go.RowKit Zk
set_option linter.unusedVariables false
set_option linter.unusedSimpArgs false
section
variable {w w0 : World} {M : Nat → Prop} {rs : List Res}
/-- Pieces, chosen by their numbers. -/
theorem St.sel (S : St w0 M rs w) (ix : List Nat) (hnd : ix.Nodup) : St w0 M (ix.filterMap (rs[·]?)) w := by
  refine ⟨S.os, S.tape, S.output, S.size, S.old, fun r hr => ?_, ?_⟩
  · obtain ⟨i, _, hi⟩ := List.mem_filterMap.1 hr
    exact S.res r (List.mem_of_getElem? hi)
  · rw [List.pairwise_filterMap]
    refine List.Pairwise.imp ?_ hnd
    intro i j hij a ha b hb x hx hy
    have hp := List.pairwise_iff_getElem.1 S.apart
    obtain ⟨h1, h2⟩ := List.getElem?_eq_some_iff.1 ha
    obtain ⟨h3, h4⟩ := List.getElem?_eq_some_iff.1 hb
    rcases Nat.lt_or_gt_of_ne hij with h | h
    · exact hp i j h1 h3 h x (by rw [h2]; exact hx) (by rw [h4]; exact hy)
    · exact hp j i h3 h1 h x (by rw [h4]; exact hy) (by rw [h2]; exact hx)
/-- Many pieces as one. -/
def fam (L : List Res) : Res where
  dom i := ∃ r ∈ L, r.dom i
  holds w := (∀ r ∈ L, r.holds w) ∧ L.Pairwise fun (r s : Res) => ∀ i, r.dom i → ¬ s.dom i
  stable w w' h hh := ⟨fun r hr => r.stable w w' (fun i hi => h i ⟨r, hr, hi⟩) (hh.1 r hr), hh.2⟩
theorem St.fam0 (S : St w0 M rs w) : St w0 M (rs ++ [fam []]) w := by
  refine ⟨S.os, S.tape, S.output, S.size, S.old, fun r hr => ?_, ?_⟩
  · rcases List.mem_append.1 hr with hr | hr
    · exact S.res r hr
    · obtain rfl := List.mem_singleton.1 hr
      exact ⟨⟨fun r hr => (List.not_mem_nil hr).elim, List.Pairwise.nil⟩, fun i ⟨r, hr, _⟩ => (List.not_mem_nil hr).elim⟩
  · rw [List.pairwise_append]
    exact ⟨S.apart, List.pairwise_singleton _ _, fun a _ b hb i _ hi => by
      obtain rfl := List.mem_singleton.1 hb
      obtain ⟨r, hr, _⟩ := hi
      cases hr⟩
theorem St.famIn {L1 L2 : List Res} {r : Res} (S : St w0 M (rs ++ [fam (L1 ++ L2), r]) w) : St w0 M (rs ++ [fam (L1 ++ r :: L2)]) w := by
  have hap := S.apart
  rw [List.pairwise_append] at hap
  obtain ⟨a1, a2, a3⟩ := hap
  have hfr := (List.pairwise_cons.1 a2).1 r (by simp)
  have hf := S.res (fam (L1 ++ L2)) (by simp)
  have hr := S.res r (by simp)
  refine ⟨S.os, S.tape, S.output, S.size, S.old, fun q hq => ?_, ?_⟩
  · rcases List.mem_append.1 hq with hq | hq
    · exact S.res q (by simp [hq])
    · obtain rfl := List.mem_singleton.1 hq
      refine ⟨⟨fun q hq => ?_, ?_⟩, fun i ⟨q, hq, hi⟩ => ?_⟩
      · rcases List.mem_append.1 hq with h | h
        · exact hf.1.1 q (by simp [h])
        · rcases List.mem_cons.1 h with rfl | h
          · exact hr.1
          · exact hf.1.1 q (by simp [h])
      · have h2 := hf.1.2
        rw [List.pairwise_append] at h2 ⊢
        refine ⟨h2.1, List.pairwise_cons.2 ⟨fun q hq i hi hqi => hfr i ⟨q, by simp [hq], hqi⟩ hi, h2.2.1⟩, fun a ha b hb i hi hbi => ?_⟩
        rcases List.mem_cons.1 hb with rfl | hb
        · exact hfr i ⟨a, by simp [ha], hi⟩ hbi
        · exact h2.2.2 a ha b hb i hi hbi
      · rcases List.mem_append.1 hq with h | h
        · exact hf.2 i ⟨q, by simp [h], hi⟩
        · rcases List.mem_cons.1 h with rfl | h
          · exact hr.2 i hi
          · exact hf.2 i ⟨q, by simp [h], hi⟩
  · rw [List.pairwise_append]
    refine ⟨a1, List.pairwise_singleton _ _, fun a ha b hb i hi hbi => ?_⟩
    obtain rfl := List.mem_singleton.1 hb
    obtain ⟨q, hq, hqi⟩ := hbi
    rcases List.mem_append.1 hq with h | h
    · exact a3 a ha (fam (L1 ++ L2)) (by simp) i hi ⟨q, by simp [h], hqi⟩
    · rcases List.mem_cons.1 h with rfl | h
      · exact a3 a ha q (by simp) i hi hqi
      · exact a3 a ha (fam (L1 ++ L2)) (by simp) i hi ⟨q, by simp [h], hqi⟩
theorem St.famOut {L1 L2 : List Res} {r : Res} (S : St w0 M (rs ++ [fam (L1 ++ r :: L2)]) w) : St w0 M (rs ++ [fam (L1 ++ L2), r]) w := by
  have hap := S.apart
  rw [List.pairwise_append] at hap
  obtain ⟨a1, _, a3⟩ := hap
  have hf := S.res (fam (L1 ++ r :: L2)) (by simp)
  have hp := hf.1.2
  rw [List.pairwise_append, List.pairwise_cons] at hp
  have hsub : ∀ q, q ∈ L1 ++ L2 → q ∈ L1 ++ r :: L2 := fun q hq => by
    rcases List.mem_append.1 hq with h | h
    · simp [h]
    · simp [h]
  have hfr : ∀ i, (fam (L1 ++ L2)).dom i → ¬ r.dom i := fun i ⟨q, hq, hqi⟩ hri => by
    rcases List.mem_append.1 hq with h | h
    · exact hp.2.2 q h r (by simp) i hqi hri
    · exact hp.2.1.1 q h i hri hqi
  refine ⟨S.os, S.tape, S.output, S.size, S.old, fun q hq => ?_, ?_⟩
  · rcases List.mem_append.1 hq with hq | hq
    · exact S.res q (by simp [hq])
    · rcases List.mem_cons.1 hq with rfl | hq
      · refine ⟨⟨fun q hq => hf.1.1 q (hsub q hq), ?_⟩, fun i ⟨q, hq, hi⟩ => hf.2 i ⟨q, hsub q hq, hi⟩⟩
        rw [List.pairwise_append]
        exact ⟨hp.1, hp.2.1.2, fun a ha b hb => hp.2.2 a ha b (by simp [hb])⟩
      · obtain rfl := List.mem_singleton.1 hq
        exact ⟨hf.1.1 q (by simp), fun i hi => hf.2 i ⟨q, by simp, hi⟩⟩
  · rw [List.pairwise_append]
    refine ⟨a1, List.pairwise_cons.2 ⟨fun b hb => by rw [List.mem_singleton.1 hb]; exact hfr, List.pairwise_singleton _ _⟩, fun a ha b hb i hi hbi => ?_⟩
    rcases List.mem_cons.1 hb with rfl | hb
    · obtain ⟨q, hq, hqi⟩ := hbi
      exact a3 a ha (fam (L1 ++ r :: L2)) (by simp) i hi ⟨q, hsub q hq, hqi⟩
    · rw [List.mem_singleton.1 hb] at hbi
      exact a3 a ha (fam (L1 ++ r :: L2)) (by simp) i hi ⟨r, by simp, hbi⟩
end
section
variable {P : Program}
theorem run_equalB {t e : TypeId} {n : Nat} (ht : P.underlying t = some (.array n e)) (he : P.underlying e = some (.int .u8)) (hs : (P.info? e).map (·.size) = some 1) (a b : List UInt8) (ha : a.length = n) (hb : b.length = n) (w : World) :
    (Op.equal t (.agg (bA a)) (.agg (bA b))).run P w = .ok (a == b) w := by
  unfold Op.equal
  exact run_equalIn_bytes w 9998 ht he hs a b ha hb _ _ (bA_get a) (bA_get b)
theorem run_checkB {t e : TypeId} {n : Nat} (ht : P.underlying t = some (.array n e)) (he : P.underlying e = some (.int .u8)) (hs : (P.info? e).map (·.size) = some 1) (a : List UInt8) (ha : a.length = n) (w : World) (b : Bool) :
    (Instr.checkKey b 10000 t (.agg (bA a))).run P w = .ok () w := by
  have hel : ∀ v, (Instr.checkKey b 9999 e v).run P w = .ok () w := fun v => by
    unfold Instr.checkKey
    simp only [Sem.run_bind, run_underlying he, Result.andThen_ok]
    rfl
  have hsz : (sizeOf e).run P w = .ok 1 w := sizeOf_run hs w
  have hpart : ∀ i, i < n → ∃ v, (part e (bA a) (i * 1)).run P w = .ok v w := fun i hi => by
    have hg : (bA a)[i]? = some (.int .u8 (a[i].toNat : Int)) := bA_get a i _ (List.getElem?_eq_getElem (by omega))
    have hagg : (isAgg e).run P w = .ok false w := by
      unfold isAgg
      rw [Sem.run_bind, run_underlying he w]
      rfl
    exact ⟨.int .u8 (a[i].toNat : Int), by simp [part, Sem.run_bind, hagg, hg]⟩
  have key : ∀ (m s : Nat), s + m ≤ n → (forIn (m := Sem) (List.range' s m) PUnit.unit fun i _ => do
      Instr.checkKey b 9999 e (← part e (bA a) (i * (← sizeOf e)))
      pure (ForInStep.yield PUnit.unit)).run P w = .ok PUnit.unit w := by
    intro m
    induction m with
    | zero => intro s _; simp
    | succ m ih =>
      intro s hs
      obtain ⟨v, hv⟩ := hpart s (by omega)
      simp only [List.range'_succ, List.forIn_cons, Sem.run_bind, hsz, Result.andThen_ok, hv, hel, Sem.run_pure]
      exact ih (s + 1) (by omega)
  unfold Instr.checkKey
  simp only [Sem.run_bind, run_underlying ht, Result.andThen_ok]
  have h := key n 0 (by omega)
  rw [Std.Legacy.Range.forIn_eq_forIn_range']
  have hr : [:n].size = n := by simp [Std.Legacy.Range.size]
  rw [hr]
  rw [h]
  rfl

/-- The entries of a map whose keys are bytes, in the order in which they came. -/
def entB (D : List (List UInt8 × Value)) : List MapEntry := D.zipIdx.map fun p => ⟨.agg (bA p.1.1), p.1.2, p.2⟩
theorem entB_len (D : List (List UInt8 × Value)) : (entB D).length = D.length := by simp [entB]
theorem entB_get (D : List (List UInt8 × Value)) (i : Nat) : (entB D)[i]? = D[i]?.map fun p => ⟨.agg (bA p.1), p.2, i⟩ := by
  unfold entB
  rw [List.getElem?_map, List.getElem?_zipIdx, Option.map_map]
  cases D[i]? <;> simp
/-- Where a key stands. -/
def posB (a : List UInt8) : List (List UInt8 × Value) → Nat → Option (Nat × Value)
  | [], _ => none
  | p :: r, i => if a == p.1 then some (i, p.2) else posB a r (i + 1)
theorem posB_some {a : List UInt8} : ∀ {D : List (List UInt8 × Value)} {i j : Nat} {v : Value}, posB a D i = some (j, v) → i ≤ j ∧ D[j - i]? = some (a, v)
  | [], i, j, v, h => by cases h
  | p :: r, i, j, v, h => by
    unfold posB at h
    split at h
    · rename_i e
      cases h
      have e2 : a = p.1 := by simpa using e
      refine ⟨Nat.le_refl _, ?_⟩
      rw [Nat.sub_self, e2]
      rfl
    · obtain ⟨h1, h2⟩ := posB_some h
      refine ⟨by omega, ?_⟩
      rw [show j - i = j - (i + 1) + 1 by omega, List.getElem?_cons_succ]
      exact h2
theorem posB_none {a : List UInt8} : ∀ {D : List (List UInt8 × Value)} {i : Nat}, posB a D i = none → ∀ p ∈ D, p.1 ≠ a
  | [], i, h => by intro p hp; cases hp
  | q :: r, i, h => by
    unfold posB at h
    split at h
    · cases h
    · rename_i e
      intro p hp
      rcases List.mem_cons.1 hp with rfl | hp
      · intro e2; exact e (by simp [e2])
      · exact posB_none h p hp
theorem findNow_arr {n : Nat} {e : TypeId} (a : List UInt8) (m : MapEntry) (es : List MapEntry) (i : Nat) : Instr.findNow (.array n e) (.agg (bA a)) (m :: es) i = none := rfl
theorem run_asking {t e : TypeId} {n : Nat} (ht : P.underlying t = some (.array n e)) (he : P.underlying e = some (.int .u8)) (hs : (P.info? e).map (·.size) = some 1) (a : List UInt8) (ha : a.length = n) (w : World) :
    ∀ (D : List (List UInt8 × Value)) (i : Nat), (∀ p ∈ D, p.1.length = n) → ∀ es : List MapEntry, es.map (fun m => (m.key, m.val)) = D.map (fun p => (.agg (bA p.1), p.2)) → (Instr.findAsking t (.agg (bA a)) es i).run P w = .ok (posB a D i) w
  | [], i, _, es, h => by
    have : es = [] := by simpa using h
    subst this
    rfl
  | p :: D, i, hD, es, h => by
    cases es with
    | nil => cases h
    | cons m es =>
      simp only [List.map_cons, List.cons.injEq, Prod.mk.injEq] at h
      obtain ⟨⟨h1, h2⟩, h3⟩ := h
      unfold Instr.findAsking posB
      rw [h1, Sem.run_bind, run_equalB ht he hs a p.1 ha (hD p (by simp)) w, Result.andThen_ok]
      cases hap : a == p.1 with
      | true => simp [h2]
      | false =>
        simp only [Bool.false_eq_true, if_false]
        exact run_asking ht he hs a ha w D (i + 1) (fun q hq => hD q (by simp [hq])) es h3
theorem run_findB {t e : TypeId} {n : Nat} (ht : P.underlying t = some (.array n e)) (he : P.underlying e = some (.int .u8)) (hs : (P.info? e).map (·.size) = some 1) (a : List UInt8) (ha : a.length = n) (w : World) (D : List (List UInt8 × Value)) (hD : ∀ p ∈ D, p.1.length = n) :
    (Instr.findKey t (.agg (bA a)) (entB D)).run P w = .ok (posB a D 0) w := by
  have hk := run_asking ht he hs a ha w D 0 hD (entB D) (by
    unfold entB
    rw [List.map_map]
    apply List.ext_getElem?
    intro i
    rw [List.getElem?_map, List.getElem?_map, List.getElem?_zipIdx]
    cases D[i]? <;> simp)
  unfold Instr.findKey
  simp only [Sem.run_bind, run_underlying ht, Result.andThen_ok]
  cases D with
  | nil => rfl
  | cons p D =>
    rw [show entB (p :: D) = ⟨.agg (bA p.1), p.2, 0⟩ :: (entB (p :: D)).tail from rfl, findNow_arr]
    exact hk
def mapB (n b : Nat) (D : List (List UInt8 × Value)) : Res where
  dom i := i = b
  holds w := w.heap[b]? = some (.map (entB D).toArray D.length) ∧ ∀ p ∈ D, p.1.length = n
  stable w w' h hh := ⟨(h b rfl).trans hh.1, hh.2⟩
def getB (a : List UInt8) (D : List (List UInt8 × Value)) (z : Value) : Value := (posB a D 0).elim z (·.2)
end
section
variable {P : Program} {N : Nat} {Q : Post} {env : Env} {w w0 : World} {M : Nat → Prop} {rs : List Res} {K : Env → World → Prop} {d : Tmp} {ty : TypeId} {pos : String} {after : Array Edge} {g : Option (Nat × Bool)} {dst : Option Tmp}
theorem getM {r : Nat} {es : Array MapEntry} {clock : Nat} (hb : w.heap[r]? = some (.map es clock)) : (getObj r).run P w = .ok (.map es clock) w := by
  simp [getObj, Sem.run, hb]
theorem setM {r : Nat} {es : Array MapEntry} {clock : Nat} (o : Obj) (hb : w.heap[r]? = some (.map es clock)) : (setObj r o).run P w = .ok () { w with heap := w.heap.setIfInBounds r o } := by
  simp [setObj, Sem.run, hb]
theorem y_lookB {t k e u : TypeId} {n b : Nat} {D : List (List UInt8 × Value)} {m x : Operand} {a : List UInt8} {z : Value} (hw : (mapB n b D).holds w) (ht : P.underlying t = some (.map k e)) (hk : P.underlying k = some (.array n u)) (hu : P.underlying u = some (.int .u8)) (hs : (P.info? u).map (·.size) = some 1)
    (hz : ∀ W, (zeroValue e).run P W = .ok z W) (hm : ev env m = some (.map (some b))) (hx : ev env x = some (.agg (bA a))) (ha : a.length = n) :
    Y P (Like w) env ⟨dst, .lookup t m x false, ty, pos, after, g⟩ (getB a D z) := fun N c w' hc hl => by
  have hh : w'.heap[b]? = some (.map (entB D).toArray D.length) := by
    have hb : b < w.heap.size := by
      rcases Nat.lt_or_ge b w.heap.size with q | q
      · exact q
      · have := hw.1; rw [Array.getElem?_eq_none q] at this; cases this
    rw [hl.block b hb]; exact hw.1
  have hf := run_findB (P := P) hk hu hs a ha w' D hw.2
  simp only [execOp, hc.eval hm, hc.eval hx, Instr.lookup, Sem.run_bind, run_underlying ht, Result.andThen_ok, getM hh, Sem.run_pure, run_checkB hk hu hs a ha w', hf]
  unfold getB
  cases posB a D 0 with
  | none => simp [hz]
  | some p => rfl
theorem o_makeMapB {t n : Nat} (S : St w0 M rs w) (hd : Nat.blt d N = true)
    (h : ∀ b w', w0.heap.size ≤ b → St w0 M (rs ++ [mapB n b []]) w' → K ((d, .map (some b)) :: env) w') :
    O P N Q ⟨some d, .makeMap t none, ty, pos, after, g⟩ env w K := fun a ha => by
  unfold Oper.wp execOp
  simp only [run_makeMap, Option.map_none, Sem.run_bind, Sem.run_pure, Result.andThen_ok]
  refine ⟨_, ha.put d _ hd, h _ _ S.size (S.new (like_alloc w _) _ ⟨heap_alloc_new w _, fun p hp => by cases hp⟩ fun i hi => ?_)⟩
  have hi' : i = w.heap.size := hi
  subst hi'
  exact ⟨Nat.le_refl _, by simp⟩
theorem set_map_other (w : World) (b : Nat) (o : Obj) (i : Nat) (h : i ≠ b) : ({ w with heap := w.heap.setIfInBounds b o } : World).heap[i]? = w.heap[i]? := by
  show (w.heap.setIfInBounds b o)[i]? = _
  rw [Array.getElem?_setIfInBounds_ne (Ne.symm h)]
theorem same_bits (a : List UInt8) : Instr.sameBits 10000 (.agg (bA a)) (.agg (bA a)) = true := by
  unfold Instr.sameBits
  simp only [BEq.rfl, Bool.true_and]
  rw [List.all_eq_true]
  intro p hp
  obtain ⟨i, hi, rfl⟩ := List.getElem_of_mem hp
  rw [List.getElem_zip]
  have h1 : i < (bA a).toList.length := by rw [List.length_zip] at hi; omega
  have hx : (bA a).toList[i] = .int .u8 ((a[i]'(by simpa [bA, bL] using h1)).toNat : Int) := by simp [bA, bL, bV]
  rw [hx]
  simp [Instr.sameBits]
/-- 'm[k]' as a place: what stood there, and its mark. -/
theorem o_entryB {t k e u : TypeId} {n b : Nat} {D : List (List UInt8 × Value)} {m x : Operand} {a : List UInt8} {z : Value} (S : St w0 M rs w) (j : Nat) (hj : rs[j]? = some (mapB n b D)) (ht : P.underlying t = some (.map k e)) (hk : P.underlying k = some (.array n u)) (hu : P.underlying u = some (.int .u8)) (hs : (P.info? u).map (·.size) = some 1)
    (hz : ∀ W, (zeroValue e).run P W = .ok z W) (hm : ev env m = some (.map (some b))) (hx : ev env x = some (.agg (bA a))) (ha : a.length = n) (hd : Nat.blt d N = true)
    (h1 : ∀ i v, posB a D 0 = some (i, v) → St w0 M rs w → K ((d, .tuple #[v, .int .i64 (i : Int)]) :: env) w)
    (h2 : posB a D 0 = none → ∀ w', St w0 M (rs.set j (mapB n b (D ++ [(a, z)]))) w' → K ((d, .tuple #[z, .int .i64 (D.length : Int)]) :: env) w') :
    O P N Q ⟨some d, .mapEntry t m x, ty, pos, after, g⟩ env w K := fun c hc => by
  have hw := S.get j hj
  have hf := run_findB (P := P) hk hu hs a ha w D hw.2
  unfold Oper.wp execOp
  simp only [hc.eval hm, hc.eval hx, Instr.mapEntry, Sem.run_bind, run_underlying ht, Result.andThen_ok, getM hw.1, Sem.run_pure, run_checkB hk hu hs a ha w, hf]
  cases hp : posB a D 0 with
  | some p =>
    obtain ⟨i, v⟩ := p
    obtain ⟨_, hi⟩ := posB_some hp
    rw [Nat.sub_zero] at hi
    have hg : (entB D).toArray[i]? = some ⟨.agg (bA a), v, i⟩ := by rw [List.getElem?_toArray, entB_get, hi]; rfl
    have hil := (Array.getElem?_eq_some_iff.1 hg).1
    have hget := (Array.getElem?_eq_some_iff.1 hg).2
    have hmod : ((entB D).toArray.modify i fun e => { e with key := Value.agg (bA a) }) = (entB D).toArray := by
      apply Array.ext_getElem?
      intro q
      rw [Array.getElem?_modify]
      split
      · rename_i e; subst e; rw [hg]; rfl
      · rfl
    have hsame : ({ w with heap := w.heap.setIfInBounds b (.map (entB D).toArray D.length) } : World) = w := by
      have : w.heap.setIfInBounds b (.map (entB D).toArray D.length) = w.heap := by
        apply Array.ext_getElem?
        intro q
        by_cases e : q = b
        · subst e
          have hq : q < w.heap.size := (Array.getElem?_eq_some_iff.1 hw.1).1
          rw [Array.getElem?_setIfInBounds_self_of_lt hq, hw.1]
        · rw [Array.getElem?_setIfInBounds_ne (Ne.symm e)]
      rw [this]
    simp only [hg, Option.map_some, Option.getD_some, Instr.keyThatStays, same_bits, if_true, Sem.run_pure, Sem.run_bind, Result.andThen_ok, hmod, setM _ hw.1, hsame]
    exact ⟨_, hc.put d _ hd, h1 i v hp S⟩
  | none =>
    have hnew : (entB D).toArray.push { key := Value.agg (bA a), val := z, born := D.length } = (entB (D ++ [(a, z)])).toArray := by
      unfold entB
      rw [List.zipIdx_append, List.map_append]
      simp
    simp only [hz, Sem.run_bind, Sem.run_pure, Result.andThen_ok, setM _ hw.1, hnew]
    refine ⟨_, hc.put d _ hd, h2 hp _ (S.upd j hj rfl rfl rfl (by simp) (fun i hi hn => set_map_other w b _ i hn) ⟨?_, fun p hp => ?_⟩ fun i hi => .inl hi)⟩
    · have hq : b < w.heap.size := (Array.getElem?_eq_some_iff.1 hw.1).1
      show (w.heap.setIfInBounds b _)[b]? = _
      rw [Array.getElem?_setIfInBounds_self_of_lt hq, List.length_append]
      rfl
    · rcases List.mem_append.1 hp with hp | hp
      · exact hw.2 p hp
      · obtain rfl := List.mem_singleton.1 hp
        exact ha
/-- What the place gets. -/
theorem o_entryStB {t : TypeId} {n b i : Nat} {D : List (List UInt8 × Value)} {m x v : Operand} {a : List UInt8} {old new : Value} (S : St w0 M rs w) (j : Nat) (hj : rs[j]? = some (mapB n b D)) (hi : D[i]? = some (a, old)) (hm : ev env m = some (.map (some b))) (hx : ev env x = some (.int .i64 (i : Int))) (hv : ev env v = some new)
    (h : ∀ w', St w0 M (rs.set j (mapB n b (D.set i (a, new)))) w' → K env w') :
    O P N Q ⟨none, .entryStore t m x v, ty, pos, after, g⟩ env w K := fun c hc => by
  have hw := S.get j hj
  have hil : i < D.length := (List.getElem?_eq_some_iff.1 hi).1
  have hfind : (entB D).toArray.findIdx? (fun e => ((e.born : Int) == (i : Int))) = some i := by
    rw [Array.findIdx?_eq_some_iff_getElem]
    have hg : ∀ q (hq : q < (entB D).toArray.size), ((entB D).toArray[q]).born = q := fun q hq => by
      have h1 : (entB D).toArray[q]? = some (entB D).toArray[q] := Array.getElem?_eq_getElem hq
      rw [List.getElem?_toArray, entB_get] at h1
      cases hD : D[q]? with
      | none => rw [hD] at h1; cases h1
      | some p => rw [hD] at h1; have h2 := Option.some.inj h1; rw [← h2]
    have hes : (entB D).toArray.size = D.length := by simp [entB_len]
    refine ⟨by omega, by rw [hg i (by omega)]; simp, fun q hq => ?_⟩
    rw [hg q (by omega)]
    simp
    omega
  have hnew : ((entB D).toArray.modify i fun e => { e with val := new }) = (entB (D.set i (a, new))).toArray := by
    apply Array.ext_getElem?
    intro q
    rw [Array.getElem?_modify, List.getElem?_toArray, List.getElem?_toArray, entB_get, entB_get, List.getElem?_set]
    split
    · rename_i e; subst e; first | (rw [if_pos hil, hi]; rfl) | (rw [hi]; rfl)
    · rfl
  have hai : (asInt (.int .i64 (i : Int))).run P w = .ok (i : Int) w := rfl
  unfold Oper.wp execOp
  simp only [hc.eval hm, hc.eval hx, hc.eval hv, Instr.entryStore, Sem.run_bind, getM hw.1, Result.andThen_ok, hai, Sem.run_pure, hfind, setM _ hw.1, hnew]
  refine ⟨env, hc, h _ (S.upd j hj rfl rfl rfl (by simp) (fun i hi hn => set_map_other w b _ i hn) ⟨?_, fun p hp => ?_⟩ fun i hi => .inl hi)⟩
  · have hq : b < w.heap.size := (Array.getElem?_eq_some_iff.1 hw.1).1
    show (w.heap.setIfInBounds b _)[b]? = _
    rw [Array.getElem?_setIfInBounds_self_of_lt hq, List.length_set]
  · rcases List.mem_or_eq_of_mem_set hp with hp | rfl
    · exact hw.2 p hp
    · exact hw.2 (a, old) (List.mem_of_getElem? hi)
/-- A slice as a pointer to an array. -/
theorem y_arrAt {t e : TypeId} {n m c : Nat} {A : Option Addr} {x : Operand} {S : World → Prop} (ht : P.underlying t = some (.array n e)) (hx : ev env x = some (.slice A m c)) (hn : n ≤ m) :
    Y P S env ⟨dst, .sliceToArrayPointer t x, ty, pos, after, g⟩ (.pointer A) := fun N c w hc _ => by
  simp only [execOp, hc.eval hx, Instr.arrayAt, Sem.run_bind, run_underlying ht, Result.andThen_ok]
  rw [if_neg (by omega)]
  simp only [Sem.run_bind, Sem.run_pure, Result.andThen_ok]
end
end Go.Proofs.Ytmgimcdkeelnpaa.Zx
