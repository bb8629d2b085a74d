import Derived.Test.YtpcgldkllnkaeaaMgMakes1
import Derived.Maps.RangeWalk
import Derived.Maps.OwnOps
import Derived.Maps.OwnSet
import Derived.ArgAppend
import Derived.Scope
import Derived.Test.YtpcgldkllnkaeaaRows
import Derived.Laws.StructEq
/-
  Maps that the call makes: integer elements. General; nothing here names a program.
-/
namespace Go.Proofs.Ytpcgldkllnkaeaa.Zx
open Go.RowKit Zk
set_option linter.unusedVariables false
set_option linter.unusedSimpArgs false
abbrev DU := DataW Unit
/-- A map of the call's own that reads as D. -/
def mapR (P : Program) (k e : TypeId) (b n : Nat) (D : DU) : Res where
  dom i := i = b
  holds w := w.ownsMap P k (plainElem P e) b n D
  stable w w' h hh := by
    obtain ⟨es, clock, hb, rest⟩ := hh
    exact ⟨es, clock, (h b rfl).trans hb, rest⟩
/-- The same while a loop goes through it. -/
def rngR (P : Program) (k e : TypeId) (b r n : Nat) (D : DU) (left : Lit → Bool) (cnt : Nat) : Res where
  dom i := i = b ∨ i = r
  holds w := w.ranges P k (plainElem P e) b r n D left cnt
  stable w w' h hh := by
    obtain ⟨es, clock, since, seen, c0, hb, F, hs, hD, hr, rest⟩ := hh
    exact ⟨es, clock, since, seen, c0, (h b (.inl rfl)).trans hb, F, hs, hD, (h r (.inr rfl)).trans hr, rest⟩
section
variable {P : Program} {w w' w0 : World} {M : Nat → Prop} {rs : List Res} {k e : TypeId}
/-- Old memory that the call does not write to. -/
theorem St.keepM (S : St w0 M rs w) {r : Res} (h : r.holds w0) (hd : ∀ i, r.dom i → i < w0.heap.size) (hM : ∀ i, r.dom i → ¬ M i) : r.holds w := r.stable w0 w (fun i hi => S.old i (hd i hi) (hM i hi)) h
theorem mapR_lt {b n : Nat} {D : DU} (h : (mapR P k e b n D).holds w) : ∀ i, (mapR P k e b n D).dom i → i < w.heap.size := fun i hi => by
  have hi' : i = b := hi
  subst hi'
  exact World.ownsMap.lt h
/-- A map that is not written goes on being a map. -/
theorem St.maps (S : St w0 M rs w) (j : Nat) {b r n cnt : Nat} {D : DU} {left : Lit → Bool} (hj : rs[j]? = some (rngR P k e b r n D left cnt)) : St w0 M (rs.set j (mapR P k e b n D)) w :=
  S.upd j hj rfl rfl rfl (Nat.le_refl _) (fun _ _ _ => rfl) (World.ranges.owns (S.get j hj)) fun i hi => .inl (.inl hi)
end
section
variable {P : Program} {N : Nat} {Q : Post} {env : Env} {w w0 : World} {M : Nat → Prop} {rs : List Res} {K : Env → World → Prop} {d : Tmp} {dst : Option Tmp} {ty : TypeId} {pos : String} {after : Array Edge} {g : Option (Nat × Bool)}
/-- 'make(map[K]V)' -/
theorem o_makeMap {t k e : TypeId} (S : St w0 M rs w) (hd : Nat.blt d N = true)
    (h : ∀ b w', w0.heap.size ≤ b → St w0 M (rs ++ [mapR P k e b 0 (.map [])]) w' → K ((d, .map (some b)) :: env) w') :
    O P N Q ⟨some d, .makeMap t none, ty, pos, after, g⟩ env w K := fun a ha => by
  unfold Oper.wp execOp
  simp only [run_makeMap, Option.map_none, Sem.run_bind, Sem.run_pure, Result.andThen_ok]
  refine ⟨_, ha.put d _ hd, h _ _ S.size (S.new (like_alloc w _) _ (World.ownsMap_made w P k (plainElem P e)) fun i hi => ?_)⟩
  have hi' : i = w.heap.size := hi
  subst hi'
  exact ⟨Nat.le_refl _, (World.ownsMap_made (H := Unit) w P k (plainElem P e)).lt⟩
/-- 'm[k]' -/
theorem y_look {t k e : TypeId} {q : IntKind} {b n : Nat} {D : DU} {m x : Operand} {key : Value} {kl : Lit} {c : Int} (hown : w.ownsMap P k (plainElem P e) b n D) (KY : Maps.Keyed P k) (ht : P.underlying t = some (.map k e)) (he : P.underlying e = some (.int q))
    (hz : ∀ w, (zeroValue e).run P w = .ok (.int q 0) w) (hm : ev env m = some (.map (some b))) (hx : ev env x = some key) (hkey : keyOf P k key = some kl) (hc : D.atKey kl (.lit (.int q 0)) = .lit (.int q c)) :
    Y P (Like w) env ⟨dst, .lookup t m x false, ty, pos, after, g⟩ (.int q c) := fun N a w' ha hw => by
  have h2 : w'.ownsMap P k (plainElem P e) b n D := (mapR P k e b n D).stable w w' (fun i hi => by have hi' : i = b := hi; subst hi'; exact hw.block i hown.lt) hown
  obtain ⟨c', hrun, hat, _⟩ := h2.lookup_int KY ht he (hz w') hkey
  rw [hc] at hat
  simp only [DataW.lit.injEq, Lit.int.injEq, true_and] at hat
  subst hat
  simp only [execOp, ha.eval hm, ha.eval hx, Sem.run_bind, hrun, Sem.run_pure, Result.andThen_ok]
/-- 'm[k] = v' -/
theorem o_mapUp {t k e : TypeId} {q : IntKind} {b n : Nat} {D : DU} {m x v : Operand} {key : Value} {kl : Lit} {c : Int} (S : St w0 M rs w) (j : Nat) (hj : rs[j]? = some (mapR P k e b n D)) (KY : Maps.Keyed P k) (ht : P.underlying t = some (.map k e)) (he : P.underlying e = some (.int q))
    (hm : ev env m = some (.map (some b))) (hx : ev env x = some key) (hv : ev env v = some (.int q c)) (hkey : keyOf P k key = some kl) (hn : n < 9223372036854775807) (hw : (Lit.int q c).wf = true)
    (h : ∀ w', St w0 M (rs.set j (mapR P k e b (n + 1) (D.put kl (.lit (.int q c))))) w' → K env w') :
    O P N Q ⟨none, .mapUpdate t m x v, ty, pos, after, g⟩ env w K := fun a ha => by
  have hown : w.ownsMap P k (plainElem P e) b n D := S.get j hj
  obtain ⟨w', hrun, h1, h2⟩ := hown.update KY ht (by unfold maxLen; exact hn) hkey (plainElem_int (H := Unit) he hw)
  unfold Oper.wp
  simp only [execOp, ha.eval hm, ha.eval hx, ha.eval hv, Sem.run_bind, hrun, Sem.run_pure, Result.andThen_ok]
  refine ⟨env, ha, h w' (S.upd j hj h2.os h2.tape h2.output h2.size (fun i hi hn => h2.block i hi fun e => hn ?_) h1 fun i hi => .inl hi)⟩
  injection e with e
/-- 'range m' -/
theorem o_range {t k e : TypeId} {b n : Nat} {D : DU} {m : Operand} (S : St w0 M rs w) (j : Nat) (hj : rs[j]? = some (mapR P k e b n D)) (KY : Maps.Keyed P k) (ht : P.underlying t = some (.map k e)) (hm : ev env m = some (.map (some b))) (hd : Nat.blt d N = true)
    (h : ∀ r w', St w0 M (rs.set j (rngR P k e b r n D (Maps.has D) (Maps.size D))) w' → K ((d, .pointer (some ⟨r, 0, none⟩)) :: env) w') :
    O P N Q ⟨some d, .range t m, ty, pos, after, g⟩ env w K := fun a ha => by
  have hown : w.ownsMap P k (plainElem P e) b n D := S.get j hj
  obtain ⟨w', hrun, h1, h2, h3⟩ := hown.range KY ht
  unfold Oper.wp
  simp only [execOp, ha.eval hm, Sem.run_bind, hrun, Sem.run_pure, Result.andThen_ok]
  refine ⟨_, ha.put d _ hd, h _ w' (S.upd j hj h2.os h2.tape h2.output h2.size (fun i hi hn => h2.block i hi (by simp)) h1 fun i hi => ?_)⟩
  rcases hi with hi | hi
  · exact .inl hi
  · subst hi
    exact .inr ⟨Nat.le_refl _, by omega⟩
/-- The step: string keys, integer elements. -/
theorem o_next {k e : TypeId} {q : IntKind} {b r n cnt : Nat} {D : DU} {left : Lit → Bool} {it : Operand} (S : St w0 M rs w) (j : Nat) (hj : rs[j]? = some (rngR P k e b r n D left cnt)) (KY : Maps.Keyed P k) (hk : P.underlying k = some .string) (he : P.underlying e = some (.int q))
    (hit : ev env it = some (.pointer (some ⟨r, 0, none⟩))) (hd : Nat.blt d N = true)
    (h0 : (∀ kl, left kl = false) → K ((d, .tuple #[.bool false]) :: env) w)
    (h1 : ∀ (s : ByteArray) (c : Int) (cnt' : Nat) w', left (.string s.data.toList) = true → (∀ zd, D.atKey (.string s.data.toList) zd = .lit (.int q c)) → s.size ≤ maxLen → cnt' < cnt →
      St w0 M (rs.set j (rngR P k e b r n D (fun z => left z && !z.sameKey (.string s.data.toList)) cnt')) w' → (Instr.entry (.pointer (some ⟨r, 0, none⟩))).run P w' = .ok (.tuple #[.string s, .int q c]) w' →
      K ((d, .tuple #[.bool true, .string s, .int q c]) :: env) w') :
    O P N Q ⟨some d, .next it false, ty, pos, after, g⟩ env w K := fun a ha => by
  have hr : w.ranges P k (plainElem P e) b r n D left cnt := S.get j hj
  unfold Oper.wp
  rcases hr.next KY ty with ⟨_, hl, hrun⟩ | ⟨key, v, kl, y, w', cnt', hkey, hlk, hv, hat, hrun, hrg, hlt, hgr, hsz, hen⟩
  · simp only [execOp, ha.eval hit, Sem.run_bind, hrun, Sem.run_pure, Result.andThen_ok]
    exact ⟨_, ha.put d _ hd, h0 hl⟩
  · obtain ⟨c, rfl, hy, hwc⟩ := plainElem_int_inv he hv
    obtain ⟨s, rfl, rfl, hs⟩ : ∃ s : ByteArray, key = .string s ∧ kl = .string s.data.toList ∧ s.size ≤ maxLen := by
      cases key <;> simp [keyOf, hk, mapKey] at hkey
      exact ⟨_, rfl, hkey.2.symm, hkey.1⟩
    simp only [execOp, ha.eval hit, Sem.run_bind, hrun, Sem.run_pure, Result.andThen_ok]
    refine ⟨_, ha.put d _ hd, h1 s c cnt' w' hlk (fun zd => by rw [hat zd, hy]) hs hlt (S.upd j hj hgr.os hgr.tape hgr.output hgr.size (fun i hi hn => hgr.block i hi fun e => hn (.inr (by injection e))) hrg fun i hi => .inl hi) hen⟩
/-- The round's key and element. -/
theorem o_entry {it : Operand} {r : Nat} {u v : Value} (hit : ev env it = some (.pointer (some ⟨r, 0, none⟩))) (hen : (Instr.entry (.pointer (some ⟨r, 0, none⟩))).run P w = .ok (.tuple #[u, v]) w) (hd : Nat.blt d N = true)
    (h : K ((d, .tuple #[u, v]) :: env) w) : O P N Q ⟨some d, .entry it, ty, pos, after, g⟩ env w K := fun a ha => by
  unfold Oper.wp
  simp only [execOp, ha.eval hit, Sem.run_bind, hen, Sem.run_pure, Result.andThen_ok]
  exact ⟨_, ha.put d _ hd, h⟩
/-- 'x[k].f = v' in a row of the call's own. -/
theorem o_strowN {st : TypeId} {x y : Operand} {e size n c k : Nat} {A : Option Addr} {xs : List Value} {v : Value} (S : St w0 M rs w) (i : Nat) (hk : rs[i]? = some (row e size A n c xs)) (hx : ev env x = some (pRF A k)) (hy : ev env y = some v)
    (hv : v.oneCell' = true) (hsz : (P.info? st).map (·.size) = some 1) (hkn : k < n * size)
    (h : ∀ w', St w0 M (rs.set i (row e size A n c (xs.set k v))) w' → K env w') : O P N Q ⟨none, .store st x y, ty, pos, after, g⟩ env w K := fun a ha => by
  have hown : w.ownsRow 0 e size (.slice A n c) n xs := S.get i hk
  have hn0 : 0 < n := by
    rcases Nat.eq_zero_or_pos n with h0 | h0
    · subst h0; simp at hkn
    · exact h0
  obtain ⟨b, cap, hv', _, hlt⟩ := hown.form hn0
  injection hv' with hA _ hcap
  subst hA; subst hcap
  have hxa : a.eval x = .pointer (some ⟨b, k, none⟩) := by
    rw [ha.eval hx]
    simp [pRF, Addr.add_mid]
  have hxl : xs.length = n * size := hown.1
  have hc : w.cell? ⟨b, k, none⟩ = some (xs[k]'(by omega)) := (hown.cellAt k (by omega)).trans (List.getElem?_eq_getElem (by omega))
  have hf : w.frozen? ⟨b, k, none⟩ = false := hown.frozenAt k
  have hr : (storeVar st ⟨b, k, none⟩ v).run P w = .ok () (w.setCell ⟨b, k, none⟩ v) := by
    simp only [storeVar, Sem.run_bind, sizeOf_run hsz, cells_one hv, Result.andThen_ok]
    simp [storeCells, hv, stored, hc, hf, run_store, go_sem]
  unfold Oper.wp execOp
  simp only [hxa, ha.eval hy, Instr.storeAt, Instr.sureAddr, Sem.run_bind, Sem.run_pure, Result.andThen_ok, hr]
  refine ⟨env, ha, h _ (S.upd i hk rfl rfl rfl (by simp) (fun j hj hn => Below.heap_setCell w ⟨b, k, none⟩ v j (fun e => hn (by simp [row, Value.ownBlock, e]))) ?_ fun j hj => .inl hj)⟩
  exact (hown.stored k v).1
end
end Go.Proofs.Ytpcgldkllnkaeaa.Zx

/-
  Appends onto a row of the call's own, where the old slice is still read afterwards. General; nothing here names a program.
-/
namespace Go.Proofs.Ytpcgldkllnkaeaa.Zx
open Go.RowKit Zk
set_option linter.unusedVariables false
set_option linter.unusedSimpArgs false
section
variable {P : Program} {t e : TypeId} {z : Value} {size bytes : Nat}
theorem own_weak {w : World} {base : Nat} {v : Value} {n : Nat} {xs : List Value} (h : w.ownsRow base e size v n xs) : w.ownsRow 0 e size v n xs :=
  ⟨h.1, h.2.imp id fun ⟨g, cap, cur, a, _, c⟩ => ⟨g, cap, cur, a, Nat.zero_le _, c⟩⟩
theorem run_append_keep (w : World) (T : Elem P t e z size bytes) {A : Option Addr} {n c : Nat} {xs : List Value} (hown : w.ownsRow 0 e size (.slice A n c) n xs)
    {A' : Option Addr} {m c' : Nat} {news : List Value} (hr : Rs w size A' m c' news) (h1 : ∀ u ∈ news, u.oneCell' = true) (h63 : n + m ≤ maxLen) (hbytes : (n + m) * bytes ≤ 140737488355328) (ty : TypeId) :
    ∃ A2 c2 w', (Builtin.append_ #[t, t] ty #[.slice A n c, .slice A' m c']).run P w = .ok (.slice A2 (n + m) c2) w' ∧ w'.ownsRow 0 e size (.slice A2 (n + m) c2) (n + m) (xs ++ news) ∧ w.grownBy w' (Value.slice A n c).ownBlock ∧
      ((Value.slice A2 (n + m) c2).ownBlock = (Value.slice A n c).ownBlock ∨ ∀ i, (Value.slice A2 (n + m) c2).ownBlock = some i → w.heap.size ≤ i) ∧ Rs w' size A n c xs := by
  obtain ⟨i, hi, hz, hsize, hby⟩ := info_parts T.hi
  have hold := rs_of_row hown
  have hol := hold.len
  rcases Nat.eq_zero_or_pos n with hn | hn
  · obtain ⟨v', w', hrun, h2, h3, h4⟩ := run_append_any w 0 t ty e i z size bytes T.ht hi hz hsize hby T.hzs T.hsz _ n xs hown _ A' m c' news hr.rd h1 h63 hbytes (Nat.zero_le _)
    obtain ⟨A2, c2, rfl⟩ := own_form h2
    exact ⟨A2, c2, w', hrun, h2, h3, h4.imp id (fun e i hi => by rw [e] at hi; cases hi; exact Nat.le_refl _), ⟨hol, fun h => absurd h (by omega)⟩, hold.cap, hold.max⟩
  · obtain ⟨g, cap, hv, _, hlt⟩ := hown.form hn
    cases hv
    rcases A' with _ | ad
    · have hm : m = 0 := by
        rcases Nat.eq_zero_or_pos m with h0 | h0
        · exact h0
        · obtain ⟨ad, h, _⟩ := hr.rd.2 h0
          cases h
      subst hm
      have hn : news = [] := List.eq_nil_of_length_eq_zero (by simpa using hr.len)
      subst hn
      exact ⟨_, _, w, run_append_of_nil w 0 t ty e i size T.ht hi _ n xs hown c', by simpa using hown, World.grownBy.refl w _, .inl rfl, hold⟩
    · have hcells : ∀ j u, news[j]? = some u → w.cell? (ad.add j) = some u := by
        intro j u hu
        rcases Nat.eq_zero_or_pos m with h0 | h0
        · subst h0
          have hn : news = [] := List.eq_nil_of_length_eq_zero (by simpa using hr.len)
          subst hn
          simp at hu
        · obtain ⟨ad', h, _, hc⟩ := hr.rd.2 h0
          injection h with h
          subst h
          exact hc j u hu
      by_cases hroom : n + m ≤ c
      · obtain ⟨w', hrun, h2, h3⟩ := run_append_fits (P := P) w 0 t ty e i size T.ht hi hsize g n c xs hown ad m c' news hr.len hcells h1 hroom
        refine ⟨_, _, w', hrun, h2, h3, .inl rfl, ⟨hol, fun hp => ?_⟩, hold.cap, hold.max⟩
        obtain ⟨ad2, hA, hb, hc⟩ := (rs_of_row h2).rd.2 (by omega)
        exact ⟨ad2, hA, hb, fun j u hu => hc j u (by rw [List.getElem?_append_left (List.getElem?_eq_some_iff.1 hu).1]; exact hu)⟩
      · obtain ⟨ad2, hA, hb, hc⟩ := hold.rd.2 hn
        cases hA
        obtain ⟨v', w', hrun, h2, h3⟩ := run_append_arg_grows (P := P) w t ty e i z size bytes T.ht hi hz hsize hby T.hzs T.hsz ⟨g, 0, none⟩ n c xs hol hc ad m c' news hr.len hcells (by omega) h63 hbytes
        obtain ⟨A2, c2, rfl⟩ := own_form h2
        refine ⟨A2, c2, w', hrun, own_weak h2, ⟨h3.os, h3.tape, h3.output, h3.size, fun k hk _ => h3.block k hk (by simp)⟩, ?_, hold.like (like_grown h3)⟩
        exact .inr fun i hi => (h2.lt i hi).1
variable {N : Nat} {Q : Post} {K : Env → World → Prop} {env : Env} {w0 w : World} {M : Nat → Prop} {rs : List Res} {d : Tmp} {ty : TypeId} {pos : String} {after : Array Edge} {g : Option (Nat × Bool)}
/-- append onto a row of the call's own; the old slice still reads as it did. -/
theorem o_appK {s x : Operand} (TE : Elem P t e z size bytes) (S : St w0 M rs w) (k : Nat) {A : Option Addr} {n c : Nat} {xs : List Value} (hk : rs[k]? = some (row e size A n c xs))
    (hs : ev env s = some (.slice A n c)) {A' : Option Addr} {m c' : Nat} {news : List Value} (hx : ev env x = some (.slice A' m c')) (hr : Rs w size A' m c' news) (h1 : ∀ u ∈ news, u.oneCell' = true)
    (hd : Nat.blt d N = true) (hbytes : (n + m) * bytes ≤ 140737488355328) (h63 : n + m ≤ 9223372036854775807)
    (h : ∀ A2 c2 w', St w0 M (rs.set k (row e size A2 (n + m) c2 (xs ++ news))) w' → Rs w' size A n c xs → K ((d, .slice A2 (n + m) c2) :: env) w') :
    O P N Q ⟨some d, .call { callee := .builtin .append, args := #[s, x], argTypes := #[t, t] }, ty, pos, after, g⟩ env w K := fun a ha => by
  have hown : w.ownsRow 0 e size (.slice A n c) n xs := S.get k hk
  obtain ⟨A2, c2, w', hrun, h2, h3, h4, h5⟩ := run_append_keep w TE hown hr h1 h63 hbytes ty
  unfold Oper.wp execOp
  simp only [resolve, invoke, builtin, Sem.run_bind, Sem.run_pure, Result.andThen_ok, List.map_toArray, List.map_cons, List.map_nil, ha.eval hs, ha.eval hx, hrun]
  refine ⟨_, ha.put d _ hd, h A2 c2 w' ?_ h5⟩
  refine S.upd k hk h3.os h3.tape h3.output h3.size (fun i hi hn => h3.block i hi (fun e => hn e.symm)) h2 fun i hi => ?_
  change (Value.slice A2 (n + m) c2).ownBlock = some i at hi
  rcases h4 with h4 | h4
  · left; rw [h4] at hi; exact hi
  · right
    exact ⟨h4 i hi, (h2.lt _ hi).2⟩
theorem T_label {l : Nat} {c : Exit → Env → World → Prop} (h : c .normal env w) : T P N (.label l) c env w := fun a ha => wp_label ⟨env, ha, h⟩
/-- A scope through which nothing jumps. -/
theorem T_scope {c : Code} (hng : ∀ l e w, Q (.goto l) e w → False) (h : T P N c Q env w) : T P N (.scope c) Q env w := fun a ha =>
  wp_scope_straight (Code.wp_mono (by
    intro e a w h
    cases e with
    | goto l =>
      obtain ⟨e', _, h2⟩ := h
      exact (hng _ _ _ h2).elim
    | normal => exact h
    | exit i => exact h
    | ret => exact h
    | panic c => exact h
    | outgrown => exact h) (h a ha))
end
end Go.Proofs.Ytpcgldkllnkaeaa.Zx

/-
  Many blocks as one piece; two pieces as one, apart from each other; slices with a bound. General; nothing here names a program.
-/
namespace Go.Proofs.Ytpcgldkllnkaeaa.Zx
open Go.RowKit Zk
set_option linter.unusedVariables false
set_option linter.unusedSimpArgs false
/-- Blocks known whole, by their numbers. -/
def heapR (t : Nat) (ss : Nat → Option (Array Value)) : Res where
  dom i := (ss i).isSome = true
  holds w := ∀ i cur, ss i = some cur → Blk w i t cur
  stable w w' h hh := fun i cur hi => (h i (by simp [hi])).trans (hh i cur hi)
def upd (ss : Nat → Option (Array Value)) (b : Nat) (cur : Array Value) : Nat → Option (Array Value) := fun i => if i = b then some cur else ss i
theorem upd_same (ss : Nat → Option (Array Value)) (b : Nat) (cur : Array Value) : upd ss b cur b = some cur := by unfold upd; rw [if_pos rfl]
theorem upd_ne {ss : Nat → Option (Array Value)} {b i : Nat} {cur : Array Value} (h : i ≠ b) : upd ss b cur i = ss i := by unfold upd; rw [if_neg h]
theorem heapR_none (t : Nat) (w : World) : (heapR t fun _ => none).holds w := fun i cur h => by cases h
/-- What lies in a block reads. -/
theorem heapR_rs {t : Nat} {ss : Nat → Option (Array Value)} {w : World} (h : (heapR t ss).holds w) {b o n c : Nat} {cur : Array Value} {xs : List Value} (hb : ss b = some cur) (hx : xs.length = n) (hcell : ∀ j u, xs[j]? = some u → cur[o + j]? = some u) (hnc : n ≤ c) (hc : c ≤ 9223372036854775807) :
    Rs w 1 (some ⟨b, o, none⟩) n c xs :=
  ⟨⟨by omega, fun hn => ⟨_, rfl, (h b cur hb).lt, fun j u hu => by rw [Addr.add_lit]; exact ((h b cur hb).cell (o + j)).trans (hcell j u hu)⟩⟩, hnc, hc⟩
/-- Two pieces as one, apart from each other. -/
def sep (r s : Res) : Res where
  dom i := r.dom i ∨ s.dom i
  holds w := r.holds w ∧ s.holds w ∧ ∀ i, r.dom i → ¬ s.dom i
  stable w w' h hh := ⟨r.stable w w' (fun i hi => h i (.inl hi)) hh.1, s.stable w w' (fun i hi => h i (.inr hi)) hh.2.1, hh.2.2⟩
section
variable {w0 w w' : World} {M : Nat → Prop} {rs : List Res}
theorem St.sepj {r s : Res} (S : St w0 M (rs ++ [r, s]) w) : St w0 M (rs ++ [sep r s]) w :=
  ⟨S.os, S.tape, S.output, S.size, S.old, fun q hq => by
    rcases List.mem_append.1 hq with hq | hq
    · exact S.res q (List.mem_append_left _ hq)
    · obtain rfl := List.mem_singleton.1 hq
      have h1 := S.res r (by simp)
      have h2 := S.res s (by simp)
      have h := S.apart
      rw [List.pairwise_append, List.pairwise_cons] at h
      exact ⟨⟨h1.1, h2.1, h.2.1.1 s (by simp)⟩, fun i hi => by rcases hi with hi | hi; exact h1.2 i hi; exact h2.2 i hi⟩, by
    have h := S.apart
    rw [List.pairwise_append] at h ⊢
    refine ⟨h.1, List.pairwise_singleton _ _, fun a ha b hb i hi => ?_⟩
    obtain rfl := List.mem_singleton.1 hb
    intro hx
    rcases hx with hx | hx
    · exact h.2.2 a ha r (by simp) i hi hx
    · exact h.2.2 a ha s (by simp) i hi hx⟩
theorem St.seps {r s : Res} (S : St w0 M (rs ++ [sep r s]) w) : St w0 M (rs ++ [r, s]) w := by
  have h := S.res (sep r s) (by simp)
  have hp := S.apart
  rw [List.pairwise_append] at hp
  refine ⟨S.os, S.tape, S.output, S.size, S.old, fun q hq => ?_, ?_⟩
  · rcases List.mem_append.1 hq with hq | hq
    · exact S.res q (List.mem_append_left _ hq)
    · rcases List.mem_cons.1 hq with rfl | hq
      · exact ⟨h.1.1, fun i hi => h.2 i (.inl hi)⟩
      · obtain rfl := List.mem_singleton.1 hq
        exact ⟨h.1.2.1, fun i hi => h.2 i (.inr hi)⟩
  · rw [List.pairwise_append, List.pairwise_cons]
    refine ⟨hp.1, ⟨fun b hb => ?_, List.pairwise_singleton _ _⟩, fun a ha b hb i hi hx => ?_⟩
    · obtain rfl := List.mem_singleton.1 hb
      exact h.1.2.2
    · rcases List.mem_cons.1 hb with rfl | hb
      · exact hp.2.2 a ha _ (List.mem_singleton_self _) i hi (.inl hx)
      · obtain rfl := List.mem_singleton.1 hb
        exact hp.2.2 a ha _ (List.mem_singleton_self _) i hi (.inr hx)
theorem St.turnedS {r s r' s' : Res} (S : St w0 (fun i => r.dom i ∨ s.dom i) [r', s'] w) : Turned w0 w (sep r s) (sep r' s') := by
  have S2 : St w0 (fun i => r.dom i ∨ s.dom i) ([] ++ [sep r' s']) w := St.sepj (rs := []) S
  have h := S2.res (sep r' s') (by simp)
  exact ⟨S.os, S.tape, S.output, S.size, S.old, h.1, fun i hi => by
    have h2 := h.2 i hi
    rcases h2.2 with h3 | h3
    · exact .inr ⟨h3, h2.1⟩
    · exact .inl h3⟩
/-- A new row is one block more. -/
theorem heap_join {t : Nat} {ss : Nat → Option (Array Value)} {b n c : Nat} {xs : List Value} (S : St w0 M (rs ++ [heapR t ss, row t 1 (some ⟨b, 0, none⟩) n c xs]) w) :
    ∃ cur, cur.size = c ∧ ss b = none ∧ c ≤ 9223372036854775807 ∧ St w0 M (rs ++ [heapR t (upd ss b cur)]) w := by
  have hr := S.res (row t 1 (some ⟨b, 0, none⟩) n c xs) (by simp)
  have hh := S.res (heapR t ss) (by simp)
  have hp := S.apart
  rw [List.pairwise_append, List.pairwise_cons] at hp
  have hno : ss b = none := by
    cases hb : ss b with
    | none => rfl
    | some cur => exact (hp.2.1.1 _ (List.mem_singleton_self _) b (by simp [heapR, hb]) rfl).elim
  rcases hr.1.2 with ⟨h, _⟩ | ⟨g, cap, cur, h, _, hg, hnc, hcm, hcs, _⟩
  · cases h
  · cases h
    refine ⟨cur, by omega, hno, by unfold maxLen at hcm; exact hcm, S.os, S.tape, S.output, S.size, S.old, fun q hq => ?_, ?_⟩
    · rcases List.mem_append.1 hq with hq | hq
      · exact S.res q (List.mem_append_left _ hq)
      · obtain rfl := List.mem_singleton.1 hq
        refine ⟨fun i cur' hi => ?_, fun i hi => ?_⟩
        · by_cases e : i = b
          · subst e
            rw [upd_same] at hi
            cases hi
            exact hg
          · rw [upd_ne e] at hi
            exact hh.1 i cur' hi
        · by_cases e : i = b
          · subst e
            exact hr.2 i rfl
          · refine hh.2 i ?_
            have hi' : (upd ss b cur i).isSome = true := hi
            rw [upd_ne e] at hi'
            exact hi'
    · rw [List.pairwise_append]
      refine ⟨hp.1, List.pairwise_singleton _ _, fun a ha q hq i hi hx => ?_⟩
      obtain rfl := List.mem_singleton.1 hq
      by_cases e : i = b
      · subst e
        exact hp.2.2 a ha _ (List.mem_cons_of_mem _ (List.mem_singleton_self _)) i hi rfl
      · have hi' : (upd ss b cur i).isSome = true := hx
        rw [upd_ne e] at hi'
        exact hp.2.2 a ha (heapR t ss) List.mem_cons_self i hi hi'
end
section
variable {P : Program} {S : World → Prop} {N : Nat} {Q : Post} {K : Env → World → Prop} {env : Env} {w0 w : World} {M : Nat → Prop} {rs : List Res} {dst : Option Tmp} {d : Tmp} {ty : TypeId} {pos : String} {after : Array Edge} {g : Option (Nat × Bool)}
/-- A store into one of many blocks. -/
theorem o_stH {st : TypeId} {x y : Operand} {b o t : Nat} {ss : Nat → Option (Array Value)} {cs : Array Value} {v : Value} (S : St w0 M rs w) (k : Nat) (hk : rs[k]? = some (heapR t ss)) (hs : ss b = some cs) (hx : ev env x = some (.pointer (some ⟨b, o, none⟩))) (hy : ev env y = some v)
    (hv : v.oneCell' = true) (hsz : (P.info? st).map (·.size) = some 1) (ho : o < cs.size)
    (h : ∀ w', St w0 M (rs.set k (heapR t (upd ss b (cs.setIfInBounds o v)))) w' → K env w') : O P N Q ⟨none, .store st x y, ty, pos, after, g⟩ env w K := fun a ha => by
  have hH : (heapR t ss).holds w := S.get k hk
  have hB : Blk w b t cs := hH b cs hs
  have hc : w.cell? ⟨b, o, none⟩ = some cs[o] := (hB.cell o).trans (Array.getElem?_eq_getElem ho)
  have hr : (storeVar st ⟨b, o, none⟩ v).run P w = .ok () (w.setCell ⟨b, o, none⟩ v) := by
    simp only [storeVar, Sem.run_bind, sizeOf_run hsz, cells_one hv, Result.andThen_ok]
    simp [storeCells, hv, stored, hc, hB.frozen o, run_store, go_sem]
  unfold Oper.wp execOp
  simp only [ha.eval hx, ha.eval hy, Instr.storeAt, Instr.sureAddr, Sem.run_bind, Sem.run_pure, Result.andThen_ok, hr]
  have hdom : ∀ i, (heapR t (upd ss b (cs.setIfInBounds o v))).dom i → (heapR t ss).dom i := fun i hi => by
    by_cases e : i = b
    · subst e; show (ss i).isSome = true; rw [hs]; rfl
    · have hi' : (upd ss b (cs.setIfInBounds o v) i).isSome = true := hi
      rw [upd_ne e] at hi'
      exact hi'
  refine ⟨env, ha, h _ (S.upd k hk rfl rfl rfl (by simp) (fun i hi hn => Below.heap_setCell w ⟨b, o, none⟩ v i (fun e => hn (show (ss i).isSome = true by rw [show i = b from e, hs]; rfl))) (fun i cur hi => ?_) fun i hi => .inl (hdom i hi))⟩
  by_cases e : i = b
  · subst e
    rw [upd_same] at hi
    cases hi
    exact hB.set_ o v
  · rw [upd_ne e] at hi
    exact (Below.heap_setCell w ⟨b, o, none⟩ v i e).trans (hH i cur hi)
/-- A slice with a bound. -/
theorem y_sliceX {x : Operand} {t e : TypeId} {A : Option Addr} {n c l u m size : Nat} {kl kh km : IntKind} {jl jh jm : Int} {i j k : Operand} (ht : P.underlying t = some (.slice e)) (hsz : (P.info? e).map (·.size) = some size) (hx : ev env x = some (.slice A n c))
    (hi : ev env i = some (.int kl jl)) (hj : ev env j = some (.int kh jh)) (hm : ev env k = some (.int km jm)) (el : jl = (l : Int)) (eu : jh = (u : Int)) (em : jm = (m : Int)) (h1 : l ≤ u) (h2 : u ≤ m) (h3 : m ≤ c) :
    Y P S env ⟨dst, .slice t x (some i) (some j) (some k), ty, pos, after, g⟩ (.slice (cutA A m l size) (u - l) (m - l)) := fun N a w' ha _ => by
  subst el; subst eu; subst em
  have he : P.elem t = e := by simp [Program.elem, ht]
  have h4 := run_slice_lhm (P := P) (w := w') (t := t) (a := A) (len := n) (cap := c) (by rw [he]; exact ht) kl kh km (l : Int) (u : Int) (m : Int) (by omega) (by omega) (by omega) (by omega)
  rw [he] at h4
  simp only [execOp, ha.eval hx, Option.map_some, Option.map_none, ha.eval hi, ha.eval hj, ha.eval hm, Instr.sliceAt, Sem.run_bind, run_underlying ht, Result.andThen_ok, h4, sizeOf_run hsz, Sem.run_pure, Int.toNat_natCast]
  rfl
theorem T_loop7 {t1 t2 t3 t4 t5 t6 t7 : Type} {c : Code} (ks : Env) (V : t1 → t2 → t3 → t4 → t5 → t6 → t7 → Env) (μ : t1 → t2 → t3 → t4 → t5 → t6 → t7 → Nat) (Rel : t1 → t2 → t3 → t4 → t5 → t6 → t7 → World → Prop) (z1 : t1) (z2 : t2) (z3 : t3) (z4 : t4) (z5 : t5) (z6 : t6) (z7 : t7) (hs : Sub (V z1 z2 z3 z4 z5 z6 z7) env) (hk : Sub ks env) (h0 : Rel z1 z2 z3 z4 z5 z6 z7 w)
    (round : ∀ a1 a2 a3 a4 a5 a6 a7 w, Rel a1 a2 a3 a4 a5 a6 a7 w → T P N c (thenQ (fun e' w' => ∃ p1 p2 p3 p4 p5 p6 p7, μ p1 p2 p3 p4 p5 p6 p7 < μ a1 a2 a3 a4 a5 a6 a7 ∧ Rel p1 p2 p3 p4 p5 p6 p7 w' ∧ Sub (V p1 p2 p3 p4 p5 p6 p7 ++ ks) e') Q) (V a1 a2 a3 a4 a5 a6 a7 ++ ks) w) : T P N (.loop c) Q env w :=
  T_loop (fun m e w => ∃ a1 a2 a3 a4 a5 a6 a7, m = μ a1 a2 a3 a4 a5 a6 a7 ∧ Rel a1 a2 a3 a4 a5 a6 a7 w ∧ Sub (V a1 a2 a3 a4 a5 a6 a7 ++ ks) e) (μ z1 z2 z3 z4 z5 z6 z7) ⟨z1, z2, z3, z4, z5, z6, z7, rfl, h0, Sub.app hs hk⟩ fun m e w ⟨a1, a2, a3, a4, a5, a6, a7, hm, hr, hsub⟩ => T_weak hsub (T_mono (fun e w ⟨p1, p2, p3, p4, p5, p6, p7, h1, h2, h3⟩ => ⟨μ p1 p2 p3 p4 p5 p6 p7, by omega, p1, p2, p3, p4, p5, p6, p7, rfl, h2, h3⟩) (round a1 a2 a3 a4 a5 a6 a7 w hr))
theorem T_loop8 {t1 t2 t3 t4 t5 t6 t7 t8 : Type} {c : Code} (ks : Env) (V : t1 → t2 → t3 → t4 → t5 → t6 → t7 → t8 → Env) (μ : t1 → t2 → t3 → t4 → t5 → t6 → t7 → t8 → Nat) (Rel : t1 → t2 → t3 → t4 → t5 → t6 → t7 → t8 → World → Prop) (z1 : t1) (z2 : t2) (z3 : t3) (z4 : t4) (z5 : t5) (z6 : t6) (z7 : t7) (z8 : t8) (hs : Sub (V z1 z2 z3 z4 z5 z6 z7 z8) env) (hk : Sub ks env) (h0 : Rel z1 z2 z3 z4 z5 z6 z7 z8 w)
    (round : ∀ a1 a2 a3 a4 a5 a6 a7 a8 w, Rel a1 a2 a3 a4 a5 a6 a7 a8 w → T P N c (thenQ (fun e' w' => ∃ p1 p2 p3 p4 p5 p6 p7 p8, μ p1 p2 p3 p4 p5 p6 p7 p8 < μ a1 a2 a3 a4 a5 a6 a7 a8 ∧ Rel p1 p2 p3 p4 p5 p6 p7 p8 w' ∧ Sub (V p1 p2 p3 p4 p5 p6 p7 p8 ++ ks) e') Q) (V a1 a2 a3 a4 a5 a6 a7 a8 ++ ks) w) : T P N (.loop c) Q env w :=
  T_loop (fun m e w => ∃ a1 a2 a3 a4 a5 a6 a7 a8, m = μ a1 a2 a3 a4 a5 a6 a7 a8 ∧ Rel a1 a2 a3 a4 a5 a6 a7 a8 w ∧ Sub (V a1 a2 a3 a4 a5 a6 a7 a8 ++ ks) e) (μ z1 z2 z3 z4 z5 z6 z7 z8) ⟨z1, z2, z3, z4, z5, z6, z7, z8, rfl, h0, Sub.app hs hk⟩ fun m e w ⟨a1, a2, a3, a4, a5, a6, a7, a8, hm, hr, hsub⟩ => T_weak hsub (T_mono (fun e w ⟨p1, p2, p3, p4, p5, p6, p7, p8, h1, h2, h3⟩ => ⟨μ p1 p2 p3 p4 p5 p6 p7 p8, by omega, p1, p2, p3, p4, p5, p6, p7, p8, rfl, h2, h3⟩) (round a1 a2 a3 a4 a5 a6 a7 a8 w hr))
theorem T_loop9 {t1 t2 t3 t4 t5 t6 t7 t8 t9 : Type} {c : Code} (ks : Env) (V : t1 → t2 → t3 → t4 → t5 → t6 → t7 → t8 → t9 → Env) (μ : t1 → t2 → t3 → t4 → t5 → t6 → t7 → t8 → t9 → Nat) (Rel : t1 → t2 → t3 → t4 → t5 → t6 → t7 → t8 → t9 → World → Prop) (z1 : t1) (z2 : t2) (z3 : t3) (z4 : t4) (z5 : t5) (z6 : t6) (z7 : t7) (z8 : t8) (z9 : t9) (hs : Sub (V z1 z2 z3 z4 z5 z6 z7 z8 z9) env) (hk : Sub ks env) (h0 : Rel z1 z2 z3 z4 z5 z6 z7 z8 z9 w)
    (round : ∀ a1 a2 a3 a4 a5 a6 a7 a8 a9 w, Rel a1 a2 a3 a4 a5 a6 a7 a8 a9 w → T P N c (thenQ (fun e' w' => ∃ p1 p2 p3 p4 p5 p6 p7 p8 p9, μ p1 p2 p3 p4 p5 p6 p7 p8 p9 < μ a1 a2 a3 a4 a5 a6 a7 a8 a9 ∧ Rel p1 p2 p3 p4 p5 p6 p7 p8 p9 w' ∧ Sub (V p1 p2 p3 p4 p5 p6 p7 p8 p9 ++ ks) e') Q) (V a1 a2 a3 a4 a5 a6 a7 a8 a9 ++ ks) w) : T P N (.loop c) Q env w :=
  T_loop (fun m e w => ∃ a1 a2 a3 a4 a5 a6 a7 a8 a9, m = μ a1 a2 a3 a4 a5 a6 a7 a8 a9 ∧ Rel a1 a2 a3 a4 a5 a6 a7 a8 a9 w ∧ Sub (V a1 a2 a3 a4 a5 a6 a7 a8 a9 ++ ks) e) (μ z1 z2 z3 z4 z5 z6 z7 z8 z9) ⟨z1, z2, z3, z4, z5, z6, z7, z8, z9, rfl, h0, Sub.app hs hk⟩ fun m e w ⟨a1, a2, a3, a4, a5, a6, a7, a8, a9, hm, hr, hsub⟩ => T_weak hsub (T_mono (fun e w ⟨p1, p2, p3, p4, p5, p6, p7, p8, p9, h1, h2, h3⟩ => ⟨μ p1 p2 p3 p4 p5 p6 p7 p8 p9, by omega, p1, p2, p3, p4, p5, p6, p7, p8, p9, rfl, h2, h3⟩) (round a1 a2 a3 a4 a5 a6 a7 a8 a9 w hr))
/-- A guard that was itself passed over, where the order is drawn. -/
theorem DL_gnu {ops : Array Oper} {i : Nat} {d : Tmp} {op : Op} {order : List (Nat × Bool)} {j : Nat} {b : Bool} {t : Tmp} (hi : ops[i]? = some ⟨some d, op, ty, pos, after, some (j, b)⟩)
    (hj : (ops[j]?).bind (·.dst) = some t) (ht : look env t = some undef) (hd : Nat.blt d N = true) (h : DL P N ops Q S order ((d, undef) :: env) w) : DL P N ops Q S ((i, true) :: order) env w :=
  DL_yi hi rfl (fun a ha => .inr ⟨by
    have : ((none : Option Bool) == some b) = false := by cases b <;> rfl
    simp [Region.wanted, yielded, hj, ha.vals t _ ht, undef], rfl⟩) hd h
end
end Go.Proofs.Ytpcgldkllnkaeaa.Zx

/-
  Rows of elements of many cells: an element stored whole, a tail cleared, a row cut. General; nothing here names a program.
-/
namespace Go.Proofs.Ytpcgldkllnkaeaa.Zx
open Go.RowKit Zk
set_option linter.unusedVariables false
set_option linter.unusedSimpArgs false
section
variable {P : Program} {N : Nat} {Q : Post} {env : Env} {w w0 : World} {M : Nat → Prop} {rs : List Res} {K : Env → World → Prop} {ty : TypeId} {pos : String} {after : Array Edge} {g : Option (Nat × Bool)}
theorem row_cells {w : World} {e k n c : Nat} {A : Option Addr} {xs : List Value} (h : w.ownsRow 0 e k (.slice A n c) n xs) (hn : 0 < n) : ∃ b cur, A = some ⟨b, 0, none⟩ ∧ Blk w b e cur ∧ n ≤ c ∧ c ≤ maxLen ∧ cur.size = c * k ∧ cur.toList.take (n * k) = xs := by
  rcases h.2 with ⟨h1, h2⟩ | ⟨b, cap, cur, h1, _, hg, hnc, hcm, hcs, hx⟩
  · omega
  · cases h1
    exact ⟨b, cur, rfl, hg, hnc, hcm, hcs, hx⟩
theorem cells_row {w : World} {e k n c b : Nat} {xs : List Value} {cur : Array Value} (hg : Blk w b e cur) (hnc : n ≤ c) (hcm : c ≤ maxLen) (hcs : cur.size = c * k) (hx : cur.toList.take (n * k) = xs) (hl : xs.length = n * k) : w.ownsRow 0 e k (.slice (some ⟨b, 0, none⟩) n c) n xs :=
  ⟨hl, .inr ⟨b, c, cur, rfl, Nat.zero_le _, hg, hnc, hcm, hcs, hx⟩⟩
/-- The beginning of an own row is one. -/
theorem St.rowcut (S : St w0 M rs w) (i : Nat) {e k n c m : Nat} {A : Option Addr} {xs : List Value} (hk : rs[i]? = some (Zx.row e k A n c xs)) (hm : m ≤ n) : St w0 M (rs.set i (Zx.row e k A m c (xs.take (m * k)))) w := by
  have hown : w.ownsRow 0 e k (.slice A n c) n xs := S.get i hk
  refine S.upd i hk rfl rfl rfl (Nat.le_refl _) (fun _ _ _ => rfl) ?_ fun j hj => .inl (show (Value.slice A n c).ownBlock = some j by
      have h2 : (Value.slice A m c).ownBlock = some j := hj
      cases A <;> exact h2)
  show w.ownsRow 0 e k (.slice A m c) m (xs.take (m * k))
  have hle : m * k ≤ n * k := Nat.mul_le_mul_right _ hm
  have hl : (xs.take (m * k)).length = m * k := by rw [List.length_take, hown.1]; omega
  rcases hown.2 with ⟨h1, h2⟩ | ⟨b, cap, cur, h1, h0, hg, hnc, hcm, hcs, hx⟩
  · cases h1
    exact ⟨hl, .inl ⟨by rw [show m = 0 by omega, h2], by omega⟩⟩
  · cases h1
    exact ⟨hl, .inr ⟨b, c, cur, rfl, h0, hg, by omega, hcm, hcs, by rw [← hx, List.take_take, Nat.min_eq_left hle]⟩⟩
theorem o_strowE {st : TypeId} {x y : Operand} {e n c k size : Nat} {A : Option Addr} {xs : List Value} {vs : Array Value} (S : St w0 M rs w) (i : Nat) (hk : rs[i]? = some (row e size A n c xs)) (hx : ev env x = some (pR A k size)) (hy : ev env y = some (.agg vs))
    (hv : ∀ u ∈ vs.toList, u.oneCell' = true) (hvs : vs.size = size) (hsz : (P.info? st).map (·.size) = some size) (hkn : k < n)
    (h : ∀ w', St w0 M (rs.set i (row e size A n c (xs.take (k * size) ++ vs.toList ++ xs.drop ((k + 1) * size)))) w' → K env w') : O P N Q ⟨none, .store st x y, ty, pos, after, g⟩ env w K := fun a ha => by
  have hown : w.ownsRow 0 e size (.slice A n c) n xs := S.get i hk
  obtain ⟨b, cur, rfl, hg, hnc, hcm, hcs, hxs⟩ := row_cells hown (by omega)
  have hxa : a.eval x = .pointer (some ⟨b, k * size, none⟩) := by
    rw [ha.eval hx]
    simp [pR, Addr.add_mid]
  have hle : (k + 1) * size ≤ n * size := Nat.mul_le_mul_right _ hkn
  have hle2 : n * size ≤ c * size := Nat.mul_le_mul_right _ hnc
  have e1 : (k + 1) * size = k * size + size := Nat.succ_mul _ _
  have hcl : cur.toList.length = c * size := by rw [Array.length_toList]; exact hcs
  refine wp_stB st x y rfl b (k * size) hxa vs (ha.eval hy) e cur hg (by rw [hvs]; exact hsz) (by rw [hvs]; omega) hv fun w' h2 h3 => ⟨env, ha, h w' (S.upd i hk h3.os h3.tape h3.output h3.size (fun j hj hn => h3.block j hj (fun e => hn (by injection e with e; rw [e]; rfl))) ?_ fun j hj => .inl hj)⟩
  have hvl : vs.toList.length = size := by rw [Array.length_toList, hvs]
  refine cells_row h2 hnc hcm ?_ ?_ ?_
  · rw [List.size_toArray, List.length_append, List.length_append, List.length_take, List.length_drop, hvl, hvs, hcl]; omega
  rotate_left
  · rw [List.length_append, List.length_append, List.length_take, List.length_drop, hvl, hown.1]; omega
  rw [hvs]
  show (cur.toList.take (k * size) ++ vs.toList ++ cur.toList.drop (k * size + size)).take (n * size) = _
  have l1 : (cur.toList.take (k * size) ++ vs.toList).length = k * size + size := by rw [List.length_append, List.length_take, hvl]; omega
  rw [List.take_append, l1, List.take_of_length_le (by rw [l1]; omega), ← hxs, List.take_take, Nat.min_eq_left (by omega), e1, List.drop_take]
/-- clear(s), s a tail of an own row. -/
theorem o_clearR {x : Operand} {t e n c l size : Nat} {z : Value} {A : Option Addr} {xs : List Value} (S : St w0 M rs w) (i : Nat) (hk : rs[i]? = some (row e size A n c xs)) (ht : P.underlying t = some (.slice e)) (hz : ∀ W, (zeroValue e).run P W = .ok z W) (hzs : z.cells.size = size)
    (hz1 : ∀ u ∈ z.cells.toList, u.oneCell' = true) (hx : ev env x = some (.slice (cutA A c l size) (n - l) (c - l))) (hl : l < n)
    (h : ∀ w' ys, ys.take (l * size) = xs.take (l * size) → ys.length = n * size → St w0 M (rs.set i (row e size A n c ys)) w' → K env w') : O P N Q ⟨none, .call { callee := .builtin .clear, args := #[x], argTypes := #[t] }, ty, pos, after, g⟩ env w K := fun a ha => by
  have hown : w.ownsRow 0 e size (.slice A n c) n xs := S.get i hk
  obtain ⟨b, cur, rfl, hg, hnc, hcm, hcs, hxs⟩ := row_cells hown (by omega)
  have hle2 : n * size ≤ c * size := Nat.mul_le_mul_right _ hnc
  have hle1 : l * size ≤ n * size := Nat.mul_le_mul_right _ (by omega)
  have hsub : (n - l) * size = n * size - l * size := Nat.sub_mul _ _ _
  have hxa : a.eval x = .slice (some ⟨b, l * size, none⟩) (n - l) (c - l) := by
    rw [ha.eval hx]
    unfold cutA
    rw [if_neg (by omega)]
    simp [Addr.add_mid]
  have hzl : (Builtin.zeroCells z.cells (n - l)).size = (n - l) * size := by simp [Builtin.zeroCells, hzs]
  have hz1' : ∀ u ∈ (Builtin.zeroCells z.cells (n - l)).toList, u.oneCell' = true := fun u hu => by
    rcases Nat.eq_zero_or_pos size with h0 | h0
    · rw [h0, Nat.mul_zero] at hzl
      rw [Array.eq_empty_of_size_eq_zero hzl] at hu
      simp at hu
    · simp only [Builtin.zeroCells, Array.toList_map, List.mem_map] at hu
      obtain ⟨q, hq, rfl⟩ := hu
      have : q % z.cells.size < z.cells.size := Nat.mod_lt _ (by omega)
      rw [getElem!_pos z.cells _ this]
      exact hz1 _ (by simp)
  have hr := run_storeCells_at (P := P) b (l * size) e (Builtin.zeroCells z.cells (n - l)).toList 0 cur w hg (by simp only [Nat.add_zero, Array.length_toList, hzl]; omega) hz1'
  simp only [Nat.add_zero, Array.length_toList, hzl] at hr
  obtain ⟨m, hm⟩ : ∃ m, n - l = m + 1 := ⟨n - l - 1, by omega⟩
  have hrun : (Builtin.clear_ #[t] ty #[.slice (some ⟨b, l * size, none⟩) (n - l) (c - l)]).run P w = .ok (.tuple #[]) (w.setRow b (cur.toList.take (l * size) ++ (Builtin.zeroCells z.cells (n - l)).toList ++ cur.toList.drop (l * size + (n - l) * size)).toArray) := by
    rw [hm] at hr ⊢
    simp [Builtin.clear_, run_underlying ht, hz, hr]
  have h2 := setRow_heap w b cur (cur.toList.take (l * size) ++ (Builtin.zeroCells z.cells (n - l)).toList ++ cur.toList.drop (l * size + (n - l) * size)).toArray e _ hg
  generalize hw' : w.setRow b (cur.toList.take (l * size) ++ (Builtin.zeroCells z.cells (n - l)).toList ++ cur.toList.drop (l * size + (n - l) * size)).toArray = w' at hrun h2
  have h3 : w.grownBy w' (some b) := by
    subst hw'
    exact ⟨rfl, rfl, rfl, by simp, fun k hk hne => setRow_other w b k _ (fun e => hne (by rw [e]))⟩
  unfold Oper.wp execOp
  simp only [resolve, invoke, builtin, Sem.run_bind, Sem.run_pure, Result.andThen_ok, List.map_toArray, List.map_cons, List.map_nil, hxa, hrun]
  have hll : (cur.toList.take (l * size)).length = l * size := by rw [List.length_take, Array.length_toList]; omega
  refine ⟨env, ha, h w' ((cur.toList.take (l * size) ++ (Builtin.zeroCells z.cells (n - l)).toList ++ cur.toList.drop (l * size + (n - l) * size)).take (n * size)) ?_ ?_ (S.upd i hk h3.os h3.tape h3.output h3.size (fun j hj hn => h3.block j hj (fun e => hn (by injection e with e; rw [e]; rfl))) ?_ fun j hj => .inl hj)⟩
  · rw [List.take_take, Nat.min_eq_left hle1, List.append_assoc, List.take_left' hll, ← hxs, List.take_take, Nat.min_eq_left hle1]
  · rw [List.length_take, List.length_append, List.length_append, hll, Array.length_toList, hzl, List.length_drop, Array.length_toList]
    omega
  · refine cells_row h2 hnc hcm ?_ rfl ?_
    · rw [List.size_toArray, List.length_append, List.length_append, hll, Array.length_toList, hzl, List.length_drop, Array.length_toList]
      omega
    · rw [List.length_take, List.length_append, List.length_append, hll, Array.length_toList, hzl, List.length_drop, Array.length_toList]
      omega
end
theorem flat_set {α : Type} (f : α → List Value) {size : Nat} (hf : ∀ x, (f x).length = size) : ∀ (xs : List α) (k : Nat) (x : α), k < xs.length → (xs.flatMap f).take (k * size) ++ f x ++ (xs.flatMap f).drop ((k + 1) * size) = (xs.set k x).flatMap f
  | y :: xs, 0, x, _ => by
    rw [Nat.zero_mul, List.take_zero, List.nil_append, Nat.zero_add, Nat.one_mul, List.flatMap_cons, List.drop_left' (hf y), List.set_cons_zero, List.flatMap_cons]
  | y :: xs, k + 1, x, h => by
    have ih := flat_set f hf xs k x (by simpa using h)
    have e1 : (k + 1) * size = (f y).length + k * size := by rw [hf, Nat.succ_mul]; omega
    have e2 : (k + 1 + 1) * size = (f y).length + (k + 1) * size := by rw [hf, Nat.succ_mul (k + 1)]; omega
    have e3 : (f y ++ xs.flatMap f).drop ((k + 1 + 1) * size) = (xs.flatMap f).drop ((k + 1) * size) := by rw [e2, List.drop_length_add_append]
    have e4 : (f y ++ xs.flatMap f).take ((k + 1) * size) = f y ++ (xs.flatMap f).take (k * size) := by rw [e1, List.take_length_add_append]
    rw [List.flatMap_cons, e3, e4, List.set_cons_succ, List.flatMap_cons, ← ih]
    simp only [List.append_assoc]
theorem flat_take {α : Type} (f : α → List Value) {size : Nat} (hf : ∀ x, (f x).length = size) : ∀ (xs : List α) (k : Nat), (xs.flatMap f).take (k * size) = (xs.take k).flatMap f
  | _, 0 => by simp
  | [], k + 1 => by simp
  | y :: xs, k + 1 => by
    rw [List.flatMap_cons, List.take_succ_cons, List.flatMap_cons, ← flat_take f hf xs k, show (k + 1) * size = (f y).length + k * size by rw [hf, Nat.succ_mul]; omega, List.take_length_add_append]
end Go.Proofs.Ytpcgldkllnkaeaa.Zx

/-
  Sizes and zeros of the seat's types.
-/
namespace Go.Proofs.Ytpcgldkllnkaeaa
open Go.RowKit Zk Zx
set_option linter.unusedVariables false
set_option linter.unusedSimpArgs false
theorem hmix : Try.prog.follows .mixedOrders = true := by kernel_rfl
theorem is0 : (Try.prog.underlying 0).isSome = true := by kernel_rfl
theorem sz0 : (Try.prog.info? 0).map (·.size) = some 1 := by kernel_rfl
theorem is1 : (Try.prog.underlying 1).isSome = true := by kernel_rfl
theorem sz1 : (Try.prog.info? 1).map (·.size) = some 1 := by kernel_rfl
theorem zz1 (W : World) : (zeroValue 1).run Try.prog W = .ok (.nilFunc) W := by kernel_rfl
theorem is2 : (Try.prog.underlying 2).isSome = true := by kernel_rfl
theorem sz2 : (Try.prog.info? 2).map (·.size) = some 1 := by kernel_rfl
theorem zz2 (W : World) : (zeroValue 2).run Try.prog W = .ok (.int .i64 0) W := by kernel_rfl
theorem is3 : (Try.prog.underlying 3).isSome = true := by kernel_rfl
theorem sz3 : (Try.prog.info? 3).map (·.size) = some 1 := by kernel_rfl
theorem zz3 (W : World) : (zeroValue 3).run Try.prog W = .ok (.int .i64 0) W := by kernel_rfl
theorem is4 : (Try.prog.underlying 4).isSome = true := by kernel_rfl
theorem sz4 : (Try.prog.info? 4).map (·.size) = some 1 := by kernel_rfl
theorem zz4 (W : World) : (zeroValue 4).run Try.prog W = .ok (.bool false) W := by kernel_rfl
theorem is5 : (Try.prog.underlying 5).isSome = true := by kernel_rfl
theorem sz5 : (Try.prog.info? 5).map (·.size) = some 1 := by kernel_rfl
theorem zz5 (W : World) : (zeroValue 5).run Try.prog W = .ok (.int .u8 0) W := by kernel_rfl
theorem is9 : (Try.prog.underlying 9).isSome = true := by kernel_rfl
theorem sz9 : (Try.prog.info? 9).map (·.size) = some 1 := by kernel_rfl
theorem zz9 (W : World) : (zeroValue 9).run Try.prog W = .ok (.string ⟨#[]⟩) W := by kernel_rfl
theorem is12 : (Try.prog.underlying 12).isSome = true := by kernel_rfl
theorem sz12 : (Try.prog.info? 12).map (·.size) = some 1 := by kernel_rfl
theorem zz12 (W : World) : (zeroValue 12).run Try.prog W = .ok (.int .u64 0) W := by kernel_rfl
theorem is22 : (Try.prog.underlying 22).isSome = true := by kernel_rfl
theorem sz22 : (Try.prog.info? 22).map (·.size) = some 1 := by kernel_rfl
theorem zz22 (W : World) : (zeroValue 22).run Try.prog W = .ok (.slice none 0 0) W := by kernel_rfl
theorem te22 : Elem Try.prog 22 5 (.int .u8 0) 1 1 := ⟨Try.underlying22, by kernel_rfl, rfl, by decide⟩
theorem is23 : (Try.prog.underlying 23).isSome = true := by kernel_rfl
theorem sz23 : (Try.prog.info? 23).map (·.size) = some 1 := by kernel_rfl
theorem zz23 (W : World) : (zeroValue 23).run Try.prog W = .ok (.slice none 0 0) W := by kernel_rfl
theorem te23 : Elem Try.prog 23 57 (.agg #[.bool false, .int .i64 0, .int .i64 0, .slice none 0 0]) 4 48 := ⟨Try.underlying23, by kernel_rfl, rfl, by decide⟩
theorem is25 : (Try.prog.underlying 25).isSome = true := by kernel_rfl
theorem sz25 : (Try.prog.info? 25).map (·.size) = some 3 := by kernel_rfl
theorem zz25 (W : World) : (zeroValue 25).run Try.prog W = .ok (.agg #[.int .i64 0, .int .i64 0, .slice none 0 0]) W := by kernel_rfl
theorem is28 : (Try.prog.underlying 28).isSome = true := by kernel_rfl
theorem sz28 : (Try.prog.info? 28).map (·.size) = some 1 := by kernel_rfl
theorem zz28 (W : World) : (zeroValue 28).run Try.prog W = .ok (.slice none 0 0) W := by kernel_rfl
theorem te28 : Elem Try.prog 28 58 (.agg #[.bool false, .int .i64 0, .int .i64 0, .slice none 0 0]) 4 48 := ⟨Try.underlying28, by kernel_rfl, rfl, by decide⟩
theorem is30 : (Try.prog.underlying 30).isSome = true := by kernel_rfl
theorem sz30 : (Try.prog.info? 30).map (·.size) = some 3 := by kernel_rfl
theorem zz30 (W : World) : (zeroValue 30).run Try.prog W = .ok (.agg #[.int .i64 0, .int .i64 0, .slice none 0 0]) W := by kernel_rfl
theorem is32 : (Try.prog.underlying 32).isSome = true := by kernel_rfl
theorem sz32 : (Try.prog.info? 32).map (·.size) = some 1 := by kernel_rfl
theorem zz32 (W : World) : (zeroValue 32).run Try.prog W = .ok (.int .i64 0) W := by kernel_rfl
theorem is33 : (Try.prog.underlying 33).isSome = true := by kernel_rfl
theorem sz33 : (Try.prog.info? 33).map (·.size) = some 1 := by kernel_rfl
theorem is35 : (Try.prog.underlying 35).isSome = true := by kernel_rfl
theorem sz35 : (Try.prog.info? 35).map (·.size) = some 1 := by kernel_rfl
theorem is40 : (Try.prog.underlying 40).isSome = true := by kernel_rfl
theorem sz40 : (Try.prog.info? 40).map (·.size) = some 1 := by kernel_rfl
theorem is42 : (Try.prog.underlying 42).isSome = true := by kernel_rfl
theorem sz42 : (Try.prog.info? 42).map (·.size) = some 1 := by kernel_rfl
theorem is57 : (Try.prog.underlying 57).isSome = true := by kernel_rfl
theorem sz57 : (Try.prog.info? 57).map (·.size) = some 4 := by kernel_rfl
theorem zz57 (W : World) : (zeroValue 57).run Try.prog W = .ok (.agg #[.bool false, .int .i64 0, .int .i64 0, .slice none 0 0]) W := by kernel_rfl
theorem is58 : (Try.prog.underlying 58).isSome = true := by kernel_rfl
theorem sz58 : (Try.prog.info? 58).map (·.size) = some 4 := by kernel_rfl
theorem zz58 (W : World) : (zeroValue 58).run Try.prog W = .ok (.agg #[.bool false, .int .i64 0, .int .i64 0, .slice none 0 0]) W := by kernel_rfl
theorem is62 : (Try.prog.underlying 62).isSome = true := by kernel_rfl
theorem sz62 : (Try.prog.info? 62).map (·.size) = some 1 := by kernel_rfl
theorem zz62 (W : World) : (zeroValue 62).run Try.prog W = .ok (.pointer none) W := by kernel_rfl
theorem is65 : (Try.prog.underlying 65).isSome = true := by kernel_rfl
theorem sz65 : (Try.prog.info? 65).map (·.size) = some 1 := by kernel_rfl
theorem zz65 (W : World) : (zeroValue 65).run Try.prog W = .ok (.int .u64 0) W := by kernel_rfl
theorem is66 : (Try.prog.underlying 66).isSome = true := by kernel_rfl
theorem sz66 : (Try.prog.info? 66).map (·.size) = some 1 := by kernel_rfl
theorem zz66 (W : World) : (zeroValue 66).run Try.prog W = .ok (.nilFunc) W := by kernel_rfl
theorem is74 : (Try.prog.underlying 74).isSome = true := by kernel_rfl
theorem sz74 : (Try.prog.info? 74).map (·.size) = some 1 := by kernel_rfl
theorem zz74 (W : World) : (zeroValue 74).run Try.prog W = .ok (.map none) W := by kernel_rfl
theorem is77 : (Try.prog.underlying 77).isSome = true := by kernel_rfl
theorem sz77 : (Try.prog.info? 77).map (·.size) = some 1 := by kernel_rfl
theorem zz77 (W : World) : (zeroValue 77).run Try.prog W = .ok (.nilFunc) W := by kernel_rfl
theorem is78 : (Try.prog.underlying 78).isSome = true := by kernel_rfl
theorem sz78 : (Try.prog.info? 78).map (·.size) = some 1 := by kernel_rfl
theorem is80 : (Try.prog.underlying 80).isSome = true := by kernel_rfl
theorem sz80 : (Try.prog.info? 80).map (·.size) = some 1 := by kernel_rfl
theorem zz80 (W : World) : (zeroValue 80).run Try.prog W = .ok (.pointer none) W := by kernel_rfl
theorem is84 : (Try.prog.underlying 84).isSome = true := by kernel_rfl
theorem sz84 : (Try.prog.info? 84).map (·.size) = some 1 := by kernel_rfl
theorem is86 : (Try.prog.underlying 86).isSome = true := by kernel_rfl
theorem sz86 : (Try.prog.info? 86).map (·.size) = some 1 := by kernel_rfl
theorem zz86 (W : World) : (zeroValue 86).run Try.prog W = .ok (.pointer none) W := by kernel_rfl
theorem is88 : (Try.prog.underlying 88).isSome = true := by kernel_rfl
theorem sz88 : (Try.prog.info? 88).map (·.size) = some 3 := by kernel_rfl
theorem zz88 (W : World) : (zeroValue 88).run Try.prog W = .ok (.agg #[.slice none 0 0, .int .i64 0, .int .i64 0]) W := by kernel_rfl
theorem is93 : (Try.prog.underlying 93).isSome = true := by kernel_rfl
theorem sz93 : (Try.prog.info? 93).map (·.size) = some 1 := by kernel_rfl
theorem zz93 (W : World) : (zeroValue 93).run Try.prog W = .ok (.agg #[.slice none 0 0]) W := by kernel_rfl
theorem is94 : (Try.prog.underlying 94).isSome = true := by kernel_rfl
theorem sz94 : (Try.prog.info? 94).map (·.size) = some 1 := by kernel_rfl
theorem zz94 (W : World) : (zeroValue 94).run Try.prog W = .ok (.int .u64 0) W := by kernel_rfl
theorem is96 : (Try.prog.underlying 96).isSome = true := by kernel_rfl
theorem sz96 : (Try.prog.info? 96).map (·.size) = some 1 := by kernel_rfl
theorem zz96 (W : World) : (zeroValue 96).run Try.prog W = .ok (.slice none 0 0) W := by kernel_rfl
theorem te96 : Elem Try.prog 96 22 (.slice none 0 0) 1 24 := ⟨Try.underlying96, by kernel_rfl, rfl, by decide⟩
theorem is98 : (Try.prog.underlying 98).isSome = true := by kernel_rfl
theorem sz98 : (Try.prog.info? 98).map (·.size) = some 6 := by kernel_rfl
theorem zz98 (W : World) : (zeroValue 98).run Try.prog W = .ok (.agg #[.int .u8 0, .int .u8 0, .int .u8 0, .int .u8 0, .int .u8 0, .int .u8 0]) W := by kernel_rfl
theorem is99 : (Try.prog.underlying 99).isSome = true := by kernel_rfl
theorem sz99 : (Try.prog.info? 99).map (·.size) = some 1 := by kernel_rfl
theorem zz99 (W : World) : (zeroValue 99).run Try.prog W = .ok (.slice none 0 0) W := by kernel_rfl
theorem te99 : Elem Try.prog 99 3 (.int .i64 0) 1 8 := ⟨Try.underlying99, by kernel_rfl, rfl, by decide⟩
theorem is102 : (Try.prog.underlying 102).isSome = true := by kernel_rfl
theorem sz102 : (Try.prog.info? 102).map (·.size) = some 3 := by kernel_rfl
theorem zz102 (W : World) : (zeroValue 102).run Try.prog W = .ok (.agg #[.slice none 0 0, .int .i64 0, .int .i64 0]) W := by kernel_rfl
theorem is105 : (Try.prog.underlying 105).isSome = true := by kernel_rfl
theorem sz105 : (Try.prog.info? 105).map (·.size) = some 1 := by kernel_rfl
end Go.Proofs.Ytpcgldkllnkaeaa

/-
  Regions that draw their order and make two variables in either order. General; nothing here names a program.
-/
namespace Go.Proofs.Ytpcgldkllnkaeaa.Zx
open Go.RowKit Zk
set_option linter.unusedVariables false
set_option linter.unusedSimpArgs false

theorem St.perm {w0 w : World} {M : Nat → Prop} {rs rs' : List Res} (S : St w0 M rs w) (h : rs.Perm rs') : St w0 M rs' w :=
  ⟨S.os, S.tape, S.output, S.size, S.old, fun r hr => S.res r (h.mem_iff.2 hr), (h.pairwise_iff (by intro a b hab i hi hj; exact hab i hj hi)).1 S.apart⟩
section
variable {P : Program} {N : Nat} {Q : Post} {env : Env} {w w0 : World} {M : Nat → Prop} {rs : List Res} {S : World → Prop} {ops : Array Oper} {listed : Array Bool} {fuel : Nat}
theorem y_of {o : Oper} {v : Value} (h : ∀ w, S w → Y P (Like w) env o v) : Y P S env o v := fun N a w' ha hw => h w' hw N a w' ha (Like.refl w')
def DX (P : Program) (N : Nat) (ops : Array Oper) (Q : Post) (S : World → Prop) (listed : Array Bool) (fuel : Nat) (env : Env) (w : World) : Prop :=
  Region.noSelect ops = true → S w → ∀ a, Fits N env a → wpAnyH P .any ops (lift N Q) S fuel listed a w
theorem T_drawnX {id : Nat} {l : List Oper} (S : World → Prop) (hm : P.follows .mixedOrders = true) (hB : Region.noSelect l.toArray = true) (hS : ∀ w1, Like w w1 → S w1)
    (h : ∀ w1, Like w w1 → DX P N l.toArray Q S (Array.replicate l.toArray.size false) l.toArray.size env w1) : T P N (.region id l.toArray true) Q env w := fun a ha =>
  wp_region_held hm (h _ (Like.drew w) hB (hS _ (Like.drew w)) a ha)
theorem DX_y {d : Tmp} {op : Op} {ty : TypeId} {pos : String} {after : Array Edge} {v : Value} (i : Nat) (hr : ((Region.ready .any ops listed).contains i && Region.free .any ops listed i) = true) (hi : ops[i]? = some ⟨some d, op, ty, pos, after, none⟩)
    (hy : Y P S env ⟨some d, op, ty, pos, after, none⟩ v) (hd : Nat.blt d N = true) (h : DX P N ops Q S (listed.setIfInBounds i true) fuel ((d, v) :: env) w) : DX P N ops Q S listed (fuel + 1) env w := fun hs hS a ha => by
  simp only [Bool.and_eq_true] at hr
  exact wpAnyH_take hi hs hr.2 hr.1 (fun c a w hq => hq.elim) (.inl ⟨by simp [Region.wanted], fun w hw => hy N a w ha hw⟩) hS (h hs hS _ (ha.put d v hd))
theorem DX_DL (order : List (Nat × Bool)) (hB : ordB ops fuel listed order = true) (h : DL P N ops Q S order env w) : DX P N ops Q S listed fuel env w := fun hs hS a ha => h hs hS a ha fuel listed hB
theorem sub_swap {d1 d2 : Nat} (v1 v2 : Value) (hne : d1 ≠ d2) (h1 : Nat.blt d1 1000000 = true) (h2 : Nat.blt d2 1000000 = true) : Sub ((d2, v2) :: (d1, v1) :: env) ((d1, v1) :: (d2, v2) :: env) := by
  have e1 : d1 < 1000000 := by rw [← Nat.blt_eq]; exact h1
  have e2 : d2 < 1000000 := by rw [← Nat.blt_eq]; exact h2
  have f1 : Nat.beq d1 1000000 = false := by cases h : Nat.beq d1 1000000; rfl; have := Nat.eq_of_beq_eq_true h; omega
  have f2 : Nat.beq d2 1000000 = false := by cases h : Nat.beq d2 1000000; rfl; have := Nat.eq_of_beq_eq_true h; omega
  refine ⟨?_, fun i v h => ?_⟩
  · simp only [dfs, f1, f2, cond_false]
  · simp only [look, f1, f2, cond_false] at h ⊢
    cases h1 : Nat.beq d1 i <;> cases h2 : Nat.beq d2 i <;> simp only [h1, h2, cond_false, cond_true] at h ⊢ <;> first | exact h | (have := Nat.eq_of_beq_eq_true h1; have := Nat.eq_of_beq_eq_true h2; omega)
/-- Two variables, made in either order. -/
theorem DX_allocs {d1 d2 : Tmp} {t1 t2 : TypeId} {z1 z2 : Value} {ty1 ty2 : TypeId} {pos1 pos2 : String} {after1 after2 : Array Edge} (i j : Nat)
    (hr : Region.ready .any ops listed = [i, j]) (hri : Region.ready .any ops (listed.setIfInBounds i true) = [j]) (hrj : Region.ready .any ops (listed.setIfInBounds j true) = [i])
    (hi : ops[i]? = some ⟨some d1, .alloc t1, ty1, pos1, after1, none⟩) (hj : ops[j]? = some ⟨some d2, .alloc t2, ty2, pos2, after2, none⟩) (hij : i ≠ j) (hdd : d1 ≠ d2) (h1 : Nat.blt d1 1000000 = true) (h2 : Nat.blt d2 1000000 = true)
    (hz1 : ∀ W, (zeroValue t1).run P W = .ok z1 W) (hz2 : ∀ W, (zeroValue t2).run P W = .ok z2 W) (S0 : St w0 M rs w) (hd1 : Nat.blt d1 N = true) (hd2 : Nat.blt d2 N = true) (hS : ∀ w', St w0 M rs w' → S w')
    (h : ∀ b1 b2 w', w0.heap.size ≤ b1 → w0.heap.size ≤ b2 → St w0 M (rs ++ [blk b1 t1 z1.cells] ++ [blk b2 t2 z2.cells]) w' →
      DX P N ops Q S ((listed.setIfInBounds i true).setIfInBounds j true) fuel ((d2, .pointer (some ⟨b2, 0, none⟩)) :: (d1, .pointer (some ⟨b1, 0, none⟩)) :: env) w') :
    DX P N ops Q S listed (fuel + 2) env w := fun hs hSw a ha => by
  have sub1 : ∀ (r : Res), rs.Sublist (rs ++ [r]) := fun r => List.sublist_append_left _ _
  refine wpAnyH_all hr (by simp) fun q hq => ?_
  have hq' : q = i ∨ q = j := by simpa using hq
  rcases hq' with rfl | rfl
  · unfold wpOp
    simp only [hi, Region.wanted, if_true]
    refine .inl (Oper.wp_mono (fun a' w' ⟨e', h3, b1, hb1, SS, he'⟩ => ?_) ((o_alloc (K := fun e' w' => ∃ b1, w0.heap.size ≤ b1 ∧ St w0 M (rs ++ [blk b1 t1 z1.cells]) w' ∧ e' = (d1, .pointer (some ⟨b1, 0, none⟩)) :: env) hz1 S0 hd1 fun b w' hb SS => ⟨b, hb, SS, rfl⟩) a ha))
    subst he'
    refine ⟨hS _ (SS.drop (sub1 _)), ?_⟩
    refine wpAnyH_all hri (by simp) fun q' hq' => ?_
    obtain rfl := List.mem_singleton.1 hq'
    unfold wpOp
    simp only [hj, Region.wanted, if_true]
    refine .inl (Oper.wp_mono (fun a2 w2 ⟨e2, h4, b2, hb2, SS2, he2⟩ => ?_) ((o_alloc (K := fun e2 w2 => ∃ b2, w0.heap.size ≤ b2 ∧ St w0 M (rs ++ [blk b1 t1 z1.cells] ++ [blk b2 t2 z2.cells]) w2 ∧ e2 = (d2, .pointer (some ⟨b2, 0, none⟩)) :: (d1, .pointer (some ⟨b1, 0, none⟩)) :: env) hz2 SS hd2 fun b w' hb SS => ⟨b, hb, SS, rfl⟩) a' h3))
    subst he2
    have hS2 : S w2 := hS _ ((SS2.drop (sub1 _ |>.trans (List.sublist_append_left _ _))))
    exact ⟨hS2, h b1 b2 w2 hb1 hb2 SS2 hs hS2 a2 h4⟩
  · unfold wpOp
    simp only [hj, Region.wanted, if_true]
    refine .inl (Oper.wp_mono (fun a' w' ⟨e', h3, b2, hb2, SS, he'⟩ => ?_) ((o_alloc (K := fun e' w' => ∃ b2, w0.heap.size ≤ b2 ∧ St w0 M (rs ++ [blk b2 t2 z2.cells]) w' ∧ e' = (d2, .pointer (some ⟨b2, 0, none⟩)) :: env) hz2 S0 hd2 fun b w' hb SS => ⟨b, hb, SS, rfl⟩) a ha))
    subst he'
    refine ⟨hS _ (SS.drop (sub1 _)), ?_⟩
    refine wpAnyH_all hrj (by simp) fun q' hq' => ?_
    obtain rfl := List.mem_singleton.1 hq'
    unfold wpOp
    simp only [hi, Region.wanted, if_true]
    refine .inl (Oper.wp_mono (fun a2 w2 ⟨e2, h4, b1, hb1, SS2, he2⟩ => ?_) ((o_alloc (K := fun e2 w2 => ∃ b1, w0.heap.size ≤ b1 ∧ St w0 M (rs ++ [blk b2 t2 z2.cells] ++ [blk b1 t1 z1.cells]) w2 ∧ e2 = (d1, .pointer (some ⟨b1, 0, none⟩)) :: (d2, .pointer (some ⟨b2, 0, none⟩)) :: env) hz1 SS hd1 fun b w' hb SS => ⟨b, hb, SS, rfl⟩) a' h3))
    subst he2
    have hS2 : S w2 := hS _ ((SS2.drop (sub1 _ |>.trans (List.sublist_append_left _ _))))
    refine ⟨hS2, ?_⟩
    have := h b1 b2 w2 hb1 hb2 (SS2.perm (by
      rw [List.append_assoc, List.append_assoc]
      exact List.Perm.append_left _ (List.Perm.swap _ _ _))) hs hS2 a2 (h4.sub (sub_swap _ _ hdd h1 h2))
    rwa [Array.setIfInBounds_comm _ _ hij] at this
end
end Go.Proofs.Ytpcgldkllnkaeaa.Zx

/-
  Maps whose keys are bytes in arrays; families of pieces; a choice of pieces. General; nothing here names a program.
-/
namespace Go.Proofs.Ytpcgldkllnkaeaa.Zx
open Go.RowKit Zk
set_option linter.unusedVariables false
set_option linter.unusedSimpArgs false
section
variable {w w0 : World} {M : Nat → Prop} {rs : List Res}
/-- Pieces, chosen by their numbers. -/
theorem St.sel (S : St w0 M rs w) (ix : List Nat) (hnd : ix.Nodup) : St w0 M (ix.filterMap (rs[·]?)) w := by
  refine ⟨S.os, S.tape, S.output, S.size, S.old, fun r hr => ?_, ?_⟩
  · obtain ⟨i, _, hi⟩ := List.mem_filterMap.1 hr
    exact S.res r (List.mem_of_getElem? hi)
  · rw [List.pairwise_filterMap]
    refine List.Pairwise.imp ?_ hnd
    intro i j hij a ha b hb x hx hy
    have hp := List.pairwise_iff_getElem.1 S.apart
    obtain ⟨h1, h2⟩ := List.getElem?_eq_some_iff.1 ha
    obtain ⟨h3, h4⟩ := List.getElem?_eq_some_iff.1 hb
    rcases Nat.lt_or_gt_of_ne hij with h | h
    · exact hp i j h1 h3 h x (by rw [h2]; exact hx) (by rw [h4]; exact hy)
    · exact hp j i h3 h1 h x (by rw [h4]; exact hy) (by rw [h2]; exact hx)
/-- Many pieces as one. -/
def fam (L : List Res) : Res where
  dom i := ∃ r ∈ L, r.dom i
  holds w := (∀ r ∈ L, r.holds w) ∧ L.Pairwise fun (r s : Res) => ∀ i, r.dom i → ¬ s.dom i
  stable w w' h hh := ⟨fun r hr => r.stable w w' (fun i hi => h i ⟨r, hr, hi⟩) (hh.1 r hr), hh.2⟩
theorem St.fam0 (S : St w0 M rs w) : St w0 M (rs ++ [fam []]) w := by
  refine ⟨S.os, S.tape, S.output, S.size, S.old, fun r hr => ?_, ?_⟩
  · rcases List.mem_append.1 hr with hr | hr
    · exact S.res r hr
    · obtain rfl := List.mem_singleton.1 hr
      exact ⟨⟨fun r hr => (List.not_mem_nil hr).elim, List.Pairwise.nil⟩, fun i ⟨r, hr, _⟩ => (List.not_mem_nil hr).elim⟩
  · rw [List.pairwise_append]
    exact ⟨S.apart, List.pairwise_singleton _ _, fun a _ b hb i _ hi => by
      obtain rfl := List.mem_singleton.1 hb
      obtain ⟨r, hr, _⟩ := hi
      cases hr⟩
theorem St.famIn {L1 L2 : List Res} {r : Res} (S : St w0 M (rs ++ [fam (L1 ++ L2), r]) w) : St w0 M (rs ++ [fam (L1 ++ r :: L2)]) w := by
  have hap := S.apart
  rw [List.pairwise_append] at hap
  obtain ⟨a1, a2, a3⟩ := hap
  have hfr := (List.pairwise_cons.1 a2).1 r (by simp)
  have hf := S.res (fam (L1 ++ L2)) (by simp)
  have hr := S.res r (by simp)
  refine ⟨S.os, S.tape, S.output, S.size, S.old, fun q hq => ?_, ?_⟩
  · rcases List.mem_append.1 hq with hq | hq
    · exact S.res q (by simp [hq])
    · obtain rfl := List.mem_singleton.1 hq
      refine ⟨⟨fun q hq => ?_, ?_⟩, fun i ⟨q, hq, hi⟩ => ?_⟩
      · rcases List.mem_append.1 hq with h | h
        · exact hf.1.1 q (by simp [h])
        · rcases List.mem_cons.1 h with rfl | h
          · exact hr.1
          · exact hf.1.1 q (by simp [h])
      · have h2 := hf.1.2
        rw [List.pairwise_append] at h2 ⊢
        refine ⟨h2.1, List.pairwise_cons.2 ⟨fun q hq i hi hqi => hfr i ⟨q, by simp [hq], hqi⟩ hi, h2.2.1⟩, fun a ha b hb i hi hbi => ?_⟩
        rcases List.mem_cons.1 hb with rfl | hb
        · exact hfr i ⟨a, by simp [ha], hi⟩ hbi
        · exact h2.2.2 a ha b hb i hi hbi
      · rcases List.mem_append.1 hq with h | h
        · exact hf.2 i ⟨q, by simp [h], hi⟩
        · rcases List.mem_cons.1 h with rfl | h
          · exact hr.2 i hi
          · exact hf.2 i ⟨q, by simp [h], hi⟩
  · rw [List.pairwise_append]
    refine ⟨a1, List.pairwise_singleton _ _, fun a ha b hb i hi hbi => ?_⟩
    obtain rfl := List.mem_singleton.1 hb
    obtain ⟨q, hq, hqi⟩ := hbi
    rcases List.mem_append.1 hq with h | h
    · exact a3 a ha (fam (L1 ++ L2)) (by simp) i hi ⟨q, by simp [h], hqi⟩
    · rcases List.mem_cons.1 h with rfl | h
      · exact a3 a ha q (by simp) i hi hqi
      · exact a3 a ha (fam (L1 ++ L2)) (by simp) i hi ⟨q, by simp [h], hqi⟩
theorem St.famOut {L1 L2 : List Res} {r : Res} (S : St w0 M (rs ++ [fam (L1 ++ r :: L2)]) w) : St w0 M (rs ++ [fam (L1 ++ L2), r]) w := by
  have hap := S.apart
  rw [List.pairwise_append] at hap
  obtain ⟨a1, _, a3⟩ := hap
  have hf := S.res (fam (L1 ++ r :: L2)) (by simp)
  have hp := hf.1.2
  rw [List.pairwise_append, List.pairwise_cons] at hp
  have hsub : ∀ q, q ∈ L1 ++ L2 → q ∈ L1 ++ r :: L2 := fun q hq => by
    rcases List.mem_append.1 hq with h | h
    · simp [h]
    · simp [h]
  have hfr : ∀ i, (fam (L1 ++ L2)).dom i → ¬ r.dom i := fun i ⟨q, hq, hqi⟩ hri => by
    rcases List.mem_append.1 hq with h | h
    · exact hp.2.2 q h r (by simp) i hqi hri
    · exact hp.2.1.1 q h i hri hqi
  refine ⟨S.os, S.tape, S.output, S.size, S.old, fun q hq => ?_, ?_⟩
  · rcases List.mem_append.1 hq with hq | hq
    · exact S.res q (by simp [hq])
    · rcases List.mem_cons.1 hq with rfl | hq
      · refine ⟨⟨fun q hq => hf.1.1 q (hsub q hq), ?_⟩, fun i ⟨q, hq, hi⟩ => hf.2 i ⟨q, hsub q hq, hi⟩⟩
        rw [List.pairwise_append]
        exact ⟨hp.1, hp.2.1.2, fun a ha b hb => hp.2.2 a ha b (by simp [hb])⟩
      · obtain rfl := List.mem_singleton.1 hq
        exact ⟨hf.1.1 q (by simp), fun i hi => hf.2 i ⟨q, by simp, hi⟩⟩
  · rw [List.pairwise_append]
    refine ⟨a1, List.pairwise_cons.2 ⟨fun b hb => by rw [List.mem_singleton.1 hb]; exact hfr, List.pairwise_singleton _ _⟩, fun a ha b hb i hi hbi => ?_⟩
    rcases List.mem_cons.1 hb with rfl | hb
    · obtain ⟨q, hq, hqi⟩ := hbi
      exact a3 a ha (fam (L1 ++ r :: L2)) (by simp) i hi ⟨q, hsub q hq, hqi⟩
    · rw [List.mem_singleton.1 hb] at hbi
      exact a3 a ha (fam (L1 ++ r :: L2)) (by simp) i hi ⟨r, by simp, hbi⟩
end
section
variable {P : Program}
theorem run_equalB {t e : TypeId} {n : Nat} (ht : P.underlying t = some (.array n e)) (he : P.underlying e = some (.int .u8)) (hs : (P.info? e).map (·.size) = some 1) (a b : List UInt8) (ha : a.length = n) (hb : b.length = n) (w : World) :
    (Op.equal t (.agg (bA a)) (.agg (bA b))).run P w = .ok (a == b) w := by
  unfold Op.equal
  exact run_equalIn_bytes w 9998 ht he hs a b ha hb _ _ (bA_get a) (bA_get b)
theorem run_checkB {t e : TypeId} {n : Nat} (ht : P.underlying t = some (.array n e)) (he : P.underlying e = some (.int .u8)) (hs : (P.info? e).map (·.size) = some 1) (a : List UInt8) (ha : a.length = n) (w : World) (b : Bool) :
    (Instr.checkKey b 10000 t (.agg (bA a))).run P w = .ok () w := by
  have hel : ∀ v, (Instr.checkKey b 9999 e v).run P w = .ok () w := fun v => by
    unfold Instr.checkKey
    simp only [Sem.run_bind, run_underlying he, Result.andThen_ok]
    rfl
  have hsz : (sizeOf e).run P w = .ok 1 w := sizeOf_run hs w
  have hpart : ∀ i, i < n → ∃ v, (part e (bA a) (i * 1)).run P w = .ok v w := fun i hi => by
    have hg : (bA a)[i]? = some (.int .u8 (a[i].toNat : Int)) := bA_get a i _ (List.getElem?_eq_getElem (by omega))
    have hagg : (isAgg e).run P w = .ok false w := by
      unfold isAgg
      rw [Sem.run_bind, run_underlying he w]
      rfl
    exact ⟨.int .u8 (a[i].toNat : Int), by simp [part, Sem.run_bind, hagg, hg]⟩
  have key : ∀ (m s : Nat), s + m ≤ n → (forIn (m := Sem) (List.range' s m) PUnit.unit fun i _ => do
      Instr.checkKey b 9999 e (← part e (bA a) (i * (← sizeOf e)))
      pure (ForInStep.yield PUnit.unit)).run P w = .ok PUnit.unit w := by
    intro m
    induction m with
    | zero => intro s _; simp
    | succ m ih =>
      intro s hs
      obtain ⟨v, hv⟩ := hpart s (by omega)
      simp only [List.range'_succ, List.forIn_cons, Sem.run_bind, hsz, Result.andThen_ok, hv, hel, Sem.run_pure]
      exact ih (s + 1) (by omega)
  unfold Instr.checkKey
  simp only [Sem.run_bind, run_underlying ht, Result.andThen_ok]
  have h := key n 0 (by omega)
  rw [Std.Legacy.Range.forIn_eq_forIn_range']
  have hr : [:n].size = n := by simp [Std.Legacy.Range.size]
  rw [hr]
  rw [h]
  rfl

/-- The entries of a map whose keys are bytes, in the order in which they came. -/
def entB (D : List (List UInt8 × Value)) : List MapEntry := D.zipIdx.map fun p => ⟨.agg (bA p.1.1), p.1.2, p.2⟩
theorem entB_len (D : List (List UInt8 × Value)) : (entB D).length = D.length := by simp [entB]
theorem entB_get (D : List (List UInt8 × Value)) (i : Nat) : (entB D)[i]? = D[i]?.map fun p => ⟨.agg (bA p.1), p.2, i⟩ := by
  unfold entB
  rw [List.getElem?_map, List.getElem?_zipIdx, Option.map_map]
  cases D[i]? <;> simp
/-- Where a key stands. -/
def posB (a : List UInt8) : List (List UInt8 × Value) → Nat → Option (Nat × Value)
  | [], _ => none
  | p :: r, i => if a == p.1 then some (i, p.2) else posB a r (i + 1)
theorem posB_some {a : List UInt8} : ∀ {D : List (List UInt8 × Value)} {i j : Nat} {v : Value}, posB a D i = some (j, v) → i ≤ j ∧ D[j - i]? = some (a, v)
  | [], i, j, v, h => by cases h
  | p :: r, i, j, v, h => by
    unfold posB at h
    split at h
    · rename_i e
      cases h
      have e2 : a = p.1 := by simpa using e
      refine ⟨Nat.le_refl _, ?_⟩
      rw [Nat.sub_self, e2]
      rfl
    · obtain ⟨h1, h2⟩ := posB_some h
      refine ⟨by omega, ?_⟩
      rw [show j - i = j - (i + 1) + 1 by omega, List.getElem?_cons_succ]
      exact h2
theorem posB_none {a : List UInt8} : ∀ {D : List (List UInt8 × Value)} {i : Nat}, posB a D i = none → ∀ p ∈ D, p.1 ≠ a
  | [], i, h => by intro p hp; cases hp
  | q :: r, i, h => by
    unfold posB at h
    split at h
    · cases h
    · rename_i e
      intro p hp
      rcases List.mem_cons.1 hp with rfl | hp
      · intro e2; exact e (by simp [e2])
      · exact posB_none h p hp
theorem findNow_arr {n : Nat} {e : TypeId} (a : List UInt8) (m : MapEntry) (es : List MapEntry) (i : Nat) : Instr.findNow (.array n e) (.agg (bA a)) (m :: es) i = none := rfl
theorem run_asking {t e : TypeId} {n : Nat} (ht : P.underlying t = some (.array n e)) (he : P.underlying e = some (.int .u8)) (hs : (P.info? e).map (·.size) = some 1) (a : List UInt8) (ha : a.length = n) (w : World) :
    ∀ (D : List (List UInt8 × Value)) (i : Nat), (∀ p ∈ D, p.1.length = n) → ∀ es : List MapEntry, es.map (fun m => (m.key, m.val)) = D.map (fun p => (.agg (bA p.1), p.2)) → (Instr.findAsking t (.agg (bA a)) es i).run P w = .ok (posB a D i) w
  | [], i, _, es, h => by
    have : es = [] := by simpa using h
    subst this
    rfl
  | p :: D, i, hD, es, h => by
    cases es with
    | nil => cases h
    | cons m es =>
      simp only [List.map_cons, List.cons.injEq, Prod.mk.injEq] at h
      obtain ⟨⟨h1, h2⟩, h3⟩ := h
      unfold Instr.findAsking posB
      rw [h1, Sem.run_bind, run_equalB ht he hs a p.1 ha (hD p (by simp)) w, Result.andThen_ok]
      cases hap : a == p.1 with
      | true => simp [h2]
      | false =>
        simp only [Bool.false_eq_true, if_false]
        exact run_asking ht he hs a ha w D (i + 1) (fun q hq => hD q (by simp [hq])) es h3
theorem run_findB {t e : TypeId} {n : Nat} (ht : P.underlying t = some (.array n e)) (he : P.underlying e = some (.int .u8)) (hs : (P.info? e).map (·.size) = some 1) (a : List UInt8) (ha : a.length = n) (w : World) (D : List (List UInt8 × Value)) (hD : ∀ p ∈ D, p.1.length = n) :
    (Instr.findKey t (.agg (bA a)) (entB D)).run P w = .ok (posB a D 0) w := by
  have hk := run_asking ht he hs a ha w D 0 hD (entB D) (by
    unfold entB
    rw [List.map_map]
    apply List.ext_getElem?
    intro i
    rw [List.getElem?_map, List.getElem?_map, List.getElem?_zipIdx]
    cases D[i]? <;> simp)
  unfold Instr.findKey
  simp only [Sem.run_bind, run_underlying ht, Result.andThen_ok]
  cases D with
  | nil => rfl
  | cons p D =>
    rw [show entB (p :: D) = ⟨.agg (bA p.1), p.2, 0⟩ :: (entB (p :: D)).tail from rfl, findNow_arr]
    exact hk
def mapB (n b : Nat) (D : List (List UInt8 × Value)) : Res where
  dom i := i = b
  holds w := w.heap[b]? = some (.map (entB D).toArray D.length) ∧ ∀ p ∈ D, p.1.length = n
  stable w w' h hh := ⟨(h b rfl).trans hh.1, hh.2⟩
def getB (a : List UInt8) (D : List (List UInt8 × Value)) (z : Value) : Value := (posB a D 0).elim z (·.2)
end
section
variable {P : Program} {N : Nat} {Q : Post} {env : Env} {w w0 : World} {M : Nat → Prop} {rs : List Res} {K : Env → World → Prop} {d : Tmp} {ty : TypeId} {pos : String} {after : Array Edge} {g : Option (Nat × Bool)} {dst : Option Tmp}
theorem getM {r : Nat} {es : Array MapEntry} {clock : Nat} (hb : w.heap[r]? = some (.map es clock)) : (getObj r).run P w = .ok (.map es clock) w := by
  simp [getObj, Sem.run, hb]
theorem setM {r : Nat} {es : Array MapEntry} {clock : Nat} (o : Obj) (hb : w.heap[r]? = some (.map es clock)) : (setObj r o).run P w = .ok () { w with heap := w.heap.setIfInBounds r o } := by
  simp [setObj, Sem.run, hb]
theorem y_lookB {t k e u : TypeId} {n b : Nat} {D : List (List UInt8 × Value)} {m x : Operand} {a : List UInt8} {z : Value} (hw : (mapB n b D).holds w) (ht : P.underlying t = some (.map k e)) (hk : P.underlying k = some (.array n u)) (hu : P.underlying u = some (.int .u8)) (hs : (P.info? u).map (·.size) = some 1)
    (hz : ∀ W, (zeroValue e).run P W = .ok z W) (hm : ev env m = some (.map (some b))) (hx : ev env x = some (.agg (bA a))) (ha : a.length = n) :
    Y P (Like w) env ⟨dst, .lookup t m x false, ty, pos, after, g⟩ (getB a D z) := fun N c w' hc hl => by
  have hh : w'.heap[b]? = some (.map (entB D).toArray D.length) := by
    have hb : b < w.heap.size := by
      rcases Nat.lt_or_ge b w.heap.size with q | q
      · exact q
      · have := hw.1; rw [Array.getElem?_eq_none q] at this; cases this
    rw [hl.block b hb]; exact hw.1
  have hf := run_findB (P := P) hk hu hs a ha w' D hw.2
  simp only [execOp, hc.eval hm, hc.eval hx, Instr.lookup, Sem.run_bind, run_underlying ht, Result.andThen_ok, getM hh, Sem.run_pure, run_checkB hk hu hs a ha w', hf]
  unfold getB
  cases posB a D 0 with
  | none => simp [hz]
  | some p => rfl
theorem o_makeMapB {t n : Nat} (S : St w0 M rs w) (hd : Nat.blt d N = true)
    (h : ∀ b w', w0.heap.size ≤ b → St w0 M (rs ++ [mapB n b []]) w' → K ((d, .map (some b)) :: env) w') :
    O P N Q ⟨some d, .makeMap t none, ty, pos, after, g⟩ env w K := fun a ha => by
  unfold Oper.wp execOp
  simp only [run_makeMap, Option.map_none, Sem.run_bind, Sem.run_pure, Result.andThen_ok]
  refine ⟨_, ha.put d _ hd, h _ _ S.size (S.new (like_alloc w _) _ ⟨heap_alloc_new w _, fun p hp => by cases hp⟩ fun i hi => ?_)⟩
  have hi' : i = w.heap.size := hi
  subst hi'
  exact ⟨Nat.le_refl _, by simp⟩
theorem set_map_other (w : World) (b : Nat) (o : Obj) (i : Nat) (h : i ≠ b) : ({ w with heap := w.heap.setIfInBounds b o } : World).heap[i]? = w.heap[i]? := by
  show (w.heap.setIfInBounds b o)[i]? = _
  rw [Array.getElem?_setIfInBounds_ne (Ne.symm h)]
theorem same_bits (a : List UInt8) : Instr.sameBits 10000 (.agg (bA a)) (.agg (bA a)) = true := by
  unfold Instr.sameBits
  simp only [BEq.rfl, Bool.true_and]
  rw [List.all_eq_true]
  intro p hp
  obtain ⟨i, hi, rfl⟩ := List.getElem_of_mem hp
  rw [List.getElem_zip]
  have h1 : i < (bA a).toList.length := by rw [List.length_zip] at hi; omega
  have hx : (bA a).toList[i] = .int .u8 ((a[i]'(by simpa [bA, bL] using h1)).toNat : Int) := by simp [bA, bL, bV]
  rw [hx]
  simp [Instr.sameBits]
/-- 'm[k]' as a place: what stood there, and its mark. -/
theorem o_entryB {t k e u : TypeId} {n b : Nat} {D : List (List UInt8 × Value)} {m x : Operand} {a : List UInt8} {z : Value} (S : St w0 M rs w) (j : Nat) (hj : rs[j]? = some (mapB n b D)) (ht : P.underlying t = some (.map k e)) (hk : P.underlying k = some (.array n u)) (hu : P.underlying u = some (.int .u8)) (hs : (P.info? u).map (·.size) = some 1)
    (hz : ∀ W, (zeroValue e).run P W = .ok z W) (hm : ev env m = some (.map (some b))) (hx : ev env x = some (.agg (bA a))) (ha : a.length = n) (hd : Nat.blt d N = true)
    (h1 : ∀ i v, posB a D 0 = some (i, v) → St w0 M rs w → K ((d, .tuple #[v, .int .i64 (i : Int)]) :: env) w)
    (h2 : posB a D 0 = none → ∀ w', St w0 M (rs.set j (mapB n b (D ++ [(a, z)]))) w' → K ((d, .tuple #[z, .int .i64 (D.length : Int)]) :: env) w') :
    O P N Q ⟨some d, .mapEntry t m x, ty, pos, after, g⟩ env w K := fun c hc => by
  have hw := S.get j hj
  have hf := run_findB (P := P) hk hu hs a ha w D hw.2
  unfold Oper.wp execOp
  simp only [hc.eval hm, hc.eval hx, Instr.mapEntry, Sem.run_bind, run_underlying ht, Result.andThen_ok, getM hw.1, Sem.run_pure, run_checkB hk hu hs a ha w, hf]
  cases hp : posB a D 0 with
  | some p =>
    obtain ⟨i, v⟩ := p
    obtain ⟨_, hi⟩ := posB_some hp
    rw [Nat.sub_zero] at hi
    have hg : (entB D).toArray[i]? = some ⟨.agg (bA a), v, i⟩ := by rw [List.getElem?_toArray, entB_get, hi]; rfl
    have hil := (Array.getElem?_eq_some_iff.1 hg).1
    have hget := (Array.getElem?_eq_some_iff.1 hg).2
    have hmod : ((entB D).toArray.modify i fun e => { e with key := Value.agg (bA a) }) = (entB D).toArray := by
      apply Array.ext_getElem?
      intro q
      rw [Array.getElem?_modify]
      split
      · rename_i e; subst e; rw [hg]; rfl
      · rfl
    have hsame : ({ w with heap := w.heap.setIfInBounds b (.map (entB D).toArray D.length) } : World) = w := by
      have : w.heap.setIfInBounds b (.map (entB D).toArray D.length) = w.heap := by
        apply Array.ext_getElem?
        intro q
        by_cases e : q = b
        · subst e
          have hq : q < w.heap.size := (Array.getElem?_eq_some_iff.1 hw.1).1
          rw [Array.getElem?_setIfInBounds_self_of_lt hq, hw.1]
        · rw [Array.getElem?_setIfInBounds_ne (Ne.symm e)]
      rw [this]
    simp only [hg, Option.map_some, Option.getD_some, Instr.keyThatStays, same_bits, if_true, Sem.run_pure, Sem.run_bind, Result.andThen_ok, hmod, setM _ hw.1, hsame]
    exact ⟨_, hc.put d _ hd, h1 i v hp S⟩
  | none =>
    have hnew : (entB D).toArray.push { key := Value.agg (bA a), val := z, born := D.length } = (entB (D ++ [(a, z)])).toArray := by
      unfold entB
      rw [List.zipIdx_append, List.map_append]
      simp
    simp only [hz, Sem.run_bind, Sem.run_pure, Result.andThen_ok, setM _ hw.1, hnew]
    refine ⟨_, hc.put d _ hd, h2 hp _ (S.upd j hj rfl rfl rfl (by simp) (fun i hi hn => set_map_other w b _ i hn) ⟨?_, fun p hp => ?_⟩ fun i hi => .inl hi)⟩
    · have hq : b < w.heap.size := (Array.getElem?_eq_some_iff.1 hw.1).1
      show (w.heap.setIfInBounds b _)[b]? = _
      rw [Array.getElem?_setIfInBounds_self_of_lt hq, List.length_append]
      rfl
    · rcases List.mem_append.1 hp with hp | hp
      · exact hw.2 p hp
      · obtain rfl := List.mem_singleton.1 hp
        exact ha
/-- What the place gets. -/
theorem o_entryStB {t : TypeId} {n b i : Nat} {D : List (List UInt8 × Value)} {m x v : Operand} {a : List UInt8} {old new : Value} (S : St w0 M rs w) (j : Nat) (hj : rs[j]? = some (mapB n b D)) (hi : D[i]? = some (a, old)) (hm : ev env m = some (.map (some b))) (hx : ev env x = some (.int .i64 (i : Int))) (hv : ev env v = some new)
    (h : ∀ w', St w0 M (rs.set j (mapB n b (D.set i (a, new)))) w' → K env w') :
    O P N Q ⟨none, .entryStore t m x v, ty, pos, after, g⟩ env w K := fun c hc => by
  have hw := S.get j hj
  have hil : i < D.length := (List.getElem?_eq_some_iff.1 hi).1
  have hfind : (entB D).toArray.findIdx? (fun e => ((e.born : Int) == (i : Int))) = some i := by
    rw [Array.findIdx?_eq_some_iff_getElem]
    have hg : ∀ q (hq : q < (entB D).toArray.size), ((entB D).toArray[q]).born = q := fun q hq => by
      have h1 : (entB D).toArray[q]? = some (entB D).toArray[q] := Array.getElem?_eq_getElem hq
      rw [List.getElem?_toArray, entB_get] at h1
      cases hD : D[q]? with
      | none => rw [hD] at h1; cases h1
      | some p => rw [hD] at h1; have h2 := Option.some.inj h1; rw [← h2]
    have hes : (entB D).toArray.size = D.length := by simp [entB_len]
    refine ⟨by omega, by rw [hg i (by omega)]; simp, fun q hq => ?_⟩
    rw [hg q (by omega)]
    simp
    omega
  have hnew : ((entB D).toArray.modify i fun e => { e with val := new }) = (entB (D.set i (a, new))).toArray := by
    apply Array.ext_getElem?
    intro q
    rw [Array.getElem?_modify, List.getElem?_toArray, List.getElem?_toArray, entB_get, entB_get, List.getElem?_set]
    split
    · rename_i e; subst e; first | (rw [if_pos hil, hi]; rfl) | (rw [hi]; rfl)
    · rfl
  have hai : (asInt (.int .i64 (i : Int))).run P w = .ok (i : Int) w := rfl
  unfold Oper.wp execOp
  simp only [hc.eval hm, hc.eval hx, hc.eval hv, Instr.entryStore, Sem.run_bind, getM hw.1, Result.andThen_ok, hai, Sem.run_pure, hfind, setM _ hw.1, hnew]
  refine ⟨env, hc, h _ (S.upd j hj rfl rfl rfl (by simp) (fun i hi hn => set_map_other w b _ i hn) ⟨?_, fun p hp => ?_⟩ fun i hi => .inl hi)⟩
  · have hq : b < w.heap.size := (Array.getElem?_eq_some_iff.1 hw.1).1
    show (w.heap.setIfInBounds b _)[b]? = _
    rw [Array.getElem?_setIfInBounds_self_of_lt hq, List.length_set]
  · rcases List.mem_or_eq_of_mem_set hp with hp | rfl
    · exact hw.2 p hp
    · exact hw.2 (a, old) (List.mem_of_getElem? hi)
/-- A slice as a pointer to an array. -/
theorem y_arrAt {t e : TypeId} {n m c : Nat} {A : Option Addr} {x : Operand} {S : World → Prop} (ht : P.underlying t = some (.array n e)) (hx : ev env x = some (.slice A m c)) (hn : n ≤ m) :
    Y P S env ⟨dst, .sliceToArrayPointer t x, ty, pos, after, g⟩ (.pointer A) := fun N c w hc _ => by
  simp only [execOp, hc.eval hx, Instr.arrayAt, Sem.run_bind, run_underlying ht, Result.andThen_ok]
  rw [if_neg (by omega)]
  simp only [Sem.run_bind, Sem.run_pure, Result.andThen_ok]
end
end Go.Proofs.Ytpcgldkllnkaeaa.Zx

/-
  '==' on structs of ints. General; nothing here names a program.
-/
namespace Go.Proofs.Ytpcgldkllnkaeaa.Zx
open Go.RowKit Zk
set_option linter.unusedVariables false
set_option linter.unusedSimpArgs false
/-- Fields that are ints, one behind the other. -/
def FieldsI (P : Program) : List Field → Nat → Prop
  | [], _ => True
  | f :: fs, o => f.name ≠ "_" ∧ f.offset = o ∧ (P.underlying f.type = some (.int .i64)) ∧ FieldsI P fs (o + 1)
section
variable {P : Program}
theorem run_part_int {t : TypeId} {k : IntKind} (ht : P.underlying t = some (.int k)) {cs : Array Value} {o : Nat} {v : Value} (hv : cs[o]? = some v) (w : World) : (part t cs o).run P w = .ok v w := by
  have h : (isAgg t).run P w = .ok false w := by
    unfold isAgg
    rw [Sem.run_bind, run_underlying ht w]
    rfl
  unfold part
  rw [Sem.run_bind, h]
  simp only [Result.andThen_ok, Bool.false_eq_true, if_false, hv, Sem.run_pure]
theorem run_eqFields_ints (d : Nat) (xs ys : List Int) (w : World) : ∀ (fs : List Field) (o : Nat), FieldsI P fs o → xs.length = o + fs.length → ys.length = o + fs.length →
    (Op.eqFields (d + 1) (iL xs).toArray (iL ys).toArray fs).run P w = .ok (decide (xs.drop o = ys.drop o)) w
  | [], o, _, h1, h2 => by
    rw [List.drop_eq_nil_of_le (by simp at h1; omega), List.drop_eq_nil_of_le (by simp at h2; omega)]
    rfl
  | f :: fs, o, ⟨a1, a2, a4, a3⟩, h1, h2 => by
    simp only [List.length_cons] at h1 h2
    have ex : xs[o]? = some xs[o] := List.getElem?_eq_getElem (by omega)
    have ey : ys[o]? = some ys[o] := List.getElem?_eq_getElem (by omega)
    have ih := run_eqFields_ints d xs ys w fs (o + 1) a3 (by omega) (by omega)
    have hx : ((iL xs).toArray)[o]? = some (.int .i64 xs[o]) := by rw [List.getElem?_toArray]; exact iL_get _ _ _ ex
    have hy : ((iL ys).toArray)[o]? = some (.int .i64 ys[o]) := by rw [List.getElem?_toArray]; exact iL_get _ _ _ ey
    rw [Op.eqFields, if_pos a1, a2, Sem.run_bind, run_part_int a4 hx, Result.andThen_ok, Sem.run_bind, run_part_int a4 hy, Result.andThen_ok, Sem.run_bind, run_equalIn_int w d _ _ _ _ _ a4, Result.andThen_ok]
    have dx : xs.drop o = xs[o] :: xs.drop (o + 1) := List.drop_eq_getElem_cons (by omega)
    have dy : ys.drop o = ys[o] :: ys.drop (o + 1) := List.drop_eq_getElem_cons (by omega)
    by_cases h : xs[o] = ys[o]
    · have hb : (xs[o] == ys[o]) = true := by simpa using h
      rw [hb]
      simp only [Bool.not_true, Bool.false_eq_true, if_false]
      rw [ih, dx, dy, h]
      exact congrArg (fun b => Result.ok b w) (decide_eq_decide.2 ⟨fun q => by rw [q], fun q => by injection q⟩)
    · have hb : (xs[o] == ys[o]) = false := by simpa using h
      rw [hb]
      simp only [Bool.not_false, if_true, Sem.run_pure]
      rw [dx, dy]
      exact congrArg (fun b => Result.ok b w) (decide_eq_false (fun q => h (by injection q))).symm
theorem run_eq_ints {t : TypeId} {fs : Array Field} (ht : P.underlying t = some (.struct fs)) (hp : P.stoodInHeld t = false) (hf : FieldsI P fs.toList 0) (xs ys : List Int) (hx : xs.length = fs.size) (hy : ys.length = fs.size) (w : World) :
    (Op.equalIn 10000 t (.agg (iL xs).toArray) (.agg (iL ys).toArray)).run P w = .ok (decide (xs = ys)) w := by
  have e : P.fieldsOf t = fs := by simp [Program.fieldsOf, ht]
  rw [run_equalIn_struct w 9999 t _ _ (by rw [e]; exact ht) hp, e]
  have := run_eqFields_ints 9998 xs ys w fs.toList 0 hf (by simp; omega) (by simp; omega)
  rw [List.drop_zero, List.drop_zero] at this
  exact this
variable {S : World → Prop} {env : Env} {dst : Option Tmp} {ty : TypeId} {pos : String} {after : Array Edge} {g : Option (Nat × Bool)}
theorem y_eqI {x y : Operand} {t u : TypeId} {fs : Array Field} {xs ys : List Int} (ht : P.underlying t = some (.struct fs)) (hp : P.stoodInHeld t = false) (hm : P.eqGuardType P.depth t = false) (hf : FieldsI P fs.toList 0) (hx : ev env x = some (.agg (iL xs).toArray)) (hy : ev env y = some (.agg (iL ys).toArray))
    (hl : xs.length = fs.size) (hml : ys.length = fs.size) : Y P S env ⟨dst, .binOp .eql t x y u, ty, pos, after, g⟩ (.bool (decide (xs = ys))) := fun N a w ha _ => by
  have h1 := run_eql_struct (P := P) w t (iL xs).toArray (iL ys).toArray
  rw [run_eq_ints ht hp hf xs ys hl hml w, Result.andThen_ok] at h1
  simp only [execOp, ha.eval hx, ha.eval hy, Sem.run_bind, eqGuard_run .eql x y _ _ hm w, Result.andThen_ok, h1, Sem.run_pure]
theorem y_neI {x y : Operand} {t u : TypeId} {fs : Array Field} {xs ys : List Int} (ht : P.underlying t = some (.struct fs)) (hp : P.stoodInHeld t = false) (hm : P.eqGuardType P.depth t = false) (hf : FieldsI P fs.toList 0) (hx : ev env x = some (.agg (iL xs).toArray)) (hy : ev env y = some (.agg (iL ys).toArray))
    (hl : xs.length = fs.size) (hml : ys.length = fs.size) : Y P S env ⟨dst, .binOp .neq t x y u, ty, pos, after, g⟩ (.bool (decide (xs ≠ ys))) := fun N a w ha _ => by
  have h1 := run_neq_struct (P := P) w t (iL xs).toArray (iL ys).toArray
  rw [run_eq_ints ht hp hf xs ys hl hml w, Result.andThen_ok] at h1
  have e : (!decide (xs = ys)) = decide (xs ≠ ys) := by by_cases h : xs = ys <;> simp [h]
  rw [e] at h1
  simp only [execOp, ha.eval hx, ha.eval hy, Sem.run_bind, eqGuard_run .neq x y _ _ hm w, Result.andThen_ok, h1, Sem.run_pure]
end
section
open Go.ChangeShapes Go.WideShapes Go.ChangeAt Go.Deep
variable {H : Type} {enc : TypeId × Value → H} {P : Program} {w : World} {base : Nat} {spare : Nat → Bool} {held : Bool}
theorem read_intsS {t e : TypeId} {k : IntKind} (ht : P.underlying t = some (.slice e)) (he : P.underlying e = some (.int k)) (hc : P.cellsOf e = 1)
    {fuel : Nat} {cs : List Value} {x : DataW H × List MemPlace} (h : DataW.trod enc P w base spare held fuel t cs = some x) :
    ∃ A n c, ∃ l : List Int, cs = [.slice A n c] ∧ Rs w 1 A n c (l.map (Value.int k)) := by
  obtain ⟨A, n, c, l, h1, h2, _⟩ := read_row1 (Value.int k) (fun _ => True) ht hc (fun n v x h => by
    obtain ⟨a, ha, _, hw⟩ := DataW.trod_int he h
    simp only [List.cons.injEq, and_true] at ha
    exact ⟨a, ha, trivial⟩) h
  exact ⟨A, n, c, l, h1, h2⟩
/-- A slice of ints. -/
theorem open_intsS {r : Reach} {b0 : Nat} {t e : TypeId} {v : Value} {d : DataW H} {p : List MemPlace} (ht : P.underlying t = some (.slice e)) (he : P.underlying e = some (.int .i64)) (hc : P.cellsOf e = 1)
    (hv : Value.okWide P w r b0 t v) (h : DataW.Trod enc P w base spare held t v d p) : ∃ A n c, ∃ l : List Int, v = .slice A n c ∧ Rs w 1 A n c (iL l) := by
  obtain ⟨fuel, hf⟩ := h
  obtain ⟨A, n, c, l, h1, h2⟩ := read_intsS ht he hc hf
  exact ⟨A, n, c, l, slice_of_cells ht hv h1, h2⟩
end
end Go.Proofs.Ytpcgldkllnkaeaa.Zx

/-
  A law's arguments, opened: slices of elements of many cells. General; nothing here names a program.
-/
namespace Go.Proofs.Ytpcgldkllnkaeaa.Zx
open Go.ChangeShapes Go.WideShapes Go.ChangeAt Go.RowKit Go.Deep Zk
set_option linter.unusedVariables false
section
variable {H : Type} {enc : TypeId × Value → H} {P : Program} {w : World} {base : Nat} {spare : Nat → Bool} {held : Bool}
theorem flat_len {α : Type} (f : α → List Value) (size : Nat) (hlen : ∀ y, (f y).length = size) : ∀ l : List α, (l.flatMap f).length = l.length * size
  | [] => by simp
  | y :: l => by rw [List.flatMap_cons, List.length_append, hlen, flat_len f size hlen l, List.length_cons, Nat.succ_mul]; omega
theorem flat_get {α : Type} (f : α → List Value) (size : Nat) (hlen : ∀ y, (f y).length = size) : ∀ (l : List α) (j : Nat) (u : Value), (l.flatMap f)[j]? = some u → ∃ i y, l[i]? = some y ∧ i * size ≤ j ∧ (f y)[j - i * size]? = some u
  | [], j, u, h => by simp at h
  | y :: l, j, u, h => by
    rw [List.flatMap_cons, List.getElem?_append, hlen] at h
    split at h
    · exact ⟨0, y, rfl, by omega, by simpa using h⟩
    · obtain ⟨i, z, h1, h2, h3⟩ := flat_get f size hlen l (j - size) u h
      exact ⟨i + 1, z, by simpa using h1, by rw [Nat.succ_mul]; omega, by rw [Nat.succ_mul, show j - (i * size + size) = j - size - i * size by omega]; exact h3⟩
/-- A slice whose elements are of many cells. -/
theorem read_rowN {α : Type} (f : α → List Value) (φ : α → Prop) (size : Nat) {t e : TypeId} (ht : P.underlying t = some (.slice e)) (hc : P.cellsOf e = size) (hpos : 0 < size) (hlen : ∀ y, (f y).length = size)
    (hread : ∀ n cs x, cs.length = size → DataW.trod enc P w base spare held n e cs = some x → ∃ y, cs = f y ∧ φ y)
    {fuel : Nat} {cs : List Value} {x : DataW H × List MemPlace} (h : DataW.trod enc P w base spare held fuel t cs = some x) :
    ∃ A n c, ∃ l : List α, cs = [.slice A n c] ∧ Rs w size A n c (l.flatMap f) ∧ (∀ y ∈ l, φ y) ∧ l.length = n := by
  rcases open_slice ht h with ⟨rfl, _⟩ | ⟨a, len, cap, m, n, D, Pl, rfl, _, hl, hm, hmm, _, hi⟩
  · exact ⟨none, 0, 0, [], rfl, Rs.nil w size, (fun y hy => by cases hy), rfl⟩
  · have hle : len ≤ m := by rw [hmm]; split <;> omega
    rw [hc] at hi
    obtain ⟨l, hll, hp⟩ := list_of (fun i (y : α) => w.cells? base (a.add (i * size)) size = some (f y) ∧ φ y) len (fun i hil => by
      obtain ⟨cs', h1, h2⟩ := hi i (by omega)
      obtain ⟨y, h3, h4⟩ := hread n cs' _ (World.cells?_some h1).2.1 h2
      exact ⟨y, by rw [← h3]; exact h1, h4⟩)
    refine ⟨some a, len, cap, l, rfl, ⟨⟨by rw [flat_len f size hlen, hll], fun h0 => ⟨a, rfl, ?_, fun j u hu => ?_⟩⟩, hl, by unfold maxLen at hm; exact hm⟩, fun y hy => ?_, hll⟩
    · obtain ⟨cs', h1, h2⟩ := hi 0 (by omega)
      have h3 := (World.cells?_some h1).2.2 0 hpos
      rw [List.getElem?_eq_getElem (by rw [(World.cells?_some h1).2.1]; exact hpos)] at h3
      have := World.block_lt_of_cell? w _ h3
      rwa [block_of_add, block_of_add] at this
    · obtain ⟨i, y, h1, h2, h3⟩ := flat_get f size hlen l j u hu
      have h4 := (World.cells?_some (hp i y h1).1).2.2 (j - i * size) (by have := (List.getElem?_eq_some_iff.1 h3).1; rwa [hlen y] at this)
      rw [Go.Deep.add_add, show i * size + (j - i * size) = j by omega, h3] at h4
      exact h4
    · obtain ⟨i, hi2, rfl⟩ := List.getElem_of_mem hy
      exact (hp i _ (List.getElem?_eq_getElem hi2)).2
theorem flat_cut {α : Type} (f : α → List Value) (size : Nat) (hlen : ∀ y, (f y).length = size) : ∀ (l : List α) (k : Nat) (y : α), l[k]? = some y → ((l.flatMap f).drop (k * size)).take size = f y
  | [], k, y, h => by simp at h
  | z :: l, 0, y, h => by
    have e : z = y := by simpa using h
    subst e
    rw [Nat.zero_mul, List.drop_zero, List.flatMap_cons, List.take_append_of_le_length (by rw [hlen]; exact Nat.le_refl _), List.take_of_length_le (by rw [hlen]; exact Nat.le_refl _)]
  | z :: l, k + 1, y, h => by
    rw [List.flatMap_cons, Nat.succ_mul, Nat.add_comm, ← List.drop_drop, List.drop_left' (hlen z)]
    exact flat_cut f size hlen l k y (by simpa using h)
end
section
variable {P : Program} {env : Env} {w : World} {dst : Option Tmp} {ty : TypeId} {pos : String} {after : Array Edge} {g : Option (Nat × Bool)}
/-- A load of an element of many cells. -/
theorem y_ldp {α : Type} {f : α → List Value} {l : List α} {y : α} {x : Operand} {A : Option Addr} {n c k size : Nat} {lt : TypeId} {d : TypeDesc} (hlen : ∀ y, (f y).length = size) (hd : P.underlying lt = some d) (hrow : d.isRow = true) (hsz : (P.info? lt).map (·.size) = some size) (hx : ev env x = some (pR A k size)) (hr : Rs w size A n c (l.flatMap f)) (hk : k < n) (hy : l[k]? = some y) :
    Y P (Like w) env ⟨dst, .load lt x, ty, pos, after, g⟩ (.agg (f y).toArray) := by
  have h := y_ldn (dst := dst) (ty := ty) (pos := pos) (after := after) (g := g) hd hrow hsz hx hr hk
  rwa [flat_cut f size hlen l k y hy] at h
end
end Go.Proofs.Ytpcgldkllnkaeaa.Zx

/-
  Delta, in plain Lean: ops, scripts, what they are worth.
-/
namespace Go.Proofs.Ytpcgldkllnkaeaa
open Go.RowKit Zk Zx
set_option linter.unusedVariables false
set_option linter.unusedSimpArgs false
/-- An op's worth. -/
structure OV where
  cp : Bool
  fr : Int
  n : Int
  l : List UInt8
deriving DecidableEq
/-- An op in memory. -/
structure OP where
  cp : Bool
  fr : Int
  n : Int
  p : Part
def OP.v (o : OP) : OV := ⟨o.cp, o.fr, o.n, o.p.l⟩
def opf (o : OP) : List Value := [.bool o.cp, .int .i64 o.fr, .int .i64 o.n, pv o.p]
theorem opf_len (o : OP) : (opf o).length = 4 := rfl
theorem opf_one (o : OP) : ∀ u ∈ opf o, u.oneCell' = true := fun u hu => by
  simp only [opf, pv, List.mem_cons, List.not_mem_nil, or_false] at hu
  rcases hu with rfl | rfl | rfl | rfl <;> rfl
theorem ops_one (l : List OP) : ∀ u ∈ l.flatMap opf, u.oneCell' = true := fun u hu => by
  obtain ⟨o, _, ho⟩ := List.mem_flatMap.1 hu
  exact opf_one o u ho
theorem ops_len (l : List OP) : (l.flatMap opf).length = l.length * 4 := flat_len opf 4 opf_len l
theorem ops_n {w : World} {A : Option Addr} {n c : Nat} {l : List OP} (h : Rs w 4 A n c (l.flatMap opf)) : n = l.length := by
  have := h.len
  rw [ops_len] at this
  omega
def OkO (w : World) (l : List OP) : Prop := ∀ o ∈ l, o.p.ok w
theorem OkO.like {w w' : World} {l : List OP} (h : OkO w l) (lk : Like w w') : OkO w' l := fun o ho => Rs.like (h o ho) lk
def scA (b t : Int) (A : Option Addr) (n c : Nat) : Array Value := #[.int .i64 b, .int .i64 t, .slice A n c]
def szV (o : OV) : Int := if o.cp then o.n else (o.l.length : Int)
def rtV (b : Int) (o : OV) : Bool := if o.cp then decide (1 ≤ o.n) && decide (o.n ≤ b) && decide (0 ≤ o.fr) && decide (o.fr ≤ b - o.n) && decide (o.l.length = 0) else decide (1 ≤ o.l.length) && decide (o.fr = 0) && decide (o.n = 0)
def chkL (b : Int) : Int → List OV → Bool
  | left, [] => decide (left = 0)
  | left, o :: r => rtV b o && decide (szV o ≤ left) && chkL b (left - szV o) r
def chkV (b t : Int) (l : List OV) : Bool := decide (0 ≤ b ∧ b ≤ 4000 ∧ 0 ≤ t ∧ t ≤ 4000) && chkL b t l
theorem sz_nonneg {b : Int} {o : OV} (h : rtV b o = true) : 1 ≤ szV o := by
  unfold rtV at h
  unfold szV
  split at h
  · rename_i hc
    rw [if_pos hc]
    simp at h
    omega
  · rename_i hc
    rw [if_neg hc]
    simp at h
    omega
end Go.Proofs.Ytpcgldkllnkaeaa

/-
  Op: size, right.
-/
namespace Go.Proofs.Ytpcgldkllnkaeaa
open Go.RowKit Zk Zx
set_option linter.unusedVariables false
set_option linter.unusedSimpArgs false

set_option maxRecDepth 100000 in
theorem osize (o : OP) (w0 : World) (ho : o.p.ok w0) :
    Calls Try.prog 38 #[.agg (opf o).toArray] w0 fun e w' => ∃ u, e = .returned u ∧ Like w0 w' ∧ u = .int .i64 (szV o.v) := by
  refine enter1 (env := [(0, .agg (opf o).toArray)]) [.agg (opf o).toArray] Try.func38 rfl Try.ntmps38 rfl rfl ?_
  have hol := Rs.lenb ho; have S0 := St.start w0 noM
  refine T_seq fun K1 hK1 => ?_
  refine T_region ?_
  refine L_o (o_box rfl S0 rfl fun b1 w1 hb1 S1 => ?_)
  refine L_y (y_assign rfl) rfl ?_
  refine L_nil ?_
  refine hK1 _ _ ?_
  refine T_seq fun K2 hK2 => ?_
  refine T_seq fun K3 hK3 => ?_
  refine T_region ?_
  refine L_y (y_fieldA 0 Try.underlying57 rfl sz4 rfl rfl rfl) rfl ?_
  refine L_y (y_ldc Try.underlying4 rfl rfl (((S1.blk 0 rfl).cell _).trans (by rfl))) rfl ?_
  refine L_nil ?_
  refine hK3 _ _ ?_
  refine T_condB rfl (fun h4 => ?_) (fun h4 => ?_)
  ·
    refine T_seq fun K4 hK4 => ?_
    refine T_region ?_
    refine L_y (y_fieldA 2 Try.underlying57 rfl sz3 rfl rfl rfl) rfl ?_
    refine L_y (y_ldc Try.underlying3 rfl rfl (((S1.blk 0 rfl).cell _).trans (by rfl))) rfl ?_
    refine L_y (y_assign rfl) rfl ?_
    refine L_nil ?_
    refine hK4 _ _ ?_
    refine T_ret ?_
    repeat (first | with_reducible refine up_then ?_ | with_reducible refine up_in ?_)
    refine ret1 rfl rfl ?_
    exact ⟨_, rfl, S1.like0, by unfold szV; simp [OP.v, opf, pv, h4, hol]⟩
  ·
    refine T_skip ?_
    refine hK2 _ _ ?_
    refine T_seq fun K5 hK5 => ?_
    refine T_region ?_
    refine L_y (y_fieldA 3 Try.underlying57 rfl sz22 rfl rfl rfl) rfl ?_
    refine L_y (y_ldc Try.underlying22 rfl rfl (((S1.blk 0 rfl).cell _).trans (by rfl))) rfl ?_
    refine L_y (y_len Try.underlying22 rfl) rfl ?_
    refine L_y (y_assign rfl) rfl ?_
    refine L_nil ?_
    refine hK5 _ _ ?_
    refine T_ret ?_
    repeat (first | with_reducible refine up_then ?_ | with_reducible refine up_in ?_)
    refine ret1 rfl rfl ?_
    exact ⟨_, rfl, S1.like0, by unfold szV; simp [OP.v, opf, pv, h4, hol]⟩


set_option maxRecDepth 100000 in
theorem rsize (o : OP) (w0 : World) (ho : o.p.ok w0) :
    Calls Try.prog 28 #[.agg (opf o).toArray] w0 fun e w' => ∃ u, e = .returned u ∧ Like w0 w' ∧ u = .int .i64 (szV o.v) := by
  refine enter1 (env := [(0, .agg (opf o).toArray)]) [.agg (opf o).toArray] Try.func28 rfl Try.ntmps28 rfl rfl ?_
  have hol := Rs.lenb ho; have S0 := St.start w0 noM
  refine T_seq fun K1 hK1 => ?_
  refine T_region ?_
  refine L_o (o_box rfl S0 rfl fun b1 w1 hb1 S1 => ?_)
  refine L_y (y_assign rfl) rfl ?_
  refine L_nil ?_
  refine hK1 _ _ ?_
  refine T_seq fun K2 hK2 => ?_
  refine T_seq fun K3 hK3 => ?_
  refine T_region ?_
  refine L_y (y_fieldA 0 Try.underlying58 rfl sz4 rfl rfl rfl) rfl ?_
  refine L_y (y_ldc Try.underlying4 rfl rfl (((S1.blk 0 rfl).cell _).trans (by rfl))) rfl ?_
  refine L_nil ?_
  refine hK3 _ _ ?_
  refine T_condB rfl (fun h4 => ?_) (fun h4 => ?_)
  ·
    refine T_seq fun K4 hK4 => ?_
    refine T_region ?_
    refine L_y (y_fieldA 2 Try.underlying58 rfl sz3 rfl rfl rfl) rfl ?_
    refine L_y (y_ldc Try.underlying3 rfl rfl (((S1.blk 0 rfl).cell _).trans (by rfl))) rfl ?_
    refine L_y (y_assign rfl) rfl ?_
    refine L_nil ?_
    refine hK4 _ _ ?_
    refine T_ret ?_
    repeat (first | with_reducible refine up_then ?_ | with_reducible refine up_in ?_)
    refine ret1 rfl rfl ?_
    exact ⟨_, rfl, S1.like0, by unfold szV; simp [OP.v, opf, pv, h4, hol]⟩
  ·
    refine T_skip ?_
    refine hK2 _ _ ?_
    refine T_seq fun K5 hK5 => ?_
    refine T_region ?_
    refine L_y (y_fieldA 3 Try.underlying58 rfl sz22 rfl rfl rfl) rfl ?_
    refine L_y (y_ldc Try.underlying22 rfl rfl (((S1.blk 0 rfl).cell _).trans (by rfl))) rfl ?_
    refine L_y (y_len Try.underlying22 rfl) rfl ?_
    refine L_y (y_assign rfl) rfl ?_
    refine L_nil ?_
    refine hK5 _ _ ?_
    refine T_ret ?_
    repeat (first | with_reducible refine up_then ?_ | with_reducible refine up_in ?_)
    refine ret1 rfl rfl ?_
    exact ⟨_, rfl, S1.like0, by unfold szV; simp [OP.v, opf, pv, h4, hol]⟩


set_option maxRecDepth 100000 in
theorem oright (o : OP) (b : Int) (w0 : World) (ho : o.p.ok w0) (hb : 0 ≤ b ∧ b ≤ 4000) :
    Calls Try.prog 37 #[.agg (opf o).toArray, .int .i64 b] w0 fun e w' => ∃ u, e = .returned u ∧ Like w0 w' ∧ u = .bool (rtV b o.v) := by
  refine enter1 (env := [(0, .agg (opf o).toArray), (1, .int .i64 b)]) [.agg (opf o).toArray, .int .i64 b] Try.func37 rfl Try.ntmps37 rfl rfl ?_
  have hol := Rs.lenb ho; have S0 := St.start w0 noM
  refine T_seq fun K1 hK1 => ?_
  refine T_region ?_
  refine L_o (o_box rfl S0 rfl fun b1 w1 hb1 S1 => ?_)
  refine L_y (y_assign rfl) rfl ?_
  refine L_nil ?_
  refine hK1 _ _ ?_
  refine T_seq fun K2 hK2 => ?_
  refine T_seq fun K3 hK3 => ?_
  refine T_region ?_
  refine L_y (y_fieldA 0 Try.underlying57 rfl sz4 rfl rfl rfl) rfl ?_
  refine L_y (y_ldc Try.underlying4 rfl rfl (((S1.blk 0 rfl).cell _).trans (by rfl))) rfl ?_
  refine L_nil ?_
  refine hK3 _ _ ?_
  refine T_condB rfl (fun h6 => ?_) (fun h6 => ?_)
  ·
    refine T_seq fun K4 hK4 => ?_
    refine T_region ?_
    refine L_y (y_fieldA 2 Try.underlying57 rfl sz3 rfl rfl rfl) rfl ?_
    refine L_y (y_ldc Try.underlying3 rfl rfl (((S1.blk 0 rfl).cell _).trans (by rfl))) rfl ?_
    refine L_y (y_geq rfl rfl) rfl ?_
    refine L_y (y_move rfl) rfl ?_
    refine L_split 10 rfl (fun h10 => ?_) (fun h10 => ?_)
    ·
      refine L_gyes rfl rfl ?_
      refine L_y (y_fieldA 2 Try.underlying57 rfl sz3 rfl rfl rfl) rfl ?_
      refine L_gyes rfl rfl ?_
      refine L_y (y_ldc Try.underlying3 rfl rfl (((S1.blk 0 rfl).cell _).trans (by rfl))) rfl ?_
      refine L_gyes rfl rfl ?_
      refine L_y (y_move rfl) rfl ?_
      refine L_gyes rfl rfl ?_
      refine L_y (y_leq rfl rfl) rfl ?_
      refine L_y ((by first | exact y_pickT rfl rfl | exact y_pickF rfl rfl)) rfl ?_
      refine L_y (y_move rfl) rfl ?_
      refine L_split 16 rfl (fun h16 => ?_) (fun h16 => ?_)
      ·
        refine L_gyes rfl rfl ?_
        refine L_y (y_fieldA 1 Try.underlying57 rfl sz3 rfl rfl rfl) rfl ?_
        refine L_gyes rfl rfl ?_
        refine L_y (y_ldc Try.underlying3 rfl rfl (((S1.blk 0 rfl).cell _).trans (by rfl))) rfl ?_
        refine L_gyes rfl rfl ?_
        refine L_y (y_geq rfl rfl) rfl ?_
        refine L_y ((by first | exact y_pickT rfl rfl | exact y_pickF rfl rfl)) rfl ?_
        refine L_y (y_move rfl) rfl ?_
        refine L_split 21 rfl (fun h21 => ?_) (fun h21 => ?_)
        ·
          refine L_gyes rfl rfl ?_
          refine L_y (y_fieldA 1 Try.underlying57 rfl sz3 rfl rfl rfl) rfl ?_
          refine L_gyes rfl rfl ?_
          refine L_y (y_ldc Try.underlying3 rfl rfl (((S1.blk 0 rfl).cell _).trans (by rfl))) rfl ?_
          refine L_gyes rfl rfl ?_
          refine L_y (y_move rfl) rfl ?_
          refine L_gyes rfl rfl ?_
          refine L_y (y_fieldA 2 Try.underlying57 rfl sz3 rfl rfl rfl) rfl ?_
          refine L_gyes rfl rfl ?_
          refine L_y (y_ldc Try.underlying3 rfl rfl (((S1.blk 0 rfl).cell _).trans (by rfl))) rfl ?_
          refine L_gyes rfl rfl ?_
          refine L_y (y_sub rfl rfl (i64w (by omega))) rfl ?_
          refine L_gyes rfl rfl ?_
          refine L_y (y_leq rfl rfl) rfl ?_
          refine L_y ((by first | exact y_pickT rfl rfl | exact y_pickF rfl rfl)) rfl ?_
          refine L_y (y_move rfl) rfl ?_
          refine L_split 30 rfl (fun h30 => ?_) (fun h30 => ?_)
          ·
            refine L_gyes rfl rfl ?_
            refine L_y (y_fieldA 3 Try.underlying57 rfl sz22 rfl rfl rfl) rfl ?_
            refine L_gyes rfl rfl ?_
            refine L_y (y_ldc Try.underlying22 rfl rfl (((S1.blk 0 rfl).cell _).trans (by rfl))) rfl ?_
            refine L_gyes rfl rfl ?_
            refine L_y (y_len Try.underlying22 rfl) rfl ?_
            refine L_gyes rfl rfl ?_
            refine L_y (y_eql rfl rfl) rfl ?_
            refine L_y ((by first | exact y_pickT rfl rfl | exact y_pickF rfl rfl)) rfl ?_
            refine L_y (y_assign rfl) rfl ?_
            refine L_nil ?_
            refine hK4 _ _ ?_
            refine T_ret ?_
            repeat (first | with_reducible refine up_then ?_ | with_reducible refine up_in ?_)
            refine ret1 rfl rfl ?_
            exact ⟨_, rfl, S1.like0, congrArg Value.bool (by unfold rtV; simp [OP.v, h6, hol, *]; try omega)⟩
          ·
            refine L_gno rfl rfl rfl ?_
            refine L_gno rfl rfl rfl ?_
            refine L_gno rfl rfl rfl ?_
            refine L_gno rfl rfl rfl ?_
            refine L_y ((by first | exact y_pickT rfl rfl | exact y_pickF rfl rfl)) rfl ?_
            refine L_y (y_assign rfl) rfl ?_
            refine L_nil ?_
            refine hK4 _ _ ?_
            refine T_ret ?_
            repeat (first | with_reducible refine up_then ?_ | with_reducible refine up_in ?_)
            refine ret1 rfl rfl ?_
            exact ⟨_, rfl, S1.like0, congrArg Value.bool (by unfold rtV; simp [OP.v, h6, hol, *]; try omega)⟩
        ·
          refine L_gno rfl rfl rfl ?_
          refine L_gno rfl rfl rfl ?_
          refine L_gno rfl rfl rfl ?_
          refine L_gno rfl rfl rfl ?_
          refine L_gno rfl rfl rfl ?_
          refine L_gno rfl rfl rfl ?_
          refine L_gno rfl rfl rfl ?_
          refine L_y ((by first | exact y_pickT rfl rfl | exact y_pickF rfl rfl)) rfl ?_
          refine L_y (y_move rfl) rfl ?_
          refine L_gno rfl rfl rfl ?_
          refine L_gno rfl rfl rfl ?_
          refine L_gno rfl rfl rfl ?_
          refine L_gno rfl rfl rfl ?_
          refine L_y ((by first | exact y_pickT rfl rfl | exact y_pickF rfl rfl)) rfl ?_
          refine L_y (y_assign rfl) rfl ?_
          refine L_nil ?_
          refine hK4 _ _ ?_
          refine T_ret ?_
          repeat (first | with_reducible refine up_then ?_ | with_reducible refine up_in ?_)
          refine ret1 rfl rfl ?_
          exact ⟨_, rfl, S1.like0, congrArg Value.bool (by unfold rtV; simp [OP.v, h6, hol, *]; try omega)⟩
      ·
        refine L_gno rfl rfl rfl ?_
        refine L_gno rfl rfl rfl ?_
        refine L_gno rfl rfl rfl ?_
        refine L_y ((by first | exact y_pickT rfl rfl | exact y_pickF rfl rfl)) rfl ?_
        refine L_y (y_move rfl) rfl ?_
        refine L_gno rfl rfl rfl ?_
        refine L_gno rfl rfl rfl ?_
        refine L_gno rfl rfl rfl ?_
        refine L_gno rfl rfl rfl ?_
        refine L_gno rfl rfl rfl ?_
        refine L_gno rfl rfl rfl ?_
        refine L_gno rfl rfl rfl ?_
        refine L_y ((by first | exact y_pickT rfl rfl | exact y_pickF rfl rfl)) rfl ?_
        refine L_y (y_move rfl) rfl ?_
        refine L_gno rfl rfl rfl ?_
        refine L_gno rfl rfl rfl ?_
        refine L_gno rfl rfl rfl ?_
        refine L_gno rfl rfl rfl ?_
        refine L_y ((by first | exact y_pickT rfl rfl | exact y_pickF rfl rfl)) rfl ?_
        refine L_y (y_assign rfl) rfl ?_
        refine L_nil ?_
        refine hK4 _ _ ?_
        refine T_ret ?_
        repeat (first | with_reducible refine up_then ?_ | with_reducible refine up_in ?_)
        refine ret1 rfl rfl ?_
        exact ⟨_, rfl, S1.like0, congrArg Value.bool (by unfold rtV; simp [OP.v, h6, hol, *]; try omega)⟩
    ·
      refine L_gno rfl rfl rfl ?_
      refine L_gno rfl rfl rfl ?_
      refine L_gno rfl rfl rfl ?_
      refine L_gno rfl rfl rfl ?_
      refine L_y ((by first | exact y_pickT rfl rfl | exact y_pickF rfl rfl)) rfl ?_
      refine L_y (y_move rfl) rfl ?_
      refine L_gno rfl rfl rfl ?_
      refine L_gno rfl rfl rfl ?_
      refine L_gno rfl rfl rfl ?_
      refine L_y ((by first | exact y_pickT rfl rfl | exact y_pickF rfl rfl)) rfl ?_
      refine L_y (y_move rfl) rfl ?_
      refine L_gno rfl rfl rfl ?_
      refine L_gno rfl rfl rfl ?_
      refine L_gno rfl rfl rfl ?_
      refine L_gno rfl rfl rfl ?_
      refine L_gno rfl rfl rfl ?_
      refine L_gno rfl rfl rfl ?_
      refine L_gno rfl rfl rfl ?_
      refine L_y ((by first | exact y_pickT rfl rfl | exact y_pickF rfl rfl)) rfl ?_
      refine L_y (y_move rfl) rfl ?_
      refine L_gno rfl rfl rfl ?_
      refine L_gno rfl rfl rfl ?_
      refine L_gno rfl rfl rfl ?_
      refine L_gno rfl rfl rfl ?_
      refine L_y ((by first | exact y_pickT rfl rfl | exact y_pickF rfl rfl)) rfl ?_
      refine L_y (y_assign rfl) rfl ?_
      refine L_nil ?_
      refine hK4 _ _ ?_
      refine T_ret ?_
      repeat (first | with_reducible refine up_then ?_ | with_reducible refine up_in ?_)
      refine ret1 rfl rfl ?_
      exact ⟨_, rfl, S1.like0, congrArg Value.bool (by unfold rtV; simp [OP.v, h6, hol, *]; try omega)⟩
  ·
    refine T_skip ?_
    refine hK2 _ _ ?_
    refine T_seq fun K5 hK5 => ?_
    refine T_region ?_
    refine L_y (y_fieldA 3 Try.underlying57 rfl sz22 rfl rfl rfl) rfl ?_
    refine L_y (y_ldc Try.underlying22 rfl rfl (((S1.blk 0 rfl).cell _).trans (by rfl))) rfl ?_
    refine L_y (y_len Try.underlying22 rfl) rfl ?_
    refine L_y (y_geq rfl rfl) rfl ?_
    refine L_y (y_move rfl) rfl ?_
    refine L_split 40 rfl (fun h40 => ?_) (fun h40 => ?_)
    ·
      refine L_gyes rfl rfl ?_
      refine L_y (y_fieldA 1 Try.underlying57 rfl sz3 rfl rfl rfl) rfl ?_
      refine L_gyes rfl rfl ?_
      refine L_y (y_ldc Try.underlying3 rfl rfl (((S1.blk 0 rfl).cell _).trans (by rfl))) rfl ?_
      refine L_gyes rfl rfl ?_
      refine L_y (y_eql rfl rfl) rfl ?_
      refine L_y ((by first | exact y_pickT rfl rfl | exact y_pickF rfl rfl)) rfl ?_
      refine L_y (y_move rfl) rfl ?_
      refine L_split 45 rfl (fun h45 => ?_) (fun h45 => ?_)
      ·
        refine L_gyes rfl rfl ?_
        refine L_y (y_fieldA 2 Try.underlying57 rfl sz3 rfl rfl rfl) rfl ?_
        refine L_gyes rfl rfl ?_
        refine L_y (y_ldc Try.underlying3 rfl rfl (((S1.blk 0 rfl).cell _).trans (by rfl))) rfl ?_
        refine L_gyes rfl rfl ?_
        refine L_y (y_eql rfl rfl) rfl ?_
        refine L_y ((by first | exact y_pickT rfl rfl | exact y_pickF rfl rfl)) rfl ?_
        refine L_y (y_assign rfl) rfl ?_
        refine L_nil ?_
        refine hK5 _ _ ?_
        refine T_ret ?_
        repeat (first | with_reducible refine up_then ?_ | with_reducible refine up_in ?_)
        refine ret1 rfl rfl ?_
        exact ⟨_, rfl, S1.like0, congrArg Value.bool (by unfold rtV; simp [OP.v, h6, hol, *]; try omega)⟩
      ·
        refine L_gno rfl rfl rfl ?_
        refine L_gno rfl rfl rfl ?_
        refine L_gno rfl rfl rfl ?_
        refine L_y ((by first | exact y_pickT rfl rfl | exact y_pickF rfl rfl)) rfl ?_
        refine L_y (y_assign rfl) rfl ?_
        refine L_nil ?_
        refine hK5 _ _ ?_
        refine T_ret ?_
        repeat (first | with_reducible refine up_then ?_ | with_reducible refine up_in ?_)
        refine ret1 rfl rfl ?_
        exact ⟨_, rfl, S1.like0, congrArg Value.bool (by unfold rtV; simp [OP.v, h6, hol, *]; try omega)⟩
    ·
      refine L_gno rfl rfl rfl ?_
      refine L_gno rfl rfl rfl ?_
      refine L_gno rfl rfl rfl ?_
      refine L_y ((by first | exact y_pickT rfl rfl | exact y_pickF rfl rfl)) rfl ?_
      refine L_y (y_move rfl) rfl ?_
      refine L_gno rfl rfl rfl ?_
      refine L_gno rfl rfl rfl ?_
      refine L_gno rfl rfl rfl ?_
      refine L_y ((by first | exact y_pickT rfl rfl | exact y_pickF rfl rfl)) rfl ?_
      refine L_y (y_assign rfl) rfl ?_
      refine L_nil ?_
      refine hK5 _ _ ?_
      refine T_ret ?_
      repeat (first | with_reducible refine up_then ?_ | with_reducible refine up_in ?_)
      refine ret1 rfl rfl ?_
      exact ⟨_, rfl, S1.like0, congrArg Value.bool (by unfold rtV; simp [OP.v, h6, hol, *]; try omega)⟩
end Go.Proofs.Ytpcgldkllnkaeaa

/-
  Check.
-/
namespace Go.Proofs.Ytpcgldkllnkaeaa
open Go.RowKit Zk Zx
set_option linter.unusedVariables false
set_option linter.unusedSimpArgs false

def errV (b t : Int) (l : List OV) : Int := if chkV b t l then 0 else 2
theorem chk_no {b t : Int} {l : List OV} (h : ¬ (0 ≤ b ∧ b ≤ 4000 ∧ 0 ≤ t ∧ t ≤ 4000)) : errV b t l = 2 := by
  unfold errV chkV
  rw [decide_eq_false h]
  rfl
theorem chk_eq {b t : Int} {l : List OV} (h : 0 ≤ b ∧ b ≤ 4000 ∧ 0 ≤ t ∧ t ≤ 4000) : errV b t l = if chkL b t l then 0 else 2 := by
  unfold errV chkV
  rw [decide_eq_true h, Bool.true_and]
theorem drop_at' {α : Type} {l : List α} {k : Nat} {a : α} (h : l[k]? = some a) : l.drop k = a :: l.drop (k + 1) := by
  obtain ⟨h1, h2⟩ := List.getElem?_eq_some_iff.1 h
  rw [← h2, List.getElem_cons_drop]
theorem map_at {l : List OP} {k : Nat} {o : OP} (h : l[k]? = some o) : (l.map OP.v)[k]? = some o.v := by rw [List.getElem?_map, h]; rfl
theorem chkL_bad {b left : Int} {l : List OP} {k : Nat} {o : OP} (ho : l[k]? = some o) (h : rtV b o.v = false ∨ left < szV o.v) : chkL b left ((l.map OP.v).drop k) = false := by
  rw [drop_at' (map_at ho)]
  unfold chkL
  rcases h with h | h
  · rw [h]; rfl
  · rw [decide_eq_false (by omega : ¬ szV o.v ≤ left)]; simp
theorem chkL_ok {b left : Int} {l : List OP} {k : Nat} {o : OP} (ho : l[k]? = some o) (h1 : rtV b o.v = true) (h2 : szV o.v ≤ left) : chkL b left ((l.map OP.v).drop k) = chkL b (left - szV o.v) ((l.map OP.v).drop (k + 1)) := by
  rw [drop_at' (map_at ho)]
  conv => lhs; unfold chkL
  rw [h1, decide_eq_true h2]
  rfl
theorem chkL_end {b left : Int} {l : List OP} {k : Nat} (h : l.length ≤ k) : chkL b left ((l.map OP.v).drop k) = decide (left = 0) := by
  rw [List.drop_of_length_le (by rw [List.length_map]; exact h)]
  rfl


set_option maxRecDepth 100000 in
theorem pcheck (A : Option Addr) (n c : Nat) (l : List OP) (b t : Int) (w0 : World) (hl : Rs w0 4 A n c (l.flatMap opf)) (hok : OkO w0 l) :
    Calls Try.prog 20 #[.agg (scA b t A n c)] w0 fun e w' => ∃ u, e = .returned u ∧ Like w0 w' ∧ u = .int .i64 (errV b t (l.map OP.v)) := by
  refine enter1 (env := [(0, .agg (scA b t A n c))]) [.agg (scA b t A n c)] Try.func20 rfl Try.ntmps20 rfl rfl ?_
  have hn := ops_n hl; have hcap := hl.cap; have hmax := hl.max; have S0 := St.start w0 noM
  refine T_seq fun K1 hK1 => ?_
  refine T_region ?_
  refine L_o (o_box rfl S0 rfl fun b1 w1 hb1 S1 => ?_)
  refine L_y (y_assign rfl) rfl ?_
  refine L_nil ?_
  refine hK1 _ _ ?_
  refine T_seq fun K2 hK2 => ?_
  refine T_seq fun K3 hK3 => ?_
  refine T_region ?_
  refine L_y (y_fieldA 0 Try.underlying25 rfl sz3 rfl rfl rfl) rfl ?_
  refine L_y (y_ldc Try.underlying3 rfl rfl (((S1.blk 0 rfl).cell _).trans (by rfl))) rfl ?_
  refine L_y (y_lss rfl rfl) rfl ?_
  refine L_y (y_move rfl) rfl ?_
  refine L_split 9 rfl (fun h9 => ?_) (fun h9 => ?_)
  ·
    refine L_gno rfl rfl rfl ?_
    refine L_gno rfl rfl rfl ?_
    refine L_gno rfl rfl rfl ?_
    refine L_y ((by first | exact y_pickT rfl rfl | exact y_pickF rfl rfl)) rfl ?_
    refine L_y (y_move rfl) rfl ?_
    refine L_gno rfl rfl rfl ?_
    refine L_gno rfl rfl rfl ?_
    refine L_gno rfl rfl rfl ?_
    refine L_y ((by first | exact y_pickT rfl rfl | exact y_pickF rfl rfl)) rfl ?_
    refine L_y (y_move rfl) rfl ?_
    refine L_gno rfl rfl rfl ?_
    refine L_gno rfl rfl rfl ?_
    refine L_gno rfl rfl rfl ?_
    refine L_y ((by first | exact y_pickT rfl rfl | exact y_pickF rfl rfl)) rfl ?_
    refine L_nil ?_
    refine hK3 _ _ ?_
    refine T_true rfl ?_
    refine T_seq fun K4 hK4 => ?_
    refine T_region ?_
    refine L_y (y_assign rfl) rfl ?_
    refine L_nil ?_
    refine hK4 _ _ ?_
    refine T_ret ?_
    repeat (first | with_reducible refine up_then ?_ | with_reducible refine up_in ?_)
    refine ret1 rfl rfl ?_
    first | exact ⟨_, rfl, S1.like0, by rw [chk_no (by omega)]⟩ | exact ⟨_, rfl, S1.like0, by rw [chk_eq (by omega), hch, hbad]; rfl⟩ | exact ⟨_, rfl, S1.like0, by rw [chk_eq (by omega), hch, chkL_end (by omega), decide_eq_false (by omega)]; rfl⟩ | exact ⟨_, rfl, S1.like0, by rw [chk_eq (by omega), hch, chkL_end (by omega), decide_eq_true (by omega)]; rfl⟩
  ·
    refine L_gyes rfl rfl ?_
    refine L_y (y_fieldA 0 Try.underlying25 rfl sz3 rfl rfl rfl) rfl ?_
    refine L_gyes rfl rfl ?_
    refine L_y (y_ldc Try.underlying3 rfl rfl (((S1.blk 0 rfl).cell _).trans (by rfl))) rfl ?_
    refine L_gyes rfl rfl ?_
    refine L_y (y_gtr rfl rfl) rfl ?_
    refine L_y ((by first | exact y_pickT rfl rfl | exact y_pickF rfl rfl)) rfl ?_
    refine L_y (y_move rfl) rfl ?_
    refine L_split 14 rfl (fun h14 => ?_) (fun h14 => ?_)
    ·
      refine L_gno rfl rfl rfl ?_
      refine L_gno rfl rfl rfl ?_
      refine L_gno rfl rfl rfl ?_
      refine L_y ((by first | exact y_pickT rfl rfl | exact y_pickF rfl rfl)) rfl ?_
      refine L_y (y_move rfl) rfl ?_
      refine L_gno rfl rfl rfl ?_
      refine L_gno rfl rfl rfl ?_
      refine L_gno rfl rfl rfl ?_
      refine L_y ((by first | exact y_pickT rfl rfl | exact y_pickF rfl rfl)) rfl ?_
      refine L_nil ?_
      refine hK3 _ _ ?_
      refine T_true rfl ?_
      refine T_seq fun K5 hK5 => ?_
      refine T_region ?_
      refine L_y (y_assign rfl) rfl ?_
      refine L_nil ?_
      refine hK5 _ _ ?_
      refine T_ret ?_
      repeat (first | with_reducible refine up_then ?_ | with_reducible refine up_in ?_)
      refine ret1 rfl rfl ?_
      first | exact ⟨_, rfl, S1.like0, by rw [chk_no (by omega)]⟩ | exact ⟨_, rfl, S1.like0, by rw [chk_eq (by omega), hch, hbad]; rfl⟩ | exact ⟨_, rfl, S1.like0, by rw [chk_eq (by omega), hch, chkL_end (by omega), decide_eq_false (by omega)]; rfl⟩ | exact ⟨_, rfl, S1.like0, by rw [chk_eq (by omega), hch, chkL_end (by omega), decide_eq_true (by omega)]; rfl⟩
    ·
      refine L_gyes rfl rfl ?_
      refine L_y (y_fieldA 1 Try.underlying25 rfl sz3 rfl rfl rfl) rfl ?_
      refine L_gyes rfl rfl ?_
      refine L_y (y_ldc Try.underlying3 rfl rfl (((S1.blk 0 rfl).cell _).trans (by rfl))) rfl ?_
      refine L_gyes rfl rfl ?_
      refine L_y (y_lss rfl rfl) rfl ?_
      refine L_y ((by first | exact y_pickT rfl rfl | exact y_pickF rfl rfl)) rfl ?_
      refine L_y (y_move rfl) rfl ?_
      refine L_split 19 rfl (fun h19 => ?_) (fun h19 => ?_)
      ·
        refine L_gno rfl rfl rfl ?_
        refine L_gno rfl rfl rfl ?_
        refine L_gno rfl rfl rfl ?_
        refine L_y ((by first | exact y_pickT rfl rfl | exact y_pickF rfl rfl)) rfl ?_
        refine L_nil ?_
        refine hK3 _ _ ?_
        refine T_true rfl ?_
        refine T_seq fun K6 hK6 => ?_
        refine T_region ?_
        refine L_y (y_assign rfl) rfl ?_
        refine L_nil ?_
        refine hK6 _ _ ?_
        refine T_ret ?_
        repeat (first | with_reducible refine up_then ?_ | with_reducible refine up_in ?_)
        refine ret1 rfl rfl ?_
        first | exact ⟨_, rfl, S1.like0, by rw [chk_no (by omega)]⟩ | exact ⟨_, rfl, S1.like0, by rw [chk_eq (by omega), hch, hbad]; rfl⟩ | exact ⟨_, rfl, S1.like0, by rw [chk_eq (by omega), hch, chkL_end (by omega), decide_eq_false (by omega)]; rfl⟩ | exact ⟨_, rfl, S1.like0, by rw [chk_eq (by omega), hch, chkL_end (by omega), decide_eq_true (by omega)]; rfl⟩
      ·
        refine L_gyes rfl rfl ?_
        refine L_y (y_fieldA 1 Try.underlying25 rfl sz3 rfl rfl rfl) rfl ?_
        refine L_gyes rfl rfl ?_
        refine L_y (y_ldc Try.underlying3 rfl rfl (((S1.blk 0 rfl).cell _).trans (by rfl))) rfl ?_
        refine L_gyes rfl rfl ?_
        refine L_y (y_gtr rfl rfl) rfl ?_
        refine L_y ((by first | exact y_pickT rfl rfl | exact y_pickF rfl rfl)) rfl ?_
        refine L_nil ?_
        refine hK3 _ _ ?_
        refine T_cond rfl (fun h23 => ?_) (fun h23 => ?_)
        ·
          refine T_seq fun K7 hK7 => ?_
          refine T_region ?_
          refine L_y (y_assign rfl) rfl ?_
          refine L_nil ?_
          refine hK7 _ _ ?_
          refine T_ret ?_
          repeat (first | with_reducible refine up_then ?_ | with_reducible refine up_in ?_)
          refine ret1 rfl rfl ?_
          first | exact ⟨_, rfl, S1.like0, by rw [chk_no (by omega)]⟩ | exact ⟨_, rfl, S1.like0, by rw [chk_eq (by omega), hch, hbad]; rfl⟩ | exact ⟨_, rfl, S1.like0, by rw [chk_eq (by omega), hch, chkL_end (by omega), decide_eq_false (by omega)]; rfl⟩ | exact ⟨_, rfl, S1.like0, by rw [chk_eq (by omega), hch, chkL_end (by omega), decide_eq_true (by omega)]; rfl⟩
        ·
          refine T_skip ?_
          refine hK2 _ _ ?_
          refine T_seq fun K8 hK8 => ?_
          refine T_region ?_
          refine L_y (y_fieldA 1 Try.underlying25 rfl sz3 rfl rfl rfl) rfl ?_
          refine L_y (y_ldc Try.underlying3 rfl rfl (((S1.blk 0 rfl).cell _).trans (by rfl))) rfl ?_
          refine L_y (y_assign rfl) rfl ?_
          refine L_nil ?_
          refine hK8 _ _ ?_
          refine T_seq fun K9 hK9 => ?_
          refine T_seq fun K10 hK10 => ?_
          refine T_region ?_
          refine L_y (y_fieldA 2 Try.underlying25 rfl sz23 rfl rfl rfl) rfl ?_
          refine L_y (y_ldc Try.underlying23 rfl rfl (((S1.blk 0 rfl).cell _).trans (by rfl))) rfl ?_
          refine L_y (y_len Try.underlying23 rfl) rfl ?_
          refine L_y (y_move rfl) rfl ?_
          refine L_nil ?_
          refine hK10 _ _ ?_
          refine T_block ?_
          refine T_loop2 [(1, _), (27, _), (28, _)] (fun (k : Nat) (left : Int) => [(29, .int .i64 (k : Int)), (3, .int .i64 left)]) (fun (k : Nat) (left : Int) => n - k) (fun (k : Nat) (left : Int) (w : World) => (k ≤ n ∧ 0 ≤ left ∧ left ≤ 4000 ∧ chkL b t (l.map OP.v) = chkL b left ((l.map OP.v).drop k)) ∧ St w0 noM [blk b1 25 (scA b t A n c)] w) 0 t (Sub.cons rfl (by first | rfl | exact congrArg (Value.int _) (by omega)) (Sub.cons rfl (by first | rfl | exact congrArg (Value.int _) (by omega)) (Sub.nil _))) (Sub.cons rfl rfl (Sub.cons rfl rfl (Sub.cons rfl rfl (Sub.nil _)))) ?_ ?_
          ·
            exact ⟨⟨Nat.zero_le _, by omega, by omega, rfl⟩, S1⟩
          ·
            intro k left w5 hrel
            obtain ⟨⟨hk, hl0, hl1, hch⟩, S5⟩ := hrel
            refine T_seq fun K11 hK11 => ?_
            refine T_region ?_
            refine L_y (y_lss rfl rfl) rfl ?_
            refine L_nil ?_
            refine hK11 _ _ ?_
            refine T_seq fun K12 hK12 => ?_
            refine T_cond rfl (fun h30 => ?_) (fun h30 => ?_)
            ·
              obtain ⟨o, ho⟩ : ∃ o, l[k]? = some o := ⟨_, List.getElem?_eq_getElem (by omega)⟩
              refine T_skip ?_
              refine hK12 _ _ ?_
              refine T_seq fun K13 hK13 => ?_
              refine T_block ?_
              refine T_seq fun K14 hK14 => ?_
              refine T_region ?_
              refine L_y (y_idx Try.underlying23 sz57 rfl rfl (S5.rd hl) (Nt.mk (by omega) : Nt _ (k)) (by omega)) rfl ?_
              refine L_y (y_ldp (f := opf) opf_len Try.underlying57 rfl sz57 rfl (S5.rd hl) (by omega) ho) rfl ?_
              refine L_o (o_alloc zz57 S5 rfl fun b6 w6 hb6 S6 => ?_)
              refine L_o (o_stW S6 1 rfl rfl rfl sz57 rfl (opf_one o) fun w7 S7 => ?_)
              refine L_nil ?_
              refine hK14 _ _ ?_
              refine T_seq fun K15 hK15 => ?_
              refine T_seq fun K16 hK16 => ?_
              refine T_region ?_
              refine L_y (y_ldW Try.underlying57 rfl sz57 rfl (S7.blk 1 rfl) (show _ = opf o ∧ _ from ⟨rfl, rfl⟩)) rfl ?_
              refine L_y (y_fieldA 0 Try.underlying25 rfl sz3 rfl rfl rfl) rfl ?_
              refine L_y (y_ldc Try.underlying3 rfl rfl (((S7.blk 0 rfl).cell _).trans (by rfl))) rfl ?_
              refine L_o (o_call Try.func37 rfl rfl (oright o b w7 (hok.like S7.like0 o (List.mem_of_getElem? ho)) (by omega)) rfl rfl ?_)
              rintro e8 w8 ⟨v8, rfl, l8, rfl⟩
              refine ⟨_, rfl, ?_⟩
              have S8 := S7.like l8
              refine L_y ((by first | exact y_notD rfl | exact y_not rfl)) rfl ?_
              refine L_y (y_move rfl) rfl ?_
              refine L_splitB 38 rfl (fun h38 => ?_) (fun h38 => ?_)
              ·
                have hbad : chkL b left ((l.map OP.v).drop k) = false := chkL_bad ho (.inl (by simpa using h38))
                refine L_gno rfl rfl rfl ?_
                refine L_gno rfl rfl rfl ?_
                refine L_gno rfl rfl rfl ?_
                refine L_gno rfl rfl rfl ?_
                refine L_y ((by first | exact y_pickT rfl rfl | exact y_pickF rfl rfl)) rfl ?_
                refine L_nil ?_
                refine hK16 _ _ ?_
                refine T_true rfl ?_
                refine T_seq fun K17 hK17 => ?_
                refine T_region ?_
                refine L_y (y_assign rfl) rfl ?_
                refine L_nil ?_
                refine hK17 _ _ ?_
                refine T_ret ?_
                repeat (first | with_reducible refine up_then ?_ | with_reducible refine up_in ?_)
                refine ret1 rfl rfl ?_
                first | exact ⟨_, rfl, S8.like0, by rw [chk_no (by omega)]⟩ | exact ⟨_, rfl, S8.like0, by rw [chk_eq (by omega), hch, hbad]; rfl⟩ | exact ⟨_, rfl, S8.like0, by rw [chk_eq (by omega), hch, chkL_end (by omega), decide_eq_false (by omega)]; rfl⟩ | exact ⟨_, rfl, S8.like0, by rw [chk_eq (by omega), hch, chkL_end (by omega), decide_eq_true (by omega)]; rfl⟩
              ·
                have hgood : rtV b o.v = true := by simpa using h38
                have hszp := sz_nonneg hgood
                refine L_gyes rfl rfl ?_
                refine L_y (y_ldW Try.underlying57 rfl sz57 rfl (S8.blk 1 rfl) (show _ = opf o ∧ _ from ⟨rfl, rfl⟩)) rfl ?_
                refine L_gyes rfl rfl ?_
                refine L_o (o_call Try.func38 rfl rfl (osize o w8 (hok.like S8.like0 o (List.mem_of_getElem? ho))) rfl rfl ?_)
                rintro e10 w10 ⟨v10, rfl, l10, rfl⟩
                refine ⟨_, rfl, ?_⟩
                have S10 := S8.like l10
                refine L_gyes rfl rfl ?_
                refine L_y (y_move rfl) rfl ?_
                refine L_gyes rfl rfl ?_
                refine L_y (y_gtr rfl rfl) rfl ?_
                refine L_y ((by first | exact y_pickT rfl rfl | exact y_pickF rfl rfl)) rfl ?_
                refine L_nil ?_
                refine hK16 _ _ ?_
                refine T_cond rfl (fun h43 => ?_) (fun h43 => ?_)
                ·
                  first | have hbad : chkL b left ((l.map OP.v).drop k) = false := chkL_bad ho (.inr (by omega)) | skip
                  refine T_seq fun K18 hK18 => ?_
                  refine T_region ?_
                  refine L_y (y_assign rfl) rfl ?_
                  refine L_nil ?_
                  refine hK18 _ _ ?_
                  refine T_ret ?_
                  repeat (first | with_reducible refine up_then ?_ | with_reducible refine up_in ?_)
                  refine ret1 rfl rfl ?_
                  first | exact ⟨_, rfl, S10.like0, by rw [chk_no (by omega)]⟩ | exact ⟨_, rfl, S10.like0, by rw [chk_eq (by omega), hch, hbad]; rfl⟩ | exact ⟨_, rfl, S10.like0, by rw [chk_eq (by omega), hch, chkL_end (by omega), decide_eq_false (by omega)]; rfl⟩ | exact ⟨_, rfl, S10.like0, by rw [chk_eq (by omega), hch, chkL_end (by omega), decide_eq_true (by omega)]; rfl⟩
                ·
                  refine T_skip ?_
                  refine hK15 _ _ ?_
                  refine T_region ?_
                  refine L_y (y_move rfl) rfl ?_
                  refine L_y (y_ldW Try.underlying57 rfl sz57 rfl (S10.blk 1 rfl) (show _ = opf o ∧ _ from ⟨rfl, rfl⟩)) rfl ?_
                  refine L_o (o_call Try.func38 rfl rfl (osize o w10 (hok.like S10.like0 o (List.mem_of_getElem? ho))) rfl rfl ?_)
                  rintro e11 w11 ⟨v11, rfl, l11, rfl⟩
                  refine ⟨_, rfl, ?_⟩
                  have S11 := S10.like l11
                  refine L_y (y_sub rfl rfl (i64w (by omega))) rfl ?_
                  refine L_y (y_assign rfl) rfl ?_
                  refine L_nil ?_
                  refine hK13 _ _ ?_
                  refine T_region ?_
                  refine L_y (y_add rfl rfl (i64w (by omega))) rfl ?_
                  refine L_y (y_move rfl) rfl ?_
                  refine L_nil ?_
                  have S91 := S11.drop (rs' := [_]) (.cons_cons _ (.cons _ (.refl _)))
                  refine ⟨k + 1, left - szV o.v, by omega, ⟨⟨by omega, by omega, by omega, by rw [hch, chkL_ok ho hgood (by omega)]⟩, S91⟩, ?_⟩
                  exact (Sub.cons rfl (by first | rfl | exact congrArg (Value.int _) (by omega)) (Sub.cons rfl (by first | rfl | exact congrArg (Value.int _) (by omega)) (Sub.cons rfl rfl (Sub.cons rfl rfl (Sub.cons rfl rfl (Sub.nil _))))))
            ·
              refine T_exit ?_
              refine hK9 _ _ ?_
              refine T_seq fun K19 hK19 => ?_
              refine T_seq fun K20 hK20 => ?_
              refine T_region ?_
              refine L_y (y_move rfl) rfl ?_
              refine L_y (y_gtr rfl rfl) rfl ?_
              refine L_nil ?_
              refine hK20 _ _ ?_
              refine T_cond rfl (fun h50 => ?_) (fun h50 => ?_)
              ·
                refine T_seq fun K21 hK21 => ?_
                refine T_region ?_
                refine L_y (y_assign rfl) rfl ?_
                refine L_nil ?_
                refine hK21 _ _ ?_
                refine T_ret ?_
                repeat (first | with_reducible refine up_then ?_ | with_reducible refine up_in ?_)
                refine ret1 rfl rfl ?_
                first | exact ⟨_, rfl, S5.like0, by rw [chk_no (by omega)]⟩ | exact ⟨_, rfl, S5.like0, by rw [chk_eq (by omega), hch, hbad]; rfl⟩ | exact ⟨_, rfl, S5.like0, by rw [chk_eq (by omega), hch, chkL_end (by omega), decide_eq_false (by omega)]; rfl⟩ | exact ⟨_, rfl, S5.like0, by rw [chk_eq (by omega), hch, chkL_end (by omega), decide_eq_true (by omega)]; rfl⟩
              ·
                refine T_skip ?_
                refine hK19 _ _ ?_
                refine T_seq fun K22 hK22 => ?_
                refine T_region ?_
                refine L_y (y_assign rfl) rfl ?_
                refine L_nil ?_
                refine hK22 _ _ ?_
                refine T_ret ?_
                repeat (first | with_reducible refine up_then ?_ | with_reducible refine up_in ?_)
                refine ret1 rfl rfl ?_
                first | exact ⟨_, rfl, S5.like0, by rw [chk_no (by omega)]⟩ | exact ⟨_, rfl, S5.like0, by rw [chk_eq (by omega), hch, hbad]; rfl⟩ | exact ⟨_, rfl, S5.like0, by rw [chk_eq (by omega), hch, chkL_end (by omega), decide_eq_false (by omega)]; rfl⟩ | exact ⟨_, rfl, S5.like0, by rw [chk_eq (by omega), hch, chkL_end (by omega), decide_eq_true (by omega)]; rfl⟩
end Go.Proofs.Ytpcgldkllnkaeaa

/-
  Check of the document.
-/
namespace Go.Proofs.Ytpcgldkllnkaeaa
open Go.RowKit Zk Zx
set_option linter.unusedVariables false
set_option linter.unusedSimpArgs false

set_option maxRecDepth 100000 in
theorem rcheck (A : Option Addr) (n c : Nat) (l : List OP) (b t : Int) (w0 : World) (hl : Rs w0 4 A n c (l.flatMap opf)) (hok : OkO w0 l) :
    Calls Try.prog 21 #[.agg (scA b t A n c)] w0 fun e w' => ∃ u, e = .returned u ∧ Like w0 w' ∧ u = .int .i64 (errV b t (l.map OP.v)) := by
  refine enter1 (env := [(0, .agg (scA b t A n c))]) [.agg (scA b t A n c)] Try.func21 rfl Try.ntmps21 rfl rfl ?_
  have hn := ops_n hl; have hcap := hl.cap; have hmax := hl.max; have S0 := St.start w0 noM
  refine T_seq fun K1 hK1 => ?_
  refine T_region ?_
  refine L_o (o_box rfl S0 rfl fun b1 w1 hb1 S1 => ?_)
  refine L_y (y_assign rfl) rfl ?_
  refine L_nil ?_
  refine hK1 _ _ ?_
  refine T_seq fun K2 hK2 => ?_
  refine T_seq fun K3 hK3 => ?_
  refine T_region ?_
  refine L_y (y_fieldA 0 Try.underlying30 rfl sz3 rfl rfl rfl) rfl ?_
  refine L_y (y_ldc Try.underlying3 rfl rfl (((S1.blk 0 rfl).cell _).trans (by rfl))) rfl ?_
  refine L_y (y_lss rfl rfl) rfl ?_
  refine L_y (y_move rfl) rfl ?_
  refine L_split 9 rfl (fun h9 => ?_) (fun h9 => ?_)
  ·
    refine L_gno rfl rfl rfl ?_
    refine L_gno rfl rfl rfl ?_
    refine L_gno rfl rfl rfl ?_
    refine L_y ((by first | exact y_pickT rfl rfl | exact y_pickF rfl rfl)) rfl ?_
    refine L_y (y_move rfl) rfl ?_
    refine L_gno rfl rfl rfl ?_
    refine L_gno rfl rfl rfl ?_
    refine L_gno rfl rfl rfl ?_
    refine L_y ((by first | exact y_pickT rfl rfl | exact y_pickF rfl rfl)) rfl ?_
    refine L_y (y_move rfl) rfl ?_
    refine L_gno rfl rfl rfl ?_
    refine L_gno rfl rfl rfl ?_
    refine L_gno rfl rfl rfl ?_
    refine L_y ((by first | exact y_pickT rfl rfl | exact y_pickF rfl rfl)) rfl ?_
    refine L_nil ?_
    refine hK3 _ _ ?_
    refine T_true rfl ?_
    refine T_seq fun K4 hK4 => ?_
    refine T_region ?_
    refine L_y (y_assign rfl) rfl ?_
    refine L_nil ?_
    refine hK4 _ _ ?_
    refine T_ret ?_
    repeat (first | with_reducible refine up_then ?_ | with_reducible refine up_in ?_)
    refine ret1 rfl rfl ?_
    first | exact ⟨_, rfl, S1.like0, by rw [chk_no (by omega)]⟩ | exact ⟨_, rfl, S1.like0, by rw [chk_eq (by omega), hch, hbad]; rfl⟩ | exact ⟨_, rfl, S1.like0, by rw [chk_eq (by omega), hch, chkL_end (by omega), decide_eq_false (by omega)]; rfl⟩ | exact ⟨_, rfl, S1.like0, by rw [chk_eq (by omega), hch, chkL_end (by omega), decide_eq_true (by omega)]; rfl⟩
  ·
    refine L_gyes rfl rfl ?_
    refine L_y (y_fieldA 0 Try.underlying30 rfl sz3 rfl rfl rfl) rfl ?_
    refine L_gyes rfl rfl ?_
    refine L_y (y_ldc Try.underlying3 rfl rfl (((S1.blk 0 rfl).cell _).trans (by rfl))) rfl ?_
    refine L_gyes rfl rfl ?_
    refine L_y (y_gtr rfl rfl) rfl ?_
    refine L_y ((by first | exact y_pickT rfl rfl | exact y_pickF rfl rfl)) rfl ?_
    refine L_y (y_move rfl) rfl ?_
    refine L_split 14 rfl (fun h14 => ?_) (fun h14 => ?_)
    ·
      refine L_gno rfl rfl rfl ?_
      refine L_gno rfl rfl rfl ?_
      refine L_gno rfl rfl rfl ?_
      refine L_y ((by first | exact y_pickT rfl rfl | exact y_pickF rfl rfl)) rfl ?_
      refine L_y (y_move rfl) rfl ?_
      refine L_gno rfl rfl rfl ?_
      refine L_gno rfl rfl rfl ?_
      refine L_gno rfl rfl rfl ?_
      refine L_y ((by first | exact y_pickT rfl rfl | exact y_pickF rfl rfl)) rfl ?_
      refine L_nil ?_
      refine hK3 _ _ ?_
      refine T_true rfl ?_
      refine T_seq fun K5 hK5 => ?_
      refine T_region ?_
      refine L_y (y_assign rfl) rfl ?_
      refine L_nil ?_
      refine hK5 _ _ ?_
      refine T_ret ?_
      repeat (first | with_reducible refine up_then ?_ | with_reducible refine up_in ?_)
      refine ret1 rfl rfl ?_
      first | exact ⟨_, rfl, S1.like0, by rw [chk_no (by omega)]⟩ | exact ⟨_, rfl, S1.like0, by rw [chk_eq (by omega), hch, hbad]; rfl⟩ | exact ⟨_, rfl, S1.like0, by rw [chk_eq (by omega), hch, chkL_end (by omega), decide_eq_false (by omega)]; rfl⟩ | exact ⟨_, rfl, S1.like0, by rw [chk_eq (by omega), hch, chkL_end (by omega), decide_eq_true (by omega)]; rfl⟩
    ·
      refine L_gyes rfl rfl ?_
      refine L_y (y_fieldA 1 Try.underlying30 rfl sz3 rfl rfl rfl) rfl ?_
      refine L_gyes rfl rfl ?_
      refine L_y (y_ldc Try.underlying3 rfl rfl (((S1.blk 0 rfl).cell _).trans (by rfl))) rfl ?_
      refine L_gyes rfl rfl ?_
      refine L_y (y_lss rfl rfl) rfl ?_
      refine L_y ((by first | exact y_pickT rfl rfl | exact y_pickF rfl rfl)) rfl ?_
      refine L_y (y_move rfl) rfl ?_
      refine L_split 19 rfl (fun h19 => ?_) (fun h19 => ?_)
      ·
        refine L_gno rfl rfl rfl ?_
        refine L_gno rfl rfl rfl ?_
        refine L_gno rfl rfl rfl ?_
        refine L_y ((by first | exact y_pickT rfl rfl | exact y_pickF rfl rfl)) rfl ?_
        refine L_nil ?_
        refine hK3 _ _ ?_
        refine T_true rfl ?_
        refine T_seq fun K6 hK6 => ?_
        refine T_region ?_
        refine L_y (y_assign rfl) rfl ?_
        refine L_nil ?_
        refine hK6 _ _ ?_
        refine T_ret ?_
        repeat (first | with_reducible refine up_then ?_ | with_reducible refine up_in ?_)
        refine ret1 rfl rfl ?_
        first | exact ⟨_, rfl, S1.like0, by rw [chk_no (by omega)]⟩ | exact ⟨_, rfl, S1.like0, by rw [chk_eq (by omega), hch, hbad]; rfl⟩ | exact ⟨_, rfl, S1.like0, by rw [chk_eq (by omega), hch, chkL_end (by omega), decide_eq_false (by omega)]; rfl⟩ | exact ⟨_, rfl, S1.like0, by rw [chk_eq (by omega), hch, chkL_end (by omega), decide_eq_true (by omega)]; rfl⟩
      ·
        refine L_gyes rfl rfl ?_
        refine L_y (y_fieldA 1 Try.underlying30 rfl sz3 rfl rfl rfl) rfl ?_
        refine L_gyes rfl rfl ?_
        refine L_y (y_ldc Try.underlying3 rfl rfl (((S1.blk 0 rfl).cell _).trans (by rfl))) rfl ?_
        refine L_gyes rfl rfl ?_
        refine L_y (y_gtr rfl rfl) rfl ?_
        refine L_y ((by first | exact y_pickT rfl rfl | exact y_pickF rfl rfl)) rfl ?_
        refine L_nil ?_
        refine hK3 _ _ ?_
        refine T_cond rfl (fun h23 => ?_) (fun h23 => ?_)
        ·
          refine T_seq fun K7 hK7 => ?_
          refine T_region ?_
          refine L_y (y_assign rfl) rfl ?_
          refine L_nil ?_
          refine hK7 _ _ ?_
          refine T_ret ?_
          repeat (first | with_reducible refine up_then ?_ | with_reducible refine up_in ?_)
          refine ret1 rfl rfl ?_
          first | exact ⟨_, rfl, S1.like0, by rw [chk_no (by omega)]⟩ | exact ⟨_, rfl, S1.like0, by rw [chk_eq (by omega), hch, hbad]; rfl⟩ | exact ⟨_, rfl, S1.like0, by rw [chk_eq (by omega), hch, chkL_end (by omega), decide_eq_false (by omega)]; rfl⟩ | exact ⟨_, rfl, S1.like0, by rw [chk_eq (by omega), hch, chkL_end (by omega), decide_eq_true (by omega)]; rfl⟩
        ·
          refine T_skip ?_
          refine hK2 _ _ ?_
          refine T_seq fun K8 hK8 => ?_
          refine T_region ?_
          refine L_y (y_assign rfl) rfl ?_
          refine L_nil ?_
          refine hK8 _ _ ?_
          refine T_seq fun K9 hK9 => ?_
          refine T_seq fun K10 hK10 => ?_
          refine T_region ?_
          refine L_y (y_assign rfl) rfl ?_
          refine L_nil ?_
          refine hK10 _ _ ?_
          refine T_block ?_
          refine T_loop2 [(1, _)] (fun (k : Nat) (laid : Int) => [(4, .int .i64 (k : Int)), (3, .int .i64 laid)]) (fun (k : Nat) (laid : Int) => n - k) (fun (k : Nat) (laid : Int) (w : World) => (k ≤ n ∧ 0 ≤ laid ∧ laid ≤ t ∧ chkL b t (l.map OP.v) = chkL b (t - laid) ((l.map OP.v).drop k)) ∧ St w0 noM [blk b1 30 (scA b t A n c)] w) 0 0 (Sub.cons rfl (by first | rfl | exact congrArg (Value.int _) (by omega)) (Sub.cons rfl (by first | rfl | exact congrArg (Value.int _) (by omega)) (Sub.nil _))) (Sub.cons rfl rfl (Sub.nil _)) ?_ ?_
          ·
            exact ⟨⟨Nat.zero_le _, by omega, by omega, by rw [Int.sub_zero]; rfl⟩, S1⟩
          ·
            intro k laid w5 hrel
            obtain ⟨⟨hk, hl0, hl1, hch⟩, S5⟩ := hrel
            refine T_seq fun K11 hK11 => ?_
            refine T_seq fun K12 hK12 => ?_
            refine T_region ?_
            refine L_y (y_move rfl) rfl ?_
            refine L_y (y_fieldA 2 Try.underlying30 rfl sz28 rfl rfl rfl) rfl ?_
            refine L_y (y_ldc Try.underlying28 rfl rfl (((S5.blk 0 rfl).cell _).trans (by rfl))) rfl ?_
            refine L_y (y_len Try.underlying28 rfl) rfl ?_
            refine L_y (y_lss rfl rfl) rfl ?_
            refine L_nil ?_
            refine hK12 _ _ ?_
            refine T_cond rfl (fun h28 => ?_) (fun h28 => ?_)
            ·
              obtain ⟨o, ho⟩ : ∃ o, l[k]? = some o := ⟨_, List.getElem?_eq_getElem (by omega)⟩
              have hol : o.p.l.length = o.p.n := Rs.lenb (hok o (List.mem_of_getElem? ho))
              refine T_skip ?_
              refine hK11 _ _ ?_
              refine T_seq fun K13 hK13 => ?_
              refine T_block ?_
              refine T_seq fun K14 hK14 => ?_
              refine T_region ?_
              refine L_y (y_fieldA 2 Try.underlying30 rfl sz28 rfl rfl rfl) rfl ?_
              refine L_y (y_ldc Try.underlying28 rfl rfl (((S5.blk 0 rfl).cell _).trans (by rfl))) rfl ?_
              refine L_y (y_move rfl) rfl ?_
              refine L_y (y_idx Try.underlying28 sz58 rfl rfl (S5.rd hl) (Nt.mk (by omega) : Nt _ (k)) (by omega)) rfl ?_
              refine L_y (y_ldp (f := opf) opf_len Try.underlying58 rfl sz58 rfl (S5.rd hl) (by omega) ho) rfl ?_
              refine L_o (o_alloc zz58 S5 rfl fun b6 w6 hb6 S6 => ?_)
              refine L_o (o_stW S6 1 rfl rfl rfl sz58 rfl (opf_one o) fun w7 S7 => ?_)
              refine L_nil ?_
              refine hK14 _ _ ?_
              refine T_seq fun K15 hK15 => ?_
              refine T_seq fun K16 hK16 => ?_
              refine T_region ?_
              refine L_y (y_fieldA 0 Try.underlying58 rfl sz4 rfl rfl rfl) rfl ?_
              refine L_y (y_ldc Try.underlying4 rfl rfl (((S7.blk 1 rfl).cell _).trans (by rfl))) rfl ?_
              refine L_y (y_move rfl) rfl ?_
              refine L_splitB 38 rfl (fun h38 => ?_) (fun h38 => ?_)
              ·
                refine L_gyes rfl rfl ?_
                refine L_y (y_fieldA 2 Try.underlying58 rfl sz3 rfl rfl rfl) rfl ?_
                refine L_gyes rfl rfl ?_
                refine L_y (y_ldc Try.underlying3 rfl rfl (((S7.blk 1 rfl).cell _).trans (by rfl))) rfl ?_
                refine L_gyes rfl rfl ?_
                refine L_y (y_lss rfl rfl) rfl ?_
                refine L_gyes rfl rfl ?_
                refine L_y (y_move rfl) rfl ?_
                refine L_split 42 rfl (fun h42 => ?_) (fun h42 => ?_)
                ·
                  refine L_gno rfl rfl rfl ?_
                  refine L_gno rfl rfl rfl ?_
                  refine L_gno rfl rfl rfl ?_
                  refine L_gno rfl rfl rfl ?_
                  refine L_gno rfl rfl rfl ?_
                  refine L_gyes rfl rfl ?_
                  refine L_y ((by first | exact y_pickT rfl rfl | exact y_pickF rfl rfl)) rfl ?_
                  refine L_gyes rfl rfl ?_
                  refine L_y (y_move rfl) rfl ?_
                  refine L_gno rfl rfl rfl ?_
                  refine L_gno rfl rfl rfl ?_
                  refine L_gno rfl rfl rfl ?_
                  refine L_gyes rfl rfl ?_
                  refine L_y ((by first | exact y_pickT rfl rfl | exact y_pickF rfl rfl)) rfl ?_
                  refine L_gyes rfl rfl ?_
                  refine L_y (y_move rfl) rfl ?_
                  refine L_gno rfl rfl rfl ?_
                  refine L_gno rfl rfl rfl ?_
                  refine L_gno rfl rfl rfl ?_
                  refine L_gno rfl rfl rfl ?_
                  refine L_gno rfl rfl rfl ?_
                  refine L_gno rfl rfl rfl ?_
                  refine L_gno rfl rfl rfl ?_
                  refine L_gno rfl rfl rfl ?_
                  refine L_gyes rfl rfl ?_
                  refine L_y ((by first | exact y_pickT rfl rfl | exact y_pickF rfl rfl)) rfl ?_
                  refine L_gyes rfl rfl ?_
                  refine L_y (y_move rfl) rfl ?_
                  refine L_gno rfl rfl rfl ?_
                  refine L_gno rfl rfl rfl ?_
                  refine L_gno rfl rfl rfl ?_
                  refine L_gno rfl rfl rfl ?_
                  refine L_gyes rfl rfl ?_
                  refine L_y ((by first | exact y_pickT rfl rfl | exact y_pickF rfl rfl)) rfl ?_
                  refine L_y ((by first | exact y_pickT rfl rfl | exact y_pickF rfl rfl)) rfl ?_
                  refine L_nil ?_
                  refine hK16 _ _ ?_
                  refine T_true rfl ?_
                  refine T_seq fun K17 hK17 => ?_
                  have hbad : chkL b (t - laid) ((l.map OP.v).drop k) = false := by first | (exfalso; rw [h38] at h74; cases h74; done) | exact chkL_bad ho (.inl (by unfold rtV; simp [OP.v, *]; try omega))
                  refine T_region ?_
                  refine L_y (y_assign rfl) rfl ?_
                  refine L_nil ?_
                  refine hK17 _ _ ?_
                  refine T_ret ?_
                  repeat (first | with_reducible refine up_then ?_ | with_reducible refine up_in ?_)
                  refine ret1 rfl rfl ?_
                  first | exact ⟨_, rfl, S7.like0, by rw [chk_no (by omega)]⟩ | exact ⟨_, rfl, S7.like0, by rw [chk_eq (by omega), hch, hbad]; rfl⟩ | exact ⟨_, rfl, S7.like0, by rw [chk_eq (by omega), hch, chkL_end (by omega), decide_eq_false (by omega)]; rfl⟩ | exact ⟨_, rfl, S7.like0, by rw [chk_eq (by omega), hch, chkL_end (by omega), decide_eq_true (by omega)]; rfl⟩
                ·
                  refine L_gyes rfl rfl ?_
                  refine L_y (y_fieldA 2 Try.underlying58 rfl sz3 rfl rfl rfl) rfl ?_
                  refine L_gyes rfl rfl ?_
                  refine L_y (y_ldc Try.underlying3 rfl rfl (((S7.blk 1 rfl).cell _).trans (by rfl))) rfl ?_
                  refine L_gyes rfl rfl ?_
                  refine L_y (y_fieldA 0 Try.underlying30 rfl sz3 rfl rfl rfl) rfl ?_
                  refine L_gyes rfl rfl ?_
                  refine L_y (y_ldc Try.underlying3 rfl rfl (((S7.blk 0 rfl).cell _).trans (by rfl))) rfl ?_
                  refine L_gyes rfl rfl ?_
                  refine L_y (y_gtr rfl rfl) rfl ?_
                  refine L_gyes rfl rfl ?_
                  refine L_y ((by first | exact y_pickT rfl rfl | exact y_pickF rfl rfl)) rfl ?_
                  refine L_gyes rfl rfl ?_
                  refine L_y (y_move rfl) rfl ?_
                  refine L_split 49 rfl (fun h49 => ?_) (fun h49 => ?_)
                  ·
                    refine L_gno rfl rfl rfl ?_
                    refine L_gno rfl rfl rfl ?_
                    refine L_gno rfl rfl rfl ?_
                    refine L_gyes rfl rfl ?_
                    refine L_y ((by first | exact y_pickT rfl rfl | exact y_pickF rfl rfl)) rfl ?_
                    refine L_gyes rfl rfl ?_
                    refine L_y (y_move rfl) rfl ?_
                    refine L_gno rfl rfl rfl ?_
                    refine L_gno rfl rfl rfl ?_
                    refine L_gno rfl rfl rfl ?_
                    refine L_gno rfl rfl rfl ?_
                    refine L_gno rfl rfl rfl ?_
                    refine L_gno rfl rfl rfl ?_
                    refine L_gno rfl rfl rfl ?_
                    refine L_gno rfl rfl rfl ?_
                    refine L_gyes rfl rfl ?_
                    refine L_y ((by first | exact y_pickT rfl rfl | exact y_pickF rfl rfl)) rfl ?_
                    refine L_gyes rfl rfl ?_
                    refine L_y (y_move rfl) rfl ?_
                    refine L_gno rfl rfl rfl ?_
                    refine L_gno rfl rfl rfl ?_
                    refine L_gno rfl rfl rfl ?_
                    refine L_gno rfl rfl rfl ?_
                    refine L_gyes rfl rfl ?_
                    refine L_y ((by first | exact y_pickT rfl rfl | exact y_pickF rfl rfl)) rfl ?_
                    refine L_y ((by first | exact y_pickT rfl rfl | exact y_pickF rfl rfl)) rfl ?_
                    refine L_nil ?_
                    refine hK16 _ _ ?_
                    refine T_true rfl ?_
                    refine T_seq fun K18 hK18 => ?_
                    have hbad : chkL b (t - laid) ((l.map OP.v).drop k) = false := by first | (exfalso; rw [h38] at h74; cases h74; done) | exact chkL_bad ho (.inl (by unfold rtV; simp [OP.v, *]; try omega))
                    refine T_region ?_
                    refine L_y (y_assign rfl) rfl ?_
                    refine L_nil ?_
                    refine hK18 _ _ ?_
                    refine T_ret ?_
                    repeat (first | with_reducible refine up_then ?_ | with_reducible refine up_in ?_)
                    refine ret1 rfl rfl ?_
                    first | exact ⟨_, rfl, S7.like0, by rw [chk_no (by omega)]⟩ | exact ⟨_, rfl, S7.like0, by rw [chk_eq (by omega), hch, hbad]; rfl⟩ | exact ⟨_, rfl, S7.like0, by rw [chk_eq (by omega), hch, chkL_end (by omega), decide_eq_false (by omega)]; rfl⟩ | exact ⟨_, rfl, S7.like0, by rw [chk_eq (by omega), hch, chkL_end (by omega), decide_eq_true (by omega)]; rfl⟩
                  ·
                    refine L_gyes rfl rfl ?_
                    refine L_y (y_fieldA 1 Try.underlying58 rfl sz3 rfl rfl rfl) rfl ?_
                    refine L_gyes rfl rfl ?_
                    refine L_y (y_ldc Try.underlying3 rfl rfl (((S7.blk 1 rfl).cell _).trans (by rfl))) rfl ?_
                    refine L_gyes rfl rfl ?_
                    refine L_y (y_lss rfl rfl) rfl ?_
                    refine L_gyes rfl rfl ?_
                    refine L_y ((by first | exact y_pickT rfl rfl | exact y_pickF rfl rfl)) rfl ?_
                    refine L_gyes rfl rfl ?_
                    refine L_y (y_move rfl) rfl ?_
                    refine L_split 54 rfl (fun h54 => ?_) (fun h54 => ?_)
                    ·
                      refine L_gno rfl rfl rfl ?_
                      refine L_gno rfl rfl rfl ?_
                      refine L_gno rfl rfl rfl ?_
                      refine L_gno rfl rfl rfl ?_
                      refine L_gno rfl rfl rfl ?_
                      refine L_gno rfl rfl rfl ?_
                      refine L_gno rfl rfl rfl ?_
                      refine L_gno rfl rfl rfl ?_
                      refine L_gyes rfl rfl ?_
                      refine L_y ((by first | exact y_pickT rfl rfl | exact y_pickF rfl rfl)) rfl ?_
                      refine L_gyes rfl rfl ?_
                      refine L_y (y_move rfl) rfl ?_
                      refine L_gno rfl rfl rfl ?_
                      refine L_gno rfl rfl rfl ?_
                      refine L_gno rfl rfl rfl ?_
                      refine L_gno rfl rfl rfl ?_
                      refine L_gyes rfl rfl ?_
                      refine L_y ((by first | exact y_pickT rfl rfl | exact y_pickF rfl rfl)) rfl ?_
                      refine L_y ((by first | exact y_pickT rfl rfl | exact y_pickF rfl rfl)) rfl ?_
                      refine L_nil ?_
                      refine hK16 _ _ ?_
                      refine T_true rfl ?_
                      refine T_seq fun K19 hK19 => ?_
                      have hbad : chkL b (t - laid) ((l.map OP.v).drop k) = false := by first | (exfalso; rw [h38] at h74; cases h74; done) | exact chkL_bad ho (.inl (by unfold rtV; simp [OP.v, *]; try omega))
                      refine T_region ?_
                      refine L_y (y_assign rfl) rfl ?_
                      refine L_nil ?_
                      refine hK19 _ _ ?_
                      refine T_ret ?_
                      repeat (first | with_reducible refine up_then ?_ | with_reducible refine up_in ?_)
                      refine ret1 rfl rfl ?_
                      first | exact ⟨_, rfl, S7.like0, by rw [chk_no (by omega)]⟩ | exact ⟨_, rfl, S7.like0, by rw [chk_eq (by omega), hch, hbad]; rfl⟩ | exact ⟨_, rfl, S7.like0, by rw [chk_eq (by omega), hch, chkL_end (by omega), decide_eq_false (by omega)]; rfl⟩ | exact ⟨_, rfl, S7.like0, by rw [chk_eq (by omega), hch, chkL_end (by omega), decide_eq_true (by omega)]; rfl⟩
                    ·
                      refine L_gyes rfl rfl ?_
                      refine L_y (y_fieldA 1 Try.underlying58 rfl sz3 rfl rfl rfl) rfl ?_
                      refine L_gyes rfl rfl ?_
                      refine L_y (y_ldc Try.underlying3 rfl rfl (((S7.blk 1 rfl).cell _).trans (by rfl))) rfl ?_
                      refine L_gyes rfl rfl ?_
                      refine L_y (y_fieldA 0 Try.underlying30 rfl sz3 rfl rfl rfl) rfl ?_
                      refine L_gyes rfl rfl ?_
                      refine L_y (y_ldc Try.underlying3 rfl rfl (((S7.blk 0 rfl).cell _).trans (by rfl))) rfl ?_
                      refine L_gyes rfl rfl ?_
                      refine L_y (y_fieldA 2 Try.underlying58 rfl sz3 rfl rfl rfl) rfl ?_
                      refine L_gyes rfl rfl ?_
                      refine L_y (y_ldc Try.underlying3 rfl rfl (((S7.blk 1 rfl).cell _).trans (by rfl))) rfl ?_
                      refine L_gyes rfl rfl ?_
                      refine L_y (y_sub rfl rfl (i64w (by omega))) rfl ?_
                      refine L_gyes rfl rfl ?_
                      refine L_y (y_gtr rfl rfl) rfl ?_
                      refine L_gyes rfl rfl ?_
                      refine L_y ((by first | exact y_pickT rfl rfl | exact y_pickF rfl rfl)) rfl ?_
                      refine L_gyes rfl rfl ?_
                      refine L_y (y_move rfl) rfl ?_
                      refine L_split 64 rfl (fun h64 => ?_) (fun h64 => ?_)
                      ·
                        refine L_gno rfl rfl rfl ?_
                        refine L_gno rfl rfl rfl ?_
                        refine L_gno rfl rfl rfl ?_
                        refine L_gno rfl rfl rfl ?_
                        refine L_gyes rfl rfl ?_
                        refine L_y ((by first | exact y_pickT rfl rfl | exact y_pickF rfl rfl)) rfl ?_
                        refine L_y ((by first | exact y_pickT rfl rfl | exact y_pickF rfl rfl)) rfl ?_
                        refine L_nil ?_
                        refine hK16 _ _ ?_
                        refine T_true rfl ?_
                        refine T_seq fun K20 hK20 => ?_
                        have hbad : chkL b (t - laid) ((l.map OP.v).drop k) = false := by first | (exfalso; rw [h38] at h74; cases h74; done) | exact chkL_bad ho (.inl (by unfold rtV; simp [OP.v, *]; try omega))
                        refine T_region ?_
                        refine L_y (y_assign rfl) rfl ?_
                        refine L_nil ?_
                        refine hK20 _ _ ?_
                        refine T_ret ?_
                        repeat (first | with_reducible refine up_then ?_ | with_reducible refine up_in ?_)
                        refine ret1 rfl rfl ?_
                        first | exact ⟨_, rfl, S7.like0, by rw [chk_no (by omega)]⟩ | exact ⟨_, rfl, S7.like0, by rw [chk_eq (by omega), hch, hbad]; rfl⟩ | exact ⟨_, rfl, S7.like0, by rw [chk_eq (by omega), hch, chkL_end (by omega), decide_eq_false (by omega)]; rfl⟩ | exact ⟨_, rfl, S7.like0, by rw [chk_eq (by omega), hch, chkL_end (by omega), decide_eq_true (by omega)]; rfl⟩
                      ·
                        refine L_gyes rfl rfl ?_
                        refine L_y (y_fieldA 3 Try.underlying58 rfl sz22 rfl rfl rfl) rfl ?_
                        refine L_gyes rfl rfl ?_
                        refine L_y (y_ldc Try.underlying22 rfl rfl (((S7.blk 1 rfl).cell _).trans (by rfl))) rfl ?_
                        refine L_gyes rfl rfl ?_
                        refine L_y (y_len Try.underlying22 rfl) rfl ?_
                        refine L_gyes rfl rfl ?_
                        refine L_y (y_gtr rfl rfl) rfl ?_
                        refine L_gyes rfl rfl ?_
                        refine L_y ((by first | exact y_pickT rfl rfl | exact y_pickF rfl rfl)) rfl ?_
                        refine L_y ((by first | exact y_pickT rfl rfl | exact y_pickF rfl rfl)) rfl ?_
                        refine L_nil ?_
                        refine hK16 _ _ ?_
                        refine T_cond rfl (fun h70 => ?_) (fun h70 => ?_)
                        ·
                          refine T_seq fun K21 hK21 => ?_
                          have hbad : chkL b (t - laid) ((l.map OP.v).drop k) = false := by first | (exfalso; rw [h38] at h74; cases h74; done) | exact chkL_bad ho (.inl (by unfold rtV; simp [OP.v, *]; try omega))
                          refine T_region ?_
                          refine L_y (y_assign rfl) rfl ?_
                          refine L_nil ?_
                          refine hK21 _ _ ?_
                          refine T_ret ?_
                          repeat (first | with_reducible refine up_then ?_ | with_reducible refine up_in ?_)
                          refine ret1 rfl rfl ?_
                          first | exact ⟨_, rfl, S7.like0, by rw [chk_no (by omega)]⟩ | exact ⟨_, rfl, S7.like0, by rw [chk_eq (by omega), hch, hbad]; rfl⟩ | exact ⟨_, rfl, S7.like0, by rw [chk_eq (by omega), hch, chkL_end (by omega), decide_eq_false (by omega)]; rfl⟩ | exact ⟨_, rfl, S7.like0, by rw [chk_eq (by omega), hch, chkL_end (by omega), decide_eq_true (by omega)]; rfl⟩
                        ·
                          refine T_skip ?_
                          refine hK15 _ _ ?_
                          refine T_seq fun K22 hK22 => ?_
                          refine T_seq fun K23 hK23 => ?_
                          refine T_region ?_
                          refine L_y (y_fieldA 0 Try.underlying58 rfl sz4 rfl rfl rfl) rfl ?_
                          refine L_y (y_ldc Try.underlying4 rfl rfl (((S7.blk 1 rfl).cell _).trans (by rfl))) rfl ?_
                          refine L_y ((by first | exact y_notD rfl | exact y_not rfl)) rfl ?_
                          refine L_y (y_move rfl) rfl ?_
                          refine L_splitB 74 rfl (fun h74 => ?_) (fun h74 => ?_)
                          ·
                            refine L_gyes rfl rfl ?_
                            refine L_y (y_fieldA 3 Try.underlying58 rfl sz22 rfl rfl rfl) rfl ?_
                            refine L_gyes rfl rfl ?_
                            refine L_y (y_ldc Try.underlying22 rfl rfl (((S7.blk 1 rfl).cell _).trans (by rfl))) rfl ?_
                            refine L_gyes rfl rfl ?_
                            refine L_y (y_len Try.underlying22 rfl) rfl ?_
                            refine L_gyes rfl rfl ?_
                            refine L_y (y_eql rfl rfl) rfl ?_
                            refine L_gyes rfl rfl ?_
                            refine L_y (y_move rfl) rfl ?_
                            refine L_split 79 rfl (fun h79 => ?_) (fun h79 => ?_)
                            ·
                              refine L_gno rfl rfl rfl ?_
                              refine L_gno rfl rfl rfl ?_
                              refine L_gno rfl rfl rfl ?_
                              refine L_gyes rfl rfl ?_
                              refine L_y ((by first | exact y_pickT rfl rfl | exact y_pickF rfl rfl)) rfl ?_
                              refine L_gyes rfl rfl ?_
                              refine L_y (y_move rfl) rfl ?_
                              refine L_gno rfl rfl rfl ?_
                              refine L_gno rfl rfl rfl ?_
                              refine L_gno rfl rfl rfl ?_
                              refine L_gyes rfl rfl ?_
                              refine L_y ((by first | exact y_pickT rfl rfl | exact y_pickF rfl rfl)) rfl ?_
                              refine L_y ((by first | exact y_pickT rfl rfl | exact y_pickF rfl rfl)) rfl ?_
                              refine L_nil ?_
                              refine hK23 _ _ ?_
                              refine T_true rfl ?_
                              refine T_seq fun K24 hK24 => ?_
                              have hbad : chkL b (t - laid) ((l.map OP.v).drop k) = false := by first | (exfalso; rw [h38] at h74; cases h74; done) | exact chkL_bad ho (.inl (by unfold rtV; simp [OP.v, *]; try omega))
                              refine T_region ?_
                              refine L_y (y_assign rfl) rfl ?_
                              refine L_nil ?_
                              refine hK24 _ _ ?_
                              refine T_ret ?_
                              repeat (first | with_reducible refine up_then ?_ | with_reducible refine up_in ?_)
                              refine ret1 rfl rfl ?_
                              first | exact ⟨_, rfl, S7.like0, by rw [chk_no (by omega)]⟩ | exact ⟨_, rfl, S7.like0, by rw [chk_eq (by omega), hch, hbad]; rfl⟩ | exact ⟨_, rfl, S7.like0, by rw [chk_eq (by omega), hch, chkL_end (by omega), decide_eq_false (by omega)]; rfl⟩ | exact ⟨_, rfl, S7.like0, by rw [chk_eq (by omega), hch, chkL_end (by omega), decide_eq_true (by omega)]; rfl⟩
                            ·
                              refine L_gyes rfl rfl ?_
                              refine L_y (y_fieldA 1 Try.underlying58 rfl sz3 rfl rfl rfl) rfl ?_
                              refine L_gyes rfl rfl ?_
                              refine L_y (y_ldc Try.underlying3 rfl rfl (((S7.blk 1 rfl).cell _).trans (by rfl))) rfl ?_
                              refine L_gyes rfl rfl ?_
                              refine L_y (y_neq rfl rfl) rfl ?_
                              refine L_gyes rfl rfl ?_
                              refine L_y ((by first | exact y_pickT rfl rfl | exact y_pickF rfl rfl)) rfl ?_
                              refine L_gyes rfl rfl ?_
                              refine L_y (y_move rfl) rfl ?_
                              refine L_split 84 rfl (fun h84 => ?_) (fun h84 => ?_)
                              ·
                                refine L_gno rfl rfl rfl ?_
                                refine L_gno rfl rfl rfl ?_
                                refine L_gno rfl rfl rfl ?_
                                refine L_gyes rfl rfl ?_
                                refine L_y ((by first | exact y_pickT rfl rfl | exact y_pickF rfl rfl)) rfl ?_
                                refine L_y ((by first | exact y_pickT rfl rfl | exact y_pickF rfl rfl)) rfl ?_
                                refine L_nil ?_
                                refine hK23 _ _ ?_
                                refine T_true rfl ?_
                                refine T_seq fun K25 hK25 => ?_
                                have hbad : chkL b (t - laid) ((l.map OP.v).drop k) = false := by first | (exfalso; rw [h38] at h74; cases h74; done) | exact chkL_bad ho (.inl (by unfold rtV; simp [OP.v, *]; try omega))
                                refine T_region ?_
                                refine L_y (y_assign rfl) rfl ?_
                                refine L_nil ?_
                                refine hK25 _ _ ?_
                                refine T_ret ?_
                                repeat (first | with_reducible refine up_then ?_ | with_reducible refine up_in ?_)
                                refine ret1 rfl rfl ?_
                                first | exact ⟨_, rfl, S7.like0, by rw [chk_no (by omega)]⟩ | exact ⟨_, rfl, S7.like0, by rw [chk_eq (by omega), hch, hbad]; rfl⟩ | exact ⟨_, rfl, S7.like0, by rw [chk_eq (by omega), hch, chkL_end (by omega), decide_eq_false (by omega)]; rfl⟩ | exact ⟨_, rfl, S7.like0, by rw [chk_eq (by omega), hch, chkL_end (by omega), decide_eq_true (by omega)]; rfl⟩
                              ·
                                refine L_gyes rfl rfl ?_
                                refine L_y (y_fieldA 2 Try.underlying58 rfl sz3 rfl rfl rfl) rfl ?_
                                refine L_gyes rfl rfl ?_
                                refine L_y (y_ldc Try.underlying3 rfl rfl (((S7.blk 1 rfl).cell _).trans (by rfl))) rfl ?_
                                refine L_gyes rfl rfl ?_
                                refine L_y (y_neq rfl rfl) rfl ?_
                                refine L_gyes rfl rfl ?_
                                refine L_y ((by first | exact y_pickT rfl rfl | exact y_pickF rfl rfl)) rfl ?_
                                refine L_y ((by first | exact y_pickT rfl rfl | exact y_pickF rfl rfl)) rfl ?_
                                refine L_nil ?_
                                refine hK23 _ _ ?_
                                refine T_cond rfl (fun h89 => ?_) (fun h89 => ?_)
                                ·
                                  refine T_seq fun K26 hK26 => ?_
                                  have hbad : chkL b (t - laid) ((l.map OP.v).drop k) = false := by first | (exfalso; rw [h38] at h74; cases h74; done) | exact chkL_bad ho (.inl (by unfold rtV; simp [OP.v, *]; try omega))
                                  refine T_region ?_
                                  refine L_y (y_assign rfl) rfl ?_
                                  refine L_nil ?_
                                  refine hK26 _ _ ?_
                                  refine T_ret ?_
                                  repeat (first | with_reducible refine up_then ?_ | with_reducible refine up_in ?_)
                                  refine ret1 rfl rfl ?_
                                  first | exact ⟨_, rfl, S7.like0, by rw [chk_no (by omega)]⟩ | exact ⟨_, rfl, S7.like0, by rw [chk_eq (by omega), hch, hbad]; rfl⟩ | exact ⟨_, rfl, S7.like0, by rw [chk_eq (by omega), hch, chkL_end (by omega), decide_eq_false (by omega)]; rfl⟩ | exact ⟨_, rfl, S7.like0, by rw [chk_eq (by omega), hch, chkL_end (by omega), decide_eq_true (by omega)]; rfl⟩
                                ·
                                  refine T_skip ?_
                                  refine hK22 _ _ ?_
                                  refine T_seq fun K27 hK27 => ?_
                                  refine T_seq fun K28 hK28 => ?_
                                  have hgood : rtV b o.v = true := by first | (exfalso; rw [h38] at h74; cases h74; done) | (unfold rtV; simp [OP.v, *]; try omega)
                                  have hszp := sz_nonneg hgood
                                  refine T_drawnL [(0, true), (2, true), (3, true), (4, true), (5, true), (1, false), (6, true)] hmix (by kernel_rfl) fun w16 l16 => ?_
                                  have S16 := S7.like l16
                                  refine DL_y rfl (y_ldW Try.underlying58 rfl sz58 rfl (S16.blk 1 rfl) (show _ = opf o ∧ _ from ⟨rfl, rfl⟩)) rfl ?_
                                  refine DL_y rfl (y_fieldA 1 Try.underlying30 rfl sz3 rfl rfl rfl) rfl ?_
                                  refine DL_y rfl (y_ldc Try.underlying3 rfl rfl (((S16.blk 0 rfl).cell _).trans (by rfl))) rfl ?_
                                  refine DL_y rfl (y_move rfl) rfl ?_
                                  refine DL_y rfl (y_sub rfl rfl (i64w (by omega))) rfl ?_
                                  refine DL_o rfl (o_call Try.func28 rfl rfl (rsize o w16 (hok.like S16.like0 o (List.mem_of_getElem? ho))) rfl rfl ?_)
                                  rintro e17 w17 ⟨v17, rfl, l17, rfl⟩
                                  refine ⟨_, rfl, l17, ?_⟩
                                  have S17 := S16.like l17
                                  have q17 := l17
                                  refine DL_y rfl (y_gtr rfl rfl) rfl ?_
                                  refine DL_nil ?_
                                  refine hK28 _ _ ?_
                                  refine T_cond rfl (fun h96 => ?_) (fun h96 => ?_)
                                  ·
                                    refine T_seq fun K29 hK29 => ?_
                                    have hbad : chkL b (t - laid) ((l.map OP.v).drop k) = false := chkL_bad ho (.inr (by omega))
                                    refine T_region ?_
                                    refine L_y (y_assign rfl) rfl ?_
                                    refine L_nil ?_
                                    refine hK29 _ _ ?_
                                    refine T_ret ?_
                                    repeat (first | with_reducible refine up_then ?_ | with_reducible refine up_in ?_)
                                    refine ret1 rfl rfl ?_
                                    first | exact ⟨_, rfl, S17.like0, by rw [chk_no (by omega)]⟩ | exact ⟨_, rfl, S17.like0, by rw [chk_eq (by omega), hch, hbad]; rfl⟩ | exact ⟨_, rfl, S17.like0, by rw [chk_eq (by omega), hch, chkL_end (by omega), decide_eq_false (by omega)]; rfl⟩ | exact ⟨_, rfl, S17.like0, by rw [chk_eq (by omega), hch, chkL_end (by omega), decide_eq_true (by omega)]; rfl⟩
                                  ·
                                    refine T_skip ?_
                                    refine hK27 _ _ ?_
                                    refine T_region ?_
                                    refine L_y (y_move rfl) rfl ?_
                                    refine L_y (y_ldW Try.underlying58 rfl sz58 rfl (S17.blk 1 rfl) (show _ = opf o ∧ _ from ⟨rfl, rfl⟩)) rfl ?_
                                    refine L_o (o_call Try.func28 rfl rfl (rsize o w17 (hok.like S17.like0 o (List.mem_of_getElem? ho))) rfl rfl ?_)
                                    rintro e18 w18 ⟨v18, rfl, l18, rfl⟩
                                    refine ⟨_, rfl, ?_⟩
                                    have S18 := S17.like l18
                                    refine L_y (y_add rfl rfl (i64w (by omega))) rfl ?_
                                    refine L_y (y_assign rfl) rfl ?_
                                    refine L_nil ?_
                                    refine hK13 _ _ ?_
                                    refine T_region ?_
                                    refine L_y (y_move rfl) rfl ?_
                                    refine L_y (y_add rfl rfl (i64w (by omega))) rfl ?_
                                    refine L_y (y_assign rfl) rfl ?_
                                    refine L_nil ?_
                                    have S91 := S18.drop (rs' := [_]) (.cons_cons _ (.cons _ (.refl _)))
                                    refine ⟨k + 1, laid + szV o.v, by omega, ⟨⟨by omega, by omega, by omega, by rw [hch, chkL_ok ho hgood (by omega), show t - laid - szV o.v = t - (laid + szV o.v) by omega]⟩, S91⟩, ?_⟩
                                    exact (Sub.cons rfl (by first | rfl | exact congrArg (Value.int _) (by omega)) (Sub.cons rfl (by first | rfl | exact congrArg (Value.int _) (by omega)) (Sub.cons rfl rfl (Sub.nil _))))
                          ·
                            refine L_gno rfl rfl rfl ?_
                            refine L_gno rfl rfl rfl ?_
                            refine L_gno rfl rfl rfl ?_
                            refine L_gno rfl rfl rfl ?_
                            refine L_gno rfl rfl rfl ?_
                            refine L_gnu rfl rfl rfl ?_
                            refine L_gnu rfl rfl rfl ?_
                            refine L_gnu rfl rfl rfl ?_
                            refine L_gno rfl rfl rfl ?_
                            refine L_gno rfl rfl rfl ?_
                            refine L_gnu rfl rfl rfl ?_
                            refine L_gnu rfl rfl rfl ?_
                            refine L_gnu rfl rfl rfl ?_
                            refine L_gno rfl rfl rfl ?_
                            refine L_y ((by first | exact y_pickT rfl rfl | exact y_pickF rfl rfl)) rfl ?_
                            refine L_nil ?_
                            refine hK23 _ _ ?_
                            refine T_false rfl ?_
                            refine T_skip ?_
                            refine hK22 _ _ ?_
                            refine T_seq fun K30 hK30 => ?_
                            refine T_seq fun K31 hK31 => ?_
                            have hgood : rtV b o.v = true := by first | (exfalso; rw [h38] at h74; cases h74; done) | (unfold rtV; simp [OP.v, *]; try omega)
                            have hszp := sz_nonneg hgood
                            refine T_drawnL [(0, true), (2, true), (3, true), (4, true), (5, true), (1, false), (6, true)] hmix (by kernel_rfl) fun w19 l19 => ?_
                            have S19 := S7.like l19
                            refine DL_y rfl (y_ldW Try.underlying58 rfl sz58 rfl (S19.blk 1 rfl) (show _ = opf o ∧ _ from ⟨rfl, rfl⟩)) rfl ?_
                            refine DL_y rfl (y_fieldA 1 Try.underlying30 rfl sz3 rfl rfl rfl) rfl ?_
                            refine DL_y rfl (y_ldc Try.underlying3 rfl rfl (((S19.blk 0 rfl).cell _).trans (by rfl))) rfl ?_
                            refine DL_y rfl (y_move rfl) rfl ?_
                            refine DL_y rfl (y_sub rfl rfl (i64w (by omega))) rfl ?_
                            refine DL_o rfl (o_call Try.func28 rfl rfl (rsize o w19 (hok.like S19.like0 o (List.mem_of_getElem? ho))) rfl rfl ?_)
                            rintro e20 w20 ⟨v20, rfl, l20, rfl⟩
                            refine ⟨_, rfl, l20, ?_⟩
                            have S20 := S19.like l20
                            have q20 := l20
                            refine DL_y rfl (y_gtr rfl rfl) rfl ?_
                            refine DL_nil ?_
                            refine hK31 _ _ ?_
                            refine T_cond rfl (fun h96 => ?_) (fun h96 => ?_)
                            ·
                              refine T_seq fun K32 hK32 => ?_
                              have hbad : chkL b (t - laid) ((l.map OP.v).drop k) = false := chkL_bad ho (.inr (by omega))
                              refine T_region ?_
                              refine L_y (y_assign rfl) rfl ?_
                              refine L_nil ?_
                              refine hK32 _ _ ?_
                              refine T_ret ?_
                              repeat (first | with_reducible refine up_then ?_ | with_reducible refine up_in ?_)
                              refine ret1 rfl rfl ?_
                              first | exact ⟨_, rfl, S20.like0, by rw [chk_no (by omega)]⟩ | exact ⟨_, rfl, S20.like0, by rw [chk_eq (by omega), hch, hbad]; rfl⟩ | exact ⟨_, rfl, S20.like0, by rw [chk_eq (by omega), hch, chkL_end (by omega), decide_eq_false (by omega)]; rfl⟩ | exact ⟨_, rfl, S20.like0, by rw [chk_eq (by omega), hch, chkL_end (by omega), decide_eq_true (by omega)]; rfl⟩
                            ·
                              refine T_skip ?_
                              refine hK30 _ _ ?_
                              refine T_region ?_
                              refine L_y (y_move rfl) rfl ?_
                              refine L_y (y_ldW Try.underlying58 rfl sz58 rfl (S20.blk 1 rfl) (show _ = opf o ∧ _ from ⟨rfl, rfl⟩)) rfl ?_
                              refine L_o (o_call Try.func28 rfl rfl (rsize o w20 (hok.like S20.like0 o (List.mem_of_getElem? ho))) rfl rfl ?_)
                              rintro e21 w21 ⟨v21, rfl, l21, rfl⟩
                              refine ⟨_, rfl, ?_⟩
                              have S21 := S20.like l21
                              refine L_y (y_add rfl rfl (i64w (by omega))) rfl ?_
                              refine L_y (y_assign rfl) rfl ?_
                              refine L_nil ?_
                              refine hK13 _ _ ?_
                              refine T_region ?_
                              refine L_y (y_move rfl) rfl ?_
                              refine L_y (y_add rfl rfl (i64w (by omega))) rfl ?_
                              refine L_y (y_assign rfl) rfl ?_
                              refine L_nil ?_
                              have S91 := S21.drop (rs' := [_]) (.cons_cons _ (.cons _ (.refl _)))
                              refine ⟨k + 1, laid + szV o.v, by omega, ⟨⟨by omega, by omega, by omega, by rw [hch, chkL_ok ho hgood (by omega), show t - laid - szV o.v = t - (laid + szV o.v) by omega]⟩, S91⟩, ?_⟩
                              exact (Sub.cons rfl (by first | rfl | exact congrArg (Value.int _) (by omega)) (Sub.cons rfl (by first | rfl | exact congrArg (Value.int _) (by omega)) (Sub.cons rfl rfl (Sub.nil _))))
              ·
                refine L_gno rfl rfl rfl ?_
                refine L_gno rfl rfl rfl ?_
                refine L_gno rfl rfl rfl ?_
                refine L_gno rfl rfl rfl ?_
                refine L_gnu rfl rfl rfl ?_
                refine L_gnu rfl rfl rfl ?_
                refine L_gnu rfl rfl rfl ?_
                refine L_gnu rfl rfl rfl ?_
                refine L_gnu rfl rfl rfl ?_
                refine L_gno rfl rfl rfl ?_
                refine L_gno rfl rfl rfl ?_
                refine L_gnu rfl rfl rfl ?_
                refine L_gnu rfl rfl rfl ?_
                refine L_gnu rfl rfl rfl ?_
                refine L_gno rfl rfl rfl ?_
                refine L_gno rfl rfl rfl ?_
                refine L_gnu rfl rfl rfl ?_
                refine L_gnu rfl rfl rfl ?_
                refine L_gnu rfl rfl rfl ?_
                refine L_gnu rfl rfl rfl ?_
                refine L_gnu rfl rfl rfl ?_
                refine L_gnu rfl rfl rfl ?_
                refine L_gnu rfl rfl rfl ?_
                refine L_gnu rfl rfl rfl ?_
                refine L_gno rfl rfl rfl ?_
                refine L_gno rfl rfl rfl ?_
                refine L_gnu rfl rfl rfl ?_
                refine L_gnu rfl rfl rfl ?_
                refine L_gnu rfl rfl rfl ?_
                refine L_gnu rfl rfl rfl ?_
                refine L_gno rfl rfl rfl ?_
                refine L_y ((by first | exact y_pickT rfl rfl | exact y_pickF rfl rfl)) rfl ?_
                refine L_nil ?_
                refine hK16 _ _ ?_
                refine T_false rfl ?_
                refine T_skip ?_
                refine hK15 _ _ ?_
                refine T_seq fun K33 hK33 => ?_
                refine T_seq fun K34 hK34 => ?_
                refine T_region ?_
                refine L_y (y_fieldA 0 Try.underlying58 rfl sz4 rfl rfl rfl) rfl ?_
                refine L_y (y_ldc Try.underlying4 rfl rfl (((S7.blk 1 rfl).cell _).trans (by rfl))) rfl ?_
                refine L_y ((by first | exact y_notD rfl | exact y_not rfl)) rfl ?_
                refine L_y (y_move rfl) rfl ?_
                refine L_splitB 74 rfl (fun h74 => ?_) (fun h74 => ?_)
                ·
                  refine L_gyes rfl rfl ?_
                  refine L_y (y_fieldA 3 Try.underlying58 rfl sz22 rfl rfl rfl) rfl ?_
                  refine L_gyes rfl rfl ?_
                  refine L_y (y_ldc Try.underlying22 rfl rfl (((S7.blk 1 rfl).cell _).trans (by rfl))) rfl ?_
                  refine L_gyes rfl rfl ?_
                  refine L_y (y_len Try.underlying22 rfl) rfl ?_
                  refine L_gyes rfl rfl ?_
                  refine L_y (y_eql rfl rfl) rfl ?_
                  refine L_gyes rfl rfl ?_
                  refine L_y (y_move rfl) rfl ?_
                  refine L_split 79 rfl (fun h79 => ?_) (fun h79 => ?_)
                  ·
                    refine L_gno rfl rfl rfl ?_
                    refine L_gno rfl rfl rfl ?_
                    refine L_gno rfl rfl rfl ?_
                    refine L_gyes rfl rfl ?_
                    refine L_y ((by first | exact y_pickT rfl rfl | exact y_pickF rfl rfl)) rfl ?_
                    refine L_gyes rfl rfl ?_
                    refine L_y (y_move rfl) rfl ?_
                    refine L_gno rfl rfl rfl ?_
                    refine L_gno rfl rfl rfl ?_
                    refine L_gno rfl rfl rfl ?_
                    refine L_gyes rfl rfl ?_
                    refine L_y ((by first | exact y_pickT rfl rfl | exact y_pickF rfl rfl)) rfl ?_
                    refine L_y ((by first | exact y_pickT rfl rfl | exact y_pickF rfl rfl)) rfl ?_
                    refine L_nil ?_
                    refine hK34 _ _ ?_
                    refine T_true rfl ?_
                    refine T_seq fun K35 hK35 => ?_
                    have hbad : chkL b (t - laid) ((l.map OP.v).drop k) = false := by first | (exfalso; rw [h38] at h74; cases h74; done) | exact chkL_bad ho (.inl (by unfold rtV; simp [OP.v, *]; try omega))
                    refine T_region ?_
                    refine L_y (y_assign rfl) rfl ?_
                    refine L_nil ?_
                    refine hK35 _ _ ?_
                    refine T_ret ?_
                    repeat (first | with_reducible refine up_then ?_ | with_reducible refine up_in ?_)
                    refine ret1 rfl rfl ?_
                    first | exact ⟨_, rfl, S7.like0, by rw [chk_no (by omega)]⟩ | exact ⟨_, rfl, S7.like0, by rw [chk_eq (by omega), hch, hbad]; rfl⟩ | exact ⟨_, rfl, S7.like0, by rw [chk_eq (by omega), hch, chkL_end (by omega), decide_eq_false (by omega)]; rfl⟩ | exact ⟨_, rfl, S7.like0, by rw [chk_eq (by omega), hch, chkL_end (by omega), decide_eq_true (by omega)]; rfl⟩
                  ·
                    refine L_gyes rfl rfl ?_
                    refine L_y (y_fieldA 1 Try.underlying58 rfl sz3 rfl rfl rfl) rfl ?_
                    refine L_gyes rfl rfl ?_
                    refine L_y (y_ldc Try.underlying3 rfl rfl (((S7.blk 1 rfl).cell _).trans (by rfl))) rfl ?_
                    refine L_gyes rfl rfl ?_
                    refine L_y (y_neq rfl rfl) rfl ?_
                    refine L_gyes rfl rfl ?_
                    refine L_y ((by first | exact y_pickT rfl rfl | exact y_pickF rfl rfl)) rfl ?_
                    refine L_gyes rfl rfl ?_
                    refine L_y (y_move rfl) rfl ?_
                    refine L_split 84 rfl (fun h84 => ?_) (fun h84 => ?_)
                    ·
                      refine L_gno rfl rfl rfl ?_
                      refine L_gno rfl rfl rfl ?_
                      refine L_gno rfl rfl rfl ?_
                      refine L_gyes rfl rfl ?_
                      refine L_y ((by first | exact y_pickT rfl rfl | exact y_pickF rfl rfl)) rfl ?_
                      refine L_y ((by first | exact y_pickT rfl rfl | exact y_pickF rfl rfl)) rfl ?_
                      refine L_nil ?_
                      refine hK34 _ _ ?_
                      refine T_true rfl ?_
                      refine T_seq fun K36 hK36 => ?_
                      have hbad : chkL b (t - laid) ((l.map OP.v).drop k) = false := by first | (exfalso; rw [h38] at h74; cases h74; done) | exact chkL_bad ho (.inl (by unfold rtV; simp [OP.v, *]; try omega))
                      refine T_region ?_
                      refine L_y (y_assign rfl) rfl ?_
                      refine L_nil ?_
                      refine hK36 _ _ ?_
                      refine T_ret ?_
                      repeat (first | with_reducible refine up_then ?_ | with_reducible refine up_in ?_)
                      refine ret1 rfl rfl ?_
                      first | exact ⟨_, rfl, S7.like0, by rw [chk_no (by omega)]⟩ | exact ⟨_, rfl, S7.like0, by rw [chk_eq (by omega), hch, hbad]; rfl⟩ | exact ⟨_, rfl, S7.like0, by rw [chk_eq (by omega), hch, chkL_end (by omega), decide_eq_false (by omega)]; rfl⟩ | exact ⟨_, rfl, S7.like0, by rw [chk_eq (by omega), hch, chkL_end (by omega), decide_eq_true (by omega)]; rfl⟩
                    ·
                      refine L_gyes rfl rfl ?_
                      refine L_y (y_fieldA 2 Try.underlying58 rfl sz3 rfl rfl rfl) rfl ?_
                      refine L_gyes rfl rfl ?_
                      refine L_y (y_ldc Try.underlying3 rfl rfl (((S7.blk 1 rfl).cell _).trans (by rfl))) rfl ?_
                      refine L_gyes rfl rfl ?_
                      refine L_y (y_neq rfl rfl) rfl ?_
                      refine L_gyes rfl rfl ?_
                      refine L_y ((by first | exact y_pickT rfl rfl | exact y_pickF rfl rfl)) rfl ?_
                      refine L_y ((by first | exact y_pickT rfl rfl | exact y_pickF rfl rfl)) rfl ?_
                      refine L_nil ?_
                      refine hK34 _ _ ?_
                      refine T_cond rfl (fun h89 => ?_) (fun h89 => ?_)
                      ·
                        refine T_seq fun K37 hK37 => ?_
                        have hbad : chkL b (t - laid) ((l.map OP.v).drop k) = false := by first | (exfalso; rw [h38] at h74; cases h74; done) | exact chkL_bad ho (.inl (by unfold rtV; simp [OP.v, *]; try omega))
                        refine T_region ?_
                        refine L_y (y_assign rfl) rfl ?_
                        refine L_nil ?_
                        refine hK37 _ _ ?_
                        refine T_ret ?_
                        repeat (first | with_reducible refine up_then ?_ | with_reducible refine up_in ?_)
                        refine ret1 rfl rfl ?_
                        first | exact ⟨_, rfl, S7.like0, by rw [chk_no (by omega)]⟩ | exact ⟨_, rfl, S7.like0, by rw [chk_eq (by omega), hch, hbad]; rfl⟩ | exact ⟨_, rfl, S7.like0, by rw [chk_eq (by omega), hch, chkL_end (by omega), decide_eq_false (by omega)]; rfl⟩ | exact ⟨_, rfl, S7.like0, by rw [chk_eq (by omega), hch, chkL_end (by omega), decide_eq_true (by omega)]; rfl⟩
                      ·
                        refine T_skip ?_
                        refine hK33 _ _ ?_
                        refine T_seq fun K38 hK38 => ?_
                        refine T_seq fun K39 hK39 => ?_
                        have hgood : rtV b o.v = true := by first | (exfalso; rw [h38] at h74; cases h74; done) | (unfold rtV; simp [OP.v, *]; try omega)
                        have hszp := sz_nonneg hgood
                        refine T_drawnL [(0, true), (2, true), (3, true), (4, true), (5, true), (1, false), (6, true)] hmix (by kernel_rfl) fun w25 l25 => ?_
                        have S25 := S7.like l25
                        refine DL_y rfl (y_ldW Try.underlying58 rfl sz58 rfl (S25.blk 1 rfl) (show _ = opf o ∧ _ from ⟨rfl, rfl⟩)) rfl ?_
                        refine DL_y rfl (y_fieldA 1 Try.underlying30 rfl sz3 rfl rfl rfl) rfl ?_
                        refine DL_y rfl (y_ldc Try.underlying3 rfl rfl (((S25.blk 0 rfl).cell _).trans (by rfl))) rfl ?_
                        refine DL_y rfl (y_move rfl) rfl ?_
                        refine DL_y rfl (y_sub rfl rfl (i64w (by omega))) rfl ?_
                        refine DL_o rfl (o_call Try.func28 rfl rfl (rsize o w25 (hok.like S25.like0 o (List.mem_of_getElem? ho))) rfl rfl ?_)
                        rintro e26 w26 ⟨v26, rfl, l26, rfl⟩
                        refine ⟨_, rfl, l26, ?_⟩
                        have S26 := S25.like l26
                        have q26 := l26
                        refine DL_y rfl (y_gtr rfl rfl) rfl ?_
                        refine DL_nil ?_
                        refine hK39 _ _ ?_
                        refine T_cond rfl (fun h96 => ?_) (fun h96 => ?_)
                        ·
                          refine T_seq fun K40 hK40 => ?_
                          have hbad : chkL b (t - laid) ((l.map OP.v).drop k) = false := chkL_bad ho (.inr (by omega))
                          refine T_region ?_
                          refine L_y (y_assign rfl) rfl ?_
                          refine L_nil ?_
                          refine hK40 _ _ ?_
                          refine T_ret ?_
                          repeat (first | with_reducible refine up_then ?_ | with_reducible refine up_in ?_)
                          refine ret1 rfl rfl ?_
                          first | exact ⟨_, rfl, S26.like0, by rw [chk_no (by omega)]⟩ | exact ⟨_, rfl, S26.like0, by rw [chk_eq (by omega), hch, hbad]; rfl⟩ | exact ⟨_, rfl, S26.like0, by rw [chk_eq (by omega), hch, chkL_end (by omega), decide_eq_false (by omega)]; rfl⟩ | exact ⟨_, rfl, S26.like0, by rw [chk_eq (by omega), hch, chkL_end (by omega), decide_eq_true (by omega)]; rfl⟩
                        ·
                          refine T_skip ?_
                          refine hK38 _ _ ?_
                          refine T_region ?_
                          refine L_y (y_move rfl) rfl ?_
                          refine L_y (y_ldW Try.underlying58 rfl sz58 rfl (S26.blk 1 rfl) (show _ = opf o ∧ _ from ⟨rfl, rfl⟩)) rfl ?_
                          refine L_o (o_call Try.func28 rfl rfl (rsize o w26 (hok.like S26.like0 o (List.mem_of_getElem? ho))) rfl rfl ?_)
                          rintro e27 w27 ⟨v27, rfl, l27, rfl⟩
                          refine ⟨_, rfl, ?_⟩
                          have S27 := S26.like l27
                          refine L_y (y_add rfl rfl (i64w (by omega))) rfl ?_
                          refine L_y (y_assign rfl) rfl ?_
                          refine L_nil ?_
                          refine hK13 _ _ ?_
                          refine T_region ?_
                          refine L_y (y_move rfl) rfl ?_
                          refine L_y (y_add rfl rfl (i64w (by omega))) rfl ?_
                          refine L_y (y_assign rfl) rfl ?_
                          refine L_nil ?_
                          have S91 := S27.drop (rs' := [_]) (.cons_cons _ (.cons _ (.refl _)))
                          refine ⟨k + 1, laid + szV o.v, by omega, ⟨⟨by omega, by omega, by omega, by rw [hch, chkL_ok ho hgood (by omega), show t - laid - szV o.v = t - (laid + szV o.v) by omega]⟩, S91⟩, ?_⟩
                          exact (Sub.cons rfl (by first | rfl | exact congrArg (Value.int _) (by omega)) (Sub.cons rfl (by first | rfl | exact congrArg (Value.int _) (by omega)) (Sub.cons rfl rfl (Sub.nil _))))
                ·
                  refine L_gno rfl rfl rfl ?_
                  refine L_gno rfl rfl rfl ?_
                  refine L_gno rfl rfl rfl ?_
                  refine L_gno rfl rfl rfl ?_
                  refine L_gno rfl rfl rfl ?_
                  refine L_gnu rfl rfl rfl ?_
                  refine L_gnu rfl rfl rfl ?_
                  refine L_gnu rfl rfl rfl ?_
                  refine L_gno rfl rfl rfl ?_
                  refine L_gno rfl rfl rfl ?_
                  refine L_gnu rfl rfl rfl ?_
                  refine L_gnu rfl rfl rfl ?_
                  refine L_gnu rfl rfl rfl ?_
                  refine L_gno rfl rfl rfl ?_
                  refine L_y ((by first | exact y_pickT rfl rfl | exact y_pickF rfl rfl)) rfl ?_
                  refine L_nil ?_
                  refine hK34 _ _ ?_
                  refine T_false rfl ?_
                  refine T_skip ?_
                  refine hK33 _ _ ?_
                  refine T_seq fun K41 hK41 => ?_
                  refine T_seq fun K42 hK42 => ?_
                  have hgood : rtV b o.v = true := by first | (exfalso; rw [h38] at h74; cases h74; done) | (unfold rtV; simp [OP.v, *]; try omega)
                  have hszp := sz_nonneg hgood
                  refine T_drawnL [(0, true), (2, true), (3, true), (4, true), (5, true), (1, false), (6, true)] hmix (by kernel_rfl) fun w28 l28 => ?_
                  have S28 := S7.like l28
                  refine DL_y rfl (y_ldW Try.underlying58 rfl sz58 rfl (S28.blk 1 rfl) (show _ = opf o ∧ _ from ⟨rfl, rfl⟩)) rfl ?_
                  refine DL_y rfl (y_fieldA 1 Try.underlying30 rfl sz3 rfl rfl rfl) rfl ?_
                  refine DL_y rfl (y_ldc Try.underlying3 rfl rfl (((S28.blk 0 rfl).cell _).trans (by rfl))) rfl ?_
                  refine DL_y rfl (y_move rfl) rfl ?_
                  refine DL_y rfl (y_sub rfl rfl (i64w (by omega))) rfl ?_
                  refine DL_o rfl (o_call Try.func28 rfl rfl (rsize o w28 (hok.like S28.like0 o (List.mem_of_getElem? ho))) rfl rfl ?_)
                  rintro e29 w29 ⟨v29, rfl, l29, rfl⟩
                  refine ⟨_, rfl, l29, ?_⟩
                  have S29 := S28.like l29
                  have q29 := l29
                  refine DL_y rfl (y_gtr rfl rfl) rfl ?_
                  refine DL_nil ?_
                  refine hK42 _ _ ?_
                  refine T_cond rfl (fun h96 => ?_) (fun h96 => ?_)
                  ·
                    refine T_seq fun K43 hK43 => ?_
                    have hbad : chkL b (t - laid) ((l.map OP.v).drop k) = false := chkL_bad ho (.inr (by omega))
                    refine T_region ?_
                    refine L_y (y_assign rfl) rfl ?_
                    refine L_nil ?_
                    refine hK43 _ _ ?_
                    refine T_ret ?_
                    repeat (first | with_reducible refine up_then ?_ | with_reducible refine up_in ?_)
                    refine ret1 rfl rfl ?_
                    first | exact ⟨_, rfl, S29.like0, by rw [chk_no (by omega)]⟩ | exact ⟨_, rfl, S29.like0, by rw [chk_eq (by omega), hch, hbad]; rfl⟩ | exact ⟨_, rfl, S29.like0, by rw [chk_eq (by omega), hch, chkL_end (by omega), decide_eq_false (by omega)]; rfl⟩ | exact ⟨_, rfl, S29.like0, by rw [chk_eq (by omega), hch, chkL_end (by omega), decide_eq_true (by omega)]; rfl⟩
                  ·
                    refine T_skip ?_
                    refine hK41 _ _ ?_
                    refine T_region ?_
                    refine L_y (y_move rfl) rfl ?_
                    refine L_y (y_ldW Try.underlying58 rfl sz58 rfl (S29.blk 1 rfl) (show _ = opf o ∧ _ from ⟨rfl, rfl⟩)) rfl ?_
                    refine L_o (o_call Try.func28 rfl rfl (rsize o w29 (hok.like S29.like0 o (List.mem_of_getElem? ho))) rfl rfl ?_)
                    rintro e30 w30 ⟨v30, rfl, l30, rfl⟩
                    refine ⟨_, rfl, ?_⟩
                    have S30 := S29.like l30
                    refine L_y (y_add rfl rfl (i64w (by omega))) rfl ?_
                    refine L_y (y_assign rfl) rfl ?_
                    refine L_nil ?_
                    refine hK13 _ _ ?_
                    refine T_region ?_
                    refine L_y (y_move rfl) rfl ?_
                    refine L_y (y_add rfl rfl (i64w (by omega))) rfl ?_
                    refine L_y (y_assign rfl) rfl ?_
                    refine L_nil ?_
                    have S91 := S30.drop (rs' := [_]) (.cons_cons _ (.cons _ (.refl _)))
                    refine ⟨k + 1, laid + szV o.v, by omega, ⟨⟨by omega, by omega, by omega, by rw [hch, chkL_ok ho hgood (by omega), show t - laid - szV o.v = t - (laid + szV o.v) by omega]⟩, S91⟩, ?_⟩
                    exact (Sub.cons rfl (by first | rfl | exact congrArg (Value.int _) (by omega)) (Sub.cons rfl (by first | rfl | exact congrArg (Value.int _) (by omega)) (Sub.cons rfl rfl (Sub.nil _))))
            ·
              refine T_exit ?_
              refine hK9 _ _ ?_
              refine T_seq fun K44 hK44 => ?_
              refine T_seq fun K45 hK45 => ?_
              refine T_region ?_
              refine L_y (y_move rfl) rfl ?_
              refine L_y (y_fieldA 1 Try.underlying30 rfl sz3 rfl rfl rfl) rfl ?_
              refine L_y (y_ldc Try.underlying3 rfl rfl (((S5.blk 0 rfl).cell _).trans (by rfl))) rfl ?_
              refine L_y (y_neq rfl rfl) rfl ?_
              refine L_nil ?_
              refine hK45 _ _ ?_
              refine T_cond rfl (fun h104 => ?_) (fun h104 => ?_)
              ·
                refine T_seq fun K46 hK46 => ?_
                refine T_region ?_
                refine L_y (y_assign rfl) rfl ?_
                refine L_nil ?_
                refine hK46 _ _ ?_
                refine T_ret ?_
                repeat (first | with_reducible refine up_then ?_ | with_reducible refine up_in ?_)
                refine ret1 rfl rfl ?_
                first | exact ⟨_, rfl, S5.like0, by rw [chk_no (by omega)]⟩ | exact ⟨_, rfl, S5.like0, by rw [chk_eq (by omega), hch, hbad]; rfl⟩ | exact ⟨_, rfl, S5.like0, by rw [chk_eq (by omega), hch, chkL_end (by omega), decide_eq_false (by omega)]; rfl⟩ | exact ⟨_, rfl, S5.like0, by rw [chk_eq (by omega), hch, chkL_end (by omega), decide_eq_true (by omega)]; rfl⟩
              ·
                refine T_skip ?_
                refine hK44 _ _ ?_
                refine T_seq fun K47 hK47 => ?_
                refine T_region ?_
                refine L_y (y_assign rfl) rfl ?_
                refine L_nil ?_
                refine hK47 _ _ ?_
                refine T_ret ?_
                repeat (first | with_reducible refine up_then ?_ | with_reducible refine up_in ?_)
                refine ret1 rfl rfl ?_
                first | exact ⟨_, rfl, S5.like0, by rw [chk_no (by omega)]⟩ | exact ⟨_, rfl, S5.like0, by rw [chk_eq (by omega), hch, hbad]; rfl⟩ | exact ⟨_, rfl, S5.like0, by rw [chk_eq (by omega), hch, chkL_end (by omega), decide_eq_false (by omega)]; rfl⟩ | exact ⟨_, rfl, S5.like0, by rw [chk_eq (by omega), hch, chkL_end (by omega), decide_eq_true (by omega)]; rfl⟩
end Go.Proofs.Ytpcgldkllnkaeaa

/-
  Texts alike.
-/
namespace Go.Proofs.Ytpcgldkllnkaeaa
open Go.RowKit Zk Zx
set_option linter.unusedVariables false
set_option linter.unusedSimpArgs false

theorem byt_inj (l k : List UInt8) : decide ((⟨l.toArray⟩ : ByteArray) = ⟨k.toArray⟩) = decide (l = k) := by
  by_cases h : l = k
  · subst h; simp
  · have : (⟨l.toArray⟩ : ByteArray) ≠ ⟨k.toArray⟩ := fun e => h (by simpa using e)
    simp [h]
/-- How many bytes two texts begin with alike. -/
def comP : List UInt8 → List UInt8 → Nat
  | a :: x, b :: y => if a = b then comP x y + 1 else 0
  | _, _ => 0
theorem g8_cons (a : UInt8) (l : List UInt8) (k : Nat) : g8 (a :: l) (k + 1) = g8 l k := by simp [g8]
theorem g8_zero (a b : UInt8) (l m : List UInt8) : g8 (a :: l) 0 = g8 (b :: m) 0 ↔ a = b := by
  simp only [g8, List.getD_cons_zero]
  constructor
  · intro h; exact UInt8.toNat_inj.1 (by omega)
  · intro h; rw [h]
theorem comP_stop : ∀ (a b : List UInt8) (i : Nat), (∀ j, j < i → g8 a j = g8 b j) → i ≤ a.length → i ≤ b.length → (a.length ≤ i ∨ b.length ≤ i ∨ g8 a i ≠ g8 b i) → comP a b = i
  | [], b, i, _, h1, _, _ => by
    have : i = 0 := by simpa using h1
    subst this
    unfold comP
    rfl
  | a :: x, [], i, _, _, h2, _ => by
    have : i = 0 := by simpa using h2
    subst this
    rfl
  | a :: x, b :: y, 0, _, _, _, hs => by
    rcases hs with hs | hs | hs
    · simp at hs
    · simp at hs
    · have : a ≠ b := fun e => hs ((g8_zero a b x y).2 e)
      unfold comP
      rw [if_neg this]
  | a :: x, b :: y, i + 1, h, h1, h2, hs => by
    have e : a = b := (g8_zero a b x y).1 (h 0 (by omega))
    unfold comP
    rw [if_pos e, comP_stop x y i (fun j hj => by have := h (j + 1) (by omega); rwa [g8_cons, g8_cons] at this) (by simpa using h1) (by simpa using h2) (by simpa [g8_cons] using hs)]
theorem g8_drop (l : List UInt8) (i j : Nat) : g8 (l.drop i) j = g8 l (i + j) := by
  unfold g8
  rw [List.getD_eq_getElem?_getD, List.getD_eq_getElem?_getD, List.getElem?_drop]
theorem comP_le : ∀ a b : List UInt8, comP a b ≤ a.length ∧ comP a b ≤ b.length
  | [], b => by unfold comP; simp
  | a :: x, [] => by unfold comP; simp
  | a :: x, b :: y => by
    unfold comP
    split
    · have := comP_le x y; simp; omega
    · simp
theorem comP_take : ∀ (a b : List UInt8) (n : Nat), n ≤ comP a b ↔ n ≤ a.length ∧ n ≤ b.length ∧ a.take n = b.take n
  | a, b, 0 => by simp
  | [], b, n + 1 => by
    have : comP [] b = 0 := by unfold comP; rfl
    simp [this]
  | a :: x, [], n + 1 => by simp [comP]
  | a :: x, b :: y, n + 1 => by
    unfold comP
    split
    · rename_i e
      subst e
      have := comP_take x y n
      simp only [List.length_cons, Nat.add_le_add_iff_right, List.take_succ_cons, List.cons.injEq, true_and]
      exact this
    · rename_i e
      constructor
      · intro h; omega
      · rintro ⟨_, _, h⟩
        simp only [List.take_succ_cons, List.cons.injEq] at h
        exact (e h.1).elim


set_option maxRecDepth 100000 in
theorem same1 (A B : Option Addr) (n c m d : Nat) (a b : List UInt8) (w0 : World) (ha : Rs w0 1 A n c (bL a)) (hb : Rs w0 1 B m d (bL b)) :
    Calls Try.prog 14 #[.slice A n c, .slice B m d] w0 fun e w' => ∃ u, e = .returned u ∧ Like w0 w' ∧ u = .bool (decide (a = b)) := by
  refine enter1 (env := [(0, .slice A n c), (1, .slice B m d)]) [.slice A n c, .slice B m d] Try.func14 rfl Try.ntmps14 rfl rfl ?_
  have S0 := St.start w0 noM
  refine T_seq fun K1 hK1 => ?_
  refine T_region ?_
  refine L_y (y_assign rfl) rfl ?_
  refine L_nil ?_
  refine hK1 _ _ ?_
  refine T_seq fun K2 hK2 => ?_
  refine T_region ?_
  refine L_y (y_move rfl) rfl ?_
  refine L_y (y_bstr Try.underlying22 Try.underlying5 Try.underlying9 rfl (S0.rd ha)) rfl ?_
  refine L_y (y_move rfl) rfl ?_
  refine L_y (y_bstr Try.underlying22 Try.underlying5 Try.underlying9 rfl (S0.rd hb)) rfl ?_
  refine L_y (y_seql rfl rfl) rfl ?_
  refine L_y (y_assign rfl) rfl ?_
  refine L_nil ?_
  refine hK2 _ _ ?_
  refine T_ret ?_
  repeat (first | with_reducible refine up_then ?_ | with_reducible refine up_in ?_)
  refine ret1 rfl rfl ?_
  exact ⟨_, rfl, S0.like0, by rw [byt_inj]⟩


set_option maxRecDepth 100000 in
theorem palike (A B : Option Addr) (n c m d : Nat) (a b : List UInt8) (w0 : World) (ha : Rs w0 1 A n c (bL a)) (hb : Rs w0 1 B m d (bL b)) :
    Calls Try.prog 53 #[.slice A n c, .slice B m d] w0 fun e w' => ∃ u, e = .returned u ∧ Like w0 w' ∧ u = .int .i64 (comP a b : Int) := by
  refine enter1 (env := [(0, .slice A n c), (1, .slice B m d)]) [.slice A n c, .slice B m d] Try.func53 rfl Try.ntmps53 rfl rfl ?_
  have hn := ha.lenb; have hm := hb.lenb; have hc1 := ha.cap; have hc2 := hb.cap; have hm1 := ha.max; have hm2 := hb.max; have S0 := St.start w0 noM
  refine T_seq fun K1 hK1 => ?_
  refine T_region ?_
  refine L_y (y_assign rfl) rfl ?_
  refine L_nil ?_
  refine hK1 _ _ ?_
  refine T_seq fun K2 hK2 => ?_
  refine T_region ?_
  refine L_y (y_move rfl) rfl ?_
  refine L_y (y_len Try.underlying22 rfl) rfl ?_
  refine L_y (y_move rfl) rfl ?_
  refine L_y (y_len Try.underlying22 rfl) rfl ?_
  refine L_y (y_min rfl rfl) rfl ?_
  refine L_y (y_assign rfl) rfl ?_
  refine L_nil ?_
  refine hK2 _ _ ?_
  refine T_seq fun K3 hK3 => ?_
  refine T_seq fun K4 hK4 => ?_
  refine T_region ?_
  refine L_y (y_move rfl) rfl ?_
  refine L_y (y_move rfl) rfl ?_
  refine L_nil ?_
  refine hK4 _ _ ?_
  refine T_block ?_
  refine T_loop1 [(0, _), (1, _), (5, _), (12, _)] (fun (i : Nat) => [(13, .int .i64 (i : Int))]) (fun (i : Nat) => n - i) (fun (i : Nat) (w : World) => (i ≤ n ∧ i ≤ m ∧ ∀ j, j < i → g8 a j = g8 b j) ∧ St w0 noM [] w) 0 (Sub.cons rfl (by first | rfl | exact congrArg (Value.int _) (by omega)) (Sub.nil _)) (Sub.cons rfl rfl (Sub.cons rfl rfl (Sub.cons rfl rfl (Sub.cons rfl rfl (Sub.nil _))))) ?_ ?_
  ·
    exact ⟨⟨Nat.zero_le _, Nat.zero_le _, fun j h => by omega⟩, S0⟩
  ·
    intro i w1 hrel
    obtain ⟨⟨hi, hi2, hj⟩, S1⟩ := hrel
    refine T_seq fun K5 hK5 => ?_
    refine T_region ?_
    refine L_y (y_lss rfl rfl) rfl ?_
    refine L_nil ?_
    refine hK5 _ _ ?_
    refine T_seq fun K6 hK6 => ?_
    refine T_cond rfl (fun h14 => ?_) (fun h14 => ?_)
    ·
      refine T_skip ?_
      refine hK6 _ _ ?_
      refine T_seq fun K7 hK7 => ?_
      refine T_block ?_
      refine T_seq fun K8 hK8 => ?_
      refine T_region ?_
      refine L_y (y_move rfl) rfl ?_
      refine L_y (y_assign rfl) rfl ?_
      refine L_nil ?_
      refine hK8 _ _ ?_
      refine T_seq fun K9 hK9 => ?_
      refine T_drawnL [(0, true), (1, true), (2, true), (3, true), (4, true), (5, true), (6, true), (7, true), (8, true)] hmix (by kernel_rfl) fun w2 l2 => ?_
      have S2 := S1.like l2
      refine DL_y rfl (y_move rfl) rfl ?_
      refine DL_y rfl (y_move rfl) rfl ?_
      refine DL_y rfl (y_idx Try.underlying22 sz5 rfl rfl (S2.rd ha) (Nt.mk (by omega) : Nt _ (i)) (by omega)) rfl ?_
      refine DL_yb rfl (y_ldb Try.underlying5 rfl rfl (S2.rd ha) (by omega)) rfl fun _ _ => ?_
      refine DL_y rfl (y_move rfl) rfl ?_
      refine DL_y rfl (y_move rfl) rfl ?_
      refine DL_y rfl (y_idx Try.underlying22 sz5 rfl rfl (S2.rd hb) (Nt.mk (by omega) : Nt _ (i)) (by omega)) rfl ?_
      refine DL_yb rfl (y_ldb Try.underlying5 rfl rfl (S2.rd hb) (by omega)) rfl fun _ _ => ?_
      refine DL_y rfl (y_neq rfl rfl) rfl ?_
      refine DL_nil ?_
      refine hK9 _ _ ?_
      refine T_cond rfl (fun h24 => ?_) (fun h24 => ?_)
      ·
        refine T_seq fun K10 hK10 => ?_
        refine T_region ?_
        refine L_y (y_move rfl) rfl ?_
        refine L_y (y_assign rfl) rfl ?_
        refine L_nil ?_
        refine hK10 _ _ ?_
        refine T_ret ?_
        repeat (first | with_reducible refine up_then ?_ | with_reducible refine up_in ?_)
        refine ret1 rfl rfl ?_
        first | exact ⟨_, rfl, S2.like0, by rw [comP_stop a b i hj (by omega) (by omega) (.inr (.inr h24))]⟩ | exact ⟨_, rfl, S2.like0, by rw [comP_stop a b i hj (by omega) (by omega) (by omega)]; congr 1; omega⟩
      ·
        refine T_skip ?_
        refine hK7 _ _ ?_
        refine T_region ?_
        refine L_y (y_add rfl rfl (i64w (by omega))) rfl ?_
        refine L_y (y_move rfl) rfl ?_
        refine L_nil ?_
        refine ⟨i + 1, by omega, ⟨⟨by omega, by omega, fun j h => by rcases Nat.lt_or_ge j i with q | q; exact hj j q; (rw [show j = i by omega]; omega)⟩, S2⟩, ?_⟩
        exact (Sub.cons rfl (by first | rfl | exact congrArg (Value.int _) (by omega)) (Sub.cons rfl rfl (Sub.cons rfl rfl (Sub.cons rfl rfl (Sub.cons rfl rfl (Sub.nil _))))))
    ·
      refine T_exit ?_
      refine hK3 _ _ ?_
      refine T_seq fun K11 hK11 => ?_
      refine T_region ?_
      refine L_y (y_move rfl) rfl ?_
      refine L_y (y_assign rfl) rfl ?_
      refine L_nil ?_
      refine hK11 _ _ ?_
      refine T_ret ?_
      repeat (first | with_reducible refine up_then ?_ | with_reducible refine up_in ?_)
      refine ret1 rfl rfl ?_
      first | exact ⟨_, rfl, S1.like0, by rw [comP_stop a b i hj (by omega) (by omega) (.inr (.inr h24))]⟩ | exact ⟨_, rfl, S1.like0, by rw [comP_stop a b i hj (by omega) (by omega) (by omega)]; congr 1; omega⟩


set_option maxRecDepth 100000 in
theorem rbegins (A B : Option Addr) (n c m d : Nat) (a b : List UInt8) (i k : Nat) (w0 : World) (ha : Rs w0 1 A n c (bL a)) (hb : Rs w0 1 B m d (bL b)) (hi0 : i ≤ n) (hk0 : k ≤ m) :
    Calls Try.prog 51 #[.slice A n c, .int .i64 (i : Int), .slice B m d, .int .i64 (k : Int)] w0 fun e w' => ∃ u, e = .returned u ∧ Like w0 w' ∧ u = .int .i64 (comP (a.drop i) (b.drop k) : Int) := by
  refine enter1 (env := [(0, .slice A n c), (1, .int .i64 (i : Int)), (2, .slice B m d), (3, .int .i64 (k : Int))]) [.slice A n c, .int .i64 (i : Int), .slice B m d, .int .i64 (k : Int)] Try.func51 rfl Try.ntmps51 rfl rfl ?_
  have hn := ha.lenb; have hm := hb.lenb; have hc1 := ha.cap; have hc2 := hb.cap; have hm1 := ha.max; have hm2 := hb.max; have S0 := St.start w0 noM
  refine T_seq fun K1 hK1 => ?_
  refine T_region ?_
  refine L_y (y_assign rfl) rfl ?_
  refine L_nil ?_
  refine hK1 _ _ ?_
  refine T_seq fun K2 hK2 => ?_
  refine T_region ?_
  refine L_y (y_assign rfl) rfl ?_
  refine L_nil ?_
  refine hK2 _ _ ?_
  refine T_seq fun K3 hK3 => ?_
  refine T_block ?_
  refine T_loop1 [(0, _), (1, _), (2, _), (3, _)] (fun (q : Nat) => [(9, .int .i64 (q : Int))]) (fun (q : Nat) => n - q) (fun (q : Nat) (w : World) => (i + q ≤ n ∧ k + q ≤ m ∧ ∀ j, j < q → g8 (a.drop i) j = g8 (b.drop k) j) ∧ St w0 noM [] w) 0 (Sub.cons rfl (by first | rfl | exact congrArg (Value.int _) (by omega)) (Sub.nil _)) (Sub.cons rfl rfl (Sub.cons rfl rfl (Sub.cons rfl rfl (Sub.cons rfl rfl (Sub.nil _))))) ?_ ?_
  ·
    exact ⟨⟨by omega, by omega, fun j h => by omega⟩, S0⟩
  ·
    intro q w1 hrel
    obtain ⟨⟨hq, hq2, hj⟩, S1⟩ := hrel
    refine T_seq fun K4 hK4 => ?_
    refine T_seq fun K5 hK5 => ?_
    refine T_drawnL [(0, true), (1, true), (2, true), (3, true), (4, true), (5, true), (6, true), (7, true), (8, true), (9, true), (10, true), (11, true), (12, true), (13, true), (14, true), (15, true), (16, true), (17, true), (18, true), (19, true), (20, true), (21, true), (22, true), (23, true), (24, true), (25, true), (26, true), (27, true), (28, true)] hmix (by kernel_rfl) fun w2 l2 => ?_
    have S2 := S1.like l2
    refine DL_y rfl (y_move rfl) rfl ?_
    refine DL_y rfl (y_move rfl) rfl ?_
    refine DL_y rfl (y_add rfl rfl (i64w (by omega))) rfl ?_
    refine DL_y rfl (y_move rfl) rfl ?_
    refine DL_y rfl (y_len Try.underlying22 rfl) rfl ?_
    refine DL_y rfl (y_lss rfl rfl) rfl ?_
    refine DL_y rfl (y_move rfl) rfl ?_
    refine DL_split 16 rfl (fun h16 => ?_) (fun h16 => ?_)
    ·
      refine DL_gyes rfl rfl rfl (y_move rfl) rfl ?_
      refine DL_gyes rfl rfl rfl (y_move rfl) rfl ?_
      refine DL_gyes rfl rfl rfl (y_add rfl rfl (i64w (by omega))) rfl ?_
      refine DL_gyes rfl rfl rfl (y_move rfl) rfl ?_
      refine DL_gyes rfl rfl rfl (y_len Try.underlying22 rfl) rfl ?_
      refine DL_gyes rfl rfl rfl (y_lss rfl rfl) rfl ?_
      refine DL_y rfl ((by first | exact y_pickT rfl rfl | exact y_pickF rfl rfl)) rfl ?_
      refine DL_y rfl (y_move rfl) rfl ?_
      refine DL_split 24 rfl (fun h24 => ?_) (fun h24 => ?_)
      ·
        refine DL_gyes rfl rfl rfl (y_move rfl) rfl ?_
        refine DL_gyes rfl rfl rfl (y_move rfl) rfl ?_
        refine DL_gyes rfl rfl rfl (y_move rfl) rfl ?_
        refine DL_gyes rfl rfl rfl (y_add rfl rfl (i64w (by omega))) rfl ?_
        refine DL_gyes rfl rfl rfl (y_idx Try.underlying22 sz5 rfl rfl (S2.rd ha) (Nt.mk (by omega) : Nt _ (i + q)) (by omega)) rfl ?_
        refine DL_gyes rfl rfl rfl (y_ldb Try.underlying5 rfl rfl (S2.rd ha) (by omega)) rfl ?_
        refine DL_gyes rfl rfl rfl (y_move rfl) rfl ?_
        refine DL_gyes rfl rfl rfl (y_move rfl) rfl ?_
        refine DL_gyes rfl rfl rfl (y_move rfl) rfl ?_
        refine DL_gyes rfl rfl rfl (y_add rfl rfl (i64w (by omega))) rfl ?_
        refine DL_gyes rfl rfl rfl (y_idx Try.underlying22 sz5 rfl rfl (S2.rd hb) (Nt.mk (by omega) : Nt _ (k + q)) (by omega)) rfl ?_
        refine DL_gyes rfl rfl rfl (y_ldb Try.underlying5 rfl rfl (S2.rd hb) (by omega)) rfl ?_
        refine DL_gyes rfl rfl rfl (y_eql rfl rfl) rfl ?_
        refine DL_y rfl ((by first | exact y_pickT rfl rfl | exact y_pickF rfl rfl)) rfl ?_
        refine DL_nil ?_
        refine hK5 _ _ ?_
        refine T_cond rfl (fun h38 => ?_) (fun h38 => ?_)
        ·
          refine T_skip ?_
          refine hK4 _ _ ?_
          refine T_block ?_
          refine T_region ?_
          refine L_y (y_move rfl) rfl ?_
          refine L_y (y_add rfl rfl (i64w (by omega))) rfl ?_
          refine L_y (y_assign rfl) rfl ?_
          refine L_nil ?_
          refine ⟨q + 1, by omega, ⟨⟨by omega, by omega, fun j h => by rcases Nat.lt_or_ge j q with z | z; exact hj j z; (rw [show j = q by omega, g8_drop, g8_drop]; omega)⟩, S2⟩, ?_⟩
          exact (Sub.cons rfl (by first | rfl | exact congrArg (Value.int _) (by omega)) (Sub.cons rfl rfl (Sub.cons rfl rfl (Sub.cons rfl rfl (Sub.cons rfl rfl (Sub.nil _))))))
        ·
          refine T_exit ?_
          refine hK3 _ _ ?_
          refine T_seq fun K6 hK6 => ?_
          refine T_region ?_
          refine L_y (y_move rfl) rfl ?_
          refine L_y (y_assign rfl) rfl ?_
          refine L_nil ?_
          refine hK6 _ _ ?_
          refine T_ret ?_
          repeat (first | with_reducible refine up_then ?_ | with_reducible refine up_in ?_)
          refine ret1 rfl rfl ?_
          first | exact ⟨_, rfl, S2.like0, by rw [comP_stop (a.drop i) (b.drop k) q hj (by rw [List.length_drop]; omega) (by rw [List.length_drop]; omega) (by rw [List.length_drop, List.length_drop, g8_drop, g8_drop]; omega)]⟩
      ·
        refine DL_gno rfl rfl rfl rfl ?_
        refine DL_gno rfl rfl rfl rfl ?_
        refine DL_gno rfl rfl rfl rfl ?_
        refine DL_gno rfl rfl rfl rfl ?_
        refine DL_gno rfl rfl rfl rfl ?_
        refine DL_gno rfl rfl rfl rfl ?_
        refine DL_gno rfl rfl rfl rfl ?_
        refine DL_gno rfl rfl rfl rfl ?_
        refine DL_gno rfl rfl rfl rfl ?_
        refine DL_gno rfl rfl rfl rfl ?_
        refine DL_gno rfl rfl rfl rfl ?_
        refine DL_gno rfl rfl rfl rfl ?_
        refine DL_gno rfl rfl rfl rfl ?_
        refine DL_y rfl ((by first | exact y_pickT rfl rfl | exact y_pickF rfl rfl)) rfl ?_
        refine DL_nil ?_
        refine hK5 _ _ ?_
        refine T_false rfl ?_
        refine T_exit ?_
        refine hK3 _ _ ?_
        refine T_seq fun K7 hK7 => ?_
        refine T_region ?_
        refine L_y (y_move rfl) rfl ?_
        refine L_y (y_assign rfl) rfl ?_
        refine L_nil ?_
        refine hK7 _ _ ?_
        refine T_ret ?_
        repeat (first | with_reducible refine up_then ?_ | with_reducible refine up_in ?_)
        refine ret1 rfl rfl ?_
        first | exact ⟨_, rfl, S2.like0, by rw [comP_stop (a.drop i) (b.drop k) q hj (by rw [List.length_drop]; omega) (by rw [List.length_drop]; omega) (by rw [List.length_drop, List.length_drop, g8_drop, g8_drop]; omega)]⟩
    ·
      refine DL_gno rfl rfl rfl rfl ?_
      refine DL_gno rfl rfl rfl rfl ?_
      refine DL_gno rfl rfl rfl rfl ?_
      refine DL_gno rfl rfl rfl rfl ?_
      refine DL_gno rfl rfl rfl rfl ?_
      refine DL_gno rfl rfl rfl rfl ?_
      refine DL_y rfl ((by first | exact y_pickT rfl rfl | exact y_pickF rfl rfl)) rfl ?_
      refine DL_y rfl (y_move rfl) rfl ?_
      refine DL_gno rfl rfl rfl rfl ?_
      refine DL_gno rfl rfl rfl rfl ?_
      refine DL_gno rfl rfl rfl rfl ?_
      refine DL_gno rfl rfl rfl rfl ?_
      refine DL_gno rfl rfl rfl rfl ?_
      refine DL_gno rfl rfl rfl rfl ?_
      refine DL_gno rfl rfl rfl rfl ?_
      refine DL_gno rfl rfl rfl rfl ?_
      refine DL_gno rfl rfl rfl rfl ?_
      refine DL_gno rfl rfl rfl rfl ?_
      refine DL_gno rfl rfl rfl rfl ?_
      refine DL_gno rfl rfl rfl rfl ?_
      refine DL_gno rfl rfl rfl rfl ?_
      refine DL_y rfl ((by first | exact y_pickT rfl rfl | exact y_pickF rfl rfl)) rfl ?_
      refine DL_nil ?_
      refine hK5 _ _ ?_
      refine T_false rfl ?_
      refine T_exit ?_
      refine hK3 _ _ ?_
      refine T_seq fun K8 hK8 => ?_
      refine T_region ?_
      refine L_y (y_move rfl) rfl ?_
      refine L_y (y_assign rfl) rfl ?_
      refine L_nil ?_
      refine hK8 _ _ ?_
      refine T_ret ?_
      repeat (first | with_reducible refine up_then ?_ | with_reducible refine up_in ?_)
      refine ret1 rfl rfl ?_
      first | exact ⟨_, rfl, S2.like0, by rw [comP_stop (a.drop i) (b.drop k) q hj (by rw [List.length_drop]; omega) (by rw [List.length_drop]; omega) (by rw [List.length_drop, List.length_drop, g8_drop, g8_drop]; omega)]⟩


theorem rs_nil1 {w : World} {A : Option Addr} {n c : Nat} {l : List UInt8} (hl : Rs w 1 A n c (bL l)) (h : A = none) : n = 0 := by
  subst h
  rcases Nat.eq_zero_or_pos n with q | q
  · exact q
  · obtain ⟨_, h2, _⟩ := hl.rd.2 q
    cases h2


set_option maxRecDepth 100000 in
theorem bclone (A : Option Addr) (n c : Nat) (a : List UInt8) (w0 : World) (ha : Rs w0 1 A n c (bL a)) (hmx : n ≤ 4611686018427) :
    Calls Try.prog 41 #[.slice A n c] w0 fun e w' => ∃ u, e = .returned u ∧ Like w0 w' ∧ ∃ A' c', u = .slice A' n c' ∧ w'.ownsRow w0.heap.size 5 1 (.slice A' n c') n (bL a) := by
  refine enter1 (env := [(0, .slice A n c)]) [.slice A n c] Try.func41 rfl Try.ntmps41 rfl rfl ?_
  have hz := rs_nil1 ha; have hn := ha.lenb; have hcap := ha.cap; have hmax := ha.max; have S0 := St.start w0 noM
  refine T_seq fun K1 hK1 => ?_
  refine T_region ?_
  refine L_y (y_assign rfl) rfl ?_
  refine L_nil ?_
  refine hK1 _ _ ?_
  refine T_seq fun K2 hK2 => ?_
  refine T_seq fun K3 hK3 => ?_
  refine T_region ?_
  refine L_y (y_move rfl) rfl ?_
  refine L_y (y_seqn Try.underlying22 rfl) rfl ?_
  refine L_nil ?_
  refine hK3 _ _ ?_
  refine T_condB rfl (fun h4 => ?_) (fun h4 => ?_)
  ·
    refine T_seq fun K4 hK4 => ?_
    refine T_region ?_
    refine L_y (y_assign rfl) rfl ?_
    refine L_nil ?_
    refine hK4 _ _ ?_
    refine T_ret ?_
    repeat (first | with_reducible refine up_then ?_ | with_reducible refine up_in ?_)
    refine ret1 rfl rfl ?_
    first | exact ⟨_, rfl, S0.like0, _, _, by rw [Nat.zero_add], by have h9 := S0.own 0 rfl; rw [Nat.zero_add] at h9; exact h9⟩ | exact ⟨_, rfl, S0.like0, none, 0, by rw [hz (by simpa using h4)], by rw [hz (by simpa using h4), show a = [] from List.eq_nil_of_length_eq_zero (by have := hz (by simpa using h4); omega)]; exact World.ownsRow_nil _ _ _ _⟩
  ·
    refine T_skip ?_
    refine hK2 _ _ ?_
    refine T_seq fun K5 hK5 => ?_
    refine T_region ?_
    refine L_o (o_bsl0 te22 S0 rfl fun b1 w1 l1 S1 => ?_)
    refine L_y (y_move rfl) rfl ?_
    refine L_o (o_app te22 S1 0 rfl rfl rfl (S1.rd ha) (bL_one _) rfl (by omega) (by omega) fun A2 c2 w2 S2 => ?_)
    refine L_y (y_assign rfl) rfl ?_
    refine L_nil ?_
    refine hK5 _ _ ?_
    refine T_ret ?_
    repeat (first | with_reducible refine up_then ?_ | with_reducible refine up_in ?_)
    refine ret1 rfl rfl ?_
    first | exact ⟨_, rfl, S2.like0, _, _, by rw [Nat.zero_add], by have h9 := S2.own 0 rfl; rw [Nat.zero_add] at h9; exact h9⟩ | exact ⟨_, rfl, S2.like0, none, 0, by rw [hz (by simpa using h4)], by rw [hz (by simpa using h4), show a = [] from List.eq_nil_of_length_eq_zero (by have := hz (by simpa using h4); omega)]; exact World.ownsRow_nil _ _ _ _⟩
end Go.Proofs.Ytpcgldkllnkaeaa

/-
  Families: a piece taken out and put in, anywhere; rows that stay as they are. General; nothing here names a program.
-/
namespace Go.Proofs.Ytpcgldkllnkaeaa.Zx
open Go.RowKit Zk
set_option linter.unusedVariables false
set_option linter.unusedSimpArgs false
section
variable {w w0 : World} {M : Nat → Prop} {rs : List Res}
theorem split_at {α : Type} {l : List α} {k : Nat} {x : α} (h : l[k]? = some x) : ∃ a b, l = a ++ x :: b ∧ ∀ y, l.set k y = a ++ y :: b := by
  obtain ⟨h1, h2⟩ := List.getElem?_eq_some_iff.1 h
  refine ⟨l.take k, l.drop (k + 1), ?_, fun y => ?_⟩
  · rw [← h2, List.getElem_cons_drop, List.take_append_drop]
  · rw [List.set_eq_take_append_cons_drop, if_pos h1]
theorem mid_perm {α : Type} (a b : List α) (x : α) : (a ++ x :: b).Perm (a ++ b ++ [x]) :=
  List.perm_middle.trans ((List.perm_append_comm (l₁ := [x]) (l₂ := a ++ b)))
theorem St.famOutAt (S : St w0 M rs w) (k : Nat) {L L1 L2 : List Res} {r : Res} (hk : rs[k]? = some (fam L)) (hL : L = L1 ++ r :: L2) : St w0 M (rs.set k (fam (L1 ++ L2)) ++ [r]) w := by
  subst hL
  obtain ⟨a, b, h1, h2⟩ := split_at hk
  rw [h2]
  subst h1
  have S1 := (S.perm (mid_perm a b _)).famOut
  refine S1.perm ?_
  have := (mid_perm a b (fam (L1 ++ L2))).symm.append_right [r]
  simpa using this
theorem St.famInAt {L1 L2 : List Res} {r : Res} (S : St w0 M (rs ++ [r]) w) (k : Nat) (hk : rs[k]? = some (fam (L1 ++ L2))) : St w0 M (rs.set k (fam (L1 ++ r :: L2))) w := by
  obtain ⟨a, b, h1, h2⟩ := split_at hk
  rw [h2]
  subst h1
  have hp := (mid_perm a b (fam (L1 ++ L2))).append_right [r]
  have S1 : St w0 M ((a ++ b) ++ [fam (L1 ++ L2), r]) w := S.perm (by simpa using hp)
  exact S1.famIn.perm (mid_perm a b _).symm
/-- A row that is only read from now on. -/
theorem St.still (S : St w0 M rs w) (k : Nat) {e size n c : Nat} {A : Option Addr} {xs : List Value} (hk : rs[k]? = some (Zx.row e size A n c xs)) : St w0 M (rs.set k (fixed size A n c xs)) w :=
  S.upd k hk rfl rfl rfl (Nat.le_refl _) (fun _ _ _ => rfl) (rs_of_row (S.get k hk)) fun i ⟨ad, hn, hA, hi⟩ => .inl (by
    have hown : w.ownsRow 0 e size (.slice A n c) n xs := S.get k hk
    obtain ⟨b, cap, h1, _, _⟩ := hown.form hn
    injection h1 with hA2 _ _
    rw [hA2] at hA
    cases hA
    subst hi
    show (Value.slice A n c).ownBlock = _
    rw [hA2]
    rfl)
def partR (p : Part) : Res := fixed 1 p.A p.n p.c (bL p.l)
end
section
variable {P : Program} {env : Env} {w : World} {dst : Option Tmp} {ty : TypeId} {pos : String} {after : Array Edge} {g : Option (Nat × Bool)}
/-- An array, read where a slice points. -/
theorem y_ldArr {x : Operand} {A : Option Addr} {n c m : Nat} {l : List UInt8} {lt e : TypeId} (ht : P.underlying lt = some (.array m e)) (hsz : (P.info? lt).map (·.size) = some m) (hx : ev env x = some (.pointer A)) (hr : Rs w 1 A n c (bL l)) (hm : m ≤ n) (hpos : 0 < m) :
    Y P (Like w) env ⟨dst, .load lt x, ty, pos, after, g⟩ (.agg (bA (l.take m))) := by
  obtain ⟨ad, rfl, hb, hcell⟩ := hr.rd.2 (by omega)
  have hl := hr.lenb
  have hr2 : Rs w m (some ad) 1 1 (bL (l.take m)) := ⟨⟨by simp; omega, fun _ => ⟨ad, rfl, hb, fun j u hj => hcell j u (by
    have e1 : bL (l.take m) = (bL l).take m := by simp [bL]
    rw [e1, List.getElem?_take] at hj
    split at hj
    · exact hj
    · cases hj)⟩⟩, Nat.le_refl _, by omega⟩
  have h := y_ldn (P := P) (env := env) (dst := dst) (ty := ty) (pos := pos) (after := after) (g := g) (x := x) (k := 0) ht rfl hsz (by rw [hx]; simp [pR, Addr.add]) hr2 (by omega)
  have e2 : ((bL (l.take m)).drop (0 * m)).take m = bL (l.take m) := by
    rw [Nat.zero_mul, List.drop_zero]
    exact List.take_of_length_le (by simp; omega)
  rw [e2] at h
  exact h
end
end Go.Proofs.Ytpcgldkllnkaeaa.Zx

/-
  Where each part of a base stands.
-/
namespace Go.Proofs.Ytpcgldkllnkaeaa
open Go.RowKit Zk Zx
set_option linter.unusedVariables false
set_option linter.unusedSimpArgs false
def nL (l : List Nat) : List Value := l.map fun (i : Nat) => Value.int .i64 (i : Int)
theorem nL_app (l m : List Nat) : nL (l ++ m) = nL l ++ nL m := by simp [nL]
theorem nL_one (l : List Nat) : ∀ u ∈ nL l, u.oneCell' = true := fun u hu => by
  obtain ⟨i, _, rfl⟩ := List.mem_map.1 hu
  rfl
theorem nL_len (l : List Nat) : (nL l).length = l.length := by simp [nL]
theorem nL_get {l : List Nat} {k v : Nat} (h : l[k]? = some v) : (nL l)[k]? = some (.int .i64 (v : Int)) := by simp [nL, h]
/-- The first six bytes from a place on. -/
def six (a : List UInt8) (i : Nat) : List UInt8 := (a.drop i).take 6
def posF (a : List UInt8) (k : Nat) (key : List UInt8) : List Nat := (List.range k).filter fun i => six a i == key
theorem posF_succ (a : List UInt8) (k : Nat) (key : List UInt8) : posF a (k + 1) key = posF a k key ++ (if six a k = key then [k] else []) := by
  unfold posF
  rw [List.range_succ, List.filter_append]
  congr 1
  by_cases h : six a k = key <;> simp [h]
theorem posF_lt {a : List UInt8} {k i : Nat} {key : List UInt8} (h : i ∈ posF a k key) : i < k := by
  have := (List.mem_filter.1 h).1
  simpa using this
theorem posF_len (a : List UInt8) (k : Nat) (key : List UInt8) : (posF a k key).length ≤ k := by
  unfold posF
  have := List.length_filter_le (fun i => six a i == key) (List.range k)
  simpa using this
/-- A key, and the slice of the places where it stands. -/
structure PE where
  k : List UInt8
  A : Option Addr
  n : Nat
  c : Nat
  xs : List Nat
def PE.ent (p : PE) : List UInt8 × Value := (p.k, .slice p.A p.n p.c)
def PE.row (p : PE) : Res := Zx.row 3 1 p.A p.n p.c (nL p.xs)
structure PI (a : List UInt8) (k : Nat) (pes : List PE) : Prop where
  each : ∀ p ∈ pes, p.xs = posF a k p.k
  nodup : (pes.map PE.k).Nodup
  all : ∀ i, i < k → six a i ∈ pes.map PE.k
theorem PI.start (a : List UInt8) : PI a 0 [] := ⟨fun p hp => (List.not_mem_nil hp).elim, List.Pairwise.nil, fun i h => by omega⟩
theorem ent_found {pes : List PE} {key : List UInt8} {i : Nat} {v : Value} (h : posB key (pes.map PE.ent) 0 = some (i, v)) : ∃ p, pes[i]? = some p ∧ p.k = key ∧ v = .slice p.A p.n p.c := by
  obtain ⟨_, h2⟩ := posB_some h
  rw [Nat.sub_zero, List.getElem?_map] at h2
  cases hp : pes[i]? with
  | none => rw [hp] at h2; cases h2
  | some p =>
    rw [hp] at h2
    have h3 := Option.some.inj h2
    exact ⟨p, rfl, congrArg Prod.fst h3, (congrArg Prod.snd h3).symm⟩
theorem ent_none {pes : List PE} {key : List UInt8} (h : posB key (pes.map PE.ent) 0 = none) : key ∉ pes.map PE.k := fun hm => by
  obtain ⟨p, hp, e⟩ := List.mem_map.1 hm
  exact posB_none h (PE.ent p) (List.mem_map.2 ⟨p, hp, rfl⟩) e
theorem PI.found {a : List UInt8} {k i : Nat} {pes : List PE} (h : PI a k pes) {p : PE} (hp : pes[i]? = some p) (hk : p.k = six a k) {q : PE} (hq : q.k = p.k) (hx : q.xs = p.xs ++ [k]) : PI a (k + 1) (pes.set i q) := by
  have hmap : (pes.set i q).map PE.k = pes.map PE.k := by
    rw [List.map_set, hq]
    have : (pes.map PE.k)[i]? = some p.k := by rw [List.getElem?_map, hp]; rfl
    obtain ⟨h1, h2⟩ := List.getElem?_eq_some_iff.1 this
    rw [← h2, List.set_getElem_self]
  have hil := (List.getElem?_eq_some_iff.1 hp).1
  refine ⟨fun r hr => ?_, by rw [hmap]; exact h.nodup, fun j hj => ?_⟩
  · obtain ⟨j, hj, rfl⟩ := List.getElem_of_mem hr
    rw [posF_succ]
    by_cases e : i = j
    · subst e
      rw [List.getElem_set_self, hx, if_pos (by rw [hq, hk]), hq, h.each p (List.mem_of_getElem? hp)]
    · rw [List.getElem_set_ne e]
      have hjl : j < pes.length := by rw [List.length_set] at hj; exact hj
      have hne : six a k ≠ (pes[j]'hjl).k := fun e2 => by
        have hnd := List.pairwise_iff_getElem.1 h.nodup
        have e3 : p.k = pes[j].k := hk.trans e2
        have hpi : pes[i] = p := by
          have := List.getElem?_eq_getElem hil
          rw [this] at hp
          exact Option.some.inj hp
        rcases Nat.lt_or_gt_of_ne e with q1 | q1
        · exact hnd i j (by rw [List.length_map]; exact hil) (by rw [List.length_map]; exact hjl) q1 (by rw [List.getElem_map, List.getElem_map, hpi]; exact e3)
        · exact hnd j i (by rw [List.length_map]; exact hjl) (by rw [List.length_map]; exact hil) q1 (by rw [List.getElem_map, List.getElem_map, hpi]; exact e3.symm)
      rw [if_neg hne, List.append_nil]
      exact h.each _ (List.getElem_mem hjl)
  · rw [hmap]
    rcases Nat.lt_or_ge j k with q1 | q1
    · exact h.all j q1
    · have e : j = k := by omega
      subst e
      rw [← hk]
      exact List.mem_map.2 ⟨p, List.mem_of_getElem? hp, rfl⟩
theorem PI.new {a : List UInt8} {k : Nat} {pes : List PE} (h : PI a k pes) (hk : six a k ∉ pes.map PE.k) {q : PE} (hq : q.k = six a k) (hx : q.xs = [k]) : PI a (k + 1) (pes ++ [q]) := by
  refine ⟨fun r hr => ?_, ?_, fun j hj => ?_⟩
  · rw [posF_succ]
    rcases List.mem_append.1 hr with hr | hr
    · have hne : six a k ≠ r.k := fun e => hk (by rw [e]; exact List.mem_map.2 ⟨r, hr, rfl⟩)
      rw [if_neg hne, List.append_nil]
      exact h.each r hr
    · obtain rfl := List.mem_singleton.1 hr
      rw [if_pos hq.symm, hx]
      have : posF a k r.k = [] := by
        rw [List.eq_nil_iff_forall_not_mem]
        intro i hi
        have h1 := posF_lt hi
        have h2 : six a i = r.k := by simpa using (List.mem_filter.1 hi).2
        exact hk (by rw [← hq, ← h2]; exact h.all i h1)
      rw [this]
      rfl
  · rw [List.map_append, List.map_cons, List.map_nil, List.nodup_append]
    refine ⟨h.nodup, by simp, fun x hx y hy => ?_⟩
    rw [List.mem_singleton.1 hy, hq]
    intro e
    exact hk (by rw [← e]; exact hx)
  · rw [List.map_append, List.mem_append]
    rcases Nat.lt_or_ge j k with q1 | q1
    · exact .inl (h.all j q1)
    · have e : j = k := by omega
      subst e
      exact .inr (by simp [hq])
theorem rows_at {pes : List PE} {i : Nat} {p : PE} (h : pes[i]? = some p) : pes.map PE.row = (pes.take i).map PE.row ++ p.row :: (pes.drop (i + 1)).map PE.row := by
  obtain ⟨h1, h2⟩ := List.getElem?_eq_some_iff.1 h
  rw [← h2, ← List.map_cons (f := PE.row), List.getElem_cons_drop, ← List.map_append, List.take_append_drop]
theorem rows_set {pes : List PE} {i : Nat} {q : PE} (h : i < pes.length) : (pes.take i).map PE.row ++ q.row :: (pes.drop (i + 1)).map PE.row = (pes.set i q).map PE.row := by
  rw [List.set_eq_take_append_cons_drop, if_pos h, List.map_append, List.map_cons]
theorem ents_set {pes : List PE} {i : Nat} {q : PE} : (pes.map PE.ent).set i (PE.ent q) = (pes.set i q).map PE.ent := by rw [List.map_set]
/-- What stands at a key. -/
theorem look_pes {a : List UInt8} {k : Nat} {pes : List PE} (h : PI a k pes) (key : List UInt8) {w : World} (hf : (fam (pes.map PE.row)).holds w) : ∃ A n c, getB key (pes.map PE.ent) (.slice none 0 0) = .slice A n c ∧ Rs w 1 A n c (nL (posF a k key)) := by
  unfold getB
  cases hp : posB key (pes.map PE.ent) 0 with
  | some x =>
    obtain ⟨i, v⟩ := x
    obtain ⟨p, h1, h2, h3⟩ := ent_found hp
    have hm := List.mem_of_getElem? h1
    refine ⟨p.A, p.n, p.c, h3, ?_⟩
    have h4 : p.row.holds w := hf.1 _ (List.mem_map.2 ⟨p, hm, rfl⟩)
    rw [← h2, ← h.each p hm]
    exact rs_of_row h4
  | none =>
    refine ⟨none, 0, 0, rfl, ?_⟩
    have : posF a k key = [] := by
      rw [List.eq_nil_iff_forall_not_mem]
      intro i hi
      have h1 := posF_lt hi
      have h2 : six a i = key := by simpa using (List.mem_filter.1 hi).2
      exact ent_none hp (by rw [← h2]; exact h.all i h1)
    rw [this]
    exact Rs.nil w 1
/-- One more place is looked at. -/
def stepB (a t : List UInt8) (s : Nat × Nat) (k : Nat) : Nat × Nat := if s.2 < comP (a.drop k) t then (k, comP (a.drop k) t) else s
/-- The longest part of a with which t begins, if it is of six bytes at least. -/
def bst (a t : List UInt8) : Nat × Nat := if t.length < 6 then (0, 0) else (posF a (a.length - 5) (t.take 6)).foldl (stepB a t) (0, 0)
/-- The same, over all places. -/
def bstA (a t : List UInt8) (k : Nat) : Nat × Nat := (List.range k).foldl (stepB a t) (0, 0)
theorem bstA_succ (a t : List UInt8) (k : Nat) : bstA a t (k + 1) = stepB a t (bstA a t k) k := by
  unfold bstA
  rw [List.range_succ, List.foldl_append]
  rfl
theorem six_iff {a t : List UInt8} {k : Nat} (ht : 6 ≤ t.length) : 6 ≤ comP (a.drop k) t ↔ k < a.length - 5 ∧ six a k = t.take 6 := by
  rw [comP_take, List.length_drop]
  unfold six
  constructor
  · rintro ⟨h1, h2, h3⟩; exact ⟨by omega, h3⟩
  · rintro ⟨h1, h2⟩; exact ⟨by omega, ht, h2⟩
def RelB (s s' : Nat × Nat) : Prop := (s.2 < 6 ∧ s' = (0, 0)) ∨ (6 ≤ s.2 ∧ s' = s)
theorem relB_fold (a t : List UInt8) (p : Nat → Bool) (hp : ∀ k, p k = true ↔ 6 ≤ comP (a.drop k) t) : ∀ (xs : List Nat) (s s' : Nat × Nat), RelB s s' → RelB (xs.foldl (stepB a t) s) ((xs.filter p).foldl (stepB a t) s')
  | [], s, s', h => h
  | k :: xs, s, s', h => by
    cases hk : p k with
    | true =>
      rw [List.filter_cons, if_pos hk]
      refine relB_fold a t p hp xs _ _ ?_
      have h6 := (hp k).1 hk
      unfold stepB
      rcases h with ⟨h1, rfl⟩ | ⟨h1, rfl⟩
      · rw [if_pos (by omega), if_pos (by show 0 < _; omega)]
        exact .inr ⟨h6, rfl⟩
      · split
        · exact .inr ⟨h6, rfl⟩
        · exact .inr ⟨h1, rfl⟩
    | false =>
      rw [List.filter_cons, if_neg (by rw [hk]; exact Bool.false_ne_true)]
      refine relB_fold a t p hp xs _ _ ?_
      have h6 : comP (a.drop k) t < 6 := by
        apply Nat.lt_of_not_le
        intro h2
        rw [(hp k).2 h2] at hk
        cases hk
      unfold stepB
      rcases h with ⟨h1, rfl⟩ | ⟨h1, rfl⟩
      · split
        · exact .inl ⟨h6, rfl⟩
        · exact .inl ⟨h1, rfl⟩
      · rw [if_neg (by omega)]
        exact .inr ⟨h1, rfl⟩
theorem bst_all (a t : List UInt8) : RelB (bstA a t a.length) (bst a t) := by
  unfold bst
  by_cases ht : t.length < 6
  · rw [if_pos ht]
    refine .inl ⟨?_, rfl⟩
    have : ∀ (xs : List Nat) (s : Nat × Nat), s.2 < 6 → (xs.foldl (stepB a t) s).2 < 6 := by
      intro xs
      induction xs with
      | nil => exact fun s h => h
      | cons k xs ih =>
        intro s h
        refine ih _ ?_
        unfold stepB
        split
        · show comP _ t < 6
          have := (comP_le (a.drop k) t).2
          omega
        · exact h
    exact this _ _ (by decide)
  · rw [if_neg ht]
    have h := relB_fold a t (fun k => decide (k < a.length - 5) && (six a k == t.take 6)) (fun k => by
      rw [six_iff (by omega)]
      simp) (List.range a.length) (0, 0) (0, 0) (.inl ⟨by decide, rfl⟩)
    have e : (List.range a.length).filter (fun k => decide (k < a.length - 5) && (six a k == t.take 6)) = posF a (a.length - 5) (t.take 6) := by
      unfold posF
      have e3 : (fun k => decide (k < a.length - 5) && (six a k == t.take 6)) = (fun k => (six a k == t.take 6) && decide (k < a.length - 5)) := by funext k; rw [Bool.and_comm]
      rw [e3, ← List.filter_filter]
      congr 1
      have e2 : List.range a.length = List.range (a.length - 5) ++ (List.range (a.length - (a.length - 5))).map (a.length - 5 + ·) := by
        rw [← List.range_add]
        congr 1
        omega
      rw [e2, List.filter_append]
      have h1 : (List.range (a.length - 5)).filter (fun k => decide (k < a.length - 5)) = List.range (a.length - 5) := by
        rw [List.filter_eq_self]
        intro x hx
        simpa using hx
      have h2 : ((List.range (a.length - (a.length - 5))).map (a.length - 5 + ·)).filter (fun k => decide (k < a.length - 5)) = [] := by
        rw [List.filter_eq_nil_iff]
        intro x hx
        obtain ⟨y, _, rfl⟩ := List.mem_map.1 hx
        simp
      rw [h1, h2, List.append_nil]
    rw [e] at h
    exact h
theorem fold_bd {a t : List UInt8} : ∀ (xs : List Nat) (s : Nat × Nat), s.2 ≤ t.length ∧ s.1 + s.2 ≤ a.length → (xs.foldl (stepB a t) s).2 ≤ t.length ∧ (xs.foldl (stepB a t) s).1 + (xs.foldl (stepB a t) s).2 ≤ a.length
  | [], s, h => h
  | k :: xs, s, h => by
    refine fold_bd xs _ ?_
    unfold stepB
    split
    · rename_i hk
      have h1 := comP_le (a.drop k) t
      rw [List.length_drop] at h1
      refine ⟨h1.2, ?_⟩
      show k + comP (a.drop k) t ≤ a.length
      omega
    · exact h
theorem bst_bd (a t : List UInt8) : (bst a t).2 ≤ t.length ∧ (bst a t).1 + (bst a t).2 ≤ a.length := by
  unfold bst
  split
  · simp
  · exact fold_bd _ _ (by simp)
end Go.Proofs.Ytpcgldkllnkaeaa

/-
  places.
-/
namespace Go.Proofs.Ytpcgldkllnkaeaa
open Go.RowKit Zk Zx
set_option linter.unusedVariables false
set_option linter.unusedSimpArgs false

theorem six_len {a : List UInt8} {k : Nat} (h : k + 6 ≤ a.length) : (six a k).length = 6 := by unfold six; rw [List.length_take, List.length_drop]; omega
theorem cut_six {w : World} {A : Option Addr} {n c k : Nat} {a : List UInt8} (h : Rs w 1 A n c (bL a)) (hk : k + 6 ≤ n) : Rs w 1 (cutA A c k 1) (k + 6 - k) (c - k) (bL (six a k)) := by
  have h2 := h.cut (l := k) (u := k + 6) (by omega) hk
  have e : ((bL a).drop (k * 1)).take ((k + 6 - k) * 1) = bL (six a k) := by
    rw [Nat.mul_one, Nat.mul_one, show k + 6 - k = 6 by omega]
    simp [bL, six]
  rwa [e] at h2
theorem take_six (a : List UInt8) (k : Nat) (h : k + 6 ≤ a.length) : (six a k).take 6 = six a k := List.take_of_length_le (by rw [six_len h]; exact Nat.le_refl _)


set_option maxRecDepth 100000 in
theorem places (A : Option Addr) (n c : Nat) (a : List UInt8) (w0 : World) (ha : Rs w0 1 A n c (bL a)) (hmx : n ≤ 4000) :
    Calls Try.prog 39 #[.slice A n c] w0 fun e w' => ∃ u, e = .returned u ∧ Like w0 w' ∧ ∃ b pes, u = .map (some b) ∧ PI a (a.length - 5) pes ∧ St w0 noM [mapB 6 b (pes.map PE.ent), fam (pes.map PE.row)] w' := by
  refine enter1 (env := [(0, .slice A n c)]) [.slice A n c] Try.func39 rfl Try.ntmps39 rfl rfl ?_
  have hn := ha.lenb; have hcap := ha.cap; have hmax := ha.max; have S0 := St.start w0 noM
  refine T_seq fun K1 hK1 => ?_
  refine T_region ?_
  refine L_y (y_assign rfl) rfl ?_
  refine L_nil ?_
  refine hK1 _ _ ?_
  refine T_seq fun K2 hK2 => ?_
  refine T_region ?_
  refine L_o (o_makeMapB (n := 6) S0 rfl fun b1 w1 hb1 S1 => ?_)
  refine L_y (y_assign rfl) rfl ?_
  refine L_nil ?_
  refine hK2 _ _ ?_
  refine T_seq fun K3 hK3 => ?_
  refine T_seq fun K4 hK4 => ?_
  refine T_region ?_
  refine L_y (y_assign rfl) rfl ?_
  refine L_nil ?_
  refine hK4 _ _ ?_
  refine T_block ?_
  refine T_loop2 [(0, _), (3, _)] (fun (k : Nat) (pes : List PE) => [(4, .int .i64 (k : Int))]) (fun (k : Nat) (pes : List PE) => n - k) (fun (k : Nat) (pes : List PE) (w : World) => k ≤ n - 5 ∧ PI a k pes ∧ St w0 noM [mapB 6 b1 (pes.map PE.ent), fam (pes.map PE.row)] w) 0 [] (Sub.cons rfl (by first | rfl | exact congrArg (Value.int _) (by omega)) (Sub.nil _)) (Sub.cons rfl rfl (Sub.cons rfl rfl (Sub.nil _))) ?_ ?_
  ·
    have S9 := S1.fam0
    exact ⟨Nat.zero_le _, PI.start a, S9⟩
  ·
    intro k pes w2 hrel
    obtain ⟨hk, hpi0, S2⟩ := hrel
    refine T_seq fun K5 hK5 => ?_
    refine T_seq fun K6 hK6 => ?_
    refine T_region ?_
    refine L_y (y_move rfl) rfl ?_
    refine L_y (y_add rfl rfl (i64w (by omega))) rfl ?_
    refine L_y (y_move rfl) rfl ?_
    refine L_y (y_len Try.underlying22 rfl) rfl ?_
    refine L_y (y_leq rfl rfl) rfl ?_
    refine L_nil ?_
    refine hK6 _ _ ?_
    refine T_cond rfl (fun h11 => ?_) (fun h11 => ?_)
    ·
      refine T_skip ?_
      refine hK5 _ _ ?_
      refine T_seq fun K7 hK7 => ?_
      refine T_block ?_
      refine T_seq fun K8 hK8 => ?_
      refine T_region ?_
      refine L_y (y_move rfl) rfl ?_
      refine L_y (y_move rfl) rfl ?_
      refine L_y (y_move rfl) rfl ?_
      refine L_y (y_add rfl rfl (i64w (by omega))) rfl ?_
      refine L_y (y_slice Try.underlying22 sz5 rfl rfl rfl (Nt.mk (by omega) : Nt _ (k)) (Nt.mk (by omega) : Nt _ (k + 6)) (by omega) (by omega)) rfl ?_
      refine L_y (y_arrAt Try.underlying98 rfl (by omega)) rfl ?_
      refine L_y (y_ldArr Try.underlying98 sz98 rfl (cut_six (S2.rd ha) (by omega)) (by omega) (by omega)) rfl ?_
      refine L_o (o_alloc zz98 S2 rfl fun b3 w3 hb3 S3 => ?_)
      refine L_o (o_stW S3 2 rfl rfl rfl (by rw [size_bA, List.length_take, six_len (by omega)]; exact sz98) (by rw [size_bA, List.length_take, six_len (by omega)]; rfl) (bL_one _) fun w4 S4 => ?_)
      refine L_nil ?_
      refine hK8 _ _ ?_
      refine T_region ?_
      refine L_y (y_move rfl) rfl ?_
      refine L_y (y_ldW Try.underlying98 rfl sz98 rfl (S4.blk 2 rfl) (show _ = bL (six a k) ∧ _ from ⟨by rw [take_six a k (by omega)]; exact List.take_of_length_le (by show (bL (six a k)).length ≤ 6; rw [length_bL, six_len (by omega)]; exact Nat.le_refl _), by rw [length_bL, six_len (by omega)]⟩)) rfl ?_
      refine L_y (y_move rfl) rfl ?_
      refine L_o (o_bsl [_] te99 zz3 S4 rfl rfl rfl rfl rfl rfl rfl rfl fun b5 w5 S5 => ?_)
      refine L_o (o_entryB S5 0 rfl Try.underlying74 Try.underlying98 Try.underlying5 sz5 zz99 rfl rfl (six_len (by omega)) rfl (fun i6 v6 hp6 S6 => ?_) (fun hp6 w6 S6 => ?_))
      ·
        obtain ⟨p, hpi, hpk, rfl⟩ := ent_found hp6
        have hil := (List.getElem?_eq_some_iff.1 hpi).1
        have S91 := S6.famOutAt 1 rfl (rows_at hpi)
        have hpx := hpi0.each p (List.mem_of_getElem? hpi)
        have hpn : p.n = p.xs.length := by have := (S91.row 4 rfl).len; rw [nL_len] at this; omega
        have hpl := posF_len a k p.k
        rw [← hpx] at hpl
        refine L_y (y_extract rfl rfl) rfl ?_
        refine L_o (o_app te99 S91 4 rfl rfl rfl (by first | exact S91.fix 1 rfl | exact S91.row 3 rfl | exact S91.row 4 rfl) (nL_one [k]) rfl (by omega) (by omega) fun A7 c7 w7 S7 => ?_)
        have S7d := S7.drop (rs' := [_, _, _, _]) (.cons_cons _ (.cons_cons _ (.cons_cons _ (.cons _ (.refl _)))))
        refine L_y (y_extract rfl rfl) rfl ?_
        refine L_o (o_entryStB S7d 0 rfl (show (pes.map PE.ent)[i6]? = some (six a k, Value.slice p.A p.n p.c) from by rw [List.getElem?_map, hpi, ← hpk]; rfl) rfl rfl rfl fun w8 S8 => ?_)
        refine L_nil ?_
        refine hK7 _ _ ?_
        refine T_region ?_
        refine L_y (y_move rfl) rfl ?_
        refine L_y (y_add rfl rfl (i64w (by omega))) rfl ?_
        refine L_y (y_assign rfl) rfl ?_
        refine L_nil ?_
        have S92 := S8.sel [0, 1, 3] (by decide)
        have S93 := St.famInAt (rs := [mapB 6 b1 ((pes.map PE.ent).set i6 (six a k, Value.slice A7 (p.n + 1) c7)), fam ((pes.take i6).map PE.row ++ (pes.drop (i6 + 1)).map PE.row)]) (r := row 3 1 A7 (p.n + 1) c7 (nL p.xs ++ nL [k])) S92 1 rfl
        have e93 : (pes.map PE.ent).set i6 (six a k, Value.slice A7 (p.n + 1) c7) = (pes.set i6 (⟨p.k, A7, p.n + 1, c7, p.xs ++ [k]⟩ : PE)).map PE.ent := by rw [← ents_set]; unfold PE.ent; rw [hpk]
        have e94 : (pes.take i6).map PE.row ++ row 3 1 A7 (p.n + 1) c7 (nL p.xs ++ nL [k]) :: (pes.drop (i6 + 1)).map PE.row = (pes.set i6 (⟨p.k, A7, p.n + 1, c7, p.xs ++ [k]⟩ : PE)).map PE.row := by rw [← rows_set hil]; unfold PE.row; rw [nL_app]
        have S94 : St w0 noM [mapB 6 b1 ((pes.set i6 (⟨p.k, A7, p.n + 1, c7, p.xs ++ [k]⟩ : PE)).map PE.ent), fam ((pes.set i6 (⟨p.k, A7, p.n + 1, c7, p.xs ++ [k]⟩ : PE)).map PE.row)] w8 := by rw [← e93, ← e94]; exact S93
        refine ⟨k + 1, pes.set i6 (⟨p.k, A7, p.n + 1, c7, p.xs ++ [k]⟩ : PE), by omega, ⟨by omega, hpi0.found hpi hpk rfl rfl, S94⟩, ?_⟩
        exact (Sub.cons rfl (by first | rfl | exact congrArg (Value.int _) (by omega)) (Sub.cons rfl rfl (Sub.cons rfl rfl (Sub.nil _))))
      ·
        have S91 := S6.nilrow 3 1
        refine L_y (y_extract rfl rfl) rfl ?_
        refine L_o (o_app te99 S91 4 rfl rfl rfl (by first | exact S91.fix 1 rfl | exact S91.row 3 rfl | exact S91.row 4 rfl) (nL_one [k]) rfl (by omega) (by omega) fun A9 c9 w9 S9 => ?_)
        have S9d := S9.drop (rs' := [_, _, _, _]) (.cons_cons _ (.cons_cons _ (.cons_cons _ (.cons _ (.refl _)))))
        refine L_y (y_extract rfl rfl) rfl ?_
        refine L_o (o_entryStB S9d 0 rfl (show (pes.map PE.ent ++ [(six a k, Value.slice none 0 0)])[(pes.map PE.ent).length]? = some (six a k, Value.slice none 0 0) from List.getElem?_concat_length) rfl rfl rfl fun w10 S10 => ?_)
        refine L_nil ?_
        refine hK7 _ _ ?_
        refine T_region ?_
        refine L_y (y_move rfl) rfl ?_
        refine L_y (y_add rfl rfl (i64w (by omega))) rfl ?_
        refine L_y (y_assign rfl) rfl ?_
        refine L_nil ?_
        have S92 := S10.sel [0, 1, 3] (by decide)
        have S93 := St.famInAt (L1 := pes.map PE.row) (L2 := []) (rs := [mapB 6 b1 ((pes.map PE.ent ++ [(six a k, Value.slice none 0 0)]).set (pes.map PE.ent).length (six a k, Value.slice A9 (0 + 1) c9)), fam (pes.map PE.row ++ [])]) (r := row 3 1 A9 (0 + 1) c9 ([] ++ nL [k])) (by rw [List.append_nil]; exact S92) 1 rfl
        have e93 : (pes.map PE.ent ++ [(six a k, Value.slice none 0 0)]).set (pes.map PE.ent).length (six a k, Value.slice A9 (0 + 1) c9) = (pes ++ [(⟨six a k, A9, 1, c9, [k]⟩ : PE)]).map PE.ent := by rw [List.set_append_right _ _ (Nat.le_refl _), Nat.sub_self, List.map_append]; rfl
        have S94 : St w0 noM [mapB 6 b1 ((pes ++ [(⟨six a k, A9, 1, c9, [k]⟩ : PE)]).map PE.ent), fam ((pes ++ [(⟨six a k, A9, 1, c9, [k]⟩ : PE)]).map PE.row)] w10 := by rw [← e93, List.map_append]; exact S93
        refine ⟨k + 1, pes ++ [(⟨six a k, A9, 1, c9, [k]⟩ : PE)], by omega, ⟨by omega, hpi0.new (ent_none hp6) rfl rfl, S94⟩, ?_⟩
        exact (Sub.cons rfl (by first | rfl | exact congrArg (Value.int _) (by omega)) (Sub.cons rfl rfl (Sub.cons rfl rfl (Sub.nil _))))
    ·
      refine T_exit ?_
      refine hK3 _ _ ?_
      refine T_seq fun K9 hK9 => ?_
      refine T_region ?_
      refine L_y (y_move rfl) rfl ?_
      refine L_y (y_assign rfl) rfl ?_
      refine L_nil ?_
      refine hK9 _ _ ?_
      refine T_ret ?_
      repeat (first | with_reducible refine up_then ?_ | with_reducible refine up_in ?_)
      refine ret1 rfl rfl ?_
      have hke : k = a.length - 5 := by omega
      subst hke
      exact ⟨_, rfl, S2.like0, b1, pes, rfl, hpi0, S2⟩
end Go.Proofs.Ytpcgldkllnkaeaa
