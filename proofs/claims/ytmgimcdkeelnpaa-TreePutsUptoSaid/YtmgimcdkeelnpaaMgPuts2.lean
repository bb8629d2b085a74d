import Derived.Test.YtmgimcdkeelnpaaMgPuts1
import Derived.Maps.RangeWalk
import Derived.Maps.OwnOps
import Derived.Maps.OwnSet
import Derived.ArgAppend
import Derived.Scope
import Derived.Test.YtmgimcdkeelnpaaRows
import Derived.Laws.StructEq
import Derived.Lib.Bytealg
import Derived.Shelf.Small.Strs
import Derived.Shelf.Strings.Search1
import Derived.Shelf.Bytes.SlIndexAt
/-
  Maps that the call makes: integer elements. General; nothing here names a program.
-/
namespace Go.Proofs.Ytmgimcdkeelnpaa.Zx
open Go.RowKit Zk
set_option linter.unusedVariables false
set_option linter.unusedSimpArgs false
abbrev DU := DataW Unit
/-- A map of the call's own that reads as D. -/
def mapR (P : Program) (k e : TypeId) (b n : Nat) (D : DU) : Res where
  dom i := i = b
  holds w := w.ownsMap P k (plainElem P e) b n D
  stable w w' h hh := by
    obtain ⟨es, clock, hb, rest⟩ := hh
    exact ⟨es, clock, (h b rfl).trans hb, rest⟩
/-- The same while a loop goes through it. -/
def rngR (P : Program) (k e : TypeId) (b r n : Nat) (D : DU) (left : Lit → Bool) (cnt : Nat) : Res where
  dom i := i = b ∨ i = r
  holds w := w.ranges P k (plainElem P e) b r n D left cnt
  stable w w' h hh := by
    obtain ⟨es, clock, since, seen, c0, hb, F, hs, hD, hr, rest⟩ := hh
    exact ⟨es, clock, since, seen, c0, (h b (.inl rfl)).trans hb, F, hs, hD, (h r (.inr rfl)).trans hr, rest⟩
section
variable {P : Program} {w w' w0 : World} {M : Nat → Prop} {rs : List Res} {k e : TypeId}
/-- Old memory that the call does not write to. -/
theorem St.keepM (S : St w0 M rs w) {r : Res} (h : r.holds w0) (hd : ∀ i, r.dom i → i < w0.heap.size) (hM : ∀ i, r.dom i → ¬ M i) : r.holds w := r.stable w0 w (fun i hi => S.old i (hd i hi) (hM i hi)) h
theorem mapR_lt {b n : Nat} {D : DU} (h : (mapR P k e b n D).holds w) : ∀ i, (mapR P k e b n D).dom i → i < w.heap.size := fun i hi => by
  have hi' : i = b := hi
  subst hi'
  exact World.ownsMap.lt h
/-- A map that is not written goes on being a map. -/
theorem St.maps (S : St w0 M rs w) (j : Nat) {b r n cnt : Nat} {D : DU} {left : Lit → Bool} (hj : rs[j]? = some (rngR P k e b r n D left cnt)) : St w0 M (rs.set j (mapR P k e b n D)) w :=
  S.upd j hj rfl rfl rfl (Nat.le_refl _) (fun _ _ _ => rfl) (World.ranges.owns (S.get j hj)) fun i hi => .inl (.inl hi)
end
section
variable {P : Program} {N : Nat} {Q : Post} {env : Env} {w w0 : World} {M : Nat → Prop} {rs : List Res} {K : Env → World → Prop} {d : Tmp} {dst : Option Tmp} {ty : TypeId} {pos : String} {after : Array Edge} {g : Option (Nat × Bool)}
/-- 'make(map[K]V)' -/
theorem o_makeMap {t k e : TypeId} (S : St w0 M rs w) (hd : Nat.blt d N = true)
    (h : ∀ b w', w0.heap.size ≤ b → St w0 M (rs ++ [mapR P k e b 0 (.map [])]) w' → K ((d, .map (some b)) :: env) w') :
    O P N Q ⟨some d, .makeMap t none, ty, pos, after, g⟩ env w K := fun a ha => by
  unfold Oper.wp execOp
  simp only [run_makeMap, Option.map_none, Sem.run_bind, Sem.run_pure, Result.andThen_ok]
  refine ⟨_, ha.put d _ hd, h _ _ S.size (S.new (like_alloc w _) _ (World.ownsMap_made w P k (plainElem P e)) fun i hi => ?_)⟩
  have hi' : i = w.heap.size := hi
  subst hi'
  exact ⟨Nat.le_refl _, (World.ownsMap_made (H := Unit) w P k (plainElem P e)).lt⟩
/-- 'm[k]' -/
theorem y_look {t k e : TypeId} {q : IntKind} {b n : Nat} {D : DU} {m x : Operand} {key : Value} {kl : Lit} {c : Int} (hown : w.ownsMap P k (plainElem P e) b n D) (KY : Maps.Keyed P k) (ht : P.underlying t = some (.map k e)) (he : P.underlying e = some (.int q))
    (hz : ∀ w, (zeroValue e).run P w = .ok (.int q 0) w) (hm : ev env m = some (.map (some b))) (hx : ev env x = some key) (hkey : keyOf P k key = some kl) (hc : D.atKey kl (.lit (.int q 0)) = .lit (.int q c)) :
    Y P (Like w) env ⟨dst, .lookup t m x false, ty, pos, after, g⟩ (.int q c) := fun N a w' ha hw => by
  have h2 : w'.ownsMap P k (plainElem P e) b n D := (mapR P k e b n D).stable w w' (fun i hi => by have hi' : i = b := hi; subst hi'; exact hw.block i hown.lt) hown
  obtain ⟨c', hrun, hat, _⟩ := h2.lookup_int KY ht he (hz w') hkey
  rw [hc] at hat
  simp only [DataW.lit.injEq, Lit.int.injEq, true_and] at hat
  subst hat
  simp only [execOp, ha.eval hm, ha.eval hx, Sem.run_bind, hrun, Sem.run_pure, Result.andThen_ok]
/-- 'm[k] = v' -/
theorem o_mapUp {t k e : TypeId} {q : IntKind} {b n : Nat} {D : DU} {m x v : Operand} {key : Value} {kl : Lit} {c : Int} (S : St w0 M rs w) (j : Nat) (hj : rs[j]? = some (mapR P k e b n D)) (KY : Maps.Keyed P k) (ht : P.underlying t = some (.map k e)) (he : P.underlying e = some (.int q))
    (hm : ev env m = some (.map (some b))) (hx : ev env x = some key) (hv : ev env v = some (.int q c)) (hkey : keyOf P k key = some kl) (hn : n < 9223372036854775807) (hw : (Lit.int q c).wf = true)
    (h : ∀ w', St w0 M (rs.set j (mapR P k e b (n + 1) (D.put kl (.lit (.int q c))))) w' → K env w') :
    O P N Q ⟨none, .mapUpdate t m x v, ty, pos, after, g⟩ env w K := fun a ha => by
  have hown : w.ownsMap P k (plainElem P e) b n D := S.get j hj
  obtain ⟨w', hrun, h1, h2⟩ := hown.update KY ht (by unfold maxLen; exact hn) hkey (plainElem_int (H := Unit) he hw)
  unfold Oper.wp
  simp only [execOp, ha.eval hm, ha.eval hx, ha.eval hv, Sem.run_bind, hrun, Sem.run_pure, Result.andThen_ok]
  refine ⟨env, ha, h w' (S.upd j hj h2.os h2.tape h2.output h2.size (fun i hi hn => h2.block i hi fun e => hn ?_) h1 fun i hi => .inl hi)⟩
  injection e with e
/-- 'range m' -/
theorem o_range {t k e : TypeId} {b n : Nat} {D : DU} {m : Operand} (S : St w0 M rs w) (j : Nat) (hj : rs[j]? = some (mapR P k e b n D)) (KY : Maps.Keyed P k) (ht : P.underlying t = some (.map k e)) (hm : ev env m = some (.map (some b))) (hd : Nat.blt d N = true)
    (h : ∀ r w', St w0 M (rs.set j (rngR P k e b r n D (Maps.has D) (Maps.size D))) w' → K ((d, .pointer (some ⟨r, 0, none⟩)) :: env) w') :
    O P N Q ⟨some d, .range t m, ty, pos, after, g⟩ env w K := fun a ha => by
  have hown : w.ownsMap P k (plainElem P e) b n D := S.get j hj
  obtain ⟨w', hrun, h1, h2, h3⟩ := hown.range KY ht
  unfold Oper.wp
  simp only [execOp, ha.eval hm, Sem.run_bind, hrun, Sem.run_pure, Result.andThen_ok]
  refine ⟨_, ha.put d _ hd, h _ w' (S.upd j hj h2.os h2.tape h2.output h2.size (fun i hi hn => h2.block i hi (by simp)) h1 fun i hi => ?_)⟩
  rcases hi with hi | hi
  · exact .inl hi
  · subst hi
    exact .inr ⟨Nat.le_refl _, by omega⟩
/-- The step: string keys, integer elements. -/
theorem o_next {k e : TypeId} {q : IntKind} {b r n cnt : Nat} {D : DU} {left : Lit → Bool} {it : Operand} (S : St w0 M rs w) (j : Nat) (hj : rs[j]? = some (rngR P k e b r n D left cnt)) (KY : Maps.Keyed P k) (hk : P.underlying k = some .string) (he : P.underlying e = some (.int q))
    (hit : ev env it = some (.pointer (some ⟨r, 0, none⟩))) (hd : Nat.blt d N = true)
    (h0 : (∀ kl, left kl = false) → K ((d, .tuple #[.bool false]) :: env) w)
    (h1 : ∀ (s : ByteArray) (c : Int) (cnt' : Nat) w', left (.string s.data.toList) = true → (∀ zd, D.atKey (.string s.data.toList) zd = .lit (.int q c)) → s.size ≤ maxLen → cnt' < cnt →
      St w0 M (rs.set j (rngR P k e b r n D (fun z => left z && !z.sameKey (.string s.data.toList)) cnt')) w' → (Instr.entry (.pointer (some ⟨r, 0, none⟩))).run P w' = .ok (.tuple #[.string s, .int q c]) w' →
      K ((d, .tuple #[.bool true, .string s, .int q c]) :: env) w') :
    O P N Q ⟨some d, .next it false, ty, pos, after, g⟩ env w K := fun a ha => by
  have hr : w.ranges P k (plainElem P e) b r n D left cnt := S.get j hj
  unfold Oper.wp
  rcases hr.next KY ty with ⟨_, hl, hrun⟩ | ⟨key, v, kl, y, w', cnt', hkey, hlk, hv, hat, hrun, hrg, hlt, hgr, hsz, hen⟩
  · simp only [execOp, ha.eval hit, Sem.run_bind, hrun, Sem.run_pure, Result.andThen_ok]
    exact ⟨_, ha.put d _ hd, h0 hl⟩
  · obtain ⟨c, rfl, hy, hwc⟩ := plainElem_int_inv he hv
    obtain ⟨s, rfl, rfl, hs⟩ : ∃ s : ByteArray, key = .string s ∧ kl = .string s.data.toList ∧ s.size ≤ maxLen := by
      cases key <;> simp [keyOf, hk, mapKey] at hkey
      exact ⟨_, rfl, hkey.2.symm, hkey.1⟩
    simp only [execOp, ha.eval hit, Sem.run_bind, hrun, Sem.run_pure, Result.andThen_ok]
    refine ⟨_, ha.put d _ hd, h1 s c cnt' w' hlk (fun zd => by rw [hat zd, hy]) hs hlt (S.upd j hj hgr.os hgr.tape hgr.output hgr.size (fun i hi hn => hgr.block i hi fun e => hn (.inr (by injection e))) hrg fun i hi => .inl hi) hen⟩
/-- The round's key and element. -/
theorem o_entry {it : Operand} {r : Nat} {u v : Value} (hit : ev env it = some (.pointer (some ⟨r, 0, none⟩))) (hen : (Instr.entry (.pointer (some ⟨r, 0, none⟩))).run P w = .ok (.tuple #[u, v]) w) (hd : Nat.blt d N = true)
    (h : K ((d, .tuple #[u, v]) :: env) w) : O P N Q ⟨some d, .entry it, ty, pos, after, g⟩ env w K := fun a ha => by
  unfold Oper.wp
  simp only [execOp, ha.eval hit, Sem.run_bind, hen, Sem.run_pure, Result.andThen_ok]
  exact ⟨_, ha.put d _ hd, h⟩
/-- 'x[k].f = v' in a row of the call's own. -/
theorem o_strowN {st : TypeId} {x y : Operand} {e size n c k : Nat} {A : Option Addr} {xs : List Value} {v : Value} (S : St w0 M rs w) (i : Nat) (hk : rs[i]? = some (row e size A n c xs)) (hx : ev env x = some (pRF A k)) (hy : ev env y = some v)
    (hv : v.oneCell' = true) (hsz : (P.info? st).map (·.size) = some 1) (hkn : k < n * size)
    (h : ∀ w', St w0 M (rs.set i (row e size A n c (xs.set k v))) w' → K env w') : O P N Q ⟨none, .store st x y, ty, pos, after, g⟩ env w K := fun a ha => by
  have hown : w.ownsRow 0 e size (.slice A n c) n xs := S.get i hk
  have hn0 : 0 < n := by
    rcases Nat.eq_zero_or_pos n with h0 | h0
    · subst h0; simp at hkn
    · exact h0
  obtain ⟨b, cap, hv', _, hlt⟩ := hown.form hn0
  injection hv' with hA _ hcap
  subst hA; subst hcap
  have hxa : a.eval x = .pointer (some ⟨b, k, none⟩) := by
    rw [ha.eval hx]
    simp [pRF, Addr.add_mid]
  have hxl : xs.length = n * size := hown.1
  have hc : w.cell? ⟨b, k, none⟩ = some (xs[k]'(by omega)) := (hown.cellAt k (by omega)).trans (List.getElem?_eq_getElem (by omega))
  have hf : w.frozen? ⟨b, k, none⟩ = false := hown.frozenAt k
  have hr : (storeVar st ⟨b, k, none⟩ v).run P w = .ok () (w.setCell ⟨b, k, none⟩ v) := by
    simp only [storeVar, Sem.run_bind, sizeOf_run hsz, cells_one hv, Result.andThen_ok]
    simp [storeCells, hv, stored, hc, hf, run_store, go_sem]
  unfold Oper.wp execOp
  simp only [hxa, ha.eval hy, Instr.storeAt, Instr.sureAddr, Sem.run_bind, Sem.run_pure, Result.andThen_ok, hr]
  refine ⟨env, ha, h _ (S.upd i hk rfl rfl rfl (by simp) (fun j hj hn => Below.heap_setCell w ⟨b, k, none⟩ v j (fun e => hn (by simp [row, Value.ownBlock, e]))) ?_ fun j hj => .inl hj)⟩
  exact (hown.stored k v).1
end
end Go.Proofs.Ytmgimcdkeelnpaa.Zx

/-
  Appends onto a row of the call's own, where the old slice is still read afterwards. General; nothing here names a program.
-/
namespace Go.Proofs.Ytmgimcdkeelnpaa.Zx
open Go.RowKit Zk
set_option linter.unusedVariables false
set_option linter.unusedSimpArgs false
section
variable {P : Program} {t e : TypeId} {z : Value} {size bytes : Nat}
theorem own_weak {w : World} {base : Nat} {v : Value} {n : Nat} {xs : List Value} (h : w.ownsRow base e size v n xs) : w.ownsRow 0 e size v n xs :=
  ⟨h.1, h.2.imp id fun ⟨g, cap, cur, a, _, c⟩ => ⟨g, cap, cur, a, Nat.zero_le _, c⟩⟩
theorem run_append_keep (w : World) (T : Elem P t e z size bytes) {A : Option Addr} {n c : Nat} {xs : List Value} (hown : w.ownsRow 0 e size (.slice A n c) n xs)
    {A' : Option Addr} {m c' : Nat} {news : List Value} (hr : Rs w size A' m c' news) (h1 : ∀ u ∈ news, u.oneCell' = true) (h63 : n + m ≤ maxLen) (hbytes : (n + m) * bytes ≤ 140737488355328) (ty : TypeId) :
    ∃ A2 c2 w', (Builtin.append_ #[t, t] ty #[.slice A n c, .slice A' m c']).run P w = .ok (.slice A2 (n + m) c2) w' ∧ w'.ownsRow 0 e size (.slice A2 (n + m) c2) (n + m) (xs ++ news) ∧ w.grownBy w' (Value.slice A n c).ownBlock ∧
      ((Value.slice A2 (n + m) c2).ownBlock = (Value.slice A n c).ownBlock ∨ ∀ i, (Value.slice A2 (n + m) c2).ownBlock = some i → w.heap.size ≤ i) ∧ Rs w' size A n c xs := by
  obtain ⟨i, hi, hz, hsize, hby⟩ := info_parts T.hi
  have hold := rs_of_row hown
  have hol := hold.len
  rcases Nat.eq_zero_or_pos n with hn | hn
  · obtain ⟨v', w', hrun, h2, h3, h4⟩ := run_append_any w 0 t ty e i z size bytes T.ht hi hz hsize hby T.hzs T.hsz _ n xs hown _ A' m c' news hr.rd h1 h63 hbytes (Nat.zero_le _)
    obtain ⟨A2, c2, rfl⟩ := own_form h2
    exact ⟨A2, c2, w', hrun, h2, h3, h4.imp id (fun e i hi => by rw [e] at hi; cases hi; exact Nat.le_refl _), ⟨hol, fun h => absurd h (by omega)⟩, hold.cap, hold.max⟩
  · obtain ⟨g, cap, hv, _, hlt⟩ := hown.form hn
    cases hv
    rcases A' with _ | ad
    · have hm : m = 0 := by
        rcases Nat.eq_zero_or_pos m with h0 | h0
        · exact h0
        · obtain ⟨ad, h, _⟩ := hr.rd.2 h0
          cases h
      subst hm
      have hn : news = [] := List.eq_nil_of_length_eq_zero (by simpa using hr.len)
      subst hn
      exact ⟨_, _, w, run_append_of_nil w 0 t ty e i size T.ht hi _ n xs hown c', by simpa using hown, World.grownBy.refl w _, .inl rfl, hold⟩
    · have hcells : ∀ j u, news[j]? = some u → w.cell? (ad.add j) = some u := by
        intro j u hu
        rcases Nat.eq_zero_or_pos m with h0 | h0
        · subst h0
          have hn : news = [] := List.eq_nil_of_length_eq_zero (by simpa using hr.len)
          subst hn
          simp at hu
        · obtain ⟨ad', h, _, hc⟩ := hr.rd.2 h0
          injection h with h
          subst h
          exact hc j u hu
      by_cases hroom : n + m ≤ c
      · obtain ⟨w', hrun, h2, h3⟩ := run_append_fits (P := P) w 0 t ty e i size T.ht hi hsize g n c xs hown ad m c' news hr.len hcells h1 hroom
        refine ⟨_, _, w', hrun, h2, h3, .inl rfl, ⟨hol, fun hp => ?_⟩, hold.cap, hold.max⟩
        obtain ⟨ad2, hA, hb, hc⟩ := (rs_of_row h2).rd.2 (by omega)
        exact ⟨ad2, hA, hb, fun j u hu => hc j u (by rw [List.getElem?_append_left (List.getElem?_eq_some_iff.1 hu).1]; exact hu)⟩
      · obtain ⟨ad2, hA, hb, hc⟩ := hold.rd.2 hn
        cases hA
        obtain ⟨v', w', hrun, h2, h3⟩ := run_append_arg_grows (P := P) w t ty e i z size bytes T.ht hi hz hsize hby T.hzs T.hsz ⟨g, 0, none⟩ n c xs hol hc ad m c' news hr.len hcells (by omega) h63 hbytes
        obtain ⟨A2, c2, rfl⟩ := own_form h2
        refine ⟨A2, c2, w', hrun, own_weak h2, ⟨h3.os, h3.tape, h3.output, h3.size, fun k hk _ => h3.block k hk (by simp)⟩, ?_, hold.like (like_grown h3)⟩
        exact .inr fun i hi => (h2.lt i hi).1
variable {N : Nat} {Q : Post} {K : Env → World → Prop} {env : Env} {w0 w : World} {M : Nat → Prop} {rs : List Res} {d : Tmp} {ty : TypeId} {pos : String} {after : Array Edge} {g : Option (Nat × Bool)}
/-- append onto a row of the call's own; the old slice still reads as it did. -/
theorem o_appK {s x : Operand} (TE : Elem P t e z size bytes) (S : St w0 M rs w) (k : Nat) {A : Option Addr} {n c : Nat} {xs : List Value} (hk : rs[k]? = some (row e size A n c xs))
    (hs : ev env s = some (.slice A n c)) {A' : Option Addr} {m c' : Nat} {news : List Value} (hx : ev env x = some (.slice A' m c')) (hr : Rs w size A' m c' news) (h1 : ∀ u ∈ news, u.oneCell' = true)
    (hd : Nat.blt d N = true) (hbytes : (n + m) * bytes ≤ 140737488355328) (h63 : n + m ≤ 9223372036854775807)
    (h : ∀ A2 c2 w', St w0 M (rs.set k (row e size A2 (n + m) c2 (xs ++ news))) w' → Rs w' size A n c xs → K ((d, .slice A2 (n + m) c2) :: env) w') :
    O P N Q ⟨some d, .call { callee := .builtin .append, args := #[s, x], argTypes := #[t, t] }, ty, pos, after, g⟩ env w K := fun a ha => by
  have hown : w.ownsRow 0 e size (.slice A n c) n xs := S.get k hk
  obtain ⟨A2, c2, w', hrun, h2, h3, h4, h5⟩ := run_append_keep w TE hown hr h1 h63 hbytes ty
  unfold Oper.wp execOp
  simp only [resolve, invoke, builtin, Sem.run_bind, Sem.run_pure, Result.andThen_ok, List.map_toArray, List.map_cons, List.map_nil, ha.eval hs, ha.eval hx, hrun]
  refine ⟨_, ha.put d _ hd, h A2 c2 w' ?_ h5⟩
  refine S.upd k hk h3.os h3.tape h3.output h3.size (fun i hi hn => h3.block i hi (fun e => hn e.symm)) h2 fun i hi => ?_
  change (Value.slice A2 (n + m) c2).ownBlock = some i at hi
  rcases h4 with h4 | h4
  · left; rw [h4] at hi; exact hi
  · right
    exact ⟨h4 i hi, (h2.lt _ hi).2⟩
theorem T_label {l : Nat} {c : Exit → Env → World → Prop} (h : c .normal env w) : T P N (.label l) c env w := fun a ha => wp_label ⟨env, ha, h⟩
/-- A scope through which nothing jumps. -/
theorem T_scope {c : Code} (hng : ∀ l e w, Q (.goto l) e w → False) (h : T P N c Q env w) : T P N (.scope c) Q env w := fun a ha =>
  wp_scope_straight (Code.wp_mono (by
    intro e a w h
    cases e with
    | goto l =>
      obtain ⟨e', _, h2⟩ := h
      exact (hng _ _ _ h2).elim
    | normal => exact h
    | exit i => exact h
    | ret => exact h
    | panic c => exact h
    | outgrown => exact h) (h a ha))
end
end Go.Proofs.Ytmgimcdkeelnpaa.Zx

/-
  Many blocks as one piece; two pieces as one, apart from each other; slices with a bound. General; nothing here names a program.
-/
namespace Go.Proofs.Ytmgimcdkeelnpaa.Zx
open Go.RowKit Zk
set_option linter.unusedVariables false
set_option linter.unusedSimpArgs false
/-- Blocks known whole, by their numbers. -/
def heapR (t : Nat) (ss : Nat → Option (Array Value)) : Res where
  dom i := (ss i).isSome = true
  holds w := ∀ i cur, ss i = some cur → Blk w i t cur
  stable w w' h hh := fun i cur hi => (h i (by simp [hi])).trans (hh i cur hi)
def upd (ss : Nat → Option (Array Value)) (b : Nat) (cur : Array Value) : Nat → Option (Array Value) := fun i => if i = b then some cur else ss i
theorem upd_same (ss : Nat → Option (Array Value)) (b : Nat) (cur : Array Value) : upd ss b cur b = some cur := by unfold upd; rw [if_pos rfl]
theorem upd_ne {ss : Nat → Option (Array Value)} {b i : Nat} {cur : Array Value} (h : i ≠ b) : upd ss b cur i = ss i := by unfold upd; rw [if_neg h]
theorem heapR_none (t : Nat) (w : World) : (heapR t fun _ => none).holds w := fun i cur h => by cases h
/-- What lies in a block reads. -/
theorem heapR_rs {t : Nat} {ss : Nat → Option (Array Value)} {w : World} (h : (heapR t ss).holds w) {b o n c : Nat} {cur : Array Value} {xs : List Value} (hb : ss b = some cur) (hx : xs.length = n) (hcell : ∀ j u, xs[j]? = some u → cur[o + j]? = some u) (hnc : n ≤ c) (hc : c ≤ 9223372036854775807) :
    Rs w 1 (some ⟨b, o, none⟩) n c xs :=
  ⟨⟨by omega, fun hn => ⟨_, rfl, (h b cur hb).lt, fun j u hu => by rw [Addr.add_lit]; exact ((h b cur hb).cell (o + j)).trans (hcell j u hu)⟩⟩, hnc, hc⟩
/-- Two pieces as one, apart from each other. -/
def sep (r s : Res) : Res where
  dom i := r.dom i ∨ s.dom i
  holds w := r.holds w ∧ s.holds w ∧ ∀ i, r.dom i → ¬ s.dom i
  stable w w' h hh := ⟨r.stable w w' (fun i hi => h i (.inl hi)) hh.1, s.stable w w' (fun i hi => h i (.inr hi)) hh.2.1, hh.2.2⟩
section
variable {w0 w w' : World} {M : Nat → Prop} {rs : List Res}
theorem St.sepj {r s : Res} (S : St w0 M (rs ++ [r, s]) w) : St w0 M (rs ++ [sep r s]) w :=
  ⟨S.os, S.tape, S.output, S.size, S.old, fun q hq => by
    rcases List.mem_append.1 hq with hq | hq
    · exact S.res q (List.mem_append_left _ hq)
    · obtain rfl := List.mem_singleton.1 hq
      have h1 := S.res r (by simp)
      have h2 := S.res s (by simp)
      have h := S.apart
      rw [List.pairwise_append, List.pairwise_cons] at h
      exact ⟨⟨h1.1, h2.1, h.2.1.1 s (by simp)⟩, fun i hi => by rcases hi with hi | hi; exact h1.2 i hi; exact h2.2 i hi⟩, by
    have h := S.apart
    rw [List.pairwise_append] at h ⊢
    refine ⟨h.1, List.pairwise_singleton _ _, fun a ha b hb i hi => ?_⟩
    obtain rfl := List.mem_singleton.1 hb
    intro hx
    rcases hx with hx | hx
    · exact h.2.2 a ha r (by simp) i hi hx
    · exact h.2.2 a ha s (by simp) i hi hx⟩
theorem St.seps {r s : Res} (S : St w0 M (rs ++ [sep r s]) w) : St w0 M (rs ++ [r, s]) w := by
  have h := S.res (sep r s) (by simp)
  have hp := S.apart
  rw [List.pairwise_append] at hp
  refine ⟨S.os, S.tape, S.output, S.size, S.old, fun q hq => ?_, ?_⟩
  · rcases List.mem_append.1 hq with hq | hq
    · exact S.res q (List.mem_append_left _ hq)
    · rcases List.mem_cons.1 hq with rfl | hq
      · exact ⟨h.1.1, fun i hi => h.2 i (.inl hi)⟩
      · obtain rfl := List.mem_singleton.1 hq
        exact ⟨h.1.2.1, fun i hi => h.2 i (.inr hi)⟩
  · rw [List.pairwise_append, List.pairwise_cons]
    refine ⟨hp.1, ⟨fun b hb => ?_, List.pairwise_singleton _ _⟩, fun a ha b hb i hi hx => ?_⟩
    · obtain rfl := List.mem_singleton.1 hb
      exact h.1.2.2
    · rcases List.mem_cons.1 hb with rfl | hb
      · exact hp.2.2 a ha _ (List.mem_singleton_self _) i hi (.inl hx)
      · obtain rfl := List.mem_singleton.1 hb
        exact hp.2.2 a ha _ (List.mem_singleton_self _) i hi (.inr hx)
theorem St.turnedS {r s r' s' : Res} (S : St w0 (fun i => r.dom i ∨ s.dom i) [r', s'] w) : Turned w0 w (sep r s) (sep r' s') := by
  have S2 : St w0 (fun i => r.dom i ∨ s.dom i) ([] ++ [sep r' s']) w := St.sepj (rs := []) S
  have h := S2.res (sep r' s') (by simp)
  exact ⟨S.os, S.tape, S.output, S.size, S.old, h.1, fun i hi => by
    have h2 := h.2 i hi
    rcases h2.2 with h3 | h3
    · exact .inr ⟨h3, h2.1⟩
    · exact .inl h3⟩
/-- A new row is one block more. -/
theorem heap_join {t : Nat} {ss : Nat → Option (Array Value)} {b n c : Nat} {xs : List Value} (S : St w0 M (rs ++ [heapR t ss, row t 1 (some ⟨b, 0, none⟩) n c xs]) w) :
    ∃ cur, cur.size = c ∧ ss b = none ∧ c ≤ 9223372036854775807 ∧ St w0 M (rs ++ [heapR t (upd ss b cur)]) w := by
  have hr := S.res (row t 1 (some ⟨b, 0, none⟩) n c xs) (by simp)
  have hh := S.res (heapR t ss) (by simp)
  have hp := S.apart
  rw [List.pairwise_append, List.pairwise_cons] at hp
  have hno : ss b = none := by
    cases hb : ss b with
    | none => rfl
    | some cur => exact (hp.2.1.1 _ (List.mem_singleton_self _) b (by simp [heapR, hb]) rfl).elim
  rcases hr.1.2 with ⟨h, _⟩ | ⟨g, cap, cur, h, _, hg, hnc, hcm, hcs, _⟩
  · cases h
  · cases h
    refine ⟨cur, by omega, hno, by unfold maxLen at hcm; exact hcm, S.os, S.tape, S.output, S.size, S.old, fun q hq => ?_, ?_⟩
    · rcases List.mem_append.1 hq with hq | hq
      · exact S.res q (List.mem_append_left _ hq)
      · obtain rfl := List.mem_singleton.1 hq
        refine ⟨fun i cur' hi => ?_, fun i hi => ?_⟩
        · by_cases e : i = b
          · subst e
            rw [upd_same] at hi
            cases hi
            exact hg
          · rw [upd_ne e] at hi
            exact hh.1 i cur' hi
        · by_cases e : i = b
          · subst e
            exact hr.2 i rfl
          · refine hh.2 i ?_
            have hi' : (upd ss b cur i).isSome = true := hi
            rw [upd_ne e] at hi'
            exact hi'
    · rw [List.pairwise_append]
      refine ⟨hp.1, List.pairwise_singleton _ _, fun a ha q hq i hi hx => ?_⟩
      obtain rfl := List.mem_singleton.1 hq
      by_cases e : i = b
      · subst e
        exact hp.2.2 a ha _ (List.mem_cons_of_mem _ (List.mem_singleton_self _)) i hi rfl
      · have hi' : (upd ss b cur i).isSome = true := hx
        rw [upd_ne e] at hi'
        exact hp.2.2 a ha (heapR t ss) List.mem_cons_self i hi hi'
end
section
variable {P : Program} {S : World → Prop} {N : Nat} {Q : Post} {K : Env → World → Prop} {env : Env} {w0 w : World} {M : Nat → Prop} {rs : List Res} {dst : Option Tmp} {d : Tmp} {ty : TypeId} {pos : String} {after : Array Edge} {g : Option (Nat × Bool)}
/-- A store into one of many blocks. -/
theorem o_stH {st : TypeId} {x y : Operand} {b o t : Nat} {ss : Nat → Option (Array Value)} {cs : Array Value} {v : Value} (S : St w0 M rs w) (k : Nat) (hk : rs[k]? = some (heapR t ss)) (hs : ss b = some cs) (hx : ev env x = some (.pointer (some ⟨b, o, none⟩))) (hy : ev env y = some v)
    (hv : v.oneCell' = true) (hsz : (P.info? st).map (·.size) = some 1) (ho : o < cs.size)
    (h : ∀ w', St w0 M (rs.set k (heapR t (upd ss b (cs.setIfInBounds o v)))) w' → K env w') : O P N Q ⟨none, .store st x y, ty, pos, after, g⟩ env w K := fun a ha => by
  have hH : (heapR t ss).holds w := S.get k hk
  have hB : Blk w b t cs := hH b cs hs
  have hc : w.cell? ⟨b, o, none⟩ = some cs[o] := (hB.cell o).trans (Array.getElem?_eq_getElem ho)
  have hr : (storeVar st ⟨b, o, none⟩ v).run P w = .ok () (w.setCell ⟨b, o, none⟩ v) := by
    simp only [storeVar, Sem.run_bind, sizeOf_run hsz, cells_one hv, Result.andThen_ok]
    simp [storeCells, hv, stored, hc, hB.frozen o, run_store, go_sem]
  unfold Oper.wp execOp
  simp only [ha.eval hx, ha.eval hy, Instr.storeAt, Instr.sureAddr, Sem.run_bind, Sem.run_pure, Result.andThen_ok, hr]
  have hdom : ∀ i, (heapR t (upd ss b (cs.setIfInBounds o v))).dom i → (heapR t ss).dom i := fun i hi => by
    by_cases e : i = b
    · subst e; show (ss i).isSome = true; rw [hs]; rfl
    · have hi' : (upd ss b (cs.setIfInBounds o v) i).isSome = true := hi
      rw [upd_ne e] at hi'
      exact hi'
  refine ⟨env, ha, h _ (S.upd k hk rfl rfl rfl (by simp) (fun i hi hn => Below.heap_setCell w ⟨b, o, none⟩ v i (fun e => hn (show (ss i).isSome = true by rw [show i = b from e, hs]; rfl))) (fun i cur hi => ?_) fun i hi => .inl (hdom i hi))⟩
  by_cases e : i = b
  · subst e
    rw [upd_same] at hi
    cases hi
    exact hB.set_ o v
  · rw [upd_ne e] at hi
    exact (Below.heap_setCell w ⟨b, o, none⟩ v i e).trans (hH i cur hi)
/-- A slice with a bound. -/
theorem y_sliceX {x : Operand} {t e : TypeId} {A : Option Addr} {n c l u m size : Nat} {kl kh km : IntKind} {jl jh jm : Int} {i j k : Operand} (ht : P.underlying t = some (.slice e)) (hsz : (P.info? e).map (·.size) = some size) (hx : ev env x = some (.slice A n c))
    (hi : ev env i = some (.int kl jl)) (hj : ev env j = some (.int kh jh)) (hm : ev env k = some (.int km jm)) (el : jl = (l : Int)) (eu : jh = (u : Int)) (em : jm = (m : Int)) (h1 : l ≤ u) (h2 : u ≤ m) (h3 : m ≤ c) :
    Y P S env ⟨dst, .slice t x (some i) (some j) (some k), ty, pos, after, g⟩ (.slice (cutA A m l size) (u - l) (m - l)) := fun N a w' ha _ => by
  subst el; subst eu; subst em
  have he : P.elem t = e := by simp [Program.elem, ht]
  have h4 := run_slice_lhm (P := P) (w := w') (t := t) (a := A) (len := n) (cap := c) (by rw [he]; exact ht) kl kh km (l : Int) (u : Int) (m : Int) (by omega) (by omega) (by omega) (by omega)
  rw [he] at h4
  simp only [execOp, ha.eval hx, Option.map_some, Option.map_none, ha.eval hi, ha.eval hj, ha.eval hm, Instr.sliceAt, Sem.run_bind, run_underlying ht, Result.andThen_ok, h4, sizeOf_run hsz, Sem.run_pure, Int.toNat_natCast]
  rfl
theorem T_loop7 {t1 t2 t3 t4 t5 t6 t7 : Type} {c : Code} (ks : Env) (V : t1 → t2 → t3 → t4 → t5 → t6 → t7 → Env) (μ : t1 → t2 → t3 → t4 → t5 → t6 → t7 → Nat) (Rel : t1 → t2 → t3 → t4 → t5 → t6 → t7 → World → Prop) (z1 : t1) (z2 : t2) (z3 : t3) (z4 : t4) (z5 : t5) (z6 : t6) (z7 : t7) (hs : Sub (V z1 z2 z3 z4 z5 z6 z7) env) (hk : Sub ks env) (h0 : Rel z1 z2 z3 z4 z5 z6 z7 w)
    (round : ∀ a1 a2 a3 a4 a5 a6 a7 w, Rel a1 a2 a3 a4 a5 a6 a7 w → T P N c (thenQ (fun e' w' => ∃ p1 p2 p3 p4 p5 p6 p7, μ p1 p2 p3 p4 p5 p6 p7 < μ a1 a2 a3 a4 a5 a6 a7 ∧ Rel p1 p2 p3 p4 p5 p6 p7 w' ∧ Sub (V p1 p2 p3 p4 p5 p6 p7 ++ ks) e') Q) (V a1 a2 a3 a4 a5 a6 a7 ++ ks) w) : T P N (.loop c) Q env w :=
  T_loop (fun m e w => ∃ a1 a2 a3 a4 a5 a6 a7, m = μ a1 a2 a3 a4 a5 a6 a7 ∧ Rel a1 a2 a3 a4 a5 a6 a7 w ∧ Sub (V a1 a2 a3 a4 a5 a6 a7 ++ ks) e) (μ z1 z2 z3 z4 z5 z6 z7) ⟨z1, z2, z3, z4, z5, z6, z7, rfl, h0, Sub.app hs hk⟩ fun m e w ⟨a1, a2, a3, a4, a5, a6, a7, hm, hr, hsub⟩ => T_weak hsub (T_mono (fun e w ⟨p1, p2, p3, p4, p5, p6, p7, h1, h2, h3⟩ => ⟨μ p1 p2 p3 p4 p5 p6 p7, by omega, p1, p2, p3, p4, p5, p6, p7, rfl, h2, h3⟩) (round a1 a2 a3 a4 a5 a6 a7 w hr))
theorem T_loop8 {t1 t2 t3 t4 t5 t6 t7 t8 : Type} {c : Code} (ks : Env) (V : t1 → t2 → t3 → t4 → t5 → t6 → t7 → t8 → Env) (μ : t1 → t2 → t3 → t4 → t5 → t6 → t7 → t8 → Nat) (Rel : t1 → t2 → t3 → t4 → t5 → t6 → t7 → t8 → World → Prop) (z1 : t1) (z2 : t2) (z3 : t3) (z4 : t4) (z5 : t5) (z6 : t6) (z7 : t7) (z8 : t8) (hs : Sub (V z1 z2 z3 z4 z5 z6 z7 z8) env) (hk : Sub ks env) (h0 : Rel z1 z2 z3 z4 z5 z6 z7 z8 w)
    (round : ∀ a1 a2 a3 a4 a5 a6 a7 a8 w, Rel a1 a2 a3 a4 a5 a6 a7 a8 w → T P N c (thenQ (fun e' w' => ∃ p1 p2 p3 p4 p5 p6 p7 p8, μ p1 p2 p3 p4 p5 p6 p7 p8 < μ a1 a2 a3 a4 a5 a6 a7 a8 ∧ Rel p1 p2 p3 p4 p5 p6 p7 p8 w' ∧ Sub (V p1 p2 p3 p4 p5 p6 p7 p8 ++ ks) e') Q) (V a1 a2 a3 a4 a5 a6 a7 a8 ++ ks) w) : T P N (.loop c) Q env w :=
  T_loop (fun m e w => ∃ a1 a2 a3 a4 a5 a6 a7 a8, m = μ a1 a2 a3 a4 a5 a6 a7 a8 ∧ Rel a1 a2 a3 a4 a5 a6 a7 a8 w ∧ Sub (V a1 a2 a3 a4 a5 a6 a7 a8 ++ ks) e) (μ z1 z2 z3 z4 z5 z6 z7 z8) ⟨z1, z2, z3, z4, z5, z6, z7, z8, rfl, h0, Sub.app hs hk⟩ fun m e w ⟨a1, a2, a3, a4, a5, a6, a7, a8, hm, hr, hsub⟩ => T_weak hsub (T_mono (fun e w ⟨p1, p2, p3, p4, p5, p6, p7, p8, h1, h2, h3⟩ => ⟨μ p1 p2 p3 p4 p5 p6 p7 p8, by omega, p1, p2, p3, p4, p5, p6, p7, p8, rfl, h2, h3⟩) (round a1 a2 a3 a4 a5 a6 a7 a8 w hr))
theorem T_loop9 {t1 t2 t3 t4 t5 t6 t7 t8 t9 : Type} {c : Code} (ks : Env) (V : t1 → t2 → t3 → t4 → t5 → t6 → t7 → t8 → t9 → Env) (μ : t1 → t2 → t3 → t4 → t5 → t6 → t7 → t8 → t9 → Nat) (Rel : t1 → t2 → t3 → t4 → t5 → t6 → t7 → t8 → t9 → World → Prop) (z1 : t1) (z2 : t2) (z3 : t3) (z4 : t4) (z5 : t5) (z6 : t6) (z7 : t7) (z8 : t8) (z9 : t9) (hs : Sub (V z1 z2 z3 z4 z5 z6 z7 z8 z9) env) (hk : Sub ks env) (h0 : Rel z1 z2 z3 z4 z5 z6 z7 z8 z9 w)
    (round : ∀ a1 a2 a3 a4 a5 a6 a7 a8 a9 w, Rel a1 a2 a3 a4 a5 a6 a7 a8 a9 w → T P N c (thenQ (fun e' w' => ∃ p1 p2 p3 p4 p5 p6 p7 p8 p9, μ p1 p2 p3 p4 p5 p6 p7 p8 p9 < μ a1 a2 a3 a4 a5 a6 a7 a8 a9 ∧ Rel p1 p2 p3 p4 p5 p6 p7 p8 p9 w' ∧ Sub (V p1 p2 p3 p4 p5 p6 p7 p8 p9 ++ ks) e') Q) (V a1 a2 a3 a4 a5 a6 a7 a8 a9 ++ ks) w) : T P N (.loop c) Q env w :=
  T_loop (fun m e w => ∃ a1 a2 a3 a4 a5 a6 a7 a8 a9, m = μ a1 a2 a3 a4 a5 a6 a7 a8 a9 ∧ Rel a1 a2 a3 a4 a5 a6 a7 a8 a9 w ∧ Sub (V a1 a2 a3 a4 a5 a6 a7 a8 a9 ++ ks) e) (μ z1 z2 z3 z4 z5 z6 z7 z8 z9) ⟨z1, z2, z3, z4, z5, z6, z7, z8, z9, rfl, h0, Sub.app hs hk⟩ fun m e w ⟨a1, a2, a3, a4, a5, a6, a7, a8, a9, hm, hr, hsub⟩ => T_weak hsub (T_mono (fun e w ⟨p1, p2, p3, p4, p5, p6, p7, p8, p9, h1, h2, h3⟩ => ⟨μ p1 p2 p3 p4 p5 p6 p7 p8 p9, by omega, p1, p2, p3, p4, p5, p6, p7, p8, p9, rfl, h2, h3⟩) (round a1 a2 a3 a4 a5 a6 a7 a8 a9 w hr))
/-- A guard that was itself passed over, where the order is drawn. -/
theorem DL_gnu {ops : Array Oper} {i : Nat} {d : Tmp} {op : Op} {order : List (Nat × Bool)} {j : Nat} {b : Bool} {t : Tmp} (hi : ops[i]? = some ⟨some d, op, ty, pos, after, some (j, b)⟩)
    (hj : (ops[j]?).bind (·.dst) = some t) (ht : look env t = some undef) (hd : Nat.blt d N = true) (h : DL P N ops Q S order ((d, undef) :: env) w) : DL P N ops Q S ((i, true) :: order) env w :=
  DL_yi hi rfl (fun a ha => .inr ⟨by
    have : ((none : Option Bool) == some b) = false := by cases b <;> rfl
    simp [Region.wanted, yielded, hj, ha.vals t _ ht, undef], rfl⟩) hd h
end
end Go.Proofs.Ytmgimcdkeelnpaa.Zx

/-
  Rows of elements of many cells: an element stored whole, a tail cleared, a row cut. General; nothing here names a program.
-/
namespace Go.Proofs.Ytmgimcdkeelnpaa.Zx
open Go.RowKit Zk
set_option linter.unusedVariables false
set_option linter.unusedSimpArgs false
section
variable {P : Program} {N : Nat} {Q : Post} {env : Env} {w w0 : World} {M : Nat → Prop} {rs : List Res} {K : Env → World → Prop} {ty : TypeId} {pos : String} {after : Array Edge} {g : Option (Nat × Bool)}
theorem row_cells {w : World} {e k n c : Nat} {A : Option Addr} {xs : List Value} (h : w.ownsRow 0 e k (.slice A n c) n xs) (hn : 0 < n) : ∃ b cur, A = some ⟨b, 0, none⟩ ∧ Blk w b e cur ∧ n ≤ c ∧ c ≤ maxLen ∧ cur.size = c * k ∧ cur.toList.take (n * k) = xs := by
  rcases h.2 with ⟨h1, h2⟩ | ⟨b, cap, cur, h1, _, hg, hnc, hcm, hcs, hx⟩
  · omega
  · cases h1
    exact ⟨b, cur, rfl, hg, hnc, hcm, hcs, hx⟩
theorem cells_row {w : World} {e k n c b : Nat} {xs : List Value} {cur : Array Value} (hg : Blk w b e cur) (hnc : n ≤ c) (hcm : c ≤ maxLen) (hcs : cur.size = c * k) (hx : cur.toList.take (n * k) = xs) (hl : xs.length = n * k) : w.ownsRow 0 e k (.slice (some ⟨b, 0, none⟩) n c) n xs :=
  ⟨hl, .inr ⟨b, c, cur, rfl, Nat.zero_le _, hg, hnc, hcm, hcs, hx⟩⟩
/-- The beginning of an own row is one. -/
theorem St.rowcut (S : St w0 M rs w) (i : Nat) {e k n c m : Nat} {A : Option Addr} {xs : List Value} (hk : rs[i]? = some (Zx.row e k A n c xs)) (hm : m ≤ n) : St w0 M (rs.set i (Zx.row e k A m c (xs.take (m * k)))) w := by
  have hown : w.ownsRow 0 e k (.slice A n c) n xs := S.get i hk
  refine S.upd i hk rfl rfl rfl (Nat.le_refl _) (fun _ _ _ => rfl) ?_ fun j hj => .inl (show (Value.slice A n c).ownBlock = some j by
      have h2 : (Value.slice A m c).ownBlock = some j := hj
      cases A <;> exact h2)
  show w.ownsRow 0 e k (.slice A m c) m (xs.take (m * k))
  have hle : m * k ≤ n * k := Nat.mul_le_mul_right _ hm
  have hl : (xs.take (m * k)).length = m * k := by rw [List.length_take, hown.1]; omega
  rcases hown.2 with ⟨h1, h2⟩ | ⟨b, cap, cur, h1, h0, hg, hnc, hcm, hcs, hx⟩
  · cases h1
    exact ⟨hl, .inl ⟨by rw [show m = 0 by omega, h2], by omega⟩⟩
  · cases h1
    exact ⟨hl, .inr ⟨b, c, cur, rfl, h0, hg, by omega, hcm, hcs, by rw [← hx, List.take_take, Nat.min_eq_left hle]⟩⟩
theorem o_strowE {st : TypeId} {x y : Operand} {e n c k size : Nat} {A : Option Addr} {xs : List Value} {vs : Array Value} (S : St w0 M rs w) (i : Nat) (hk : rs[i]? = some (row e size A n c xs)) (hx : ev env x = some (pR A k size)) (hy : ev env y = some (.agg vs))
    (hv : ∀ u ∈ vs.toList, u.oneCell' = true) (hvs : vs.size = size) (hsz : (P.info? st).map (·.size) = some size) (hkn : k < n)
    (h : ∀ w', St w0 M (rs.set i (row e size A n c (xs.take (k * size) ++ vs.toList ++ xs.drop ((k + 1) * size)))) w' → K env w') : O P N Q ⟨none, .store st x y, ty, pos, after, g⟩ env w K := fun a ha => by
  have hown : w.ownsRow 0 e size (.slice A n c) n xs := S.get i hk
  obtain ⟨b, cur, rfl, hg, hnc, hcm, hcs, hxs⟩ := row_cells hown (by omega)
  have hxa : a.eval x = .pointer (some ⟨b, k * size, none⟩) := by
    rw [ha.eval hx]
    simp [pR, Addr.add_mid]
  have hle : (k + 1) * size ≤ n * size := Nat.mul_le_mul_right _ hkn
  have hle2 : n * size ≤ c * size := Nat.mul_le_mul_right _ hnc
  have e1 : (k + 1) * size = k * size + size := Nat.succ_mul _ _
  have hcl : cur.toList.length = c * size := by rw [Array.length_toList]; exact hcs
  refine wp_stB st x y rfl b (k * size) hxa vs (ha.eval hy) e cur hg (by rw [hvs]; exact hsz) (by rw [hvs]; omega) hv fun w' h2 h3 => ⟨env, ha, h w' (S.upd i hk h3.os h3.tape h3.output h3.size (fun j hj hn => h3.block j hj (fun e => hn (by injection e with e; rw [e]; rfl))) ?_ fun j hj => .inl hj)⟩
  have hvl : vs.toList.length = size := by rw [Array.length_toList, hvs]
  refine cells_row h2 hnc hcm ?_ ?_ ?_
  · rw [List.size_toArray, List.length_append, List.length_append, List.length_take, List.length_drop, hvl, hvs, hcl]; omega
  rotate_left
  · rw [List.length_append, List.length_append, List.length_take, List.length_drop, hvl, hown.1]; omega
  rw [hvs]
  show (cur.toList.take (k * size) ++ vs.toList ++ cur.toList.drop (k * size + size)).take (n * size) = _
  have l1 : (cur.toList.take (k * size) ++ vs.toList).length = k * size + size := by rw [List.length_append, List.length_take, hvl]; omega
  rw [List.take_append, l1, List.take_of_length_le (by rw [l1]; omega), ← hxs, List.take_take, Nat.min_eq_left (by omega), e1, List.drop_take]
/-- clear(s), s a tail of an own row. -/
theorem o_clearR {x : Operand} {t e n c l size : Nat} {z : Value} {A : Option Addr} {xs : List Value} (S : St w0 M rs w) (i : Nat) (hk : rs[i]? = some (row e size A n c xs)) (ht : P.underlying t = some (.slice e)) (hz : ∀ W, (zeroValue e).run P W = .ok z W) (hzs : z.cells.size = size)
    (hz1 : ∀ u ∈ z.cells.toList, u.oneCell' = true) (hx : ev env x = some (.slice (cutA A c l size) (n - l) (c - l))) (hl : l < n)
    (h : ∀ w' ys, ys.take (l * size) = xs.take (l * size) → ys.length = n * size → St w0 M (rs.set i (row e size A n c ys)) w' → K env w') : O P N Q ⟨none, .call { callee := .builtin .clear, args := #[x], argTypes := #[t] }, ty, pos, after, g⟩ env w K := fun a ha => by
  have hown : w.ownsRow 0 e size (.slice A n c) n xs := S.get i hk
  obtain ⟨b, cur, rfl, hg, hnc, hcm, hcs, hxs⟩ := row_cells hown (by omega)
  have hle2 : n * size ≤ c * size := Nat.mul_le_mul_right _ hnc
  have hle1 : l * size ≤ n * size := Nat.mul_le_mul_right _ (by omega)
  have hsub : (n - l) * size = n * size - l * size := Nat.sub_mul _ _ _
  have hxa : a.eval x = .slice (some ⟨b, l * size, none⟩) (n - l) (c - l) := by
    rw [ha.eval hx]
    unfold cutA
    rw [if_neg (by omega)]
    simp [Addr.add_mid]
  have hzl : (Builtin.zeroCells z.cells (n - l)).size = (n - l) * size := by simp [Builtin.zeroCells, hzs]
  have hz1' : ∀ u ∈ (Builtin.zeroCells z.cells (n - l)).toList, u.oneCell' = true := fun u hu => by
    rcases Nat.eq_zero_or_pos size with h0 | h0
    · rw [h0, Nat.mul_zero] at hzl
      rw [Array.eq_empty_of_size_eq_zero hzl] at hu
      simp at hu
    · simp only [Builtin.zeroCells, Array.toList_map, List.mem_map] at hu
      obtain ⟨q, hq, rfl⟩ := hu
      have : q % z.cells.size < z.cells.size := Nat.mod_lt _ (by omega)
      rw [getElem!_pos z.cells _ this]
      exact hz1 _ (by simp)
  have hr := run_storeCells_at (P := P) b (l * size) e (Builtin.zeroCells z.cells (n - l)).toList 0 cur w hg (by simp only [Nat.add_zero, Array.length_toList, hzl]; omega) hz1'
  simp only [Nat.add_zero, Array.length_toList, hzl] at hr
  obtain ⟨m, hm⟩ : ∃ m, n - l = m + 1 := ⟨n - l - 1, by omega⟩
  have hrun : (Builtin.clear_ #[t] ty #[.slice (some ⟨b, l * size, none⟩) (n - l) (c - l)]).run P w = .ok (.tuple #[]) (w.setRow b (cur.toList.take (l * size) ++ (Builtin.zeroCells z.cells (n - l)).toList ++ cur.toList.drop (l * size + (n - l) * size)).toArray) := by
    rw [hm] at hr ⊢
    simp [Builtin.clear_, run_underlying ht, hz, hr]
  have h2 := setRow_heap w b cur (cur.toList.take (l * size) ++ (Builtin.zeroCells z.cells (n - l)).toList ++ cur.toList.drop (l * size + (n - l) * size)).toArray e _ hg
  generalize hw' : w.setRow b (cur.toList.take (l * size) ++ (Builtin.zeroCells z.cells (n - l)).toList ++ cur.toList.drop (l * size + (n - l) * size)).toArray = w' at hrun h2
  have h3 : w.grownBy w' (some b) := by
    subst hw'
    exact ⟨rfl, rfl, rfl, by simp, fun k hk hne => setRow_other w b k _ (fun e => hne (by rw [e]))⟩
  unfold Oper.wp execOp
  simp only [resolve, invoke, builtin, Sem.run_bind, Sem.run_pure, Result.andThen_ok, List.map_toArray, List.map_cons, List.map_nil, hxa, hrun]
  have hll : (cur.toList.take (l * size)).length = l * size := by rw [List.length_take, Array.length_toList]; omega
  refine ⟨env, ha, h w' ((cur.toList.take (l * size) ++ (Builtin.zeroCells z.cells (n - l)).toList ++ cur.toList.drop (l * size + (n - l) * size)).take (n * size)) ?_ ?_ (S.upd i hk h3.os h3.tape h3.output h3.size (fun j hj hn => h3.block j hj (fun e => hn (by injection e with e; rw [e]; rfl))) ?_ fun j hj => .inl hj)⟩
  · rw [List.take_take, Nat.min_eq_left hle1, List.append_assoc, List.take_left' hll, ← hxs, List.take_take, Nat.min_eq_left hle1]
  · rw [List.length_take, List.length_append, List.length_append, hll, Array.length_toList, hzl, List.length_drop, Array.length_toList]
    omega
  · refine cells_row h2 hnc hcm ?_ rfl ?_
    · rw [List.size_toArray, List.length_append, List.length_append, hll, Array.length_toList, hzl, List.length_drop, Array.length_toList]
      omega
    · rw [List.length_take, List.length_append, List.length_append, hll, Array.length_toList, hzl, List.length_drop, Array.length_toList]
      omega
end
theorem flat_set {α : Type} (f : α → List Value) {size : Nat} (hf : ∀ x, (f x).length = size) : ∀ (xs : List α) (k : Nat) (x : α), k < xs.length → (xs.flatMap f).take (k * size) ++ f x ++ (xs.flatMap f).drop ((k + 1) * size) = (xs.set k x).flatMap f
  | y :: xs, 0, x, _ => by
    rw [Nat.zero_mul, List.take_zero, List.nil_append, Nat.zero_add, Nat.one_mul, List.flatMap_cons, List.drop_left' (hf y), List.set_cons_zero, List.flatMap_cons]
  | y :: xs, k + 1, x, h => by
    have ih := flat_set f hf xs k x (by simpa using h)
    have e1 : (k + 1) * size = (f y).length + k * size := by rw [hf, Nat.succ_mul]; omega
    have e2 : (k + 1 + 1) * size = (f y).length + (k + 1) * size := by rw [hf, Nat.succ_mul (k + 1)]; omega
    have e3 : (f y ++ xs.flatMap f).drop ((k + 1 + 1) * size) = (xs.flatMap f).drop ((k + 1) * size) := by rw [e2, List.drop_length_add_append]
    have e4 : (f y ++ xs.flatMap f).take ((k + 1) * size) = f y ++ (xs.flatMap f).take (k * size) := by rw [e1, List.take_length_add_append]
    rw [List.flatMap_cons, e3, e4, List.set_cons_succ, List.flatMap_cons, ← ih]
    simp only [List.append_assoc]
theorem flat_take {α : Type} (f : α → List Value) {size : Nat} (hf : ∀ x, (f x).length = size) : ∀ (xs : List α) (k : Nat), (xs.flatMap f).take (k * size) = (xs.take k).flatMap f
  | _, 0 => by simp
  | [], k + 1 => by simp
  | y :: xs, k + 1 => by
    rw [List.flatMap_cons, List.take_succ_cons, List.flatMap_cons, ← flat_take f hf xs k, show (k + 1) * size = (f y).length + k * size by rw [hf, Nat.succ_mul]; omega, List.take_length_add_append]
end Go.Proofs.Ytmgimcdkeelnpaa.Zx

/-
  Sizes and zeros of the seat's types.
-/
namespace Go.Proofs.Ytmgimcdkeelnpaa
open Go.RowKit Zk Zx
set_option linter.unusedVariables false
set_option linter.unusedSimpArgs false
theorem hmix : Try.prog.follows .mixedOrders = true := by kernel_rfl
theorem is0 : (Try.prog.underlying 0).isSome = true := by kernel_rfl
theorem sz0 : (Try.prog.info? 0).map (·.size) = some 1 := by kernel_rfl
theorem is1 : (Try.prog.underlying 1).isSome = true := by kernel_rfl
theorem sz1 : (Try.prog.info? 1).map (·.size) = some 1 := by kernel_rfl
theorem zz1 (W : World) : (zeroValue 1).run Try.prog W = .ok (.nilFunc) W := by kernel_rfl
theorem is2 : (Try.prog.underlying 2).isSome = true := by kernel_rfl
theorem sz2 : (Try.prog.info? 2).map (·.size) = some 1 := by kernel_rfl
theorem zz2 (W : World) : (zeroValue 2).run Try.prog W = .ok (.int .i64 0) W := by kernel_rfl
theorem is3 : (Try.prog.underlying 3).isSome = true := by kernel_rfl
theorem sz3 : (Try.prog.info? 3).map (·.size) = some 1 := by kernel_rfl
theorem zz3 (W : World) : (zeroValue 3).run Try.prog W = .ok (.int .i64 0) W := by kernel_rfl
theorem is4 : (Try.prog.underlying 4).isSome = true := by kernel_rfl
theorem sz4 : (Try.prog.info? 4).map (·.size) = some 1 := by kernel_rfl
theorem zz4 (W : World) : (zeroValue 4).run Try.prog W = .ok (.bool false) W := by kernel_rfl
theorem is5 : (Try.prog.underlying 5).isSome = true := by kernel_rfl
theorem sz5 : (Try.prog.info? 5).map (·.size) = some 1 := by kernel_rfl
theorem zz5 (W : World) : (zeroValue 5).run Try.prog W = .ok (.int .u8 0) W := by kernel_rfl
theorem is9 : (Try.prog.underlying 9).isSome = true := by kernel_rfl
theorem sz9 : (Try.prog.info? 9).map (·.size) = some 1 := by kernel_rfl
theorem zz9 (W : World) : (zeroValue 9).run Try.prog W = .ok (.string ⟨#[]⟩) W := by kernel_rfl
theorem is22 : (Try.prog.underlying 22).isSome = true := by kernel_rfl
theorem sz22 : (Try.prog.info? 22).map (·.size) = some 1 := by kernel_rfl
theorem zz22 (W : World) : (zeroValue 22).run Try.prog W = .ok (.slice none 0 0) W := by kernel_rfl
theorem te22 : Elem Try.prog 22 39 (.agg #[.string ⟨#[]⟩, .int .i64 0, .int .u8 0, .int .u8 0, .int .u8 0, .int .u8 0, .int .u8 0, .int .u8 0, .int .u8 0, .int .u8 0, .int .u8 0, .int .u8 0, .int .u8 0, .int .u8 0, .int .u8 0, .int .u8 0, .int .u8 0, .int .u8 0, .int .u8 0, .int .u8 0, .int .u8 0, .int .u8 0, .int .u8 0, .int .u8 0, .int .u8 0, .int .u8 0, .int .u8 0, .int .u8 0, .int .u8 0, .int .u8 0, .int .u8 0, .int .u8 0, .int .u8 0, .int .u8 0]) 34 56 := ⟨Try.underlying22, by kernel_rfl, rfl, by decide⟩
theorem is25 : (Try.prog.underlying 25).isSome = true := by kernel_rfl
theorem sz25 : (Try.prog.info? 25).map (·.size) = some 1 := by kernel_rfl
theorem zz25 (W : World) : (zeroValue 25).run Try.prog W = .ok (.int .i64 0) W := by kernel_rfl
theorem is30 : (Try.prog.underlying 30).isSome = true := by kernel_rfl
theorem sz30 : (Try.prog.info? 30).map (·.size) = some 1 := by kernel_rfl
theorem zz30 (W : World) : (zeroValue 30).run Try.prog W = .ok (.slice none 0 0) W := by kernel_rfl
theorem te30 : Elem Try.prog 30 5 (.int .u8 0) 1 1 := ⟨Try.underlying30, by kernel_rfl, rfl, by decide⟩
theorem is31 : (Try.prog.underlying 31).isSome = true := by kernel_rfl
theorem sz31 : (Try.prog.info? 31).map (·.size) = some 1 := by kernel_rfl
theorem is33 : (Try.prog.underlying 33).isSome = true := by kernel_rfl
theorem sz33 : (Try.prog.info? 33).map (·.size) = some 1 := by kernel_rfl
theorem is37 : (Try.prog.underlying 37).isSome = true := by kernel_rfl
theorem sz37 : (Try.prog.info? 37).map (·.size) = some 32 := by kernel_rfl
theorem zz37 (W : World) : (zeroValue 37).run Try.prog W = .ok (.agg (Array.replicate 32 (.int .u8 0))) W := by kernel_rfl
theorem is39 : (Try.prog.underlying 39).isSome = true := by kernel_rfl
theorem sz39 : (Try.prog.info? 39).map (·.size) = some 34 := by kernel_rfl
theorem zz39 (W : World) : (zeroValue 39).run Try.prog W = .ok (.agg #[.string ⟨#[]⟩, .int .i64 0, .int .u8 0, .int .u8 0, .int .u8 0, .int .u8 0, .int .u8 0, .int .u8 0, .int .u8 0, .int .u8 0, .int .u8 0, .int .u8 0, .int .u8 0, .int .u8 0, .int .u8 0, .int .u8 0, .int .u8 0, .int .u8 0, .int .u8 0, .int .u8 0, .int .u8 0, .int .u8 0, .int .u8 0, .int .u8 0, .int .u8 0, .int .u8 0, .int .u8 0, .int .u8 0, .int .u8 0, .int .u8 0, .int .u8 0, .int .u8 0, .int .u8 0, .int .u8 0]) W := by kernel_rfl
theorem is40 : (Try.prog.underlying 40).isSome = true := by kernel_rfl
theorem sz40 : (Try.prog.info? 40).map (·.size) = some 1 := by kernel_rfl
theorem is42 : (Try.prog.underlying 42).isSome = true := by kernel_rfl
theorem sz42 : (Try.prog.info? 42).map (·.size) = some 1 := by kernel_rfl
theorem zz42 (W : World) : (zeroValue 42).run Try.prog W = .ok (.slice none 0 0) W := by kernel_rfl
theorem te42 : Elem Try.prog 42 47 (.agg #[.string ⟨#[]⟩, .string ⟨#[]⟩, .int .i64 0, .int .u8 0, .int .u8 0, .int .u8 0, .int .u8 0, .int .u8 0, .int .u8 0, .int .u8 0, .int .u8 0, .int .u8 0, .int .u8 0, .int .u8 0, .int .u8 0, .int .u8 0, .int .u8 0, .int .u8 0, .int .u8 0, .int .u8 0, .int .u8 0, .int .u8 0, .int .u8 0, .int .u8 0, .int .u8 0, .int .u8 0, .int .u8 0, .int .u8 0, .int .u8 0, .int .u8 0, .int .u8 0, .int .u8 0, .int .u8 0, .int .u8 0, .int .u8 0, .string ⟨#[]⟩, .int .i64 0, .int .u8 0, .int .u8 0, .int .u8 0, .int .u8 0, .int .u8 0, .int .u8 0, .int .u8 0, .int .u8 0, .int .u8 0, .int .u8 0, .int .u8 0, .int .u8 0, .int .u8 0, .int .u8 0, .int .u8 0, .int .u8 0, .int .u8 0, .int .u8 0, .int .u8 0, .int .u8 0, .int .u8 0, .int .u8 0, .int .u8 0, .int .u8 0, .int .u8 0, .int .u8 0, .int .u8 0, .int .u8 0, .int .u8 0, .int .u8 0, .int .u8 0, .int .u8 0, .bool false, .bool false]) 71 136 := ⟨Try.underlying42, by kernel_rfl, rfl, by decide⟩
theorem is44 : (Try.prog.underlying 44).isSome = true := by kernel_rfl
theorem sz44 : (Try.prog.info? 44).map (·.size) = some 1 := by kernel_rfl
theorem zz44 (W : World) : (zeroValue 44).run Try.prog W = .ok (.slice none 0 0) W := by kernel_rfl
theorem te44 : Elem Try.prog 44 9 (.string ⟨#[]⟩) 1 16 := ⟨Try.underlying44, by kernel_rfl, rfl, by decide⟩
theorem is47 : (Try.prog.underlying 47).isSome = true := by kernel_rfl
theorem sz47 : (Try.prog.info? 47).map (·.size) = some 71 := by kernel_rfl
theorem zz47 (W : World) : (zeroValue 47).run Try.prog W = .ok (.agg #[.string ⟨#[]⟩, .string ⟨#[]⟩, .int .i64 0, .int .u8 0, .int .u8 0, .int .u8 0, .int .u8 0, .int .u8 0, .int .u8 0, .int .u8 0, .int .u8 0, .int .u8 0, .int .u8 0, .int .u8 0, .int .u8 0, .int .u8 0, .int .u8 0, .int .u8 0, .int .u8 0, .int .u8 0, .int .u8 0, .int .u8 0, .int .u8 0, .int .u8 0, .int .u8 0, .int .u8 0, .int .u8 0, .int .u8 0, .int .u8 0, .int .u8 0, .int .u8 0, .int .u8 0, .int .u8 0, .int .u8 0, .int .u8 0, .string ⟨#[]⟩, .int .i64 0, .int .u8 0, .int .u8 0, .int .u8 0, .int .u8 0, .int .u8 0, .int .u8 0, .int .u8 0, .int .u8 0, .int .u8 0, .int .u8 0, .int .u8 0, .int .u8 0, .int .u8 0, .int .u8 0, .int .u8 0, .int .u8 0, .int .u8 0, .int .u8 0, .int .u8 0, .int .u8 0, .int .u8 0, .int .u8 0, .int .u8 0, .int .u8 0, .int .u8 0, .int .u8 0, .int .u8 0, .int .u8 0, .int .u8 0, .int .u8 0, .int .u8 0, .int .u8 0, .bool false, .bool false]) W := by kernel_rfl
theorem is49 : (Try.prog.underlying 49).isSome = true := by kernel_rfl
theorem sz49 : (Try.prog.info? 49).map (·.size) = some 1 := by kernel_rfl
theorem is51 : (Try.prog.underlying 51).isSome = true := by kernel_rfl
theorem sz51 : (Try.prog.info? 51).map (·.size) = some 1 := by kernel_rfl
theorem is56 : (Try.prog.underlying 56).isSome = true := by kernel_rfl
theorem sz56 : (Try.prog.info? 56).map (·.size) = some 1 := by kernel_rfl
theorem zz56 (W : World) : (zeroValue 56).run Try.prog W = .ok (.nilFunc) W := by kernel_rfl
theorem is57 : (Try.prog.underlying 57).isSome = true := by kernel_rfl
theorem sz57 : (Try.prog.info? 57).map (·.size) = some 1 := by kernel_rfl
theorem zz57 (W : World) : (zeroValue 57).run Try.prog W = .ok (.map none) W := by kernel_rfl
theorem is62 : (Try.prog.underlying 62).isSome = true := by kernel_rfl
theorem sz62 : (Try.prog.info? 62).map (·.size) = some 1 := by kernel_rfl
theorem zz62 (W : World) : (zeroValue 62).run Try.prog W = .ok (.nilFunc) W := by kernel_rfl
theorem is63 : (Try.prog.underlying 63).isSome = true := by kernel_rfl
theorem sz63 : (Try.prog.info? 63).map (·.size) = some 1 := by kernel_rfl
theorem zz63 (W : World) : (zeroValue 63).run Try.prog W = .ok (.nilFunc) W := by kernel_rfl
theorem is64 : (Try.prog.underlying 64).isSome = true := by kernel_rfl
theorem sz64 : (Try.prog.info? 64).map (·.size) = some 1 := by kernel_rfl
theorem zz64 (W : World) : (zeroValue 64).run Try.prog W = .ok (.nilFunc) W := by kernel_rfl
theorem is66 : (Try.prog.underlying 66).isSome = true := by kernel_rfl
theorem sz66 : (Try.prog.info? 66).map (·.size) = some 1 := by kernel_rfl
theorem is72 : (Try.prog.underlying 72).isSome = true := by kernel_rfl
theorem sz72 : (Try.prog.info? 72).map (·.size) = some 1 := by kernel_rfl
theorem zz72 (W : World) : (zeroValue 72).run Try.prog W = .ok (.nilFunc) W := by kernel_rfl
theorem is73 : (Try.prog.underlying 73).isSome = true := by kernel_rfl
theorem sz73 : (Try.prog.info? 73).map (·.size) = some 1 := by kernel_rfl
theorem zz73 (W : World) : (zeroValue 73).run Try.prog W = .ok (.nilFunc) W := by kernel_rfl
theorem is74 : (Try.prog.underlying 74).isSome = true := by kernel_rfl
theorem sz74 : (Try.prog.info? 74).map (·.size) = some 1 := by kernel_rfl
theorem is76 : (Try.prog.underlying 76).isSome = true := by kernel_rfl
theorem sz76 : (Try.prog.info? 76).map (·.size) = some 1 := by kernel_rfl
theorem is81 : (Try.prog.underlying 81).isSome = true := by kernel_rfl
theorem sz81 : (Try.prog.info? 81).map (·.size) = some 1 := by kernel_rfl
theorem zz81 (W : World) : (zeroValue 81).run Try.prog W = .ok (.int .u64 0) W := by kernel_rfl
end Go.Proofs.Ytmgimcdkeelnpaa

/-
  Regions that draw their order and make two variables in either order. General; nothing here names a program.
-/
namespace Go.Proofs.Ytmgimcdkeelnpaa.Zx
open Go.RowKit Zk
set_option linter.unusedVariables false
set_option linter.unusedSimpArgs false

theorem St.perm {w0 w : World} {M : Nat → Prop} {rs rs' : List Res} (S : St w0 M rs w) (h : rs.Perm rs') : St w0 M rs' w :=
  ⟨S.os, S.tape, S.output, S.size, S.old, fun r hr => S.res r (h.mem_iff.2 hr), (h.pairwise_iff (by intro a b hab i hi hj; exact hab i hj hi)).1 S.apart⟩
section
variable {P : Program} {N : Nat} {Q : Post} {env : Env} {w w0 : World} {M : Nat → Prop} {rs : List Res} {S : World → Prop} {ops : Array Oper} {listed : Array Bool} {fuel : Nat}
theorem y_of {o : Oper} {v : Value} (h : ∀ w, S w → Y P (Like w) env o v) : Y P S env o v := fun N a w' ha hw => h w' hw N a w' ha (Like.refl w')
def DX (P : Program) (N : Nat) (ops : Array Oper) (Q : Post) (S : World → Prop) (listed : Array Bool) (fuel : Nat) (env : Env) (w : World) : Prop :=
  Region.noSelect ops = true → S w → ∀ a, Fits N env a → wpAnyH P .any ops (lift N Q) S fuel listed a w
theorem T_drawnX {id : Nat} {l : List Oper} (S : World → Prop) (hm : P.follows .mixedOrders = true) (hB : Region.noSelect l.toArray = true) (hS : ∀ w1, Like w w1 → S w1)
    (h : ∀ w1, Like w w1 → DX P N l.toArray Q S (Array.replicate l.toArray.size false) l.toArray.size env w1) : T P N (.region id l.toArray true) Q env w := fun a ha =>
  wp_region_held hm (h _ (Like.drew w) hB (hS _ (Like.drew w)) a ha)
theorem DX_y {d : Tmp} {op : Op} {ty : TypeId} {pos : String} {after : Array Edge} {v : Value} (i : Nat) (hr : ((Region.ready .any ops listed).contains i && Region.free .any ops listed i) = true) (hi : ops[i]? = some ⟨some d, op, ty, pos, after, none⟩)
    (hy : Y P S env ⟨some d, op, ty, pos, after, none⟩ v) (hd : Nat.blt d N = true) (h : DX P N ops Q S (listed.setIfInBounds i true) fuel ((d, v) :: env) w) : DX P N ops Q S listed (fuel + 1) env w := fun hs hS a ha => by
  simp only [Bool.and_eq_true] at hr
  exact wpAnyH_take hi hs hr.2 hr.1 (fun c a w hq => hq.elim) (.inl ⟨by simp [Region.wanted], fun w hw => hy N a w ha hw⟩) hS (h hs hS _ (ha.put d v hd))
theorem DX_DL (order : List (Nat × Bool)) (hB : ordB ops fuel listed order = true) (h : DL P N ops Q S order env w) : DX P N ops Q S listed fuel env w := fun hs hS a ha => h hs hS a ha fuel listed hB
theorem sub_swap {d1 d2 : Nat} (v1 v2 : Value) (hne : d1 ≠ d2) (h1 : Nat.blt d1 1000000 = true) (h2 : Nat.blt d2 1000000 = true) : Sub ((d2, v2) :: (d1, v1) :: env) ((d1, v1) :: (d2, v2) :: env) := by
  have e1 : d1 < 1000000 := by rw [← Nat.blt_eq]; exact h1
  have e2 : d2 < 1000000 := by rw [← Nat.blt_eq]; exact h2
  have f1 : Nat.beq d1 1000000 = false := by cases h : Nat.beq d1 1000000; rfl; have := Nat.eq_of_beq_eq_true h; omega
  have f2 : Nat.beq d2 1000000 = false := by cases h : Nat.beq d2 1000000; rfl; have := Nat.eq_of_beq_eq_true h; omega
  refine ⟨?_, fun i v h => ?_⟩
  · simp only [dfs, f1, f2, cond_false]
  · simp only [look, f1, f2, cond_false] at h ⊢
    cases h1 : Nat.beq d1 i <;> cases h2 : Nat.beq d2 i <;> simp only [h1, h2, cond_false, cond_true] at h ⊢ <;> first | exact h | (have := Nat.eq_of_beq_eq_true h1; have := Nat.eq_of_beq_eq_true h2; omega)
/-- Two variables, made in either order. -/
theorem DX_allocs {d1 d2 : Tmp} {t1 t2 : TypeId} {z1 z2 : Value} {ty1 ty2 : TypeId} {pos1 pos2 : String} {after1 after2 : Array Edge} (i j : Nat)
    (hr : Region.ready .any ops listed = [i, j]) (hri : Region.ready .any ops (listed.setIfInBounds i true) = [j]) (hrj : Region.ready .any ops (listed.setIfInBounds j true) = [i])
    (hi : ops[i]? = some ⟨some d1, .alloc t1, ty1, pos1, after1, none⟩) (hj : ops[j]? = some ⟨some d2, .alloc t2, ty2, pos2, after2, none⟩) (hij : i ≠ j) (hdd : d1 ≠ d2) (h1 : Nat.blt d1 1000000 = true) (h2 : Nat.blt d2 1000000 = true)
    (hz1 : ∀ W, (zeroValue t1).run P W = .ok z1 W) (hz2 : ∀ W, (zeroValue t2).run P W = .ok z2 W) (S0 : St w0 M rs w) (hd1 : Nat.blt d1 N = true) (hd2 : Nat.blt d2 N = true) (hS : ∀ w', St w0 M rs w' → S w')
    (h : ∀ b1 b2 w', w0.heap.size ≤ b1 → w0.heap.size ≤ b2 → St w0 M (rs ++ [blk b1 t1 z1.cells] ++ [blk b2 t2 z2.cells]) w' →
      DX P N ops Q S ((listed.setIfInBounds i true).setIfInBounds j true) fuel ((d2, .pointer (some ⟨b2, 0, none⟩)) :: (d1, .pointer (some ⟨b1, 0, none⟩)) :: env) w') :
    DX P N ops Q S listed (fuel + 2) env w := fun hs hSw a ha => by
  have sub1 : ∀ (r : Res), rs.Sublist (rs ++ [r]) := fun r => List.sublist_append_left _ _
  refine wpAnyH_all hr (by simp) fun q hq => ?_
  have hq' : q = i ∨ q = j := by simpa using hq
  rcases hq' with rfl | rfl
  · unfold wpOp
    simp only [hi, Region.wanted, if_true]
    refine .inl (Oper.wp_mono (fun a' w' ⟨e', h3, b1, hb1, SS, he'⟩ => ?_) ((o_alloc (K := fun e' w' => ∃ b1, w0.heap.size ≤ b1 ∧ St w0 M (rs ++ [blk b1 t1 z1.cells]) w' ∧ e' = (d1, .pointer (some ⟨b1, 0, none⟩)) :: env) hz1 S0 hd1 fun b w' hb SS => ⟨b, hb, SS, rfl⟩) a ha))
    subst he'
    refine ⟨hS _ (SS.drop (sub1 _)), ?_⟩
    refine wpAnyH_all hri (by simp) fun q' hq' => ?_
    obtain rfl := List.mem_singleton.1 hq'
    unfold wpOp
    simp only [hj, Region.wanted, if_true]
    refine .inl (Oper.wp_mono (fun a2 w2 ⟨e2, h4, b2, hb2, SS2, he2⟩ => ?_) ((o_alloc (K := fun e2 w2 => ∃ b2, w0.heap.size ≤ b2 ∧ St w0 M (rs ++ [blk b1 t1 z1.cells] ++ [blk b2 t2 z2.cells]) w2 ∧ e2 = (d2, .pointer (some ⟨b2, 0, none⟩)) :: (d1, .pointer (some ⟨b1, 0, none⟩)) :: env) hz2 SS hd2 fun b w' hb SS => ⟨b, hb, SS, rfl⟩) a' h3))
    subst he2
    have hS2 : S w2 := hS _ ((SS2.drop (sub1 _ |>.trans (List.sublist_append_left _ _))))
    exact ⟨hS2, h b1 b2 w2 hb1 hb2 SS2 hs hS2 a2 h4⟩
  · unfold wpOp
    simp only [hj, Region.wanted, if_true]
    refine .inl (Oper.wp_mono (fun a' w' ⟨e', h3, b2, hb2, SS, he'⟩ => ?_) ((o_alloc (K := fun e' w' => ∃ b2, w0.heap.size ≤ b2 ∧ St w0 M (rs ++ [blk b2 t2 z2.cells]) w' ∧ e' = (d2, .pointer (some ⟨b2, 0, none⟩)) :: env) hz2 S0 hd2 fun b w' hb SS => ⟨b, hb, SS, rfl⟩) a ha))
    subst he'
    refine ⟨hS _ (SS.drop (sub1 _)), ?_⟩
    refine wpAnyH_all hrj (by simp) fun q' hq' => ?_
    obtain rfl := List.mem_singleton.1 hq'
    unfold wpOp
    simp only [hi, Region.wanted, if_true]
    refine .inl (Oper.wp_mono (fun a2 w2 ⟨e2, h4, b1, hb1, SS2, he2⟩ => ?_) ((o_alloc (K := fun e2 w2 => ∃ b1, w0.heap.size ≤ b1 ∧ St w0 M (rs ++ [blk b2 t2 z2.cells] ++ [blk b1 t1 z1.cells]) w2 ∧ e2 = (d1, .pointer (some ⟨b1, 0, none⟩)) :: (d2, .pointer (some ⟨b2, 0, none⟩)) :: env) hz1 SS hd1 fun b w' hb SS => ⟨b, hb, SS, rfl⟩) a' h3))
    subst he2
    have hS2 : S w2 := hS _ ((SS2.drop (sub1 _ |>.trans (List.sublist_append_left _ _))))
    refine ⟨hS2, ?_⟩
    have := h b1 b2 w2 hb1 hb2 (SS2.perm (by
      rw [List.append_assoc, List.append_assoc]
      exact List.Perm.append_left _ (List.Perm.swap _ _ _))) hs hS2 a2 (h4.sub (sub_swap _ _ hdd h1 h2))
    rwa [Array.setIfInBounds_comm _ _ hij] at this
end
end Go.Proofs.Ytmgimcdkeelnpaa.Zx

/-
  Maps whose keys are bytes in arrays; families of pieces; a choice of pieces. General; nothing here names a program.
-/
namespace Go.Proofs.Ytmgimcdkeelnpaa.Zx
open Go.RowKit Zk
set_option linter.unusedVariables false
set_option linter.unusedSimpArgs false
section
variable {w w0 : World} {M : Nat → Prop} {rs : List Res}
/-- Pieces, chosen by their numbers. -/
theorem St.sel (S : St w0 M rs w) (ix : List Nat) (hnd : ix.Nodup) : St w0 M (ix.filterMap (rs[·]?)) w := by
  refine ⟨S.os, S.tape, S.output, S.size, S.old, fun r hr => ?_, ?_⟩
  · obtain ⟨i, _, hi⟩ := List.mem_filterMap.1 hr
    exact S.res r (List.mem_of_getElem? hi)
  · rw [List.pairwise_filterMap]
    refine List.Pairwise.imp ?_ hnd
    intro i j hij a ha b hb x hx hy
    have hp := List.pairwise_iff_getElem.1 S.apart
    obtain ⟨h1, h2⟩ := List.getElem?_eq_some_iff.1 ha
    obtain ⟨h3, h4⟩ := List.getElem?_eq_some_iff.1 hb
    rcases Nat.lt_or_gt_of_ne hij with h | h
    · exact hp i j h1 h3 h x (by rw [h2]; exact hx) (by rw [h4]; exact hy)
    · exact hp j i h3 h1 h x (by rw [h4]; exact hy) (by rw [h2]; exact hx)
/-- Many pieces as one. -/
def fam (L : List Res) : Res where
  dom i := ∃ r ∈ L, r.dom i
  holds w := (∀ r ∈ L, r.holds w) ∧ L.Pairwise fun (r s : Res) => ∀ i, r.dom i → ¬ s.dom i
  stable w w' h hh := ⟨fun r hr => r.stable w w' (fun i hi => h i ⟨r, hr, hi⟩) (hh.1 r hr), hh.2⟩
theorem St.fam0 (S : St w0 M rs w) : St w0 M (rs ++ [fam []]) w := by
  refine ⟨S.os, S.tape, S.output, S.size, S.old, fun r hr => ?_, ?_⟩
  · rcases List.mem_append.1 hr with hr | hr
    · exact S.res r hr
    · obtain rfl := List.mem_singleton.1 hr
      exact ⟨⟨fun r hr => (List.not_mem_nil hr).elim, List.Pairwise.nil⟩, fun i ⟨r, hr, _⟩ => (List.not_mem_nil hr).elim⟩
  · rw [List.pairwise_append]
    exact ⟨S.apart, List.pairwise_singleton _ _, fun a _ b hb i _ hi => by
      obtain rfl := List.mem_singleton.1 hb
      obtain ⟨r, hr, _⟩ := hi
      cases hr⟩
theorem St.famIn {L1 L2 : List Res} {r : Res} (S : St w0 M (rs ++ [fam (L1 ++ L2), r]) w) : St w0 M (rs ++ [fam (L1 ++ r :: L2)]) w := by
  have hap := S.apart
  rw [List.pairwise_append] at hap
  obtain ⟨a1, a2, a3⟩ := hap
  have hfr := (List.pairwise_cons.1 a2).1 r (by simp)
  have hf := S.res (fam (L1 ++ L2)) (by simp)
  have hr := S.res r (by simp)
  refine ⟨S.os, S.tape, S.output, S.size, S.old, fun q hq => ?_, ?_⟩
  · rcases List.mem_append.1 hq with hq | hq
    · exact S.res q (by simp [hq])
    · obtain rfl := List.mem_singleton.1 hq
      refine ⟨⟨fun q hq => ?_, ?_⟩, fun i ⟨q, hq, hi⟩ => ?_⟩
      · rcases List.mem_append.1 hq with h | h
        · exact hf.1.1 q (by simp [h])
        · rcases List.mem_cons.1 h with rfl | h
          · exact hr.1
          · exact hf.1.1 q (by simp [h])
      · have h2 := hf.1.2
        rw [List.pairwise_append] at h2 ⊢
        refine ⟨h2.1, List.pairwise_cons.2 ⟨fun q hq i hi hqi => hfr i ⟨q, by simp [hq], hqi⟩ hi, h2.2.1⟩, fun a ha b hb i hi hbi => ?_⟩
        rcases List.mem_cons.1 hb with rfl | hb
        · exact hfr i ⟨a, by simp [ha], hi⟩ hbi
        · exact h2.2.2 a ha b hb i hi hbi
      · rcases List.mem_append.1 hq with h | h
        · exact hf.2 i ⟨q, by simp [h], hi⟩
        · rcases List.mem_cons.1 h with rfl | h
          · exact hr.2 i hi
          · exact hf.2 i ⟨q, by simp [h], hi⟩
  · rw [List.pairwise_append]
    refine ⟨a1, List.pairwise_singleton _ _, fun a ha b hb i hi hbi => ?_⟩
    obtain rfl := List.mem_singleton.1 hb
    obtain ⟨q, hq, hqi⟩ := hbi
    rcases List.mem_append.1 hq with h | h
    · exact a3 a ha (fam (L1 ++ L2)) (by simp) i hi ⟨q, by simp [h], hqi⟩
    · rcases List.mem_cons.1 h with rfl | h
      · exact a3 a ha q (by simp) i hi hqi
      · exact a3 a ha (fam (L1 ++ L2)) (by simp) i hi ⟨q, by simp [h], hqi⟩
theorem St.famOut {L1 L2 : List Res} {r : Res} (S : St w0 M (rs ++ [fam (L1 ++ r :: L2)]) w) : St w0 M (rs ++ [fam (L1 ++ L2), r]) w := by
  have hap := S.apart
  rw [List.pairwise_append] at hap
  obtain ⟨a1, _, a3⟩ := hap
  have hf := S.res (fam (L1 ++ r :: L2)) (by simp)
  have hp := hf.1.2
  rw [List.pairwise_append, List.pairwise_cons] at hp
  have hsub : ∀ q, q ∈ L1 ++ L2 → q ∈ L1 ++ r :: L2 := fun q hq => by
    rcases List.mem_append.1 hq with h | h
    · simp [h]
    · simp [h]
  have hfr : ∀ i, (fam (L1 ++ L2)).dom i → ¬ r.dom i := fun i ⟨q, hq, hqi⟩ hri => by
    rcases List.mem_append.1 hq with h | h
    · exact hp.2.2 q h r (by simp) i hqi hri
    · exact hp.2.1.1 q h i hri hqi
  refine ⟨S.os, S.tape, S.output, S.size, S.old, fun q hq => ?_, ?_⟩
  · rcases List.mem_append.1 hq with hq | hq
    · exact S.res q (by simp [hq])
    · rcases List.mem_cons.1 hq with rfl | hq
      · refine ⟨⟨fun q hq => hf.1.1 q (hsub q hq), ?_⟩, fun i ⟨q, hq, hi⟩ => hf.2 i ⟨q, hsub q hq, hi⟩⟩
        rw [List.pairwise_append]
        exact ⟨hp.1, hp.2.1.2, fun a ha b hb => hp.2.2 a ha b (by simp [hb])⟩
      · obtain rfl := List.mem_singleton.1 hq
        exact ⟨hf.1.1 q (by simp), fun i hi => hf.2 i ⟨q, by simp, hi⟩⟩
  · rw [List.pairwise_append]
    refine ⟨a1, List.pairwise_cons.2 ⟨fun b hb => by rw [List.mem_singleton.1 hb]; exact hfr, List.pairwise_singleton _ _⟩, fun a ha b hb i hi hbi => ?_⟩
    rcases List.mem_cons.1 hb with rfl | hb
    · obtain ⟨q, hq, hqi⟩ := hbi
      exact a3 a ha (fam (L1 ++ r :: L2)) (by simp) i hi ⟨q, hsub q hq, hqi⟩
    · rw [List.mem_singleton.1 hb] at hbi
      exact a3 a ha (fam (L1 ++ r :: L2)) (by simp) i hi ⟨r, by simp, hbi⟩
end
section
variable {P : Program}
theorem run_equalB {t e : TypeId} {n : Nat} (ht : P.underlying t = some (.array n e)) (he : P.underlying e = some (.int .u8)) (hs : (P.info? e).map (·.size) = some 1) (a b : List UInt8) (ha : a.length = n) (hb : b.length = n) (w : World) :
    (Op.equal t (.agg (bA a)) (.agg (bA b))).run P w = .ok (a == b) w := by
  unfold Op.equal
  exact run_equalIn_bytes w 9998 ht he hs a b ha hb _ _ (bA_get a) (bA_get b)
theorem run_checkB {t e : TypeId} {n : Nat} (ht : P.underlying t = some (.array n e)) (he : P.underlying e = some (.int .u8)) (hs : (P.info? e).map (·.size) = some 1) (a : List UInt8) (ha : a.length = n) (w : World) (b : Bool) :
    (Instr.checkKey b 10000 t (.agg (bA a))).run P w = .ok () w := by
  have hel : ∀ v, (Instr.checkKey b 9999 e v).run P w = .ok () w := fun v => by
    unfold Instr.checkKey
    simp only [Sem.run_bind, run_underlying he, Result.andThen_ok]
    rfl
  have hsz : (sizeOf e).run P w = .ok 1 w := sizeOf_run hs w
  have hpart : ∀ i, i < n → ∃ v, (part e (bA a) (i * 1)).run P w = .ok v w := fun i hi => by
    have hg : (bA a)[i]? = some (.int .u8 (a[i].toNat : Int)) := bA_get a i _ (List.getElem?_eq_getElem (by omega))
    have hagg : (isAgg e).run P w = .ok false w := by
      unfold isAgg
      rw [Sem.run_bind, run_underlying he w]
      rfl
    exact ⟨.int .u8 (a[i].toNat : Int), by simp [part, Sem.run_bind, hagg, hg]⟩
  have key : ∀ (m s : Nat), s + m ≤ n → (forIn (m := Sem) (List.range' s m) PUnit.unit fun i _ => do
      Instr.checkKey b 9999 e (← part e (bA a) (i * (← sizeOf e)))
      pure (ForInStep.yield PUnit.unit)).run P w = .ok PUnit.unit w := by
    intro m
    induction m with
    | zero => intro s _; simp
    | succ m ih =>
      intro s hs
      obtain ⟨v, hv⟩ := hpart s (by omega)
      simp only [List.range'_succ, List.forIn_cons, Sem.run_bind, hsz, Result.andThen_ok, hv, hel, Sem.run_pure]
      exact ih (s + 1) (by omega)
  unfold Instr.checkKey
  simp only [Sem.run_bind, run_underlying ht, Result.andThen_ok]
  have h := key n 0 (by omega)
  rw [Std.Legacy.Range.forIn_eq_forIn_range']
  have hr : [:n].size = n := by simp [Std.Legacy.Range.size]
  rw [hr]
  rw [h]
  rfl

/-- The entries of a map whose keys are bytes, in the order in which they came. -/
def entB (D : List (List UInt8 × Value)) : List MapEntry := D.zipIdx.map fun p => ⟨.agg (bA p.1.1), p.1.2, p.2⟩
theorem entB_len (D : List (List UInt8 × Value)) : (entB D).length = D.length := by simp [entB]
theorem entB_get (D : List (List UInt8 × Value)) (i : Nat) : (entB D)[i]? = D[i]?.map fun p => ⟨.agg (bA p.1), p.2, i⟩ := by
  unfold entB
  rw [List.getElem?_map, List.getElem?_zipIdx, Option.map_map]
  cases D[i]? <;> simp
/-- Where a key stands. -/
def posB (a : List UInt8) : List (List UInt8 × Value) → Nat → Option (Nat × Value)
  | [], _ => none
  | p :: r, i => if a == p.1 then some (i, p.2) else posB a r (i + 1)
theorem posB_some {a : List UInt8} : ∀ {D : List (List UInt8 × Value)} {i j : Nat} {v : Value}, posB a D i = some (j, v) → i ≤ j ∧ D[j - i]? = some (a, v)
  | [], i, j, v, h => by cases h
  | p :: r, i, j, v, h => by
    unfold posB at h
    split at h
    · rename_i e
      cases h
      have e2 : a = p.1 := by simpa using e
      refine ⟨Nat.le_refl _, ?_⟩
      rw [Nat.sub_self, e2]
      rfl
    · obtain ⟨h1, h2⟩ := posB_some h
      refine ⟨by omega, ?_⟩
      rw [show j - i = j - (i + 1) + 1 by omega, List.getElem?_cons_succ]
      exact h2
theorem posB_none {a : List UInt8} : ∀ {D : List (List UInt8 × Value)} {i : Nat}, posB a D i = none → ∀ p ∈ D, p.1 ≠ a
  | [], i, h => by intro p hp; cases hp
  | q :: r, i, h => by
    unfold posB at h
    split at h
    · cases h
    · rename_i e
      intro p hp
      rcases List.mem_cons.1 hp with rfl | hp
      · intro e2; exact e (by simp [e2])
      · exact posB_none h p hp
theorem findNow_arr {n : Nat} {e : TypeId} (a : List UInt8) (m : MapEntry) (es : List MapEntry) (i : Nat) : Instr.findNow (.array n e) (.agg (bA a)) (m :: es) i = none := rfl
theorem run_asking {t e : TypeId} {n : Nat} (ht : P.underlying t = some (.array n e)) (he : P.underlying e = some (.int .u8)) (hs : (P.info? e).map (·.size) = some 1) (a : List UInt8) (ha : a.length = n) (w : World) :
    ∀ (D : List (List UInt8 × Value)) (i : Nat), (∀ p ∈ D, p.1.length = n) → ∀ es : List MapEntry, es.map (fun m => (m.key, m.val)) = D.map (fun p => (.agg (bA p.1), p.2)) → (Instr.findAsking t (.agg (bA a)) es i).run P w = .ok (posB a D i) w
  | [], i, _, es, h => by
    have : es = [] := by simpa using h
    subst this
    rfl
  | p :: D, i, hD, es, h => by
    cases es with
    | nil => cases h
    | cons m es =>
      simp only [List.map_cons, List.cons.injEq, Prod.mk.injEq] at h
      obtain ⟨⟨h1, h2⟩, h3⟩ := h
      unfold Instr.findAsking posB
      rw [h1, Sem.run_bind, run_equalB ht he hs a p.1 ha (hD p (by simp)) w, Result.andThen_ok]
      cases hap : a == p.1 with
      | true => simp [h2]
      | false =>
        simp only [Bool.false_eq_true, if_false]
        exact run_asking ht he hs a ha w D (i + 1) (fun q hq => hD q (by simp [hq])) es h3
theorem run_findB {t e : TypeId} {n : Nat} (ht : P.underlying t = some (.array n e)) (he : P.underlying e = some (.int .u8)) (hs : (P.info? e).map (·.size) = some 1) (a : List UInt8) (ha : a.length = n) (w : World) (D : List (List UInt8 × Value)) (hD : ∀ p ∈ D, p.1.length = n) :
    (Instr.findKey t (.agg (bA a)) (entB D)).run P w = .ok (posB a D 0) w := by
  have hk := run_asking ht he hs a ha w D 0 hD (entB D) (by
    unfold entB
    rw [List.map_map]
    apply List.ext_getElem?
    intro i
    rw [List.getElem?_map, List.getElem?_map, List.getElem?_zipIdx]
    cases D[i]? <;> simp)
  unfold Instr.findKey
  simp only [Sem.run_bind, run_underlying ht, Result.andThen_ok]
  cases D with
  | nil => rfl
  | cons p D =>
    rw [show entB (p :: D) = ⟨.agg (bA p.1), p.2, 0⟩ :: (entB (p :: D)).tail from rfl, findNow_arr]
    exact hk
def mapB (n b : Nat) (D : List (List UInt8 × Value)) : Res where
  dom i := i = b
  holds w := w.heap[b]? = some (.map (entB D).toArray D.length) ∧ ∀ p ∈ D, p.1.length = n
  stable w w' h hh := ⟨(h b rfl).trans hh.1, hh.2⟩
def getB (a : List UInt8) (D : List (List UInt8 × Value)) (z : Value) : Value := (posB a D 0).elim z (·.2)
end
section
variable {P : Program} {N : Nat} {Q : Post} {env : Env} {w w0 : World} {M : Nat → Prop} {rs : List Res} {K : Env → World → Prop} {d : Tmp} {ty : TypeId} {pos : String} {after : Array Edge} {g : Option (Nat × Bool)} {dst : Option Tmp}
theorem getM {r : Nat} {es : Array MapEntry} {clock : Nat} (hb : w.heap[r]? = some (.map es clock)) : (getObj r).run P w = .ok (.map es clock) w := by
  simp [getObj, Sem.run, hb]
theorem setM {r : Nat} {es : Array MapEntry} {clock : Nat} (o : Obj) (hb : w.heap[r]? = some (.map es clock)) : (setObj r o).run P w = .ok () { w with heap := w.heap.setIfInBounds r o } := by
  simp [setObj, Sem.run, hb]
theorem y_lookB {t k e u : TypeId} {n b : Nat} {D : List (List UInt8 × Value)} {m x : Operand} {a : List UInt8} {z : Value} (hw : (mapB n b D).holds w) (ht : P.underlying t = some (.map k e)) (hk : P.underlying k = some (.array n u)) (hu : P.underlying u = some (.int .u8)) (hs : (P.info? u).map (·.size) = some 1)
    (hz : ∀ W, (zeroValue e).run P W = .ok z W) (hm : ev env m = some (.map (some b))) (hx : ev env x = some (.agg (bA a))) (ha : a.length = n) :
    Y P (Like w) env ⟨dst, .lookup t m x false, ty, pos, after, g⟩ (getB a D z) := fun N c w' hc hl => by
  have hh : w'.heap[b]? = some (.map (entB D).toArray D.length) := by
    have hb : b < w.heap.size := by
      rcases Nat.lt_or_ge b w.heap.size with q | q
      · exact q
      · have := hw.1; rw [Array.getElem?_eq_none q] at this; cases this
    rw [hl.block b hb]; exact hw.1
  have hf := run_findB (P := P) hk hu hs a ha w' D hw.2
  simp only [execOp, hc.eval hm, hc.eval hx, Instr.lookup, Sem.run_bind, run_underlying ht, Result.andThen_ok, getM hh, Sem.run_pure, run_checkB hk hu hs a ha w', hf]
  unfold getB
  cases posB a D 0 with
  | none => simp [hz]
  | some p => rfl
theorem o_makeMapB {t n : Nat} (S : St w0 M rs w) (hd : Nat.blt d N = true)
    (h : ∀ b w', w0.heap.size ≤ b → St w0 M (rs ++ [mapB n b []]) w' → K ((d, .map (some b)) :: env) w') :
    O P N Q ⟨some d, .makeMap t none, ty, pos, after, g⟩ env w K := fun a ha => by
  unfold Oper.wp execOp
  simp only [run_makeMap, Option.map_none, Sem.run_bind, Sem.run_pure, Result.andThen_ok]
  refine ⟨_, ha.put d _ hd, h _ _ S.size (S.new (like_alloc w _) _ ⟨heap_alloc_new w _, fun p hp => by cases hp⟩ fun i hi => ?_)⟩
  have hi' : i = w.heap.size := hi
  subst hi'
  exact ⟨Nat.le_refl _, by simp⟩
theorem set_map_other (w : World) (b : Nat) (o : Obj) (i : Nat) (h : i ≠ b) : ({ w with heap := w.heap.setIfInBounds b o } : World).heap[i]? = w.heap[i]? := by
  show (w.heap.setIfInBounds b o)[i]? = _
  rw [Array.getElem?_setIfInBounds_ne (Ne.symm h)]
theorem same_bits (a : List UInt8) : Instr.sameBits 10000 (.agg (bA a)) (.agg (bA a)) = true := by
  unfold Instr.sameBits
  simp only [BEq.rfl, Bool.true_and]
  rw [List.all_eq_true]
  intro p hp
  obtain ⟨i, hi, rfl⟩ := List.getElem_of_mem hp
  rw [List.getElem_zip]
  have h1 : i < (bA a).toList.length := by rw [List.length_zip] at hi; omega
  have hx : (bA a).toList[i] = .int .u8 ((a[i]'(by simpa [bA, bL] using h1)).toNat : Int) := by simp [bA, bL, bV]
  rw [hx]
  simp [Instr.sameBits]
/-- 'm[k]' as a place: what stood there, and its mark. -/
theorem o_entryB {t k e u : TypeId} {n b : Nat} {D : List (List UInt8 × Value)} {m x : Operand} {a : List UInt8} {z : Value} (S : St w0 M rs w) (j : Nat) (hj : rs[j]? = some (mapB n b D)) (ht : P.underlying t = some (.map k e)) (hk : P.underlying k = some (.array n u)) (hu : P.underlying u = some (.int .u8)) (hs : (P.info? u).map (·.size) = some 1)
    (hz : ∀ W, (zeroValue e).run P W = .ok z W) (hm : ev env m = some (.map (some b))) (hx : ev env x = some (.agg (bA a))) (ha : a.length = n) (hd : Nat.blt d N = true)
    (h1 : ∀ i v, posB a D 0 = some (i, v) → St w0 M rs w → K ((d, .tuple #[v, .int .i64 (i : Int)]) :: env) w)
    (h2 : posB a D 0 = none → ∀ w', St w0 M (rs.set j (mapB n b (D ++ [(a, z)]))) w' → K ((d, .tuple #[z, .int .i64 (D.length : Int)]) :: env) w') :
    O P N Q ⟨some d, .mapEntry t m x, ty, pos, after, g⟩ env w K := fun c hc => by
  have hw := S.get j hj
  have hf := run_findB (P := P) hk hu hs a ha w D hw.2
  unfold Oper.wp execOp
  simp only [hc.eval hm, hc.eval hx, Instr.mapEntry, Sem.run_bind, run_underlying ht, Result.andThen_ok, getM hw.1, Sem.run_pure, run_checkB hk hu hs a ha w, hf]
  cases hp : posB a D 0 with
  | some p =>
    obtain ⟨i, v⟩ := p
    obtain ⟨_, hi⟩ := posB_some hp
    rw [Nat.sub_zero] at hi
    have hg : (entB D).toArray[i]? = some ⟨.agg (bA a), v, i⟩ := by rw [List.getElem?_toArray, entB_get, hi]; rfl
    have hil := (Array.getElem?_eq_some_iff.1 hg).1
    have hget := (Array.getElem?_eq_some_iff.1 hg).2
    have hmod : ((entB D).toArray.modify i fun e => { e with key := Value.agg (bA a) }) = (entB D).toArray := by
      apply Array.ext_getElem?
      intro q
      rw [Array.getElem?_modify]
      split
      · rename_i e; subst e; rw [hg]; rfl
      · rfl
    have hsame : ({ w with heap := w.heap.setIfInBounds b (.map (entB D).toArray D.length) } : World) = w := by
      have : w.heap.setIfInBounds b (.map (entB D).toArray D.length) = w.heap := by
        apply Array.ext_getElem?
        intro q
        by_cases e : q = b
        · subst e
          have hq : q < w.heap.size := (Array.getElem?_eq_some_iff.1 hw.1).1
          rw [Array.getElem?_setIfInBounds_self_of_lt hq, hw.1]
        · rw [Array.getElem?_setIfInBounds_ne (Ne.symm e)]
      rw [this]
    simp only [hg, Option.map_some, Option.getD_some, Instr.keyThatStays, same_bits, if_true, Sem.run_pure, Sem.run_bind, Result.andThen_ok, hmod, setM _ hw.1, hsame]
    exact ⟨_, hc.put d _ hd, h1 i v hp S⟩
  | none =>
    have hnew : (entB D).toArray.push { key := Value.agg (bA a), val := z, born := D.length } = (entB (D ++ [(a, z)])).toArray := by
      unfold entB
      rw [List.zipIdx_append, List.map_append]
      simp
    simp only [hz, Sem.run_bind, Sem.run_pure, Result.andThen_ok, setM _ hw.1, hnew]
    refine ⟨_, hc.put d _ hd, h2 hp _ (S.upd j hj rfl rfl rfl (by simp) (fun i hi hn => set_map_other w b _ i hn) ⟨?_, fun p hp => ?_⟩ fun i hi => .inl hi)⟩
    · have hq : b < w.heap.size := (Array.getElem?_eq_some_iff.1 hw.1).1
      show (w.heap.setIfInBounds b _)[b]? = _
      rw [Array.getElem?_setIfInBounds_self_of_lt hq, List.length_append]
      rfl
    · rcases List.mem_append.1 hp with hp | hp
      · exact hw.2 p hp
      · obtain rfl := List.mem_singleton.1 hp
        exact ha
/-- What the place gets. -/
theorem o_entryStB {t : TypeId} {n b i : Nat} {D : List (List UInt8 × Value)} {m x v : Operand} {a : List UInt8} {old new : Value} (S : St w0 M rs w) (j : Nat) (hj : rs[j]? = some (mapB n b D)) (hi : D[i]? = some (a, old)) (hm : ev env m = some (.map (some b))) (hx : ev env x = some (.int .i64 (i : Int))) (hv : ev env v = some new)
    (h : ∀ w', St w0 M (rs.set j (mapB n b (D.set i (a, new)))) w' → K env w') :
    O P N Q ⟨none, .entryStore t m x v, ty, pos, after, g⟩ env w K := fun c hc => by
  have hw := S.get j hj
  have hil : i < D.length := (List.getElem?_eq_some_iff.1 hi).1
  have hfind : (entB D).toArray.findIdx? (fun e => ((e.born : Int) == (i : Int))) = some i := by
    rw [Array.findIdx?_eq_some_iff_getElem]
    have hg : ∀ q (hq : q < (entB D).toArray.size), ((entB D).toArray[q]).born = q := fun q hq => by
      have h1 : (entB D).toArray[q]? = some (entB D).toArray[q] := Array.getElem?_eq_getElem hq
      rw [List.getElem?_toArray, entB_get] at h1
      cases hD : D[q]? with
      | none => rw [hD] at h1; cases h1
      | some p => rw [hD] at h1; have h2 := Option.some.inj h1; rw [← h2]
    have hes : (entB D).toArray.size = D.length := by simp [entB_len]
    refine ⟨by omega, by rw [hg i (by omega)]; simp, fun q hq => ?_⟩
    rw [hg q (by omega)]
    simp
    omega
  have hnew : ((entB D).toArray.modify i fun e => { e with val := new }) = (entB (D.set i (a, new))).toArray := by
    apply Array.ext_getElem?
    intro q
    rw [Array.getElem?_modify, List.getElem?_toArray, List.getElem?_toArray, entB_get, entB_get, List.getElem?_set]
    split
    · rename_i e; subst e; first | (rw [if_pos hil, hi]; rfl) | (rw [hi]; rfl)
    · rfl
  have hai : (asInt (.int .i64 (i : Int))).run P w = .ok (i : Int) w := rfl
  unfold Oper.wp execOp
  simp only [hc.eval hm, hc.eval hx, hc.eval hv, Instr.entryStore, Sem.run_bind, getM hw.1, Result.andThen_ok, hai, Sem.run_pure, hfind, setM _ hw.1, hnew]
  refine ⟨env, hc, h _ (S.upd j hj rfl rfl rfl (by simp) (fun i hi hn => set_map_other w b _ i hn) ⟨?_, fun p hp => ?_⟩ fun i hi => .inl hi)⟩
  · have hq : b < w.heap.size := (Array.getElem?_eq_some_iff.1 hw.1).1
    show (w.heap.setIfInBounds b _)[b]? = _
    rw [Array.getElem?_setIfInBounds_self_of_lt hq, List.length_set]
  · rcases List.mem_or_eq_of_mem_set hp with hp | rfl
    · exact hw.2 p hp
    · exact hw.2 (a, old) (List.mem_of_getElem? hi)
/-- A slice as a pointer to an array. -/
theorem y_arrAt {t e : TypeId} {n m c : Nat} {A : Option Addr} {x : Operand} {S : World → Prop} (ht : P.underlying t = some (.array n e)) (hx : ev env x = some (.slice A m c)) (hn : n ≤ m) :
    Y P S env ⟨dst, .sliceToArrayPointer t x, ty, pos, after, g⟩ (.pointer A) := fun N c w hc _ => by
  simp only [execOp, hc.eval hx, Instr.arrayAt, Sem.run_bind, run_underlying ht, Result.andThen_ok]
  rw [if_neg (by omega)]
  simp only [Sem.run_bind, Sem.run_pure, Result.andThen_ok]
end
end Go.Proofs.Ytmgimcdkeelnpaa.Zx

/-
  A law's arguments, opened: slices of elements of many cells. General; nothing here names a program.
-/
namespace Go.Proofs.Ytmgimcdkeelnpaa.Zx
open Go.ChangeShapes Go.WideShapes Go.ChangeAt Go.RowKit Go.Deep Zk
set_option linter.unusedVariables false
section
variable {H : Type} {enc : TypeId × Value → H} {P : Program} {w : World} {base : Nat} {spare : Nat → Bool} {held : Bool}
theorem flat_len {α : Type} (f : α → List Value) (size : Nat) (hlen : ∀ y, (f y).length = size) : ∀ l : List α, (l.flatMap f).length = l.length * size
  | [] => by simp
  | y :: l => by rw [List.flatMap_cons, List.length_append, hlen, flat_len f size hlen l, List.length_cons, Nat.succ_mul]; omega
theorem flat_get {α : Type} (f : α → List Value) (size : Nat) (hlen : ∀ y, (f y).length = size) : ∀ (l : List α) (j : Nat) (u : Value), (l.flatMap f)[j]? = some u → ∃ i y, l[i]? = some y ∧ i * size ≤ j ∧ (f y)[j - i * size]? = some u
  | [], j, u, h => by simp at h
  | y :: l, j, u, h => by
    rw [List.flatMap_cons, List.getElem?_append, hlen] at h
    split at h
    · exact ⟨0, y, rfl, by omega, by simpa using h⟩
    · obtain ⟨i, z, h1, h2, h3⟩ := flat_get f size hlen l (j - size) u h
      exact ⟨i + 1, z, by simpa using h1, by rw [Nat.succ_mul]; omega, by rw [Nat.succ_mul, show j - (i * size + size) = j - size - i * size by omega]; exact h3⟩
/-- A slice whose elements are of many cells. -/
theorem read_rowN {α : Type} (f : α → List Value) (φ : α → Prop) (size : Nat) {t e : TypeId} (ht : P.underlying t = some (.slice e)) (hc : P.cellsOf e = size) (hpos : 0 < size) (hlen : ∀ y, (f y).length = size)
    (hread : ∀ n cs x, cs.length = size → DataW.trod enc P w base spare held n e cs = some x → ∃ y, cs = f y ∧ φ y)
    {fuel : Nat} {cs : List Value} {x : DataW H × List MemPlace} (h : DataW.trod enc P w base spare held fuel t cs = some x) :
    ∃ A n c, ∃ l : List α, cs = [.slice A n c] ∧ Rs w size A n c (l.flatMap f) ∧ (∀ y ∈ l, φ y) ∧ l.length = n := by
  rcases open_slice ht h with ⟨rfl, _⟩ | ⟨a, len, cap, m, n, D, Pl, rfl, _, hl, hm, hmm, _, hi⟩
  · exact ⟨none, 0, 0, [], rfl, Rs.nil w size, (fun y hy => by cases hy), rfl⟩
  · have hle : len ≤ m := by rw [hmm]; split <;> omega
    rw [hc] at hi
    obtain ⟨l, hll, hp⟩ := list_of (fun i (y : α) => w.cells? base (a.add (i * size)) size = some (f y) ∧ φ y) len (fun i hil => by
      obtain ⟨cs', h1, h2⟩ := hi i (by omega)
      obtain ⟨y, h3, h4⟩ := hread n cs' _ (World.cells?_some h1).2.1 h2
      exact ⟨y, by rw [← h3]; exact h1, h4⟩)
    refine ⟨some a, len, cap, l, rfl, ⟨⟨by rw [flat_len f size hlen, hll], fun h0 => ⟨a, rfl, ?_, fun j u hu => ?_⟩⟩, hl, by unfold maxLen at hm; exact hm⟩, fun y hy => ?_, hll⟩
    · obtain ⟨cs', h1, h2⟩ := hi 0 (by omega)
      have h3 := (World.cells?_some h1).2.2 0 hpos
      rw [List.getElem?_eq_getElem (by rw [(World.cells?_some h1).2.1]; exact hpos)] at h3
      have := World.block_lt_of_cell? w _ h3
      rwa [block_of_add, block_of_add] at this
    · obtain ⟨i, y, h1, h2, h3⟩ := flat_get f size hlen l j u hu
      have h4 := (World.cells?_some (hp i y h1).1).2.2 (j - i * size) (by have := (List.getElem?_eq_some_iff.1 h3).1; rwa [hlen y] at this)
      rw [Go.Deep.add_add, show i * size + (j - i * size) = j by omega, h3] at h4
      exact h4
    · obtain ⟨i, hi2, rfl⟩ := List.getElem_of_mem hy
      exact (hp i _ (List.getElem?_eq_getElem hi2)).2
theorem flat_cut {α : Type} (f : α → List Value) (size : Nat) (hlen : ∀ y, (f y).length = size) : ∀ (l : List α) (k : Nat) (y : α), l[k]? = some y → ((l.flatMap f).drop (k * size)).take size = f y
  | [], k, y, h => by simp at h
  | z :: l, 0, y, h => by
    have e : z = y := by simpa using h
    subst e
    rw [Nat.zero_mul, List.drop_zero, List.flatMap_cons, List.take_append_of_le_length (by rw [hlen]; exact Nat.le_refl _), List.take_of_length_le (by rw [hlen]; exact Nat.le_refl _)]
  | z :: l, k + 1, y, h => by
    rw [List.flatMap_cons, Nat.succ_mul, Nat.add_comm, ← List.drop_drop, List.drop_left' (hlen z)]
    exact flat_cut f size hlen l k y (by simpa using h)
end
section
variable {P : Program} {env : Env} {w : World} {dst : Option Tmp} {ty : TypeId} {pos : String} {after : Array Edge} {g : Option (Nat × Bool)}
/-- A load of an element of many cells. -/
theorem y_ldp {α : Type} {f : α → List Value} {l : List α} {y : α} {x : Operand} {A : Option Addr} {n c k size : Nat} {lt : TypeId} {d : TypeDesc} (hlen : ∀ y, (f y).length = size) (hd : P.underlying lt = some d) (hrow : d.isRow = true) (hsz : (P.info? lt).map (·.size) = some size) (hx : ev env x = some (pR A k size)) (hr : Rs w size A n c (l.flatMap f)) (hk : k < n) (hy : l[k]? = some y) :
    Y P (Like w) env ⟨dst, .load lt x, ty, pos, after, g⟩ (.agg (f y).toArray) := by
  have h := y_ldn (dst := dst) (ty := ty) (pos := pos) (after := after) (g := g) hd hrow hsz hx hr hk
  rwa [flat_cut f size hlen l k y hy] at h
end
end Go.Proofs.Ytmgimcdkeelnpaa.Zx

/-
  Families: a piece taken out and put in, anywhere; rows that stay as they are. General; nothing here names a program.
-/
namespace Go.Proofs.Ytmgimcdkeelnpaa.Zx
open Go.RowKit Zk
set_option linter.unusedVariables false
set_option linter.unusedSimpArgs false
section
variable {w w0 : World} {M : Nat → Prop} {rs : List Res}
theorem split_at {α : Type} {l : List α} {k : Nat} {x : α} (h : l[k]? = some x) : ∃ a b, l = a ++ x :: b ∧ ∀ y, l.set k y = a ++ y :: b := by
  obtain ⟨h1, h2⟩ := List.getElem?_eq_some_iff.1 h
  refine ⟨l.take k, l.drop (k + 1), ?_, fun y => ?_⟩
  · rw [← h2, List.getElem_cons_drop, List.take_append_drop]
  · rw [List.set_eq_take_append_cons_drop, if_pos h1]
theorem mid_perm {α : Type} (a b : List α) (x : α) : (a ++ x :: b).Perm (a ++ b ++ [x]) :=
  List.perm_middle.trans ((List.perm_append_comm (l₁ := [x]) (l₂ := a ++ b)))
theorem St.famOutAt (S : St w0 M rs w) (k : Nat) {L L1 L2 : List Res} {r : Res} (hk : rs[k]? = some (fam L)) (hL : L = L1 ++ r :: L2) : St w0 M (rs.set k (fam (L1 ++ L2)) ++ [r]) w := by
  subst hL
  obtain ⟨a, b, h1, h2⟩ := split_at hk
  rw [h2]
  subst h1
  have S1 := (S.perm (mid_perm a b _)).famOut
  refine S1.perm ?_
  have := (mid_perm a b (fam (L1 ++ L2))).symm.append_right [r]
  simpa using this
theorem St.famInAt {L1 L2 : List Res} {r : Res} (S : St w0 M (rs ++ [r]) w) (k : Nat) (hk : rs[k]? = some (fam (L1 ++ L2))) : St w0 M (rs.set k (fam (L1 ++ r :: L2))) w := by
  obtain ⟨a, b, h1, h2⟩ := split_at hk
  rw [h2]
  subst h1
  have hp := (mid_perm a b (fam (L1 ++ L2))).append_right [r]
  have S1 : St w0 M ((a ++ b) ++ [fam (L1 ++ L2), r]) w := S.perm (by simpa using hp)
  exact S1.famIn.perm (mid_perm a b _).symm
/-- A row that is only read from now on. -/
theorem St.still (S : St w0 M rs w) (k : Nat) {e size n c : Nat} {A : Option Addr} {xs : List Value} (hk : rs[k]? = some (Zx.row e size A n c xs)) : St w0 M (rs.set k (fixed size A n c xs)) w :=
  S.upd k hk rfl rfl rfl (Nat.le_refl _) (fun _ _ _ => rfl) (rs_of_row (S.get k hk)) fun i ⟨ad, hn, hA, hi⟩ => .inl (by
    have hown : w.ownsRow 0 e size (.slice A n c) n xs := S.get k hk
    obtain ⟨b, cap, h1, _, _⟩ := hown.form hn
    injection h1 with hA2 _ _
    rw [hA2] at hA
    cases hA
    subst hi
    show (Value.slice A n c).ownBlock = _
    rw [hA2]
    rfl)
def partR (p : Part) : Res := fixed 1 p.A p.n p.c (bL p.l)
end
section
variable {P : Program} {env : Env} {w : World} {dst : Option Tmp} {ty : TypeId} {pos : String} {after : Array Edge} {g : Option (Nat × Bool)}
/-- An array, read where a slice points. -/
theorem y_ldArr {x : Operand} {A : Option Addr} {n c m : Nat} {l : List UInt8} {lt e : TypeId} (ht : P.underlying lt = some (.array m e)) (hsz : (P.info? lt).map (·.size) = some m) (hx : ev env x = some (.pointer A)) (hr : Rs w 1 A n c (bL l)) (hm : m ≤ n) (hpos : 0 < m) :
    Y P (Like w) env ⟨dst, .load lt x, ty, pos, after, g⟩ (.agg (bA (l.take m))) := by
  obtain ⟨ad, rfl, hb, hcell⟩ := hr.rd.2 (by omega)
  have hl := hr.lenb
  have hr2 : Rs w m (some ad) 1 1 (bL (l.take m)) := ⟨⟨by simp; omega, fun _ => ⟨ad, rfl, hb, fun j u hj => hcell j u (by
    have e1 : bL (l.take m) = (bL l).take m := by simp [bL]
    rw [e1, List.getElem?_take] at hj
    split at hj
    · exact hj
    · cases hj)⟩⟩, Nat.le_refl _, by omega⟩
  have h := y_ldn (P := P) (env := env) (dst := dst) (ty := ty) (pos := pos) (after := after) (g := g) (x := x) (k := 0) ht rfl hsz (by rw [hx]; simp [pR, Addr.add]) hr2 (by omega)
  have e2 : ((bL (l.take m)).drop (0 * m)).take m = bL (l.take m) := by
    rw [Nat.zero_mul, List.drop_zero]
    exact List.take_of_length_le (by simp; omega)
  rw [e2] at h
  exact h
end
end Go.Proofs.Ytmgimcdkeelnpaa.Zx

/-
  Regions that draw their order, where two operations may come up: both are walked. General; nothing here names a program.
-/
namespace Go.Proofs.Ytmgimcdkeelnpaa.Zx
open Go.RowKit Zk
set_option linter.unusedVariables false
set_option linter.unusedSimpArgs false
section
variable {P : Program} {N : Nat} {Q : Post} {env : Env} {w w0 : World} {M : Nat → Prop} {rs : List Res} {S : World → Prop} {ops : Array Oper} {listed : Array Bool} {fuel : Nat}
theorem DX_nil (hr : Region.ready .any ops listed = []) (h : Q .normal env w) : DX P N ops Q S listed fuel env w := fun _ _ a ha => wpAnyH_done hr ⟨env, ha, h⟩ fuel
theorem DX_o1 {d : Option Tmp} {op : Op} {ty : TypeId} {pos : String} {after : Array Edge} (i : Nat) (hr : Region.ready .any ops listed = [i]) (hi : ops[i]? = some ⟨d, op, ty, pos, after, none⟩)
    (h : O P N Q ⟨d, op, ty, pos, after, none⟩ env w (fun e' w' => S w' ∧ DX P N ops Q S (listed.setIfInBounds i true) fuel e' w')) : DX P N ops Q S listed (fuel + 1) env w := fun hs hS a ha => by
  refine wpAnyH_all hr (by simp) fun j hj => ?_
  obtain rfl := List.mem_singleton.1 hj
  unfold wpOp
  simp only [hi, Region.wanted, if_true]
  exact .inl (Oper.wp_mono (fun a' w' ⟨e', h3, h4, h5⟩ => ⟨h4, h5 hs h4 a' h3⟩) (h a ha))
theorem DX_o2 {d1 d2 : Option Tmp} {op1 op2 : Op} {ty1 ty2 : TypeId} {pos1 pos2 : String} {after1 after2 : Array Edge} (i j : Nat) (hr : Region.ready .any ops listed = [i, j]) (hi : ops[i]? = some ⟨d1, op1, ty1, pos1, after1, none⟩) (hj : ops[j]? = some ⟨d2, op2, ty2, pos2, after2, none⟩)
    (h1 : O P N Q ⟨d1, op1, ty1, pos1, after1, none⟩ env w (fun e' w' => S w' ∧ DX P N ops Q S (listed.setIfInBounds i true) fuel e' w'))
    (h2 : O P N Q ⟨d2, op2, ty2, pos2, after2, none⟩ env w (fun e' w' => S w' ∧ DX P N ops Q S (listed.setIfInBounds j true) fuel e' w')) : DX P N ops Q S listed (fuel + 1) env w := fun hs hS a ha => by
  refine wpAnyH_all hr (by simp) fun q hq => ?_
  have hq' : q = i ∨ q = j := by simpa using hq
  rcases hq' with rfl | rfl
  · unfold wpOp
    simp only [hi, Region.wanted, if_true]
    exact .inl (Oper.wp_mono (fun a' w' ⟨e', h3, h4, h5⟩ => ⟨h4, h5 hs h4 a' h3⟩) (h1 a ha))
  · unfold wpOp
    simp only [hj, Region.wanted, if_true]
    exact .inl (Oper.wp_mono (fun a' w' ⟨e', h3, h4, h5⟩ => ⟨h4, h5 hs h4 a' h3⟩) (h2 a ha))
theorem St.famCat {L1 L2 : List Res} (S : St w0 M (rs ++ [fam L1, fam L2]) w) : St w0 M (rs ++ [fam (L1 ++ L2)]) w := by
  have hap := S.apart
  rw [List.pairwise_append] at hap
  obtain ⟨a1, a2, a3⟩ := hap
  have h12 := (List.pairwise_cons.1 a2).1 (fam L2) (by simp)
  have f1 := S.res (fam L1) (by simp)
  have f2 := S.res (fam L2) (by simp)
  refine ⟨S.os, S.tape, S.output, S.size, S.old, fun q hq => ?_, ?_⟩
  · rcases List.mem_append.1 hq with hq | hq
    · exact S.res q (by simp [hq])
    · obtain rfl := List.mem_singleton.1 hq
      refine ⟨⟨fun q hq => ?_, ?_⟩, fun i ⟨q, hq, hi⟩ => ?_⟩
      · rcases List.mem_append.1 hq with h | h
        · exact f1.1.1 q h
        · exact f2.1.1 q h
      · rw [List.pairwise_append]
        exact ⟨f1.1.2, f2.1.2, fun a ha b hb i hi hbi => h12 i ⟨a, ha, hi⟩ ⟨b, hb, hbi⟩⟩
      · rcases List.mem_append.1 hq with h | h
        · exact f1.2 i ⟨q, h, hi⟩
        · exact f2.2 i ⟨q, h, hi⟩
  · rw [List.pairwise_append]
    refine ⟨a1, List.pairwise_singleton _ _, fun a ha b hb i hi hbi => ?_⟩
    obtain rfl := List.mem_singleton.1 hb
    obtain ⟨q, hq, hqi⟩ := hbi
    rcases List.mem_append.1 hq with h | h
    · exact a3 a ha (fam L1) (by simp) i hi ⟨q, h, hqi⟩
    · exact a3 a ha (fam L2) (by simp) i hi ⟨q, h, hqi⟩
end
end Go.Proofs.Ytmgimcdkeelnpaa.Zx

/-
  '==' on structs of ints. General; nothing here names a program.
-/
namespace Go.Proofs.Ytmgimcdkeelnpaa.Zx
open Go.RowKit Zk
set_option linter.unusedVariables false
set_option linter.unusedSimpArgs false
/-- Fields that are ints, one behind the other. -/
def FieldsI (P : Program) : List Field → Nat → Prop
  | [], _ => True
  | f :: fs, o => f.name ≠ "_" ∧ f.offset = o ∧ (P.underlying f.type = some (.int .i64)) ∧ FieldsI P fs (o + 1)
section
variable {P : Program}
theorem run_part_int {t : TypeId} {k : IntKind} (ht : P.underlying t = some (.int k)) {cs : Array Value} {o : Nat} {v : Value} (hv : cs[o]? = some v) (w : World) : (part t cs o).run P w = .ok v w := by
  have h : (isAgg t).run P w = .ok false w := by
    unfold isAgg
    rw [Sem.run_bind, run_underlying ht w]
    rfl
  unfold part
  rw [Sem.run_bind, h]
  simp only [Result.andThen_ok, Bool.false_eq_true, if_false, hv, Sem.run_pure]
theorem run_eqFields_ints (d : Nat) (xs ys : List Int) (w : World) : ∀ (fs : List Field) (o : Nat), FieldsI P fs o → xs.length = o + fs.length → ys.length = o + fs.length →
    (Op.eqFields (d + 1) (iL xs).toArray (iL ys).toArray fs).run P w = .ok (decide (xs.drop o = ys.drop o)) w
  | [], o, _, h1, h2 => by
    rw [List.drop_eq_nil_of_le (by simp at h1; omega), List.drop_eq_nil_of_le (by simp at h2; omega)]
    rfl
  | f :: fs, o, ⟨a1, a2, a4, a3⟩, h1, h2 => by
    simp only [List.length_cons] at h1 h2
    have ex : xs[o]? = some xs[o] := List.getElem?_eq_getElem (by omega)
    have ey : ys[o]? = some ys[o] := List.getElem?_eq_getElem (by omega)
    have ih := run_eqFields_ints d xs ys w fs (o + 1) a3 (by omega) (by omega)
    have hx : ((iL xs).toArray)[o]? = some (.int .i64 xs[o]) := by rw [List.getElem?_toArray]; exact iL_get _ _ _ ex
    have hy : ((iL ys).toArray)[o]? = some (.int .i64 ys[o]) := by rw [List.getElem?_toArray]; exact iL_get _ _ _ ey
    rw [Op.eqFields, if_pos a1, a2, Sem.run_bind, run_part_int a4 hx, Result.andThen_ok, Sem.run_bind, run_part_int a4 hy, Result.andThen_ok, Sem.run_bind, run_equalIn_int w d _ _ _ _ _ a4, Result.andThen_ok]
    have dx : xs.drop o = xs[o] :: xs.drop (o + 1) := List.drop_eq_getElem_cons (by omega)
    have dy : ys.drop o = ys[o] :: ys.drop (o + 1) := List.drop_eq_getElem_cons (by omega)
    by_cases h : xs[o] = ys[o]
    · have hb : (xs[o] == ys[o]) = true := by simpa using h
      rw [hb]
      simp only [Bool.not_true, Bool.false_eq_true, if_false]
      rw [ih, dx, dy, h]
      exact congrArg (fun b => Result.ok b w) (decide_eq_decide.2 ⟨fun q => by rw [q], fun q => by injection q⟩)
    · have hb : (xs[o] == ys[o]) = false := by simpa using h
      rw [hb]
      simp only [Bool.not_false, if_true, Sem.run_pure]
      rw [dx, dy]
      exact congrArg (fun b => Result.ok b w) (decide_eq_false (fun q => h (by injection q))).symm
theorem run_eq_ints {t : TypeId} {fs : Array Field} (ht : P.underlying t = some (.struct fs)) (hp : P.stoodInHeld t = false) (hf : FieldsI P fs.toList 0) (xs ys : List Int) (hx : xs.length = fs.size) (hy : ys.length = fs.size) (w : World) :
    (Op.equalIn 10000 t (.agg (iL xs).toArray) (.agg (iL ys).toArray)).run P w = .ok (decide (xs = ys)) w := by
  have e : P.fieldsOf t = fs := by simp [Program.fieldsOf, ht]
  rw [run_equalIn_struct w 9999 t _ _ (by rw [e]; exact ht) hp, e]
  have := run_eqFields_ints 9998 xs ys w fs.toList 0 hf (by simp; omega) (by simp; omega)
  rw [List.drop_zero, List.drop_zero] at this
  exact this
variable {S : World → Prop} {env : Env} {dst : Option Tmp} {ty : TypeId} {pos : String} {after : Array Edge} {g : Option (Nat × Bool)}
theorem y_eqI {x y : Operand} {t u : TypeId} {fs : Array Field} {xs ys : List Int} (ht : P.underlying t = some (.struct fs)) (hp : P.stoodInHeld t = false) (hm : P.eqGuardType P.depth t = false) (hf : FieldsI P fs.toList 0) (hx : ev env x = some (.agg (iL xs).toArray)) (hy : ev env y = some (.agg (iL ys).toArray))
    (hl : xs.length = fs.size) (hml : ys.length = fs.size) : Y P S env ⟨dst, .binOp .eql t x y u, ty, pos, after, g⟩ (.bool (decide (xs = ys))) := fun N a w ha _ => by
  have h1 := run_eql_struct (P := P) w t (iL xs).toArray (iL ys).toArray
  rw [run_eq_ints ht hp hf xs ys hl hml w, Result.andThen_ok] at h1
  simp only [execOp, ha.eval hx, ha.eval hy, Sem.run_bind, eqGuard_run .eql x y _ _ hm w, Result.andThen_ok, h1, Sem.run_pure]
theorem y_neI {x y : Operand} {t u : TypeId} {fs : Array Field} {xs ys : List Int} (ht : P.underlying t = some (.struct fs)) (hp : P.stoodInHeld t = false) (hm : P.eqGuardType P.depth t = false) (hf : FieldsI P fs.toList 0) (hx : ev env x = some (.agg (iL xs).toArray)) (hy : ev env y = some (.agg (iL ys).toArray))
    (hl : xs.length = fs.size) (hml : ys.length = fs.size) : Y P S env ⟨dst, .binOp .neq t x y u, ty, pos, after, g⟩ (.bool (decide (xs ≠ ys))) := fun N a w ha _ => by
  have h1 := run_neq_struct (P := P) w t (iL xs).toArray (iL ys).toArray
  rw [run_eq_ints ht hp hf xs ys hl hml w, Result.andThen_ok] at h1
  have e : (!decide (xs = ys)) = decide (xs ≠ ys) := by by_cases h : xs = ys <;> simp [h]
  rw [e] at h1
  simp only [execOp, ha.eval hx, ha.eval hy, Sem.run_bind, eqGuard_run .neq x y _ _ hm w, Result.andThen_ok, h1, Sem.run_pure]
end
section
open Go.ChangeShapes Go.WideShapes Go.ChangeAt Go.Deep
variable {H : Type} {enc : TypeId × Value → H} {P : Program} {w : World} {base : Nat} {spare : Nat → Bool} {held : Bool}
theorem read_intsS {t e : TypeId} {k : IntKind} (ht : P.underlying t = some (.slice e)) (he : P.underlying e = some (.int k)) (hc : P.cellsOf e = 1)
    {fuel : Nat} {cs : List Value} {x : DataW H × List MemPlace} (h : DataW.trod enc P w base spare held fuel t cs = some x) :
    ∃ A n c, ∃ l : List Int, cs = [.slice A n c] ∧ Rs w 1 A n c (l.map (Value.int k)) := by
  obtain ⟨A, n, c, l, h1, h2, _⟩ := read_row1 (Value.int k) (fun _ => True) ht hc (fun n v x h => by
    obtain ⟨a, ha, _, hw⟩ := DataW.trod_int he h
    simp only [List.cons.injEq, and_true] at ha
    exact ⟨a, ha, trivial⟩) h
  exact ⟨A, n, c, l, h1, h2⟩
/-- A slice of ints. -/
theorem open_intsS {r : Reach} {b0 : Nat} {t e : TypeId} {v : Value} {d : DataW H} {p : List MemPlace} (ht : P.underlying t = some (.slice e)) (he : P.underlying e = some (.int .i64)) (hc : P.cellsOf e = 1)
    (hv : Value.okWide P w r b0 t v) (h : DataW.Trod enc P w base spare held t v d p) : ∃ A n c, ∃ l : List Int, v = .slice A n c ∧ Rs w 1 A n c (iL l) := by
  obtain ⟨fuel, hf⟩ := h
  obtain ⟨A, n, c, l, h1, h2⟩ := read_intsS ht he hc hf
  exact ⟨A, n, c, l, slice_of_cells ht hv h1, h2⟩
end
end Go.Proofs.Ytmgimcdkeelnpaa.Zx

/-
  Stable sorting of lists, in plain Lean: insertion, merging, how a merge is split. General; nothing here names a program.
-/
namespace Go.Proofs.Ytmgimcdkeelnpaa.Zx
set_option linter.unusedVariables false
set_option linter.unusedSimpArgs false
section
variable {α : Type}
/-- What a comparison must be. -/
structure Ord3 (lt : α → α → Bool) : Prop where
  asym : ∀ x y, lt x y = true → lt y x = false
  nt : ∀ x y z, lt x y = false → lt y z = false → lt x z = false
theorem Ord3.tr {lt : α → α → Bool} (O : Ord3 lt) {x y z : α} (h1 : lt x y = true) (h2 : lt z y = false) : lt x z = true := by
  cases h : lt x z with
  | true => rfl
  | false => rw [O.nt x z y h h2] at h1; exact h1
theorem Ord3.tr2 {lt : α → α → Bool} (O : Ord3 lt) {x y z : α} (h1 : lt y x = false) (h2 : lt y z = true) : lt x z = true := by
  cases h : lt x z with
  | true => rfl
  | false => rw [O.nt y x z h1 h] at h2; exact h2
theorem Ord3.irr {lt : α → α → Bool} (O : Ord3 lt) (x : α) : lt x x = false := by
  cases h : lt x x with
  | false => rfl
  | true => rw [O.asym x x h] at h; exact h.symm
variable (lt : α → α → Bool)
def mrg : List α → List α → List α
  | [], m => m
  | x :: l, [] => x :: l
  | x :: l, y :: m => if lt y x then y :: mrg (x :: l) m else x :: mrg l (y :: m)
termination_by l m => l.length + m.length
def insS : List α → α → List α
  | [], x => [x]
  | y :: l, x => if lt x y then x :: y :: l else y :: insS l x
def srt (l : List α) : List α := l.foldl (insS lt) []
def Srt (l : List α) : Prop := l.Pairwise fun x y => lt y x = false
variable {lt}
theorem mrg_nil (m : List α) : mrg lt [] m = m := by rw [mrg]
theorem mrg_nilr (l : List α) : mrg lt l [] = l := by cases l <;> rw [mrg]
theorem mrg_l {x y : α} {l m : List α} (h : lt y x = false) : mrg lt (x :: l) (y :: m) = x :: mrg lt l (y :: m) := by rw [mrg, if_neg (by rw [h]; exact Bool.false_ne_true)]
theorem mrg_r {x y : α} {l m : List α} (h : lt y x = true) : mrg lt (x :: l) (y :: m) = y :: mrg lt (x :: l) m := by rw [mrg, if_pos h]
theorem ins_lt {x y : α} {l : List α} (h : lt x y = true) : insS lt (y :: l) x = x :: y :: l := by unfold insS; rw [if_pos h]
theorem ins_ge {x y : α} {l : List α} (h : lt x y = false) : insS lt (y :: l) x = y :: insS lt l x := by
  conv => lhs; unfold insS
  rw [if_neg (by rw [h]; exact Bool.false_ne_true)]
theorem mrg_ins (O : Ord3 lt) (x : α) : ∀ (l m : List α), insS lt (mrg lt l m) x = mrg lt l (insS lt m x)
  | [], m => by rw [mrg_nil, mrg_nil]
  | y :: l, [] => by
    rw [mrg_nilr]
    show insS lt (y :: l) x = mrg lt (y :: l) [x]
    cases h : lt x y with
    | true => rw [ins_lt h, mrg_r h, mrg_nilr]
    | false =>
      rw [ins_ge h, mrg_l h]
      have := mrg_ins O x l []
      rw [mrg_nilr] at this
      rw [this]
      rfl
  | y :: l, z :: m => by
    cases h1 : lt z y with
    | false =>
      rw [mrg_l h1]
      cases h2 : lt x z with
      | true =>
        rw [ins_lt h2]
        cases h3 : lt x y with
        | true => rw [ins_lt h3, mrg_r h3, mrg_l h1]
        | false =>
          rw [ins_ge h3, mrg_l h3, mrg_ins O x l (z :: m), ins_lt h2]
      | false =>
        rw [ins_ge h2]
        have h3 : lt x y = false := O.nt _ _ _ h2 h1
        rw [ins_ge h3, mrg_l h1, mrg_ins O x l (z :: m), ins_ge h2]
    | true =>
      rw [mrg_r h1]
      cases h2 : lt x z with
      | true =>
        rw [ins_lt h2, ins_lt h2]
        have h3 : lt x y = true := O.tr2 (O.asym _ _ h2) h1
        rw [mrg_r h3, mrg_r h1]
      | false => rw [ins_ge h2, ins_ge h2, mrg_r h1, mrg_ins O x (y :: l) m]
termination_by l m => l.length + m.length
theorem mrg_fold (O : Ord3 lt) (s : List α) : ∀ (m t : List α), m.foldl (insS lt) (mrg lt s t) = mrg lt s (m.foldl (insS lt) t)
  | [], t => rfl
  | x :: m, t => by
    rw [List.foldl_cons, List.foldl_cons, mrg_ins O, mrg_fold O s m]
theorem mrg_srt (O : Ord3 lt) (l m : List α) : mrg lt (srt lt l) (srt lt m) = srt lt (l ++ m) := by
  unfold srt
  rw [List.foldl_append, ← mrg_fold O, mrg_nilr]
theorem ins_len (x : α) : ∀ l : List α, (insS lt l x).length = l.length + 1
  | [] => rfl
  | y :: l => by
    cases h : lt x y with
    | true => rw [ins_lt h]; rfl
    | false => rw [ins_ge h, List.length_cons, ins_len x l, List.length_cons]
theorem ins_mem {x z : α} : ∀ {l : List α}, z ∈ insS lt l x ↔ z = x ∨ z ∈ l
  | [] => by unfold insS; simp
  | y :: l => by
    cases h : lt x y with
    | true => rw [ins_lt h]; simp
    | false =>
      rw [ins_ge h, List.mem_cons, ins_mem, List.mem_cons]
      constructor
      · rintro (h | h | h)
        · exact .inr (.inl h)
        · exact .inl h
        · exact .inr (.inr h)
      · rintro (h | h | h)
        · exact .inr (.inl h)
        · exact .inl h
        · exact .inr (.inr h)
theorem ins_sorted (O : Ord3 lt) (x : α) : ∀ l : List α, Srt lt l → Srt lt (insS lt l x)
  | [], _ => by unfold insS Srt; simp
  | y :: l, h => by
    have h2 := List.pairwise_cons.1 h
    cases hx : lt x y with
    | true =>
      rw [ins_lt hx]
      refine List.pairwise_cons.2 ⟨fun z hz => ?_, h⟩
      rcases List.mem_cons.1 hz with rfl | hz
      · exact O.asym _ _ hx
      · exact O.nt _ _ _ (h2.1 z hz) (O.asym _ _ hx)
    | false =>
      rw [ins_ge hx]
      refine List.pairwise_cons.2 ⟨fun z hz => ?_, ins_sorted O x l h2.2⟩
      rcases ins_mem.1 hz with rfl | hz
      · exact hx
      · exact h2.1 z hz
theorem srt_sorted (O : Ord3 lt) (l : List α) : Srt lt (srt lt l) := by
  have : ∀ (l s : List α), Srt lt s → Srt lt (l.foldl (insS lt) s) := by
    intro l
    induction l with
    | nil => exact fun s h => h
    | cons x l ih => exact fun s h => ih _ (ins_sorted O x s h)
  exact this l [] List.Pairwise.nil
theorem srt_len (l : List α) : (srt lt l).length = l.length := by
  have : ∀ (l s : List α), (l.foldl (insS lt) s).length = s.length + l.length := by
    intro l
    induction l with
    | nil => exact fun s => rfl
    | cons x l ih => exact fun s => by rw [List.foldl_cons, ih, ins_len, List.length_cons]; omega
  rw [srt, this]
  simp
theorem srt_mem {l : List α} {z : α} : z ∈ srt lt l ↔ z ∈ l := by
  have : ∀ (l s : List α), z ∈ l.foldl (insS lt) s ↔ z ∈ s ∨ z ∈ l := by
    intro l
    induction l with
    | nil => exact fun s => by simp
    | cons x l ih =>
      intro s
      rw [List.foldl_cons, ih, ins_mem, List.mem_cons]
      constructor
      · rintro ((h | h) | h)
        · exact .inr (.inl h)
        · exact .inl h
        · exact .inr (.inr h)
      · rintro (h | h | h)
        · exact .inl (.inr h)
        · exact .inl (.inl h)
        · exact .inr h
  rw [srt, this]
  simp
theorem srt_snoc (l : List α) (x : α) : srt lt (l ++ [x]) = insS lt (srt lt l) x := by unfold srt; rw [List.foldl_append]; rfl
/-- Where an element goes. -/
theorem ins_at {x : α} : ∀ (p q : List α), (∀ y ∈ p, lt x y = false) → (∀ y, q[0]? = some y → lt x y = true) → insS lt (p ++ q) x = p ++ x :: q
  | [], [], _, _ => rfl
  | [], y :: q, _, h => ins_lt (h y rfl)
  | y :: p, q, h, h2 => by
    rw [List.cons_append, ins_ge (h y (List.mem_cons_self ..)), ins_at p q (fun z hz => h z (List.mem_cons_of_mem _ hz)) h2]
    rfl
theorem srt_last (O : Ord3 lt) {p : List α} {x y : α} (h : Srt lt (p ++ [y])) (hx : lt x y = false) : ∀ z ∈ p ++ [y], lt x z = false := fun z hz => by
  rcases List.mem_append.1 hz with hz | hz
  · exact O.nt _ _ _ hx ((List.pairwise_append.1 h).2.2 z hz y (by simp))
  · rw [List.mem_singleton.1 hz]; exact hx
theorem srt_last2 (O : Ord3 lt) {p : List α} {x y : α} (h : Srt lt (p ++ [y])) (hx : lt y x = true) : ∀ z ∈ p ++ [y], lt z x = true := fun z hz => by
  rcases List.mem_append.1 hz with hz | hz
  · exact O.tr2 ((List.pairwise_append.1 h).2.2 z hz y (by simp)) hx
  · rw [List.mem_singleton.1 hz]; exact hx
theorem srt_head (O : Ord3 lt) {q : List α} {x y : α} (h : Srt lt (y :: q)) (hx : lt y x = false) : ∀ z ∈ y :: q, lt z x = false := fun z hz => by
  rcases List.mem_cons.1 hz with rfl | hz
  · exact hx
  · exact O.nt _ _ _ ((List.pairwise_cons.1 h).1 z hz) hx
theorem srt_head2 (O : Ord3 lt) {q : List α} {x y : α} (h : Srt lt (y :: q)) (hx : lt x y = true) : ∀ z ∈ y :: q, lt x z = true := fun z hz => by
  rcases List.mem_cons.1 hz with rfl | hz
  · exact hx
  · exact O.tr hx ((List.pairwise_cons.1 h).1 z hz)
/-- A merge is split where all in front go ahead of all behind. -/
theorem mrg_split : ∀ (a1 a2 b1 b2 : List α), (∀ x ∈ a1, ∀ y ∈ b2, lt y x = false) → (∀ x ∈ a2, ∀ y ∈ b1, lt x y = true) → mrg lt (a1 ++ b1) (a2 ++ b2) = mrg lt a1 a2 ++ mrg lt b1 b2
  | [], [], b1, b2, _, _ => by rw [mrg_nil]; rfl
  | x :: a1, [], b1, [], _, _ => by rw [List.append_nil, mrg_nilr, mrg_nilr, mrg_nilr]
  | x :: a1, [], b1, y :: b2, h1, h2 => by
    have := mrg_split a1 [] b1 (y :: b2) (fun z hz => h1 z (List.mem_cons_of_mem _ hz)) h2
    rw [List.nil_append, mrg_nilr] at this ⊢
    rw [List.cons_append, mrg_l (h1 x (List.mem_cons_self ..) y (List.mem_cons_self ..)), this]
    rfl
  | [], y :: a2, [], b2, _, _ => by rw [List.append_nil, mrg_nil, mrg_nil, mrg_nil]
  | [], y :: a2, x :: b1, b2, h1, h2 => by
    have := mrg_split [] a2 (x :: b1) b2 h1 (fun z hz => h2 z (List.mem_cons_of_mem _ hz))
    rw [List.nil_append, mrg_nil] at this ⊢
    rw [List.cons_append, mrg_r (h2 y (List.mem_cons_self ..) x (List.mem_cons_self ..)), this]
    rfl
  | x :: a1, y :: a2, b1, b2, h1, h2 => by
    cases h : lt y x with
    | true =>
      have := mrg_split (x :: a1) a2 b1 b2 h1 (fun z hz => h2 z (List.mem_cons_of_mem _ hz))
      rw [List.cons_append] at this
      rw [List.cons_append, List.cons_append, mrg_r h, mrg_r h, this]
      rfl
    | false =>
      have := mrg_split a1 (y :: a2) b1 b2 (fun z hz => h1 z (List.mem_cons_of_mem _ hz)) h2
      rw [List.cons_append] at this
      rw [List.cons_append, List.cons_append, mrg_l h, mrg_l h, this]
      rfl
termination_by a1 a2 => a1.length + a2.length
theorem mrg_len : ∀ (l m : List α), (mrg lt l m).length = l.length + m.length
  | [], m => by rw [mrg_nil]; simp
  | x :: l, [] => by rw [mrg_nilr]; simp
  | x :: l, y :: m => by
    cases h : lt y x with
    | true => rw [mrg_r h, List.length_cons, mrg_len (x :: l) m]; simp; omega
    | false => rw [mrg_l h, List.length_cons, mrg_len l (y :: m)]; simp; omega
termination_by l m => l.length + m.length
/-- One ahead of many, many ahead of one. -/
theorem mrg_one (O : Ord3 lt) {x : α} {u v : List α} (hs : Srt lt (u ++ v)) (hu : ∀ y, (u ++ v)[u.length - 1]? = some y → 0 < u.length → lt y x = true) (hv : ∀ y, v[0]? = some y → lt y x = false) : mrg lt [x] (u ++ v) = u ++ x :: v := by
  have h1 := List.pairwise_append.1 hs
  have hall : ∀ y ∈ u, lt y x = true := by
    rcases List.eq_nil_or_concat u with rfl | ⟨p, y, rfl⟩
    · intro y hy; cases hy
    · intro z hz
      exact srt_last2 O (p := p) (y := y) (by unfold Srt; simpa using h1.1) (hu y (by simp) (by simp)) z (by simpa using hz)
  have := mrg_split (lt := lt) [] u [x] v (fun z hz => by cases hz) (fun z hz y hy => by rw [List.mem_singleton.1 hy]; exact hall z hz)
  rw [List.nil_append, mrg_nil] at this
  rw [this]
  congr 1
  cases v with
  | nil => rw [mrg_nilr]
  | cons y v => rw [mrg_l (hv y rfl), mrg_nil]
theorem mrg_lst (O : Ord3 lt) {y : α} {u v : List α} (hs : Srt lt (u ++ v)) (hu : ∀ x, (u ++ v)[u.length - 1]? = some x → 0 < u.length → lt y x = false) (hv : ∀ x, v[0]? = some x → lt y x = true) : mrg lt (u ++ v) [y] = u ++ y :: v := by
  have h1 := List.pairwise_append.1 hs
  have hall : ∀ x ∈ u, lt y x = false := by
    rcases List.eq_nil_or_concat u with rfl | ⟨p, z, rfl⟩
    · intro x hx; cases hx
    · intro x hx
      exact srt_last O (p := p) (y := z) (by unfold Srt; simpa using h1.1) (hu z (by simp) (by simp)) x (by simpa using hx)
  have := mrg_split (lt := lt) u [] v [y] (fun z hz x hx => by rw [List.mem_singleton.1 hx]; exact hall z hz) (fun z hz => by cases hz)
  rw [List.nil_append, mrg_nilr] at this
  rw [this]
  congr 1
  cases v with
  | nil => rw [mrg_nil]
  | cons x v => rw [mrg_r (hv x rfl), mrg_nilr]
/-- Two exchanged. -/
theorem swp_mid {p q r : List α} {x y : α} {i j : Nat} (hi : i = p.length) (hj : j = p.length + 1 + q.length) : ((p ++ x :: (q ++ y :: r)).set i y).set j x = p ++ y :: (q ++ x :: r) := by
  subst hi hj
  have e1 : (p ++ x :: (q ++ y :: r)).set p.length y = p ++ y :: (q ++ y :: r) := by simp [List.set_append_right]
  rw [e1]
  have e2 : p ++ y :: (q ++ y :: r) = (p ++ y :: q) ++ y :: r := by simp
  have e3 : p.length + 1 + q.length = (p ++ y :: q).length := by simp; omega
  rw [e2, e3]
  simp [List.set_append_right]
theorem get_mid {p q r : List α} {x y : α} : (p ++ x :: (q ++ y :: r))[p.length]? = some x ∧ (p ++ x :: (q ++ y :: r))[p.length + 1 + q.length]? = some y := by
  refine ⟨by simp, ?_⟩
  have e2 : p ++ x :: (q ++ y :: r) = (p ++ x :: q) ++ y :: r := by simp
  have e3 : p.length + 1 + q.length = (p ++ x :: q).length := by simp; omega
  rw [e2, e3]
  simp
end
end Go.Proofs.Ytmgimcdkeelnpaa.Zx

/-
  Entries; swapRange.
-/
namespace Go.Proofs.Ytmgimcdkeelnpaa
open Go.RowKit Zk Zx
set_option linter.unusedVariables false
set_option linter.unusedSimpArgs false

/-- An entry. -/
structure EV where
  nm : ByteArray
  md : Int
  id : List UInt8
  h : id.length = 32 ∧ nm.size ≤ 1000000000
deriving DecidableEq
def enf (e : EV) : List Value := Value.string e.nm :: Value.int .i64 e.md :: bL e.id
theorem enf_len (e : EV) : (enf e).length = 34 := by simp [enf, e.h.1]
theorem take_enf (e : EV) : List.take 34 (List.drop 0 (enf e).toArray.toList) = enf e := by
  rw [List.drop_zero]
  exact List.take_of_length_le (by rw [List.toList_toArray, enf_len]; exact Nat.le_refl _)
theorem enf_one (e : EV) : ∀ u ∈ enf e, u.oneCell' = true := fun u hu => by
  unfold enf at hu
  rcases List.mem_cons.1 hu with rfl | hu
  · rfl
  · rcases List.mem_cons.1 hu with rfl | hu
    · rfl
    · exact bL_one _ u hu
theorem ens_one (l : List EV) : ∀ u ∈ l.flatMap enf, u.oneCell' = true := fun u hu => by
  obtain ⟨o, _, ho⟩ := List.mem_flatMap.1 hu
  exact enf_one o u ho
theorem ens_len (l : List EV) : (l.flatMap enf).length = l.length * 34 := flat_len enf 34 enf_len l
theorem ens_n {w : World} {A : Option Addr} {n c : Nat} {l : List EV} (h : Rs w 34 A n c (l.flatMap enf)) : n = l.length := by
  have := h.len
  rw [ens_len] at this
  omega
/-- An own row of entries. -/
def enR (A : Option Addr) (c : Nat) (l : List EV) : Res := Zx.row 39 34 A l.length c (l.flatMap enf)
theorem enR_lt {w : World} {A : Option Addr} {c : Nat} {l : List EV} (h : (enR A c l).holds w) : ∀ i, (enR A c l).dom i → i < w.heap.size := fun i hi => (World.ownsRow.lt h i hi).2
theorem enR_of {A : Option Addr} {n c : Nat} {l m : List EV} {xs : List Value} (hn : n = m.length) (hx : xs = m.flatMap enf) : Zx.row 39 34 A n c xs = enR A c m := by
  subst hn hx
  rfl
theorem turn_en {w w' : World} {r : Res} {A : Option Addr} {n c : Nat} {m : List EV} {xs : List Value} (h : Turned w w' r (Zx.row 39 34 A n c xs)) (hn : n = m.length) (hx : xs = m.flatMap enf) : Turned w w' r (enR A c m) := by
  subst hn hx
  exact h
theorem ens_set {l : List EV} {k : Nat} {e : EV} (h : k < l.length) : (l.flatMap enf).take (k * 34) ++ (enf e).toArray.toList ++ (l.flatMap enf).drop ((k + 1) * 34) = (l.set k e).flatMap enf := flat_set enf enf_len l k e h
/-- A comparison that may be handed to a sort. -/
structure CMP (F : Nat) (lt : EV → EV → Bool) : Prop where
  ord : Ord3 lt
  fn : ∃ fn, Try.prog.funcs[F]? = some fn ∧ (fn.name == "runtime.NumGoroutine") = false ∧ fn.body.isNone = false
  call : ∀ x y w, Calls Try.prog F #[.agg (enf x).toArray, .agg (enf y).toArray] w fun e w' => ∃ u, e = .returned u ∧ Like w w' ∧ ∃ v : Int, u = .int .i64 v ∧ (v < 0 ↔ lt x y = true)
theorem exch {α : Type} {p q r : List α} {x y : α} {l : List α} {i j : Nat} (h : l = p ++ x :: (q ++ y :: r)) (hi : i = p.length) (hj : j = p.length + 1 + q.length) : l[i]? = some x ∧ l[j]? = some y ∧ (l.set i y).set j x = p ++ y :: (q ++ x :: r) := by
  subst h
  refine ⟨?_, ?_, swp_mid hi hj⟩
  · rw [hi]; exact get_mid.1
  · rw [hj]; exact get_mid.2
theorem exch2 {α : Type} {p q r : List α} {x y : α} {l : List α} {i j : Nat} (h : l = p ++ x :: (q ++ y :: r)) (hi : i = p.length) (hj : j = p.length + 1 + q.length) : l[i]? = some x ∧ l[j]? = some y ∧ (l.set j x).set i y = p ++ y :: (q ++ x :: r) := by
  obtain ⟨h1, h2, h3⟩ := exch h hi hj
  exact ⟨h1, h2, by rw [List.set_comm _ _ (by omega)]; exact h3⟩


theorem sw_st {α : Type} {pre X mid Y post : List α} {k : Nat} {x y : α} (hx : X[k]? = some x) (hy : Y[k]? = some y) :
    pre ++ (Y.take k ++ X.drop k) ++ mid ++ (X.take k ++ Y.drop k) ++ post = (pre ++ Y.take k) ++ x :: ((X.drop (k + 1) ++ mid ++ X.take k) ++ y :: (Y.drop (k + 1) ++ post)) := by
  obtain ⟨h1, rfl⟩ := List.getElem?_eq_some_iff.1 hx
  obtain ⟨h2, rfl⟩ := List.getElem?_eq_some_iff.1 hy
  have e1 := List.drop_eq_getElem_cons h1
  have e2 := List.drop_eq_getElem_cons h2
  rw [e1, e2]
  simp only [List.append_assoc, List.cons_append]
theorem sw_en {α : Type} {pre X mid Y post : List α} {k : Nat} {x y : α} (hx : X[k]? = some x) (hy : Y[k]? = some y) :
    (pre ++ Y.take k) ++ y :: ((X.drop (k + 1) ++ mid ++ X.take k) ++ x :: (Y.drop (k + 1) ++ post)) = pre ++ (Y.take (k + 1) ++ X.drop (k + 1)) ++ mid ++ (X.take (k + 1) ++ Y.drop (k + 1)) ++ post := by
  rw [List.take_add_one, List.take_add_one, hx, hy]
  simp


set_option maxRecDepth 100000 in
theorem swapr (A : Option Addr) (n c : Nat) (a b j : Int) (pre X mid Y post : List EV) (fv : Value) (w0 : World) (hw : (enR A c (pre ++ X ++ mid ++ Y ++ post)).holds w0) (hXY : Y.length = X.length) (hn : n = (pre ++ X ++ mid ++ Y ++ post).length) (ha : a = (pre.length : Int)) (hb : b = ((pre.length + X.length + mid.length : Nat) : Int)) (hj : j = (X.length : Int)) (hn5 : n ≤ 10000) :
    Calls Try.prog 60 #[.slice A n c, .int .i64 a, .int .i64 b, .int .i64 j, fv] w0 fun e w' => ∃ u, e = .returned u ∧ Turned w0 w' (enR A c (pre ++ X ++ mid ++ Y ++ post)) (enR A c (pre ++ Y ++ mid ++ X ++ post)) := by
  refine enter1 (env := [(0, .slice A n c), (1, .int .i64 a), (2, .int .i64 b), (3, .int .i64 j), (4, fv)]) [.slice A n c, .int .i64 a, .int .i64 b, .int .i64 j, fv] Try.func60 rfl Try.ntmps60 rfl rfl ?_
  have hn0 := hn; simp only [List.length_append] at hn; subst ha hb hj; have S0 := St.borrow1 (enR A c (pre ++ X ++ mid ++ Y ++ post)) hw (enR_lt hw)
  refine T_seq fun K1 hK1 => ?_
  refine T_region ?_
  refine L_y (y_assign rfl) rfl ?_
  refine L_nil ?_
  refine hK1 _ _ ?_
  refine T_block ?_
  refine T_loop1 [(0, _), (1, _), (2, _), (3, _)] (fun (k : Nat) => [(10, .int .i64 (k : Int))]) (fun (k : Nat) => X.length - k) (fun (k : Nat) (w : World) => k ≤ X.length ∧ St w0 (enR A c (pre ++ X ++ mid ++ Y ++ post)).dom [enR A c (pre ++ (Y.take k ++ X.drop k) ++ mid ++ (X.take k ++ Y.drop k) ++ post)] w) 0 (Sub.cons rfl (by first | rfl | exact congrArg (Value.int _) (by omega)) (Sub.nil _)) (Sub.cons rfl rfl (Sub.cons rfl rfl (Sub.cons rfl rfl (Sub.cons rfl rfl (Sub.nil _))))) ?_ ?_
  ·
    exact ⟨Nat.zero_le _, by simpa using S0⟩
  ·
    intro k w1 hrel
    obtain ⟨hk, S1⟩ := hrel
    have hln : (pre ++ (Y.take k ++ X.drop k) ++ mid ++ (X.take k ++ Y.drop k) ++ post).length = n := by simp; omega
    rw [show enR A c (pre ++ (Y.take k ++ X.drop k) ++ mid ++ (X.take k ++ Y.drop k) ++ post) = Zx.row 39 34 A n c ((pre ++ (Y.take k ++ X.drop k) ++ mid ++ (X.take k ++ Y.drop k) ++ post).flatMap enf) from by rw [← hln]; rfl] at S1
    refine T_seq fun K2 hK2 => ?_
    refine T_seq fun K3 hK3 => ?_
    refine T_region ?_
    refine L_y (y_move rfl) rfl ?_
    refine L_y (y_move rfl) rfl ?_
    refine L_y (y_lss rfl rfl) rfl ?_
    refine L_nil ?_
    refine hK3 _ _ ?_
    refine T_cond rfl (fun h13 => ?_) (fun h13 => ?_)
    ·
      obtain ⟨x, hx⟩ : ∃ x, X[k]? = some x := ⟨_, List.getElem?_eq_getElem (by omega)⟩
      obtain ⟨y, hy⟩ : ∃ y, Y[k]? = some y := ⟨_, List.getElem?_eq_getElem (by omega)⟩
      obtain ⟨gx, gy, hset⟩ := exch (i := pre.length + k) (j := pre.length + X.length + mid.length + k) (sw_st (pre := pre) (mid := mid) (post := post) hx hy) (by simp; omega) (by simp; omega)
      refine T_skip ?_
      refine hK2 _ _ ?_
      refine T_seq fun K4 hK4 => ?_
      refine T_block ?_
      refine T_zed [0, 1, 2, 3, 8, 9, 10, 11, 12, 13, 14, 15, 16, 17, 18, 19, 20] 21 [(4, 0), (5, 0), (6, 0), (7, 0), (0, 1), (1, 1), (2, 1), (3, 1), (8, 1), (9, 1), (10, 1), (11, 1), (12, 1), (13, 1), (14, 1), (15, 1), (16, 1), (17, 1), (18, 1), (19, 1), (20, 1), (21, 3), (22, 3), (23, 3)] hmix (by kernel_rfl) fun w2 l2 => ?_
      have S2 := S1.like l2
      refine ZA_y rfl (y_move rfl) rfl ?_
      refine ZA_y rfl (y_move rfl) rfl ?_
      refine ZA_y rfl (y_move rfl) rfl ?_
      refine ZA_y rfl (y_add rfl rfl (i64w (by omega))) rfl ?_
      refine ZA_B (Like w2) (Like.refl _) ?_
      refine ZB_y rfl (y_move rfl) rfl ?_
      refine ZB_y rfl (y_move rfl) rfl ?_
      refine ZB_y rfl (y_move rfl) rfl ?_
      refine ZB_y rfl (y_add rfl rfl (i64w (by omega))) rfl ?_
      refine ZB_y rfl (y_move rfl) rfl ?_
      refine ZB_y rfl (y_move rfl) rfl ?_
      refine ZB_y rfl (y_move rfl) rfl ?_
      refine ZB_y rfl (y_add rfl rfl (i64w (by omega))) rfl ?_
      refine ZB_y rfl (y_idx Try.underlying22 sz39 rfl rfl (S2.row 0 rfl) (Nt.mk (by omega) : Nt _ (pre.length + X.length + mid.length + k)) (by omega)) rfl ?_
      refine ZB_y rfl (y_ldp (f := enf) enf_len Try.underlying39 rfl sz39 rfl (S2.row 0 rfl) (by omega) gy) rfl ?_
      refine ZB_y rfl (y_move rfl) rfl ?_
      refine ZB_y rfl (y_move rfl) rfl ?_
      refine ZB_y rfl (y_move rfl) rfl ?_
      refine ZB_y rfl (y_add rfl rfl (i64w (by omega))) rfl ?_
      refine ZB_y rfl (y_idx Try.underlying22 sz39 rfl rfl (S2.row 0 rfl) (Nt.mk (by omega) : Nt _ (pre.length + k)) (by omega)) rfl ?_
      refine ZB_y rfl (y_ldp (f := enf) enf_len Try.underlying39 rfl sz39 rfl (S2.row 0 rfl) (by omega) gx) rfl ?_
      refine ZB_y rfl (y_idx Try.underlying22 sz39 rfl rfl (S2.row 0 rfl) (Nt.mk (by omega) : Nt _ (pre.length + k)) (by omega)) rfl ?_
      refine ZB_c rfl (o_strowE S2 0 rfl rfl rfl (enf_one y) (enf_len y) sz39 (by omega) fun w3 S3 => ?_)
      refine ZA_oy rfl (y_idx Try.underlying22 sz39 rfl rfl (S3.row 0 rfl) (Nt.mk (by omega) : Nt _ (pre.length + X.length + mid.length + k)) (by omega)) rfl ?_
      refine ZA_o rfl (o_strowE S3 0 rfl rfl rfl (enf_one x) (enf_len x) sz39 (by omega) fun w4 S4 => ?_)
      refine ZA_nil ?_
      refine hK4 _ _ ?_
      refine T_region ?_
      refine L_y (y_move rfl) rfl ?_
      refine L_y (y_add rfl rfl (i64w (by omega))) rfl ?_
      refine L_y (y_assign rfl) rfl ?_
      refine L_nil ?_
      have S9 := S4.rowc 0 rfl (n' := (pre ++ (Y.take (k + 1) ++ X.drop (k + 1)) ++ mid ++ (X.take (k + 1) ++ Y.drop (k + 1)) ++ post).length) (xs' := (pre ++ (Y.take (k + 1) ++ X.drop (k + 1)) ++ mid ++ (X.take (k + 1) ++ Y.drop (k + 1)) ++ post).flatMap enf) (by rw [← hln]; simp; omega) (by rw [ens_set (by omega), ens_set (by rw [List.length_set]; omega), hset, sw_en hx hy])
      refine ⟨k + 1, by omega, ⟨by omega, S9⟩, ?_⟩
      exact (Sub.cons rfl (by first | rfl | exact congrArg (Value.int _) (by omega)) (Sub.cons rfl rfl (Sub.cons rfl rfl (Sub.cons rfl rfl (Sub.cons rfl rfl (Sub.nil _))))))
    ·
      have hkx : k = X.length := by omega
      subst hkx
      refine T_exit ?_
      first | refine end0 (fn := Try.f60) rfl ?_ | (simp only [thenQ, inB, if_true]; refine end0 (fn := Try.f60) rfl ?_)
      exact ⟨_, rfl, turn_en (S1.turned1 0 rfl) (by rw [← hln]; simp [hXY]) (by rw [List.take_of_length_le (by omega), List.drop_of_length_le (Nat.le_refl _), List.take_of_length_le (Nat.le_refl _), List.drop_of_length_le (by omega)]; simp)⟩
end Go.Proofs.Ytmgimcdkeelnpaa

/-
  rotate; insertion.
-/
namespace Go.Proofs.Ytmgimcdkeelnpaa
open Go.RowKit Zk Zx
set_option linter.unusedVariables false
set_option linter.unusedSimpArgs false

set_option maxRecDepth 100000 in
theorem rotat (A : Option Addr) (n c : Nat) (a m b : Int) (pre X Y post : List EV) (fv : Value) (w0 : World) (hw : (enR A c (pre ++ X ++ Y ++ post)).holds w0) (hn : n = (pre ++ X ++ Y ++ post).length) (ha : a = (pre.length : Int)) (hm : m = ((pre.length + X.length : Nat) : Int)) (hb : b = ((pre.length + X.length + Y.length : Nat) : Int)) (hX : 0 < X.length) (hY : 0 < Y.length) (hn5 : n ≤ 10000) :
    Calls Try.prog 52 #[.slice A n c, .int .i64 a, .int .i64 m, .int .i64 b, fv] w0 fun e w' => ∃ u, e = .returned u ∧ Turned w0 w' (enR A c (pre ++ X ++ Y ++ post)) (enR A c (pre ++ Y ++ X ++ post)) := by
  refine enter1 (env := [(0, .slice A n c), (1, .int .i64 a), (2, .int .i64 m), (3, .int .i64 b), (4, fv)]) [.slice A n c, .int .i64 a, .int .i64 m, .int .i64 b, fv] Try.func52 rfl Try.ntmps52 rfl rfl ?_
  have hn0 := hn; simp only [List.length_append] at hn; subst ha hm hb; have S0 := St.borrow1 (enR A c (pre ++ X ++ Y ++ post)) hw (enR_lt hw)
  refine T_seq fun K1 hK1 => ?_
  refine T_region ?_
  refine L_y (y_move rfl) rfl ?_
  refine L_y (y_move rfl) rfl ?_
  refine L_y (y_sub rfl rfl (i64w (by omega))) rfl ?_
  refine L_y (y_assign rfl) rfl ?_
  refine L_nil ?_
  refine hK1 _ _ ?_
  refine T_seq fun K2 hK2 => ?_
  refine T_region ?_
  refine L_y (y_move rfl) rfl ?_
  refine L_y (y_move rfl) rfl ?_
  refine L_y (y_sub rfl rfl (i64w (by omega))) rfl ?_
  refine L_y (y_assign rfl) rfl ?_
  refine L_nil ?_
  refine hK2 _ _ ?_
  refine T_seq fun K3 hK3 => ?_
  refine T_block ?_
  refine T_loop4 [(0, _), (2, _), (4, _)] (fun (P : List EV) (U : List EV) (V : List EV) (Q : List EV) => [(10, .int .i64 (U.length : Int)), (11, .int .i64 (V.length : Int))]) (fun (P : List EV) (U : List EV) (V : List EV) (Q : List EV) => U.length + V.length) (fun (P : List EV) (U : List EV) (V : List EV) (Q : List EV) (w : World) => (P.length + U.length = X.length ∧ V.length + Q.length = Y.length ∧ P ++ V ++ U ++ Q = Y ++ X ∧ 0 < U.length ∧ 0 < V.length) ∧ St w0 (enR A c (pre ++ X ++ Y ++ post)).dom [enR A c (pre ++ (P ++ U ++ V ++ Q) ++ post)] w) [] X Y [] (Sub.cons rfl (by first | rfl | exact congrArg (Value.int _) (by omega)) (Sub.cons rfl (by first | rfl | exact congrArg (Value.int _) (by omega)) (Sub.nil _))) (Sub.cons rfl rfl (Sub.cons rfl rfl (Sub.cons rfl rfl (Sub.nil _)))) ?_ ?_
  ·
    exact ⟨⟨by simp, by simp, by simp, by omega, by omega⟩, by simpa using S0⟩
  ·
    intro P U V Q w1 hrel
    obtain ⟨⟨h1, h2, h3, h4, h5⟩, S1⟩ := hrel
    refine T_seq fun K4 hK4 => ?_
    refine T_seq fun K5 hK5 => ?_
    refine T_region ?_
    refine L_y (y_move rfl) rfl ?_
    refine L_y (y_move rfl) rfl ?_
    refine L_y (y_neq rfl rfl) rfl ?_
    refine L_nil ?_
    refine hK5 _ _ ?_
    refine T_cond rfl (fun h20 => ?_) (fun h20 => ?_)
    ·
      refine T_skip ?_
      refine hK4 _ _ ?_
      refine T_block ?_
      refine T_seq fun K6 hK6 => ?_
      refine T_region ?_
      refine L_y (y_move rfl) rfl ?_
      refine L_y (y_move rfl) rfl ?_
      refine L_y (y_gtr rfl rfl) rfl ?_
      refine L_nil ?_
      refine hK6 _ _ ?_
      refine T_cond rfl (fun h23 => ?_) (fun h23 => ?_)
      ·
        obtain ⟨U1, U2, rfl, hU⟩ : ∃ U1 U2, U = U1 ++ U2 ∧ U1.length = V.length := ⟨U.take V.length, U.drop V.length, (List.take_append_drop _ _).symm, by rw [List.length_take]; omega⟩
        have hUl : (U1 ++ U2).length = U1.length + U2.length := List.length_append
        rw [show (pre ++ (P ++ (U1 ++ U2) ++ V ++ Q) ++ post) = (pre ++ P) ++ U1 ++ U2 ++ V ++ (Q ++ post) from by simp] at S1
        refine T_seq fun K7 hK7 => ?_
        refine T_region ?_
        refine L_y (y_move rfl) rfl ?_
        refine L_y (y_move rfl) rfl ?_
        refine L_y (y_move rfl) rfl ?_
        refine L_y (y_sub rfl rfl (i64w (by omega))) rfl ?_
        refine L_y (y_move rfl) rfl ?_
        refine L_y (y_move rfl) rfl ?_
        refine L_y (y_move rfl) rfl ?_
        refine L_o (o_call Try.func60 rfl rfl (swapr A n c _ _ _ (pre ++ P) U1 U2 V (Q ++ post) fv w1 (S1.get 0 rfl) (by omega) (by rw [hn0]; simp at *; omega) (by simp; omega) (by simp; omega) (by omega) hn5) rfl rfl ?_)
        rintro e2 w2 ⟨v2, rfl, T2⟩
        refine ⟨_, rfl, ?_⟩
        have S2 := S1.turn 0 rfl T2
        refine L_nil ?_
        refine hK7 _ _ ?_
        refine T_region ?_
        refine L_y (y_move rfl) rfl ?_
        refine L_y (y_move rfl) rfl ?_
        refine L_y (y_sub rfl rfl (i64w (by omega))) rfl ?_
        refine L_y (y_assign rfl) rfl ?_
        refine L_nil ?_
        refine ⟨P ++ V, U2, U1, Q, by omega, ⟨⟨by simp; omega, by omega, by rw [← h3]; simp, by omega, by omega⟩, by simpa using S2⟩, ?_⟩
        exact (Sub.cons rfl (congrArg (Value.int _) (by omega)) (Sub.cons rfl (congrArg (Value.int _) (by omega)) (Sub.cons rfl rfl (Sub.cons rfl rfl (Sub.cons rfl rfl (Sub.nil _))))))
      ·
        obtain ⟨V1, V2, rfl, hV⟩ : ∃ V1 V2, V = V1 ++ V2 ∧ V2.length = U.length := ⟨V.take (V.length - U.length), V.drop (V.length - U.length), (List.take_append_drop _ _).symm, by rw [List.length_drop]; omega⟩
        have hVl : (V1 ++ V2).length = V1.length + V2.length := List.length_append
        rw [show (pre ++ (P ++ U ++ (V1 ++ V2) ++ Q) ++ post) = (pre ++ P) ++ U ++ V1 ++ V2 ++ (Q ++ post) from by simp] at S1
        refine T_seq fun K8 hK8 => ?_
        refine T_region ?_
        refine L_y (y_move rfl) rfl ?_
        refine L_y (y_move rfl) rfl ?_
        refine L_y (y_move rfl) rfl ?_
        refine L_y (y_sub rfl rfl (i64w (by omega))) rfl ?_
        refine L_y (y_move rfl) rfl ?_
        refine L_y (y_move rfl) rfl ?_
        refine L_y (y_add rfl rfl (i64w (by omega))) rfl ?_
        refine L_y (y_move rfl) rfl ?_
        refine L_y (y_sub rfl rfl (i64w (by omega))) rfl ?_
        refine L_y (y_move rfl) rfl ?_
        refine L_y (y_move rfl) rfl ?_
        refine L_o (o_call Try.func60 rfl rfl (swapr A n c _ _ _ (pre ++ P) U V1 V2 (Q ++ post) fv w1 (S1.get 0 rfl) (by omega) (by rw [hn0]; simp at *; omega) (by simp; omega) (by simp; omega) (by omega) hn5) rfl rfl ?_)
        rintro e3 w3 ⟨v3, rfl, T3⟩
        refine ⟨_, rfl, ?_⟩
        have S3 := S1.turn 0 rfl T3
        refine L_nil ?_
        refine hK8 _ _ ?_
        refine T_region ?_
        refine L_y (y_move rfl) rfl ?_
        refine L_y (y_move rfl) rfl ?_
        refine L_y (y_sub rfl rfl (i64w (by omega))) rfl ?_
        refine L_y (y_assign rfl) rfl ?_
        refine L_nil ?_
        refine ⟨P, V2, V1, U ++ Q, by omega, ⟨⟨by omega, by simp; omega, by rw [← h3]; simp, by omega, by omega⟩, by simpa using S3⟩, ?_⟩
        exact (Sub.cons rfl (congrArg (Value.int _) (by omega)) (Sub.cons rfl (congrArg (Value.int _) (by omega)) (Sub.cons rfl rfl (Sub.cons rfl rfl (Sub.cons rfl rfl (Sub.nil _))))))
    ·
      have hUV : U.length = V.length := by omega
      rw [show (pre ++ (P ++ U ++ V ++ Q) ++ post) = (pre ++ P) ++ U ++ [] ++ V ++ (Q ++ post) from by simp] at S1
      refine T_exit ?_
      refine hK3 _ _ ?_
      refine T_region ?_
      refine L_y (y_move rfl) rfl ?_
      refine L_y (y_move rfl) rfl ?_
      refine L_y (y_move rfl) rfl ?_
      refine L_y (y_sub rfl rfl (i64w (by omega))) rfl ?_
      refine L_y (y_move rfl) rfl ?_
      refine L_y (y_move rfl) rfl ?_
      refine L_y (y_move rfl) rfl ?_
      refine L_o (o_call Try.func60 rfl rfl (swapr A n c _ _ _ (pre ++ P) U [] V (Q ++ post) fv w1 (S1.get 0 rfl) (by omega) (by rw [hn0]; simp at *; omega) (by simp; omega) (by simp; omega) (by omega) hn5) rfl rfl ?_)
      rintro e4 w4 ⟨v4, rfl, T4⟩
      refine ⟨_, rfl, ?_⟩
      have S4 := S1.turn 0 rfl T4
      refine L_nil ?_
      first | refine end0 (fn := Try.f52) rfl ?_ | (simp only [thenQ, inB, if_true]; refine end0 (fn := Try.f52) rfl ?_)
      exact ⟨_, rfl, by have h := S4.turned1 0 rfl; rw [show (pre ++ P) ++ V ++ [] ++ U ++ (Q ++ post) = pre ++ (P ++ V ++ U ++ Q) ++ post from by simp, h3, show pre ++ (Y ++ X) ++ post = pre ++ Y ++ X ++ post from by simp] at h; exact h⟩


theorem drop_hd2 {α : Type} {l : List α} {k : Nat} {x : α} (h : l[k]? = some x) : l.drop k = x :: l.drop (k + 1) := by
  obtain ⟨h1, h2⟩ := List.getElem?_eq_some_iff.1 h
  rw [← h2, List.getElem_cons_drop]
theorem take_sn2 {α : Type} {l : List α} {k : Nat} {x : α} (h : l[k]? = some x) : l.take (k + 1) = l.take k ++ [x] := by rw [List.take_add_one, h]; rfl


set_option maxRecDepth 100000 in
theorem insor (A : Option Addr) (n c : Nat) (a b : Int) (pre seg post : List EV) (F : Nat) (lt : EV → EV → Bool) (w0 : World) (hw : (enR A c (pre ++ seg ++ post)).holds w0) (hC : CMP F lt) (hn : n = (pre ++ seg ++ post).length) (ha : a = (pre.length : Int)) (hb : b = ((pre.length + seg.length : Nat) : Int)) (hn5 : n ≤ 10000) :
    Calls Try.prog 44 #[.slice A n c, .int .i64 a, .int .i64 b, .func (.func F) #[] #[]] w0 fun e w' => ∃ u, e = .returned u ∧ Turned w0 w' (enR A c (pre ++ seg ++ post)) (enR A c (pre ++ srt lt seg ++ post)) := by
  refine enter1 (env := [(0, .slice A n c), (1, .int .i64 a), (2, .int .i64 b), (3, .func (.func F) #[] #[])]) [.slice A n c, .int .i64 a, .int .i64 b, .func (.func F) #[] #[]] Try.func44 rfl Try.ntmps44 rfl rfl ?_
  have hn0 := hn; simp only [List.length_append] at hn; subst ha hb; obtain ⟨fx, hfn, hnm, hbd⟩ := hC.fn; have S0 := St.borrow1 (enR A c (pre ++ seg ++ post)) hw (enR_lt hw)
  refine T_seq fun K1 hK1 => ?_
  refine T_region ?_
  refine L_y (y_move rfl) rfl ?_
  refine L_y (y_add rfl rfl (i64w (by omega))) rfl ?_
  refine L_y (y_assign rfl) rfl ?_
  refine L_nil ?_
  refine hK1 _ _ ?_
  refine T_block ?_
  refine T_loop1 [(0, _), (1, _), (2, _), (3, _)] (fun (k : Nat) => [(8, .int .i64 ((pre.length + k : Nat) : Int))]) (fun (k : Nat) => seg.length - k) (fun (k : Nat) (w : World) => (1 ≤ k ∧ (k ≤ seg.length ∨ k = 1)) ∧ St w0 (enR A c (pre ++ seg ++ post)).dom [enR A c (pre ++ srt lt (seg.take k) ++ seg.drop k ++ post)] w) 1 (Sub.cons rfl (by first | rfl | exact congrArg (Value.int _) (by omega)) (Sub.nil _)) (Sub.cons rfl rfl (Sub.cons rfl rfl (Sub.cons rfl rfl (Sub.cons rfl rfl (Sub.nil _))))) ?_ ?_
  ·
    have e1 : srt lt (seg.take 1) ++ seg.drop 1 = seg := by cases seg with | nil => rfl | cons z t => rfl
    exact ⟨⟨Nat.le_refl _, .inr rfl⟩, by rw [show (pre ++ srt lt (seg.take 1) ++ seg.drop 1 ++ post) = pre ++ seg ++ post from by rw [List.append_assoc pre, e1]]; exact S0⟩
  ·
    intro k w1 hrel
    obtain ⟨⟨hk1, hk⟩, S1⟩ := hrel
    refine T_seq fun K2 hK2 => ?_
    refine T_seq fun K3 hK3 => ?_
    refine T_region ?_
    refine L_y (y_move rfl) rfl ?_
    refine L_y (y_move rfl) rfl ?_
    refine L_y (y_lss rfl rfl) rfl ?_
    refine L_nil ?_
    refine hK3 _ _ ?_
    refine T_cond rfl (fun h14 => ?_) (fun h14 => ?_)
    ·
      obtain ⟨x, hx⟩ : ∃ x, seg[k]? = some x := ⟨_, List.getElem?_eq_getElem (by omega)⟩
      have hsl : (srt lt (seg.take k)).length = k := by rw [srt_len, List.length_take]; omega
      refine T_skip ?_
      refine hK2 _ _ ?_
      refine T_seq fun K4 hK4 => ?_
      refine T_block ?_
      refine T_seq fun K5 hK5 => ?_
      refine T_region ?_
      refine L_y (y_move rfl) rfl ?_
      refine L_y (y_assign rfl) rfl ?_
      refine L_nil ?_
      refine hK5 _ _ ?_
      refine T_block ?_
      refine T_loop2 [(0, _), (1, _), (2, _), (3, _), (8, _)] (fun (p : List EV) (q : List EV) => [(9, .int .i64 ((pre.length + p.length : Nat) : Int))]) (fun (p : List EV) (q : List EV) => p.length) (fun (p : List EV) (q : List EV) (w : World) => (p ++ q = srt lt (seg.take k) ∧ (∀ y ∈ q, lt x y = true)) ∧ St w0 (enR A c (pre ++ seg ++ post)).dom [enR A c (pre ++ p ++ x :: (q ++ seg.drop (k + 1) ++ post))] w) (srt lt (seg.take k)) [] (Sub.cons rfl (by first | rfl | exact congrArg (Value.int _) (by omega)) (Sub.nil _)) (Sub.cons rfl rfl (Sub.cons rfl rfl (Sub.cons rfl rfl (Sub.cons rfl rfl (Sub.cons rfl rfl (Sub.nil _)))))) ?_ ?_
      ·
        exact ⟨⟨by simp, fun y hy => by cases hy⟩, by rw [drop_hd2 hx] at S1; simpa using S1⟩
      ·
        intro p q w2 hrel
        obtain ⟨⟨hpq, hq⟩, S2⟩ := hrel
        have hpl : p.length + q.length = k := by rw [← List.length_append, hpq, srt_len, List.length_take]; omega
        have hln2 : (pre ++ p ++ x :: (q ++ seg.drop (k + 1) ++ post)).length = n := by simp; omega
        rw [show enR A c (pre ++ p ++ x :: (q ++ seg.drop (k + 1) ++ post)) = Zx.row 39 34 A n c ((pre ++ p ++ x :: (q ++ seg.drop (k + 1) ++ post)).flatMap enf) from by rw [← hln2]; rfl] at S2
        refine T_seq fun K6 hK6 => ?_
        refine T_seq fun K7 hK7 => ?_
        refine T_tail 14 hmix (by kernel_rfl) fun w3 l3 K8 hK8 => ?_
        have S3 := S2.like l3
        refine HL_y (y_move rfl) rfl ?_
        refine HL_y (y_move rfl) rfl ?_
        refine HL_y (y_gtr rfl rfl) rfl ?_
        refine HL_y (y_move rfl) rfl ?_
        refine HL_split 21 rfl (fun h21 => ?_) (fun h21 => ?_)
        ·
          obtain ⟨p2, y, rfl⟩ : ∃ p2 y, p = p2 ++ [y] := by rcases List.eq_nil_or_concat p with rfl | ⟨p2, y, rfl⟩; (simp at h21); exact ⟨p2, y, by simp⟩
          have hpl2 : (p2 ++ [y]).length = p2.length + 1 := by simp
          obtain ⟨gy, gx, hset⟩ := exch2 (l := (pre ++ (p2 ++ [y]) ++ x :: (q ++ seg.drop (k + 1) ++ post))) (i := pre.length + p2.length) (j := pre.length + p2.length + 1) (p := pre ++ p2) (q := []) (r := q ++ seg.drop (k + 1) ++ post) (x := y) (y := x) (by simp) (by simp) (by simp)
          refine HL_gyes rfl rfl ?_
          refine HL_y (y_move rfl) rfl ?_
          refine HL_gyes rfl rfl ?_
          refine HL_y (y_move rfl) rfl ?_
          refine HL_gyes rfl rfl ?_
          refine HL_y (y_move rfl) rfl ?_
          refine HL_gyes rfl rfl ?_
          refine HL_y (y_idx Try.underlying22 sz39 rfl rfl (S3.row 0 rfl) (Nt.mk (by omega) : Nt _ (pre.length + p2.length + 1)) (by omega)) rfl ?_
          refine HL_gyes rfl rfl ?_
          refine HL_y (y_ldp (f := enf) enf_len Try.underlying39 rfl sz39 rfl (S3.row 0 rfl) (by omega) gx) rfl ?_
          refine HL_gyes rfl rfl ?_
          refine HL_y (y_move rfl) rfl ?_
          refine HL_gyes rfl rfl ?_
          refine HL_y (y_move rfl) rfl ?_
          refine HL_gyes rfl rfl ?_
          refine HL_y (y_sub rfl rfl (i64w (by omega))) rfl ?_
          refine HL_gyes rfl rfl ?_
          refine HL_y (y_idx Try.underlying22 sz39 rfl rfl (S3.row 0 rfl) (Nt.mk (by omega) : Nt _ (pre.length + p2.length)) (by omega)) rfl ?_
          refine HL_gyes rfl rfl ?_
          refine HL_y (y_ldp (f := enf) enf_len Try.underlying39 rfl sz39 rfl (S3.row 0 rfl) (by omega) gy) rfl ?_
          refine HL_nil ?_
          refine hK8 _ ?_
          refine L_gyes rfl rfl ?_
          refine L_o (o_callv (fs := []) (cs := []) rfl hfn hnm hbd (hC.call x y w3) rfl rfl (fun d' hd => by cases hd <;> rfl) ?_)
          rintro e5 w5 ⟨v5, rfl, l5, v32, rfl, hv32⟩
          refine ⟨_, rfl, ?_⟩
          have S5 := S3.like l5
          refine L_gyes rfl rfl ?_
          refine L_y (y_lss rfl rfl) rfl ?_
          refine L_y ((by first | exact y_pickT rfl rfl | exact y_pickF rfl rfl)) rfl ?_
          refine L_nil ?_
          refine hK7 _ _ ?_
          refine T_cond rfl (fun h34 => ?_) (fun h34 => ?_)
          ·
            have hyx : lt x y = true := hv32.1 (by omega)
            refine T_skip ?_
            refine hK6 _ _ ?_
            refine T_seq fun K9 hK9 => ?_
            refine T_block ?_
            refine T_zed [0, 1, 5, 6, 7, 8, 9, 10, 11, 12, 13, 14] 15 [(2, 0), (3, 0), (4, 0), (0, 1), (1, 1), (5, 1), (6, 1), (7, 1), (8, 1), (9, 1), (10, 1), (11, 1), (12, 1), (13, 1), (14, 1), (15, 3), (16, 3), (17, 3)] hmix (by kernel_rfl) fun w6 l6 => ?_
            have S6 := S5.like l6
            refine ZA_y rfl (y_move rfl) rfl ?_
            refine ZA_y rfl (y_move rfl) rfl ?_
            refine ZA_y rfl (y_sub rfl rfl (i64w (by omega))) rfl ?_
            refine ZA_B (Like w6) (Like.refl _) ?_
            refine ZB_y rfl (y_move rfl) rfl ?_
            refine ZB_y rfl (y_move rfl) rfl ?_
            refine ZB_y rfl (y_move rfl) rfl ?_
            refine ZB_y rfl (y_move rfl) rfl ?_
            refine ZB_y rfl (y_sub rfl rfl (i64w (by omega))) rfl ?_
            refine ZB_y rfl (y_idx Try.underlying22 sz39 rfl rfl (S6.row 0 rfl) (Nt.mk (by omega) : Nt _ (pre.length + p2.length)) (by omega)) rfl ?_
            refine ZB_y rfl (y_ldp (f := enf) enf_len Try.underlying39 rfl sz39 rfl (S6.row 0 rfl) (by omega) gy) rfl ?_
            refine ZB_y rfl (y_move rfl) rfl ?_
            refine ZB_y rfl (y_move rfl) rfl ?_
            refine ZB_y rfl (y_idx Try.underlying22 sz39 rfl rfl (S6.row 0 rfl) (Nt.mk (by omega) : Nt _ (pre.length + p2.length + 1)) (by omega)) rfl ?_
            refine ZB_y rfl (y_ldp (f := enf) enf_len Try.underlying39 rfl sz39 rfl (S6.row 0 rfl) (by omega) gx) rfl ?_
            refine ZB_y rfl (y_idx Try.underlying22 sz39 rfl rfl (S6.row 0 rfl) (Nt.mk (by omega) : Nt _ (pre.length + p2.length + 1)) (by omega)) rfl ?_
            refine ZB_c rfl (o_strowE S6 0 rfl rfl rfl (enf_one y) (enf_len y) sz39 (by omega) fun w7 S7 => ?_)
            refine ZA_oy rfl (y_idx Try.underlying22 sz39 rfl rfl (S7.row 0 rfl) (Nt.mk (by omega) : Nt _ (pre.length + p2.length)) (by omega)) rfl ?_
            refine ZA_o rfl (o_strowE S7 0 rfl rfl rfl (enf_one x) (enf_len x) sz39 (by omega) fun w8 S8 => ?_)
            refine ZA_nil ?_
            refine hK9 _ _ ?_
            refine T_region ?_
            refine L_y (y_move rfl) rfl ?_
            refine L_y (y_sub rfl rfl (i64w (by omega))) rfl ?_
            refine L_y (y_assign rfl) rfl ?_
            refine L_nil ?_
            have S9 := S8.rowc 0 rfl (n' := (pre ++ p2 ++ x :: (y :: q ++ seg.drop (k + 1) ++ post)).length) (xs' := (pre ++ p2 ++ x :: (y :: q ++ seg.drop (k + 1) ++ post)).flatMap enf) (by rw [← hln2]; simp) (by rw [ens_set (by omega), ens_set (by rw [List.length_set]; omega), hset]; simp)
            refine ⟨p2, y :: q, by simp, ⟨⟨by rw [← hpq]; simp, fun z hz => by rcases List.mem_cons.1 hz with rfl | hz; exact hyx; exact hq z hz⟩, S9⟩, ?_⟩
            exact (Sub.cons rfl (congrArg (Value.int _) (by simp; omega)) (Sub.cons rfl rfl (Sub.cons rfl rfl (Sub.cons rfl rfl (Sub.cons rfl rfl (Sub.cons rfl rfl (Sub.nil _)))))))
          ·
            have hyx : lt x y = false := by cases h9 : lt x y with | false => rfl | true => exact absurd (hv32.2 h9) (by omega)
            have hres : insS lt (srt lt (seg.take k)) x = (p2 ++ [y]) ++ x :: q := by rw [← hpq]; exact ins_at (p2 ++ [y]) q (srt_last hC.ord (by have h8 := srt_sorted hC.ord (seg.take k); rw [← hpq] at h8; exact (List.pairwise_append.1 h8).1) hyx) (fun z hz => hq z (List.mem_of_getElem? hz))
            refine T_exit ?_
            refine hK4 _ _ ?_
            refine T_region ?_
            refine L_y (y_move rfl) rfl ?_
            refine L_y (y_add rfl rfl (i64w (by omega))) rfl ?_
            refine L_y (y_assign rfl) rfl ?_
            refine L_nil ?_
            have e9 : (pre ++ (p2 ++ [y]) ++ x :: (q ++ seg.drop (k + 1) ++ post)) = pre ++ srt lt (seg.take (k + 1)) ++ seg.drop (k + 1) ++ post := by rw [take_sn2 hx, srt_snoc, hres]; simp
            have S9 := S5.rowc 0 rfl (n' := (pre ++ srt lt (seg.take (k + 1)) ++ seg.drop (k + 1) ++ post).length) (xs' := (pre ++ srt lt (seg.take (k + 1)) ++ seg.drop (k + 1) ++ post).flatMap enf) (by rw [← hln2, e9]) (by rw [e9])
            refine ⟨k + 1, by omega, ⟨⟨by omega, by omega⟩, S9⟩, ?_⟩
            exact (Sub.cons rfl (congrArg (Value.int _) (by omega)) (Sub.cons rfl rfl (Sub.cons rfl rfl (Sub.cons rfl rfl (Sub.cons rfl rfl (Sub.nil _))))))
        ·
          have hp0 : p = [] := List.eq_nil_of_length_eq_zero (by omega)
          have hres : insS lt (srt lt (seg.take k)) x = p ++ x :: q := by rw [← hpq]; exact ins_at p q (fun z hz => by rw [hp0] at hz; cases hz) (fun z hz => hq z (List.mem_of_getElem? hz))
          refine HL_gno rfl rfl rfl ?_
          refine HL_gno rfl rfl rfl ?_
          refine HL_gno rfl rfl rfl ?_
          refine HL_gno rfl rfl rfl ?_
          refine HL_gno rfl rfl rfl ?_
          refine HL_gno rfl rfl rfl ?_
          refine HL_gno rfl rfl rfl ?_
          refine HL_gno rfl rfl rfl ?_
          refine HL_gno rfl rfl rfl ?_
          refine HL_gno rfl rfl rfl ?_
          refine HL_nil ?_
          refine hK8 _ ?_
          refine L_gno rfl rfl rfl ?_
          refine L_gno rfl rfl rfl ?_
          refine L_y ((by first | exact y_pickT rfl rfl | exact y_pickF rfl rfl)) rfl ?_
          refine L_nil ?_
          refine hK7 _ _ ?_
          refine T_false rfl ?_
          refine T_exit ?_
          refine hK4 _ _ ?_
          refine T_region ?_
          refine L_y (y_move rfl) rfl ?_
          refine L_y (y_add rfl rfl (i64w (by omega))) rfl ?_
          refine L_y (y_assign rfl) rfl ?_
          refine L_nil ?_
          have e9 : (pre ++ p ++ x :: (q ++ seg.drop (k + 1) ++ post)) = pre ++ srt lt (seg.take (k + 1)) ++ seg.drop (k + 1) ++ post := by rw [take_sn2 hx, srt_snoc, hres]; simp
          have S9 := S3.rowc 0 rfl (n' := (pre ++ srt lt (seg.take (k + 1)) ++ seg.drop (k + 1) ++ post).length) (xs' := (pre ++ srt lt (seg.take (k + 1)) ++ seg.drop (k + 1) ++ post).flatMap enf) (by rw [← hln2, e9]) (by rw [e9])
          refine ⟨k + 1, by omega, ⟨⟨by omega, by omega⟩, S9⟩, ?_⟩
          exact (Sub.cons rfl (congrArg (Value.int _) (by omega)) (Sub.cons rfl rfl (Sub.cons rfl rfl (Sub.cons rfl rfl (Sub.cons rfl rfl (Sub.nil _))))))
    ·
      refine T_exit ?_
      first | refine end0 (fn := Try.f44) rfl ?_ | (simp only [thenQ, inB, if_true]; refine end0 (fn := Try.f44) rfl ?_)
      have h := S1.turned1 0 rfl
      rw [List.take_of_length_le (by omega), List.drop_of_length_le (by omega), List.append_nil] at h
      exact ⟨_, rfl, h⟩
end Go.Proofs.Ytmgimcdkeelnpaa

/-
  symMerge.
-/
namespace Go.Proofs.Ytmgimcdkeelnpaa
open Go.RowKit Zk Zx
set_option linter.unusedVariables false
set_option linter.unusedSimpArgs false

theorem shr1 (x : Nat) : Int.fdiv (x : Int) (2 ^ (min (1 : Int).toNat IntKind.u64.bits)) = ((x / 2 : Nat) : Int) := by
  have e1 : min (1 : Int).toNat IntKind.u64.bits = 1 := by decide
  rw [e1, Int.fdiv_eq_ediv_of_nonneg _ (Int.pow_nonneg (by omega)), Int.natCast_ediv]
  rfl
theorem split_at {α : Type} (l : List α) (i : Nat) (h : i ≤ l.length) : ∃ u v, l = u ++ v ∧ u.length = i := ⟨l.take i, l.drop i, (List.take_append_drop _ _).symm, by rw [List.length_take]; omega⟩
/-- Where a merge is split: by what was found at the border alone. -/
theorem sym_split {lt : EV → EV → Bool} (O : Ord3 lt) {a1 b1 a2 b2 : List EV} (h1 : Srt lt (a1 ++ b1)) (h2 : Srt lt (a2 ++ b2))
    (hi : (a1 = [] ∨ b2 = []) ∨ ∃ x y, (a1 ++ b1)[a1.length - 1]? = some x ∧ (a2 ++ b2)[a2.length]? = some y ∧ lt y x = false ∧ 0 < a1.length)
    (hj : (b1 = [] ∨ a2 = []) ∨ ∃ x y, (a1 ++ b1)[a1.length]? = some x ∧ (a2 ++ b2)[a2.length - 1]? = some y ∧ lt y x = true ∧ 0 < a2.length) :
    mrg lt (a1 ++ b1) (a2 ++ b2) = mrg lt a1 a2 ++ mrg lt b1 b2 := by
  have p1 := List.pairwise_append.1 h1
  have p2 := List.pairwise_append.1 h2
  refine mrg_split a1 a2 b1 b2 (fun x hx y hy => ?_) (fun y hy x hx => ?_)
  · rcases hi with (h | h) | ⟨x0, y0, hx0, hy0, h0, hp⟩
    · rw [h] at hx; cases hx
    · rw [h] at hy; cases hy
    · obtain ⟨q, z, rfl⟩ : ∃ q z, a1 = q ++ [z] := by
        rcases List.eq_nil_or_concat a1 with rfl | ⟨q, z, rfl⟩
        · cases hx
        · exact ⟨q, z, by simp⟩
      have e1 : z = x0 := by simpa using hx0
      subst e1
      have h3 : lt y0 x = false := by
        rcases List.mem_append.1 hx with hx | hx
        · exact O.nt _ _ _ h0 ((List.pairwise_append.1 p1.1).2.2 x hx z (by simp))
        · rw [List.mem_singleton.1 hx]; exact h0
      cases b2 with
      | nil => cases hy
      | cons w b2 =>
        have e2 : w = y0 := by simpa using hy0
        subst e2
        exact srt_head O p2.2.1 h3 y hy
  · rcases hj with (h | h) | ⟨x0, y0, hx0, hy0, h0, hp⟩
    · rw [h] at hx; cases hx
    · rw [h] at hy; cases hy
    · obtain ⟨q, z, rfl⟩ : ∃ q z, a2 = q ++ [z] := by
        rcases List.eq_nil_or_concat a2 with rfl | ⟨q, z, rfl⟩
        · cases hy
        · exact ⟨q, z, by simp⟩
      have e1 : z = y0 := by simpa using hy0
      subst e1
      have h3 : lt y x0 = true := srt_last2 O p2.1 h0 y hy
      cases b1 with
      | nil => cases hx
      | cons w b1 =>
        have e2 : w = x0 := by simpa using hx0
        subst e2
        exact srt_head2 O p1.2.1 h3 x hx
/-- What symMerge does to two sorted parts. -/
def SMok (A : Option Addr) (n c F : Nat) (lt : EV → EV → Bool) (pre l1 l2 post : List EV) : Prop :=
  ∀ (a m b : Int) (w0 : World), (enR A c (pre ++ l1 ++ l2 ++ post)).holds w0 → n = (pre ++ l1 ++ l2 ++ post).length → a = (pre.length : Int) → m = ((pre.length + l1.length : Nat) : Int) → b = ((pre.length + l1.length + l2.length : Nat) : Int) →
    0 < l1.length → 0 < l2.length → Srt lt l1 → Srt lt l2 →
    Calls Try.prog 45 #[.slice A n c, .int .i64 a, .int .i64 m, .int .i64 b, .func (.func F) #[] #[]] w0 fun e w' => ∃ u, e = .returned u ∧ Turned w0 w' (enR A c (pre ++ l1 ++ l2 ++ post)) (enR A c (pre ++ mrg lt l1 l2 ++ post))


set_option maxRecDepth 100000 in
theorem symst (A : Option Addr) (n c N : Nat) (a m b : Int) (pre l1 l2 post : List EV) (F : Nat) (lt : EV → EV → Bool) (w0 : World) (hw : (enR A c (pre ++ l1 ++ l2 ++ post)).holds w0) (hC : CMP F lt) (hn : n = (pre ++ l1 ++ l2 ++ post).length) (ha : a = (pre.length : Int)) (hm : m = ((pre.length + l1.length : Nat) : Int)) (hb : b = ((pre.length + l1.length + l2.length : Nat) : Int)) (h1 : 0 < l1.length) (h2 : 0 < l2.length) (hs1 : Srt lt l1) (hs2 : Srt lt l2) (hN : l1.length + l2.length = N) (ih : ∀ pre l1 l2 post, l1.length + l2.length < N → SMok A n c F lt pre l1 l2 post) (hn5 : n ≤ 10000) :
    Calls Try.prog 45 #[.slice A n c, .int .i64 a, .int .i64 m, .int .i64 b, .func (.func F) #[] #[]] w0 fun e w' => ∃ u, e = .returned u ∧ Turned w0 w' (enR A c (pre ++ l1 ++ l2 ++ post)) (enR A c (pre ++ mrg lt l1 l2 ++ post)) := by
  refine enter1 (env := [(0, .slice A n c), (1, .int .i64 a), (2, .int .i64 m), (3, .int .i64 b), (4, .func (.func F) #[] #[])]) [.slice A n c, .int .i64 a, .int .i64 m, .int .i64 b, .func (.func F) #[] #[]] Try.func45 rfl Try.ntmps45 rfl rfl ?_
  have hn0 := hn; simp only [List.length_append] at hn; subst ha hm hb; obtain ⟨fx, hfn, hnm, hbd⟩ := hC.fn; have SS := St.borrow1 (enR A c (pre ++ l1 ++ l2 ++ post)) hw (enR_lt hw); have S0 := SS.rowc 0 rfl (n' := n) (xs' := (pre ++ l1 ++ l2 ++ post).flatMap enf) hn0.symm rfl
  refine T_seq fun K1 hK1 => ?_
  refine T_seq fun K2 hK2 => ?_
  refine T_region ?_
  refine L_y (y_move rfl) rfl ?_
  refine L_y (y_move rfl) rfl ?_
  refine L_y (y_sub rfl rfl (i64w (by omega))) rfl ?_
  refine L_y (y_eql rfl rfl) rfl ?_
  refine L_nil ?_
  refine hK2 _ _ ?_
  refine T_cond rfl (fun h28 => ?_) (fun h28 => ?_)
  ·
    obtain ⟨x, rfl⟩ : ∃ x, l1 = [x] := List.length_eq_one_iff.1 (by omega)
    have hx1 : [x].length = 1 := rfl
    have gx : (pre ++ [x] ++ l2 ++ post)[pre.length]? = some x := by simp
    refine T_seq fun K3 hK3 => ?_
    refine T_region ?_
    refine L_y (y_move rfl) rfl ?_
    refine L_y (y_assign rfl) rfl ?_
    refine L_nil ?_
    refine hK3 _ _ ?_
    refine T_seq fun K4 hK4 => ?_
    refine T_region ?_
    refine L_y (y_move rfl) rfl ?_
    refine L_y (y_assign rfl) rfl ?_
    refine L_nil ?_
    refine hK4 _ _ ?_
    refine T_seq fun K5 hK5 => ?_
    refine T_block ?_
    refine T_loop2 [(0, _), (1, _), (4, _)] (fun (i : Nat) (j : Nat) => [(10, .int .i64 ((pre.length + 1 + i : Nat) : Int)), (11, .int .i64 ((pre.length + 1 + j : Nat) : Int))]) (fun (i : Nat) (j : Nat) => j - i) (fun (i : Nat) (j : Nat) (w : World) => (i ≤ j ∧ j ≤ l2.length ∧ (∀ y, 0 < i → l2[i - 1]? = some y → lt y x = true) ∧ (∀ y, l2[j]? = some y → lt y x = false)) ∧ St w0 (enR A c (pre ++ [x] ++ l2 ++ post)).dom [Zx.row 39 34 A n c ((pre ++ [x] ++ l2 ++ post).flatMap enf)] w) 0 l2.length (Sub.cons rfl (by first | rfl | exact congrArg (Value.int _) (by omega)) (Sub.cons rfl (by first | rfl | exact congrArg (Value.int _) (by omega)) (Sub.nil _))) (Sub.cons rfl rfl (Sub.cons rfl rfl (Sub.cons rfl rfl (Sub.nil _)))) ?_ ?_
    ·
      exact ⟨⟨Nat.zero_le _, Nat.le_refl _, fun y h => absurd h (by omega), fun y h => by rw [List.getElem?_eq_none (Nat.le_refl _)] at h; cases h⟩, S0⟩
    ·
      intro i j w1 hrel
      obtain ⟨⟨hij, hjl, hlo, hhi⟩, S1⟩ := hrel
      refine T_seq fun K6 hK6 => ?_
      refine T_seq fun K7 hK7 => ?_
      refine T_region ?_
      refine L_y (y_move rfl) rfl ?_
      refine L_y (y_move rfl) rfl ?_
      refine L_y (y_lss rfl rfl) rfl ?_
      refine L_nil ?_
      refine hK7 _ _ ?_
      refine T_cond rfl (fun h33 => ?_) (fun h33 => ?_)
      ·
        obtain ⟨z, hz⟩ : ∃ z, l2[(i + j) / 2]? = some z := ⟨_, List.getElem?_eq_getElem (by omega)⟩
        have gz : (pre ++ [x] ++ l2 ++ post)[pre.length + 1 + (i + j) / 2]? = some z := by rw [List.append_assoc, List.getElem?_append_right (by simp), List.getElem?_append_left (by simp; omega)]; simpa [Nat.add_sub_cancel_left] using hz
        refine T_skip ?_
        refine hK6 _ _ ?_
        refine T_block ?_
        refine T_seq fun K8 hK8 => ?_
        refine T_region ?_
        refine L_y (y_move rfl) rfl ?_
        refine L_y (y_move rfl) rfl ?_
        refine L_y (y_add rfl rfl (i64w (by omega))) rfl ?_
        refine L_y (y_conv is3 Try.underlying81 rfl (show _ = ((pre.length + 1 + i + (pre.length + 1 + j) : Nat) : Int) by rw [IntKind.wrap_u64]; omega)) rfl ?_
        refine L_y (y_shr rfl rfl (by omega) (shr1 _)) rfl ?_
        refine L_y (y_conv is81 Try.underlying3 rfl (i64w (by omega))) rfl ?_
        refine L_y (y_assign rfl) rfl ?_
        refine L_nil ?_
        refine hK8 _ _ ?_
        refine T_seq fun K9 hK9 => ?_
        refine T_tail 9 hmix (by kernel_rfl) fun w2 l2 K10 hK10 => ?_
        have S2 := S1.like l2
        refine HL_y (y_move rfl) rfl ?_
        refine HL_y (y_move rfl) rfl ?_
        refine HL_y (y_move rfl) rfl ?_
        refine HL_y (y_idx Try.underlying22 sz39 rfl rfl (S2.row 0 rfl) (Nt.mk (by omega) : Nt _ (pre.length + 1 + (i + j) / 2)) (by omega)) rfl ?_
        refine HL_y (y_ldp (f := enf) enf_len Try.underlying39 rfl sz39 rfl (S2.row 0 rfl) (by omega) gz) rfl ?_
        refine HL_y (y_move rfl) rfl ?_
        refine HL_y (y_move rfl) rfl ?_
        refine HL_y (y_idx Try.underlying22 sz39 rfl rfl (S2.row 0 rfl) (Nt.mk (by omega) : Nt _ (pre.length)) (by omega)) rfl ?_
        refine HL_y (y_ldp (f := enf) enf_len Try.underlying39 rfl sz39 rfl (S2.row 0 rfl) (by omega) gx) rfl ?_
        refine HL_nil ?_
        refine hK10 _ ?_
        refine L_o (o_callv (fs := []) (cs := []) rfl hfn hnm hbd (hC.call z x w2) rfl rfl (fun d' hd => by cases hd <;> rfl) ?_)
        rintro e3 w3 ⟨v3, rfl, l3, vc, rfl, hvc⟩
        refine ⟨_, rfl, ?_⟩
        have S3 := S2.like l3
        refine L_y (y_lss rfl rfl) rfl ?_
        refine L_nil ?_
        refine hK9 _ _ ?_
        refine T_cond rfl (fun h50 => ?_) (fun h50 => ?_)
        ·
          refine T_region ?_
          refine L_y (y_move rfl) rfl ?_
          refine L_y (y_add rfl rfl (i64w (by omega))) rfl ?_
          refine L_y (y_assign rfl) rfl ?_
          refine L_nil ?_
          refine ⟨(i + j) / 2 + 1, j, by omega, ⟨⟨by omega, hjl, fun y _ h => by rw [Nat.add_sub_cancel, hz] at h; cases h; exact hvc.1 h50, hhi⟩, S3⟩, ?_⟩
          exact (Sub.cons rfl (congrArg (Value.int _) (by omega)) (Sub.cons rfl (congrArg (Value.int _) (by omega)) (Sub.cons rfl rfl (Sub.cons rfl rfl (Sub.cons rfl rfl (Sub.nil _))))))
        ·
          refine T_region ?_
          refine L_y (y_move rfl) rfl ?_
          refine L_y (y_assign rfl) rfl ?_
          refine L_nil ?_
          refine ⟨i, (i + j) / 2, by omega, ⟨⟨by omega, by omega, hlo, fun y h => by rw [hz] at h; cases h; cases h9 : lt z x with | false => rfl | true => exact absurd (hvc.2 h9) (by omega)⟩, S3⟩, ?_⟩
          exact (Sub.cons rfl (congrArg (Value.int _) (by omega)) (Sub.cons rfl (congrArg (Value.int _) (by omega)) (Sub.cons rfl rfl (Sub.cons rfl rfl (Sub.cons rfl rfl (Sub.nil _))))))
      ·
        have hije : i = j := by omega
        subst hije
        obtain ⟨u, v, rfl, hul⟩ := split_at l2 i hjl
        subst hul
        have hv0 : (u ++ v)[u.length]? = v[0]? := by rw [List.getElem?_append_right (Nat.le_refl _), Nat.sub_self]
        have hmr := mrg_one (x := x) hC.ord hs2 (fun y h hp => hlo y hp h) (fun y h => hhi y (by rw [hv0]; exact h))
        have huv : (u ++ v).length = u.length + v.length := List.length_append
        refine T_exit ?_
        refine hK5 _ _ ?_
        refine T_seq fun K11 hK11 => ?_
        refine T_seq fun K12 hK12 => ?_
        refine T_region ?_
        refine L_y (y_move rfl) rfl ?_
        refine L_y (y_assign rfl) rfl ?_
        refine L_nil ?_
        refine hK12 _ _ ?_
        refine T_block ?_
        refine T_loop1 [(0, _), (10, _)] (fun (t : Nat) => [(13, .int .i64 ((pre.length + t : Nat) : Int))]) (fun (t : Nat) => u.length - t) (fun (t : Nat) (w : World) => t ≤ u.length ∧ St w0 (enR A c (pre ++ [x] ++ (u ++ v) ++ post)).dom [enR A c (pre ++ u.take t ++ x :: (u.drop t ++ v ++ post))] w) 0 (Sub.cons rfl (by first | rfl | exact congrArg (Value.int _) (by omega)) (Sub.nil _)) (Sub.cons rfl rfl (Sub.cons rfl rfl (Sub.nil _))) ?_ ?_
        ·
          have e9 : (pre ++ [x] ++ (u ++ v) ++ post) = (pre ++ u.take 0 ++ x :: (u.drop 0 ++ v ++ post)) := by simp
          have S9 := S1.rowc 0 rfl (n' := (pre ++ u.take 0 ++ x :: (u.drop 0 ++ v ++ post)).length) (xs' := (pre ++ u.take 0 ++ x :: (u.drop 0 ++ v ++ post)).flatMap enf) (by rw [hn0, e9]) (by rw [e9])
          exact ⟨Nat.zero_le _, S9⟩
        ·
          intro t w4 hrel
          obtain ⟨ht, S4⟩ := hrel
          have hln : (pre ++ u.take t ++ x :: (u.drop t ++ v ++ post)).length = n := by simp at hn ⊢; omega
          rw [show enR A c (pre ++ u.take t ++ x :: (u.drop t ++ v ++ post)) = Zx.row 39 34 A n c ((pre ++ u.take t ++ x :: (u.drop t ++ v ++ post)).flatMap enf) from by rw [← hln]; rfl] at S4
          refine T_seq fun K13 hK13 => ?_
          refine T_seq fun K14 hK14 => ?_
          refine T_region ?_
          refine L_y (y_move rfl) rfl ?_
          refine L_y (y_move rfl) rfl ?_
          refine L_y (y_sub rfl rfl (i64w (by omega))) rfl ?_
          refine L_y (y_lss rfl rfl) rfl ?_
          refine L_nil ?_
          refine hK14 _ _ ?_
          refine T_cond rfl (fun h58 => ?_) (fun h58 => ?_)
          ·
            obtain ⟨y, hy⟩ : ∃ y, u[t]? = some y := ⟨_, List.getElem?_eq_getElem (by omega)⟩
            have htl : (u.take t).length = t := by rw [List.length_take]; omega
            obtain ⟨gx2, gy2, hset⟩ := exch (l := (pre ++ u.take t ++ x :: (u.drop t ++ v ++ post))) (i := pre.length + t) (j := pre.length + t + 1) (p := pre ++ u.take t) (q := []) (r := u.drop (t + 1) ++ v ++ post) (x := x) (y := y) (by rw [List.drop_eq_getElem_cons (show t < u.length by omega), show u[t]'(by omega) = y from Option.some.inj ((List.getElem?_eq_getElem _).symm.trans hy)]; rfl) (by simp; omega) (by simp; omega)
            refine T_skip ?_
            refine hK13 _ _ ?_
            refine T_seq fun K15 hK15 => ?_
            refine T_block ?_
            refine T_zed [0, 1, 5, 6, 7, 8, 9, 10, 11, 12, 13, 14] 15 [(2, 0), (3, 0), (4, 0), (0, 1), (1, 1), (5, 1), (6, 1), (7, 1), (8, 1), (9, 1), (10, 1), (11, 1), (12, 1), (13, 1), (14, 1), (15, 3), (16, 3), (17, 3)] hmix (by kernel_rfl) fun w5 l5 => ?_
            have S5 := S4.like l5
            refine ZA_y rfl (y_move rfl) rfl ?_
            refine ZA_y rfl (y_move rfl) rfl ?_
            refine ZA_y rfl (y_add rfl rfl (i64w (by omega))) rfl ?_
            refine ZA_B (Like w5) (Like.refl _) ?_
            refine ZB_y rfl (y_move rfl) rfl ?_
            refine ZB_y rfl (y_move rfl) rfl ?_
            refine ZB_y rfl (y_move rfl) rfl ?_
            refine ZB_y rfl (y_move rfl) rfl ?_
            refine ZB_y rfl (y_add rfl rfl (i64w (by omega))) rfl ?_
            refine ZB_y rfl (y_idx Try.underlying22 sz39 rfl rfl (S5.row 0 rfl) (Nt.mk (by omega) : Nt _ (pre.length + t + 1)) (by omega)) rfl ?_
            refine ZB_y rfl (y_ldp (f := enf) enf_len Try.underlying39 rfl sz39 rfl (S5.row 0 rfl) (by omega) gy2) rfl ?_
            refine ZB_y rfl (y_move rfl) rfl ?_
            refine ZB_y rfl (y_move rfl) rfl ?_
            refine ZB_y rfl (y_idx Try.underlying22 sz39 rfl rfl (S5.row 0 rfl) (Nt.mk (by omega) : Nt _ (pre.length + t)) (by omega)) rfl ?_
            refine ZB_y rfl (y_ldp (f := enf) enf_len Try.underlying39 rfl sz39 rfl (S5.row 0 rfl) (by omega) gx2) rfl ?_
            refine ZB_y rfl (y_idx Try.underlying22 sz39 rfl rfl (S5.row 0 rfl) (Nt.mk (by omega) : Nt _ (pre.length + t)) (by omega)) rfl ?_
            refine ZB_c rfl (o_strowE S5 0 rfl rfl rfl (enf_one y) (enf_len y) sz39 (by omega) fun w6 S6 => ?_)
            refine ZA_oy rfl (y_idx Try.underlying22 sz39 rfl rfl (S6.row 0 rfl) (Nt.mk (by omega) : Nt _ (pre.length + t + 1)) (by omega)) rfl ?_
            refine ZA_o rfl (o_strowE S6 0 rfl rfl rfl (enf_one x) (enf_len x) sz39 (by omega) fun w7 S7 => ?_)
            refine ZA_nil ?_
            refine hK15 _ _ ?_
            refine T_region ?_
            refine L_y (y_move rfl) rfl ?_
            refine L_y (y_add rfl rfl (i64w (by omega))) rfl ?_
            refine L_y (y_assign rfl) rfl ?_
            refine L_nil ?_
            have e9 : pre ++ u.take t ++ y :: ([] ++ x :: (u.drop (t + 1) ++ v ++ post)) = (pre ++ u.take (t + 1) ++ x :: (u.drop (t + 1) ++ v ++ post)) := by rw [List.take_add_one, hy]; simp
            have S9 := S7.rowc 0 rfl (n' := (pre ++ u.take (t + 1) ++ x :: (u.drop (t + 1) ++ v ++ post)).length) (xs' := (pre ++ u.take (t + 1) ++ x :: (u.drop (t + 1) ++ v ++ post)).flatMap enf) (by rw [← hln]; simp; omega) (by rw [ens_set (by omega), ens_set (by rw [List.length_set]; omega), hset, e9])
            refine ⟨t + 1, by omega, ⟨by omega, S9⟩, ?_⟩
            exact (Sub.cons rfl (congrArg (Value.int _) (by omega)) (Sub.cons rfl rfl (Sub.cons rfl rfl (Sub.nil _))))
          ·
            refine T_exit ?_
            refine hK11 _ _ ?_
            refine T_ret ?_
            repeat (first | with_reducible refine up_then ?_ | with_reducible refine up_in ?_)
            refine ret0 rfl ?_
            have ht9 : t = u.length := by omega
            subst ht9
            exact ⟨_, rfl, turn_en (S4.turned1 0 rfl) (by rw [hmr, ← hln]; simp) (by rw [hmr]; simp)⟩
  ·
    refine T_skip ?_
    refine hK1 _ _ ?_
    refine T_seq fun K16 hK16 => ?_
    refine T_seq fun K17 hK17 => ?_
    refine T_region ?_
    refine L_y (y_move rfl) rfl ?_
    refine L_y (y_move rfl) rfl ?_
    refine L_y (y_sub rfl rfl (i64w (by omega))) rfl ?_
    refine L_y (y_eql rfl rfl) rfl ?_
    refine L_nil ?_
    refine hK17 _ _ ?_
    refine T_cond rfl (fun h80 => ?_) (fun h80 => ?_)
    ·
      obtain ⟨y, rfl⟩ : ∃ y, l2 = [y] := List.length_eq_one_iff.1 (by omega)
      have hy1 : [y].length = 1 := rfl
      have gy : (pre ++ l1 ++ [y] ++ post)[pre.length + l1.length]? = some y := by rw [← List.length_append]; simp
      refine T_seq fun K18 hK18 => ?_
      refine T_region ?_
      refine L_y (y_move rfl) rfl ?_
      refine L_y (y_assign rfl) rfl ?_
      refine L_nil ?_
      refine hK18 _ _ ?_
      refine T_seq fun K19 hK19 => ?_
      refine T_region ?_
      refine L_y (y_move rfl) rfl ?_
      refine L_y (y_assign rfl) rfl ?_
      refine L_nil ?_
      refine hK19 _ _ ?_
      refine T_seq fun K20 hK20 => ?_
      refine T_block ?_
      refine T_loop2 [(0, _), (2, _), (4, _)] (fun (i : Nat) (j : Nat) => [(14, .int .i64 ((pre.length + i : Nat) : Int)), (15, .int .i64 ((pre.length + j : Nat) : Int))]) (fun (i : Nat) (j : Nat) => j - i) (fun (i : Nat) (j : Nat) (w : World) => (i ≤ j ∧ j ≤ l1.length ∧ (∀ x, 0 < i → l1[i - 1]? = some x → lt y x = false) ∧ (∀ x, l1[j]? = some x → lt y x = true)) ∧ St w0 (enR A c (pre ++ l1 ++ [y] ++ post)).dom [Zx.row 39 34 A n c ((pre ++ l1 ++ [y] ++ post).flatMap enf)] w) 0 l1.length (Sub.cons rfl (by first | rfl | exact congrArg (Value.int _) (by omega)) (Sub.cons rfl (by first | rfl | exact congrArg (Value.int _) (by omega)) (Sub.nil _))) (Sub.cons rfl rfl (Sub.cons rfl rfl (Sub.cons rfl rfl (Sub.nil _)))) ?_ ?_
      ·
        exact ⟨⟨Nat.zero_le _, Nat.le_refl _, fun y h => absurd h (by omega), fun y h => by rw [List.getElem?_eq_none (Nat.le_refl _)] at h; cases h⟩, S0⟩
      ·
        intro i j w8 hrel
        obtain ⟨⟨hij, hjl, hlo, hhi⟩, S8⟩ := hrel
        refine T_seq fun K21 hK21 => ?_
        refine T_seq fun K22 hK22 => ?_
        refine T_region ?_
        refine L_y (y_move rfl) rfl ?_
        refine L_y (y_move rfl) rfl ?_
        refine L_y (y_lss rfl rfl) rfl ?_
        refine L_nil ?_
        refine hK22 _ _ ?_
        refine T_cond rfl (fun h85 => ?_) (fun h85 => ?_)
        ·
          obtain ⟨z, hz⟩ : ∃ z, l1[(i + j) / 2]? = some z := ⟨_, List.getElem?_eq_getElem (by omega)⟩
          have gz : (pre ++ l1 ++ [y] ++ post)[pre.length + (i + j) / 2]? = some z := by rw [List.append_assoc, List.append_assoc, List.getElem?_append_right (by omega), List.getElem?_append_left (by omega)]; simpa [Nat.add_sub_cancel_left] using hz
          refine T_skip ?_
          refine hK21 _ _ ?_
          refine T_block ?_
          refine T_seq fun K23 hK23 => ?_
          refine T_region ?_
          refine L_y (y_move rfl) rfl ?_
          refine L_y (y_move rfl) rfl ?_
          refine L_y (y_add rfl rfl (i64w (by omega))) rfl ?_
          refine L_y (y_conv is3 Try.underlying81 rfl (show _ = ((pre.length + i + (pre.length + j) : Nat) : Int) by rw [IntKind.wrap_u64]; omega)) rfl ?_
          refine L_y (y_shr rfl rfl (by omega) (shr1 _)) rfl ?_
          refine L_y (y_conv is81 Try.underlying3 rfl (i64w (by omega))) rfl ?_
          refine L_y (y_assign rfl) rfl ?_
          refine L_nil ?_
          refine hK23 _ _ ?_
          refine T_seq fun K24 hK24 => ?_
          refine T_tail 9 hmix (by kernel_rfl) fun w9 l9 K25 hK25 => ?_
          have S9 := S8.like l9
          refine HL_y (y_move rfl) rfl ?_
          refine HL_y (y_move rfl) rfl ?_
          refine HL_y (y_move rfl) rfl ?_
          refine HL_y (y_idx Try.underlying22 sz39 rfl rfl (S9.row 0 rfl) (Nt.mk (by omega) : Nt _ (pre.length + l1.length)) (by omega)) rfl ?_
          refine HL_y (y_ldp (f := enf) enf_len Try.underlying39 rfl sz39 rfl (S9.row 0 rfl) (by omega) gy) rfl ?_
          refine HL_y (y_move rfl) rfl ?_
          refine HL_y (y_move rfl) rfl ?_
          refine HL_y (y_idx Try.underlying22 sz39 rfl rfl (S9.row 0 rfl) (Nt.mk (by omega) : Nt _ (pre.length + (i + j) / 2)) (by omega)) rfl ?_
          refine HL_y (y_ldp (f := enf) enf_len Try.underlying39 rfl sz39 rfl (S9.row 0 rfl) (by omega) gz) rfl ?_
          refine HL_nil ?_
          refine hK25 _ ?_
          refine L_o (o_callv (fs := []) (cs := []) rfl hfn hnm hbd (hC.call y z w9) rfl rfl (fun d' hd => by cases hd <;> rfl) ?_)
          rintro e10 w10 ⟨v10, rfl, l10, vc, rfl, hvc⟩
          refine ⟨_, rfl, ?_⟩
          have S10 := S9.like l10
          refine L_y (y_lss rfl rfl) rfl ?_
          refine L_y ((by first | exact y_notD rfl | exact y_not rfl)) rfl ?_
          refine L_nil ?_
          refine hK24 _ _ ?_
          refine T_cond rfl (fun h103 => ?_) (fun h103 => ?_)
          ·
            refine T_region ?_
            refine L_y (y_move rfl) rfl ?_
            refine L_y (y_add rfl rfl (i64w (by omega))) rfl ?_
            refine L_y (y_assign rfl) rfl ?_
            refine L_nil ?_
            refine ⟨(i + j) / 2 + 1, j, by omega, ⟨⟨by omega, hjl, fun x _ h => by rw [Nat.add_sub_cancel, hz] at h; cases h; cases h9 : lt y z with | false => rfl | true => exact absurd (hvc.2 h9) (by omega), hhi⟩, S10⟩, ?_⟩
            exact (Sub.cons rfl (congrArg (Value.int _) (by omega)) (Sub.cons rfl (congrArg (Value.int _) (by omega)) (Sub.cons rfl rfl (Sub.cons rfl rfl (Sub.cons rfl rfl (Sub.nil _))))))
          ·
            refine T_region ?_
            refine L_y (y_move rfl) rfl ?_
            refine L_y (y_assign rfl) rfl ?_
            refine L_nil ?_
            refine ⟨i, (i + j) / 2, by omega, ⟨⟨by omega, by omega, hlo, fun x h => by rw [hz] at h; cases h; exact hvc.1 (by omega)⟩, S10⟩, ?_⟩
            exact (Sub.cons rfl (congrArg (Value.int _) (by omega)) (Sub.cons rfl (congrArg (Value.int _) (by omega)) (Sub.cons rfl rfl (Sub.cons rfl rfl (Sub.cons rfl rfl (Sub.nil _))))))
        ·
          have hije : i = j := by omega
          subst hije
          obtain ⟨u, v, rfl, hul⟩ := split_at l1 i hjl
          subst hul
          have hv0 : (u ++ v)[u.length]? = v[0]? := by rw [List.getElem?_append_right (Nat.le_refl _), Nat.sub_self]
          have hmr := mrg_lst (y := y) hC.ord hs1 (fun x h hp => hlo x hp h) (fun x h => hhi x (by rw [hv0]; exact h))
          have huv : (u ++ v).length = u.length + v.length := List.length_append
          refine T_exit ?_
          refine hK20 _ _ ?_
          refine T_seq fun K26 hK26 => ?_
          refine T_seq fun K27 hK27 => ?_
          refine T_region ?_
          refine L_y (y_move rfl) rfl ?_
          refine L_y (y_assign rfl) rfl ?_
          refine L_nil ?_
          refine hK27 _ _ ?_
          refine T_block ?_
          refine T_loop1 [(0, _), (14, _)] (fun (t : Nat) => [(17, .int .i64 ((pre.length + u.length + t : Nat) : Int))]) (fun (t : Nat) => t) (fun (t : Nat) (w : World) => t ≤ v.length ∧ St w0 (enR A c (pre ++ (u ++ v) ++ [y] ++ post)).dom [enR A c (pre ++ u ++ v.take t ++ y :: (v.drop t ++ post))] w) v.length (Sub.cons rfl (by first | rfl | exact congrArg (Value.int _) (by omega)) (Sub.nil _)) (Sub.cons rfl rfl (Sub.cons rfl rfl (Sub.nil _))) ?_ ?_
          ·
            have e9 : (pre ++ (u ++ v) ++ [y] ++ post) = (pre ++ u ++ v.take v.length ++ y :: (v.drop v.length ++ post)) := by simp
            have S9 := S8.rowc 0 rfl (n' := (pre ++ u ++ v.take v.length ++ y :: (v.drop v.length ++ post)).length) (xs' := (pre ++ u ++ v.take v.length ++ y :: (v.drop v.length ++ post)).flatMap enf) (by rw [hn0, e9]) (by rw [e9])
            exact ⟨Nat.le_refl _, S9⟩
          ·
            intro t w11 hrel
            obtain ⟨ht, S11⟩ := hrel
            have hln : (pre ++ u ++ v.take t ++ y :: (v.drop t ++ post)).length = n := by simp at hn ⊢; omega
            rw [show enR A c (pre ++ u ++ v.take t ++ y :: (v.drop t ++ post)) = Zx.row 39 34 A n c ((pre ++ u ++ v.take t ++ y :: (v.drop t ++ post)).flatMap enf) from by rw [← hln]; rfl] at S11
            refine T_seq fun K28 hK28 => ?_
            refine T_seq fun K29 hK29 => ?_
            refine T_region ?_
            refine L_y (y_move rfl) rfl ?_
            refine L_y (y_move rfl) rfl ?_
            refine L_y (y_gtr rfl rfl) rfl ?_
            refine L_nil ?_
            refine hK29 _ _ ?_
            refine T_cond rfl (fun h110 => ?_) (fun h110 => ?_)
            ·
              obtain ⟨t, rfl⟩ : ∃ t9, t = t9 + 1 := ⟨t - 1, by omega⟩
              obtain ⟨z, hz⟩ : ∃ z, v[t]? = some z := ⟨_, List.getElem?_eq_getElem (by omega)⟩
              obtain ⟨gz2, gy2, hset⟩ := exch2 (l := (pre ++ u ++ v.take (t + 1) ++ y :: (v.drop (t + 1) ++ post))) (i := pre.length + u.length + t) (j := pre.length + u.length + t + 1) (p := pre ++ u ++ v.take t) (q := []) (r := v.drop (t + 1) ++ post) (x := z) (y := y) (by rw [take_sn2 hz]; simp) (by simp; omega) (by simp; omega)
              refine T_skip ?_
              refine hK28 _ _ ?_
              refine T_seq fun K30 hK30 => ?_
              refine T_block ?_
              refine T_zed [0, 1, 5, 6, 7, 8, 9, 10, 11, 12, 13, 14] 15 [(2, 0), (3, 0), (4, 0), (0, 1), (1, 1), (5, 1), (6, 1), (7, 1), (8, 1), (9, 1), (10, 1), (11, 1), (12, 1), (13, 1), (14, 1), (15, 3), (16, 3), (17, 3)] hmix (by kernel_rfl) fun w12 l12 => ?_
              have S12 := S11.like l12
              refine ZA_y rfl (y_move rfl) rfl ?_
              refine ZA_y rfl (y_move rfl) rfl ?_
              refine ZA_y rfl (y_sub rfl rfl (i64w (by omega))) rfl ?_
              refine ZA_B (Like w12) (Like.refl _) ?_
              refine ZB_y rfl (y_move rfl) rfl ?_
              refine ZB_y rfl (y_move rfl) rfl ?_
              refine ZB_y rfl (y_move rfl) rfl ?_
              refine ZB_y rfl (y_move rfl) rfl ?_
              refine ZB_y rfl (y_sub rfl rfl (i64w (by omega))) rfl ?_
              refine ZB_y rfl (y_idx Try.underlying22 sz39 rfl rfl (S12.row 0 rfl) (Nt.mk (by omega) : Nt _ (pre.length + u.length + t)) (by omega)) rfl ?_
              refine ZB_y rfl (y_ldp (f := enf) enf_len Try.underlying39 rfl sz39 rfl (S12.row 0 rfl) (by omega) gz2) rfl ?_
              refine ZB_y rfl (y_move rfl) rfl ?_
              refine ZB_y rfl (y_move rfl) rfl ?_
              refine ZB_y rfl (y_idx Try.underlying22 sz39 rfl rfl (S12.row 0 rfl) (Nt.mk (by omega) : Nt _ (pre.length + u.length + t + 1)) (by omega)) rfl ?_
              refine ZB_y rfl (y_ldp (f := enf) enf_len Try.underlying39 rfl sz39 rfl (S12.row 0 rfl) (by omega) gy2) rfl ?_
              refine ZB_y rfl (y_idx Try.underlying22 sz39 rfl rfl (S12.row 0 rfl) (Nt.mk (by omega) : Nt _ (pre.length + u.length + t + 1)) (by omega)) rfl ?_
              refine ZB_c rfl (o_strowE S12 0 rfl rfl rfl (enf_one z) (enf_len z) sz39 (by omega) fun w13 S13 => ?_)
              refine ZA_oy rfl (y_idx Try.underlying22 sz39 rfl rfl (S13.row 0 rfl) (Nt.mk (by omega) : Nt _ (pre.length + u.length + t)) (by omega)) rfl ?_
              refine ZA_o rfl (o_strowE S13 0 rfl rfl rfl (enf_one y) (enf_len y) sz39 (by omega) fun w14 S14 => ?_)
              refine ZA_nil ?_
              refine hK30 _ _ ?_
              refine T_region ?_
              refine L_y (y_move rfl) rfl ?_
              refine L_y (y_sub rfl rfl (i64w (by omega))) rfl ?_
              refine L_y (y_assign rfl) rfl ?_
              refine L_nil ?_
              have e9 : pre ++ u ++ v.take t ++ y :: ([] ++ z :: (v.drop (t + 1) ++ post)) = (pre ++ u ++ v.take t ++ y :: (v.drop t ++ post)) := by rw [drop_hd2 hz]; simp
              have S9 := S14.rowc 0 rfl (n' := (pre ++ u ++ v.take t ++ y :: (v.drop t ++ post)).length) (xs' := (pre ++ u ++ v.take t ++ y :: (v.drop t ++ post)).flatMap enf) (by rw [← hln]; simp; omega) (by rw [ens_set (by omega), ens_set (by rw [List.length_set]; omega), hset, e9])
              refine ⟨t, by omega, ⟨by omega, S9⟩, ?_⟩
              exact (Sub.cons rfl (congrArg (Value.int _) (by omega)) (Sub.cons rfl rfl (Sub.cons rfl rfl (Sub.nil _))))
            ·
              refine T_exit ?_
              refine hK26 _ _ ?_
              refine T_ret ?_
              repeat (first | with_reducible refine up_then ?_ | with_reducible refine up_in ?_)
              refine ret0 rfl ?_
              have ht9 : t = 0 := by omega
              subst ht9
              exact ⟨_, rfl, turn_en (S11.turned1 0 rfl) (by rw [hmr, ← hln]; simp) (by rw [hmr]; simp)⟩
    ·
      refine T_skip ?_
      refine hK16 _ _ ?_
      refine T_seq fun K31 hK31 => ?_
      refine T_region ?_
      refine L_y (y_move rfl) rfl ?_
      refine L_y (y_move rfl) rfl ?_
      refine L_y (y_add rfl rfl (i64w (by omega))) rfl ?_
      refine L_y (y_conv is3 Try.underlying81 rfl (show _ = ((pre.length + (pre.length + l1.length + l2.length) : Nat) : Int) by rw [IntKind.wrap_u64]; omega)) rfl ?_
      refine L_y (y_shr rfl rfl (by omega) (shr1 _)) rfl ?_
      refine L_y (y_conv is81 Try.underlying3 rfl (i64w (by omega))) rfl ?_
      refine L_y (y_assign rfl) rfl ?_
      refine L_nil ?_
      refine hK31 _ _ ?_
      refine T_seq fun K32 hK32 => ?_
      refine T_region ?_
      refine L_y (y_move rfl) rfl ?_
      refine L_y (y_move rfl) rfl ?_
      refine L_y (y_add rfl rfl (i64w (by omega))) rfl ?_
      refine L_y (y_assign rfl) rfl ?_
      refine L_nil ?_
      refine hK32 _ _ ?_
      refine T_seq fun K33 hK33 => ?_
      refine T_region ?_
      refine L_y (y_assign rfl) rfl ?_
      refine L_y (y_assign rfl) rfl ?_
      refine L_nil ?_
      refine hK33 _ _ ?_
      refine T_seqR (fun (e : Env) (w : World) => ∃ (s0 : Nat) (r0 : Nat), Sub [(0, .slice A n c), (1, .int .i64 (pre.length : Int)), (2, .int .i64 ((pre.length + l1.length : Nat) : Int)), (3, .int .i64 ((pre.length + l1.length + l2.length : Nat) : Int)), (4, .func (.func F) #[] #[]), (18, .int .i64 ((pre.length + ((l1.length + l2.length) / 2) : Nat) : Int)), (19, .int .i64 ((pre.length + ((l1.length + l2.length) / 2) + (pre.length + l1.length) : Nat) : Int)), (20, .int .i64 ((pre.length + s0 : Nat) : Int)), (21, .int .i64 ((pre.length + r0 : Nat) : Int))] e ∧ (s0 ≤ r0 ∧ r0 ≤ l1.length ∧ r0 ≤ ((l1.length + l2.length) / 2) ∧ ((l1.length + l2.length) / 2) ≤ s0 + l2.length ∧ (s0 = 0 ∨ s0 + l2.length = ((l1.length + l2.length) / 2)) ∧ (r0 = l1.length ∨ r0 = ((l1.length + l2.length) / 2))) ∧ St w0 (enR A c (pre ++ l1 ++ l2 ++ post)).dom [Zx.row 39 34 A n c ((pre ++ l1 ++ l2 ++ post).flatMap enf)] w) ?_ ?_
      ·
        refine T_seq fun K35 hK35 => ?_
        refine T_region ?_
        refine L_y (y_move rfl) rfl ?_
        refine L_y (y_move rfl) rfl ?_
        refine L_y (y_gtr rfl rfl) rfl ?_
        refine L_nil ?_
        refine hK35 _ _ ?_
        refine T_cond rfl (fun h140 => ?_) (fun h140 => ?_)
        ·
          refine T_seq fun K36 hK36 => ?_
          refine T_region ?_
          refine L_y (y_move rfl) rfl ?_
          refine L_y (y_move rfl) rfl ?_
          refine L_y (y_sub rfl rfl (i64w (by omega))) rfl ?_
          refine L_y (y_assign rfl) rfl ?_
          refine L_nil ?_
          refine hK36 _ _ ?_
          refine T_region ?_
          refine L_y (y_move rfl) rfl ?_
          refine L_y (y_assign rfl) rfl ?_
          refine L_nil ?_
          exact ⟨((l1.length + l2.length) / 2) - l2.length, ((l1.length + l2.length) / 2), (Sub.cons rfl (by first | rfl | exact congrArg (Value.int _) (by omega)) (Sub.cons rfl (by first | rfl | exact congrArg (Value.int _) (by omega)) (Sub.cons rfl (by first | rfl | exact congrArg (Value.int _) (by omega)) (Sub.cons rfl (by first | rfl | exact congrArg (Value.int _) (by omega)) (Sub.cons rfl (by first | rfl | exact congrArg (Value.int _) (by omega)) (Sub.cons rfl (congrArg (Value.int _) (by omega)) (Sub.cons rfl (congrArg (Value.int _) (by omega)) (Sub.cons rfl (congrArg (Value.int _) (by omega)) (Sub.cons rfl (congrArg (Value.int _) (by omega)) (Sub.nil _)))))))))), ⟨by omega, by omega, by omega, by omega, by omega, by omega⟩, S0⟩
        ·
          refine T_seq fun K37 hK37 => ?_
          refine T_region ?_
          refine L_y (y_move rfl) rfl ?_
          refine L_y (y_assign rfl) rfl ?_
          refine L_nil ?_
          refine hK37 _ _ ?_
          refine T_region ?_
          refine L_y (y_move rfl) rfl ?_
          refine L_y (y_assign rfl) rfl ?_
          refine L_nil ?_
          exact ⟨0, l1.length, (Sub.cons rfl (by first | rfl | exact congrArg (Value.int _) (by omega)) (Sub.cons rfl (by first | rfl | exact congrArg (Value.int _) (by omega)) (Sub.cons rfl (by first | rfl | exact congrArg (Value.int _) (by omega)) (Sub.cons rfl (by first | rfl | exact congrArg (Value.int _) (by omega)) (Sub.cons rfl (by first | rfl | exact congrArg (Value.int _) (by omega)) (Sub.cons rfl (congrArg (Value.int _) (by omega)) (Sub.cons rfl (congrArg (Value.int _) (by omega)) (Sub.cons rfl (congrArg (Value.int _) (by omega)) (Sub.cons rfl (congrArg (Value.int _) (by omega)) (Sub.nil _)))))))))), ⟨by omega, by omega, by omega, by omega, by omega, by omega⟩, S0⟩
      ·
        rintro e15 w15 ⟨s0, r0, hsub, ⟨⟨hsr0, hr1, hr2, hsq, hsb, hrb⟩, S15⟩⟩
        refine T_weak hsub ?_
        refine T_seq fun K38 hK38 => ?_
        refine T_region ?_
        refine L_y (y_move rfl) rfl ?_
        refine L_y (y_sub rfl rfl (i64w (by omega))) rfl ?_
        refine L_y (y_assign rfl) rfl ?_
        refine L_nil ?_
        refine hK38 _ _ ?_
        refine T_seq fun K39 hK39 => ?_
        refine T_block ?_
        refine T_loop2 [(0, _), (1, _), (2, _), (3, _), (4, _), (18, _), (19, _), (22, _)] (fun (s : Nat) (r : Nat) => [(20, .int .i64 ((pre.length + s : Nat) : Int)), (21, .int .i64 ((pre.length + r : Nat) : Int))]) (fun (s : Nat) (r : Nat) => r - s) (fun (s : Nat) (r : Nat) (w : World) => ((s0 ≤ s ∧ s ≤ r ∧ r ≤ r0) ∧ (s = s0 ∨ ∃ x y, l1[s - 1]? = some x ∧ l2[((l1.length + l2.length) / 2) - s]? = some y ∧ lt y x = false ∧ 0 < s) ∧ (r = r0 ∨ ∃ x y, l1[r]? = some x ∧ l2[((l1.length + l2.length) / 2) - 1 - r]? = some y ∧ lt y x = true ∧ r < ((l1.length + l2.length) / 2))) ∧ St w0 (enR A c (pre ++ l1 ++ l2 ++ post)).dom [Zx.row 39 34 A n c ((pre ++ l1 ++ l2 ++ post).flatMap enf)] w) s0 r0 (Sub.cons rfl (by first | rfl | exact congrArg (Value.int _) (by omega)) (Sub.cons rfl (by first | rfl | exact congrArg (Value.int _) (by omega)) (Sub.nil _))) (Sub.cons rfl rfl (Sub.cons rfl rfl (Sub.cons rfl rfl (Sub.cons rfl rfl (Sub.cons rfl rfl (Sub.cons rfl rfl (Sub.cons rfl rfl (Sub.cons rfl rfl (Sub.nil _))))))))) ?_ ?_
        ·
          exact ⟨⟨⟨Nat.le_refl _, hsr0, Nat.le_refl _⟩, .inl rfl, .inl rfl⟩, S15⟩
        ·
          intro s r w16 hrel
          obtain ⟨⟨⟨hs0, hsr, hr0⟩, hlo, hhi⟩, S16⟩ := hrel
          refine T_seq fun K40 hK40 => ?_
          refine T_seq fun K41 hK41 => ?_
          refine T_region ?_
          refine L_y (y_move rfl) rfl ?_
          refine L_y (y_move rfl) rfl ?_
          refine L_y (y_lss rfl rfl) rfl ?_
          refine L_nil ?_
          refine hK41 _ _ ?_
          refine T_cond rfl (fun h151 => ?_) (fun h151 => ?_)
          ·
            obtain ⟨x, hx⟩ : ∃ x, l1[(s + r) / 2]? = some x := ⟨_, List.getElem?_eq_getElem (by omega)⟩
            obtain ⟨y, hy⟩ : ∃ y, l2[((l1.length + l2.length) / 2) - 1 - (s + r) / 2]? = some y := ⟨_, List.getElem?_eq_getElem (by omega)⟩
            have gx : (pre ++ l1 ++ l2 ++ post)[pre.length + (s + r) / 2]? = some x := by rw [List.append_assoc, List.append_assoc, List.getElem?_append_right (by omega), List.getElem?_append_left (by omega)]; simpa [Nat.add_sub_cancel_left] using hx
            have gy : (pre ++ l1 ++ l2 ++ post)[pre.length + l1.length + (((l1.length + l2.length) / 2) - 1 - (s + r) / 2)]? = some y := by rw [List.append_assoc, List.getElem?_append_right (by simp), List.getElem?_append_left (by simp; omega)]; simpa [← Nat.add_assoc, Nat.add_sub_cancel_left] using hy
            refine T_skip ?_
            refine hK40 _ _ ?_
            refine T_block ?_
            refine T_seq fun K42 hK42 => ?_
            refine T_region ?_
            refine L_y (y_move rfl) rfl ?_
            refine L_y (y_move rfl) rfl ?_
            refine L_y (y_add rfl rfl (i64w (by omega))) rfl ?_
            refine L_y (y_conv is3 Try.underlying81 rfl (show _ = ((pre.length + s + (pre.length + r) : Nat) : Int) by rw [IntKind.wrap_u64]; omega)) rfl ?_
            refine L_y (y_shr rfl rfl (by omega) (shr1 _)) rfl ?_
            refine L_y (y_conv is81 Try.underlying3 rfl (i64w (by omega))) rfl ?_
            refine L_y (y_assign rfl) rfl ?_
            refine L_nil ?_
            refine hK42 _ _ ?_
            refine T_seq fun K43 hK43 => ?_
            refine T_tail 11 hmix (by kernel_rfl) fun w17 l17 K44 hK44 => ?_
            have S17 := S16.like l17
            refine HL_y (y_move rfl) rfl ?_
            refine HL_y (y_move rfl) rfl ?_
            refine HL_y (y_move rfl) rfl ?_
            refine HL_y (y_move rfl) rfl ?_
            refine HL_y (y_sub rfl rfl (i64w (by omega))) rfl ?_
            refine HL_y (y_idx Try.underlying22 sz39 rfl rfl (S17.row 0 rfl) (Nt.mk (by omega) : Nt _ (pre.length + l1.length + (((l1.length + l2.length) / 2) - 1 - (s + r) / 2))) (by omega)) rfl ?_
            refine HL_y (y_ldp (f := enf) enf_len Try.underlying39 rfl sz39 rfl (S17.row 0 rfl) (by omega) gy) rfl ?_
            refine HL_y (y_move rfl) rfl ?_
            refine HL_y (y_move rfl) rfl ?_
            refine HL_y (y_idx Try.underlying22 sz39 rfl rfl (S17.row 0 rfl) (Nt.mk (by omega) : Nt _ (pre.length + (s + r) / 2)) (by omega)) rfl ?_
            refine HL_y (y_ldp (f := enf) enf_len Try.underlying39 rfl sz39 rfl (S17.row 0 rfl) (by omega) gx) rfl ?_
            refine HL_nil ?_
            refine hK44 _ ?_
            refine L_o (o_callv (fs := []) (cs := []) rfl hfn hnm hbd (hC.call y x w17) rfl rfl (fun d' hd => by cases hd <;> rfl) ?_)
            rintro e18 w18 ⟨v18, rfl, l18, vc, rfl, hvc⟩
            refine ⟨_, rfl, ?_⟩
            have S18 := S17.like l18
            refine L_y (y_lss rfl rfl) rfl ?_
            refine L_y ((by first | exact y_notD rfl | exact y_not rfl)) rfl ?_
            refine L_nil ?_
            refine hK43 _ _ ?_
            refine T_cond rfl (fun h171 => ?_) (fun h171 => ?_)
            ·
              refine T_region ?_
              refine L_y (y_move rfl) rfl ?_
              refine L_y (y_add rfl rfl (i64w (by omega))) rfl ?_
              refine L_y (y_assign rfl) rfl ?_
              refine L_nil ?_
              refine ⟨(s + r) / 2 + 1, r, by omega, ⟨⟨⟨by omega, by omega, hr0⟩, .inr ⟨x, y, by rw [Nat.add_sub_cancel]; exact hx, by rw [show ((l1.length + l2.length) / 2) - ((s + r) / 2 + 1) = ((l1.length + l2.length) / 2) - 1 - (s + r) / 2 by omega]; exact hy, (by cases h9 : lt y x with | false => rfl | true => exact absurd (hvc.2 h9) (by omega)), by omega⟩, hhi⟩, S18⟩, ?_⟩
              exact (Sub.cons rfl (congrArg (Value.int _) (by omega)) (Sub.cons rfl (congrArg (Value.int _) (by omega)) (Sub.cons rfl rfl (Sub.cons rfl rfl (Sub.cons rfl rfl (Sub.cons rfl rfl (Sub.cons rfl rfl (Sub.cons rfl rfl (Sub.cons rfl rfl (Sub.cons rfl rfl (Sub.nil _)))))))))))
            ·
              refine T_region ?_
              refine L_y (y_move rfl) rfl ?_
              refine L_y (y_assign rfl) rfl ?_
              refine L_nil ?_
              refine ⟨s, (s + r) / 2, by omega, ⟨⟨⟨hs0, by omega, by omega⟩, hlo, .inr ⟨x, y, hx, hy, hvc.1 (by omega), by omega⟩⟩, S18⟩, ?_⟩
              exact (Sub.cons rfl (congrArg (Value.int _) (by omega)) (Sub.cons rfl (congrArg (Value.int _) (by omega)) (Sub.cons rfl rfl (Sub.cons rfl rfl (Sub.cons rfl rfl (Sub.cons rfl rfl (Sub.cons rfl rfl (Sub.cons rfl rfl (Sub.cons rfl rfl (Sub.cons rfl rfl (Sub.nil _)))))))))))
          ·
            have hse : r = s := by omega
            subst hse
            obtain ⟨a1, b1, rfl, ha1⟩ := split_at l1 r (by omega)
            obtain ⟨a2, b2, rfl, ha2⟩ := split_at l2 (((a1 ++ b1).length + l2.length) / 2 - r) (by omega)
            have hl1 : (a1 ++ b1).length = a1.length + b1.length := List.length_append
            have hl2 : (a2 ++ b2).length = a2.length + b2.length := List.length_append
            have hi9 : (a1 = [] ∨ b2 = []) ∨ ∃ x y, (a1 ++ b1)[a1.length - 1]? = some x ∧ (a2 ++ b2)[a2.length]? = some y ∧ lt y x = false ∧ 0 < a1.length := by rcases hlo with h | ⟨x, y, hx, hy, h0, hp⟩; (rcases hsb with q | q; exact .inl (.inl (List.eq_nil_of_length_eq_zero (by omega))); exact .inl (.inr (List.eq_nil_of_length_eq_zero (by omega)))); exact .inr ⟨x, y, by rw [ha1]; exact hx, by rw [ha2]; exact hy, h0, by omega⟩
            have hj9 : (b1 = [] ∨ a2 = []) ∨ ∃ x y, (a1 ++ b1)[a1.length]? = some x ∧ (a2 ++ b2)[a2.length - 1]? = some y ∧ lt y x = true ∧ 0 < a2.length := by rcases hhi with h | ⟨x, y, hx, hy, h0, hp⟩; (rcases hrb with q | q; exact .inl (.inl (List.eq_nil_of_length_eq_zero (by omega))); exact .inl (.inr (List.eq_nil_of_length_eq_zero (by omega)))); exact .inr ⟨x, y, by rw [ha1]; exact hx, by rw [ha2, show (((a1 ++ b1).length + (a2 ++ b2).length) / 2) - r - 1 = (((a1 ++ b1).length + (a2 ++ b2).length) / 2) - 1 - r by omega]; exact hy, h0, by omega⟩
            have hsp := sym_split hC.ord hs1 hs2 hi9 hj9
            have q1 := List.pairwise_append.1 hs1
            have q2 := List.pairwise_append.1 hs2
            refine T_exit ?_
            refine hK39 _ _ ?_
            refine T_seq fun K45 hK45 => ?_
            refine T_region ?_
            refine L_y (y_move rfl) rfl ?_
            refine L_y (y_move rfl) rfl ?_
            refine L_y (y_sub rfl rfl (i64w (by omega))) rfl ?_
            refine L_y (y_assign rfl) rfl ?_
            refine L_nil ?_
            refine hK45 _ _ ?_
            refine T_seqR (fun (e : Env) (w : World) => Sub [(0, .slice A n c), (1, .int .i64 (pre.length : Int)), (3, .int .i64 ((pre.length + (a1 ++ b1).length + (a2 ++ b2).length : Nat) : Int)), (4, .func (.func F) #[] #[]), (18, .int .i64 ((pre.length + a1.length + a2.length : Nat) : Int)), (20, .int .i64 ((pre.length + a1.length : Nat) : Int)), (24, .int .i64 ((pre.length + a1.length + b1.length + a2.length : Nat) : Int))] e ∧ St w0 (enR A c (pre ++ (a1 ++ b1) ++ (a2 ++ b2) ++ post)).dom [enR A c (pre ++ a1 ++ a2 ++ b1 ++ b2 ++ post)] w) ?_ ?_
            ·
              refine T_seq fun K47 hK47 => ?_
              refine T_region ?_
              refine L_y (y_move rfl) rfl ?_
              refine L_y (y_move rfl) rfl ?_
              refine L_y (y_lss rfl rfl) rfl ?_
              refine L_y (y_move rfl) rfl ?_
              refine L_split 181 rfl (fun h181 => ?_) (fun h181 => ?_)
              ·
                refine L_gyes rfl rfl ?_
                refine L_y (y_move rfl) rfl ?_
                refine L_gyes rfl rfl ?_
                refine L_y (y_move rfl) rfl ?_
                refine L_gyes rfl rfl ?_
                refine L_y (y_lss rfl rfl) rfl ?_
                refine L_y ((by first | exact y_pickT rfl rfl | exact y_pickF rfl rfl)) rfl ?_
                refine L_nil ?_
                refine hK47 _ _ ?_
                refine T_cond rfl (fun h185 => ?_) (fun h185 => ?_)
                ·
                  have S8 := S16.rowc 0 rfl (n' := (pre ++ a1 ++ b1 ++ a2 ++ (b2 ++ post)).length) (xs' := (pre ++ a1 ++ b1 ++ a2 ++ (b2 ++ post)).flatMap enf) (by rw [hn0]; simp) (by simp)
                  refine T_region ?_
                  refine L_y (y_move rfl) rfl ?_
                  refine L_y (y_move rfl) rfl ?_
                  refine L_y (y_move rfl) rfl ?_
                  refine L_y (y_move rfl) rfl ?_
                  refine L_y (y_move rfl) rfl ?_
                  refine L_o (o_call Try.func52 rfl rfl (rotat A n c _ _ _ (pre ++ a1) b1 a2 (b2 ++ post) (.func (.func F) #[] #[]) w16 (S8.get 0 rfl) (by rw [hn0]; simp) (by rw [List.length_append, ha1]) (by simp; omega) (by simp; omega) (by omega) (by omega) hn5) rfl rfl ?_)
                  rintro e20 w20 ⟨v20, rfl, T20⟩
                  refine ⟨_, rfl, ?_⟩
                  have S20 := S8.turn 0 rfl T20
                  refine L_nil ?_
                  exact ⟨(Sub.cons rfl (by first | rfl | exact congrArg (Value.int _) (by omega)) (Sub.cons rfl (by first | rfl | exact congrArg (Value.int _) (by omega)) (Sub.cons rfl (congrArg (Value.int _) (by omega)) (Sub.cons rfl (by first | rfl | exact congrArg (Value.int _) (by omega)) (Sub.cons rfl (congrArg (Value.int _) (by omega)) (Sub.cons rfl (congrArg (Value.int _) (by omega)) (Sub.cons rfl (congrArg (Value.int _) (by omega)) (Sub.nil _)))))))), by simpa using S20⟩
                ·
                  refine T_skip ?_
                  have hz : (pre ++ (a1 ++ b1) ++ (a2 ++ b2) ++ post) = (pre ++ a1 ++ a2 ++ b1 ++ b2 ++ post) := by rcases (show b1 = [] ∨ a2 = [] from by by_cases q9 : b1.length = 0; exact .inl (List.eq_nil_of_length_eq_zero q9); exact .inr (List.eq_nil_of_length_eq_zero (by omega))) with q | q <;> rw [q] <;> simp
                  have S9 := S16.rowc 0 rfl (n' := (pre ++ a1 ++ a2 ++ b1 ++ b2 ++ post).length) (xs' := (pre ++ a1 ++ a2 ++ b1 ++ b2 ++ post).flatMap enf) (by rw [hn0, hz]) (by rw [hz])
                  exact ⟨(Sub.cons rfl (by first | rfl | exact congrArg (Value.int _) (by omega)) (Sub.cons rfl (by first | rfl | exact congrArg (Value.int _) (by omega)) (Sub.cons rfl (congrArg (Value.int _) (by omega)) (Sub.cons rfl (by first | rfl | exact congrArg (Value.int _) (by omega)) (Sub.cons rfl (congrArg (Value.int _) (by omega)) (Sub.cons rfl (congrArg (Value.int _) (by omega)) (Sub.cons rfl (congrArg (Value.int _) (by omega)) (Sub.nil _)))))))), S9⟩
              ·
                refine L_gno rfl rfl rfl ?_
                refine L_gno rfl rfl rfl ?_
                refine L_gno rfl rfl rfl ?_
                refine L_y ((by first | exact y_pickT rfl rfl | exact y_pickF rfl rfl)) rfl ?_
                refine L_nil ?_
                refine hK47 _ _ ?_
                refine T_false rfl ?_
                refine T_skip ?_
                have hz : (pre ++ (a1 ++ b1) ++ (a2 ++ b2) ++ post) = (pre ++ a1 ++ a2 ++ b1 ++ b2 ++ post) := by rcases (show b1 = [] ∨ a2 = [] from by by_cases q9 : b1.length = 0; exact .inl (List.eq_nil_of_length_eq_zero q9); exact .inr (List.eq_nil_of_length_eq_zero (by omega))) with q | q <;> rw [q] <;> simp
                have S9 := S16.rowc 0 rfl (n' := (pre ++ a1 ++ a2 ++ b1 ++ b2 ++ post).length) (xs' := (pre ++ a1 ++ a2 ++ b1 ++ b2 ++ post).flatMap enf) (by rw [hn0, hz]) (by rw [hz])
                exact ⟨(Sub.cons rfl (by first | rfl | exact congrArg (Value.int _) (by omega)) (Sub.cons rfl (by first | rfl | exact congrArg (Value.int _) (by omega)) (Sub.cons rfl (congrArg (Value.int _) (by omega)) (Sub.cons rfl (by first | rfl | exact congrArg (Value.int _) (by omega)) (Sub.cons rfl (congrArg (Value.int _) (by omega)) (Sub.cons rfl (congrArg (Value.int _) (by omega)) (Sub.cons rfl (congrArg (Value.int _) (by omega)) (Sub.nil _)))))))), S9⟩
            ·
              rintro e21 w21 ⟨hsub, S21⟩
              refine T_weak hsub ?_
              refine T_seqR (fun (e : Env) (w : World) => Sub [(0, .slice A n c), (3, .int .i64 ((pre.length + (a1 ++ b1).length + (a2 ++ b2).length : Nat) : Int)), (4, .func (.func F) #[] #[]), (18, .int .i64 ((pre.length + a1.length + a2.length : Nat) : Int)), (24, .int .i64 ((pre.length + a1.length + b1.length + a2.length : Nat) : Int))] e ∧ St w0 (enR A c (pre ++ (a1 ++ b1) ++ (a2 ++ b2) ++ post)).dom [enR A c (pre ++ mrg lt a1 a2 ++ b1 ++ b2 ++ post)] w) ?_ ?_
              ·
                refine T_seq fun K49 hK49 => ?_
                refine T_region ?_
                refine L_y (y_move rfl) rfl ?_
                refine L_y (y_move rfl) rfl ?_
                refine L_y (y_lss rfl rfl) rfl ?_
                refine L_y (y_move rfl) rfl ?_
                refine L_split 195 rfl (fun h195 => ?_) (fun h195 => ?_)
                ·
                  refine L_gyes rfl rfl ?_
                  refine L_y (y_move rfl) rfl ?_
                  refine L_gyes rfl rfl ?_
                  refine L_y (y_move rfl) rfl ?_
                  refine L_gyes rfl rfl ?_
                  refine L_y (y_lss rfl rfl) rfl ?_
                  refine L_y ((by first | exact y_pickT rfl rfl | exact y_pickF rfl rfl)) rfl ?_
                  refine L_nil ?_
                  refine hK49 _ _ ?_
                  refine T_cond rfl (fun h199 => ?_) (fun h199 => ?_)
                  ·
                    rw [show pre ++ a1 ++ a2 ++ b1 ++ b2 ++ post = pre ++ a1 ++ a2 ++ (b1 ++ b2 ++ post) from by simp] at S21
                    refine T_region ?_
                    refine L_y (y_move rfl) rfl ?_
                    refine L_y (y_move rfl) rfl ?_
                    refine L_y (y_move rfl) rfl ?_
                    refine L_y (y_move rfl) rfl ?_
                    refine L_y (y_move rfl) rfl ?_
                    refine L_o (o_call Try.func45 rfl rfl (ih pre a1 a2 (b1 ++ b2 ++ post) (by omega) _ _ _ w21 (S21.get 0 rfl) (by rw [hn0]; simp; omega) (by omega) (by omega) (by omega) (by omega) (by omega) q1.1 q2.1) rfl rfl ?_)
                    rintro e23 w23 ⟨v23, rfl, T23⟩
                    refine ⟨_, rfl, ?_⟩
                    have S23 := S21.turn 0 rfl T23
                    refine L_nil ?_
                    exact ⟨(Sub.cons rfl (by first | rfl | exact congrArg (Value.int _) (by omega)) (Sub.cons rfl (congrArg (Value.int _) (by omega)) (Sub.cons rfl (by first | rfl | exact congrArg (Value.int _) (by omega)) (Sub.cons rfl (congrArg (Value.int _) (by omega)) (Sub.cons rfl (congrArg (Value.int _) (by omega)) (Sub.nil _)))))), by simpa using S23⟩
                  ·
                    refine T_skip ?_
                    have hz : mrg lt a1 a2 = a1 ++ a2 := by rcases (show a1 = [] ∨ a2 = [] from by by_cases q9 : a1.length = 0; exact .inl (List.eq_nil_of_length_eq_zero q9); exact .inr (List.eq_nil_of_length_eq_zero (by omega))) with q | q; rw [q, mrg_nil]; rfl; rw [q, mrg_nilr, List.append_nil]
                    have S9 := S21.rowc 0 rfl (n' := (pre ++ mrg lt a1 a2 ++ b1 ++ b2 ++ post).length) (xs' := (pre ++ mrg lt a1 a2 ++ b1 ++ b2 ++ post).flatMap enf) (by rw [hz]; simp) (by rw [hz]; simp)
                    exact ⟨(Sub.cons rfl (by first | rfl | exact congrArg (Value.int _) (by omega)) (Sub.cons rfl (congrArg (Value.int _) (by omega)) (Sub.cons rfl (by first | rfl | exact congrArg (Value.int _) (by omega)) (Sub.cons rfl (congrArg (Value.int _) (by omega)) (Sub.cons rfl (congrArg (Value.int _) (by omega)) (Sub.nil _)))))), S9⟩
                ·
                  refine L_gno rfl rfl rfl ?_
                  refine L_gno rfl rfl rfl ?_
                  refine L_gno rfl rfl rfl ?_
                  refine L_y ((by first | exact y_pickT rfl rfl | exact y_pickF rfl rfl)) rfl ?_
                  refine L_nil ?_
                  refine hK49 _ _ ?_
                  refine T_false rfl ?_
                  refine T_skip ?_
                  have hz : mrg lt a1 a2 = a1 ++ a2 := by rcases (show a1 = [] ∨ a2 = [] from by by_cases q9 : a1.length = 0; exact .inl (List.eq_nil_of_length_eq_zero q9); exact .inr (List.eq_nil_of_length_eq_zero (by omega))) with q | q; rw [q, mrg_nil]; rfl; rw [q, mrg_nilr, List.append_nil]
                  have S9 := S21.rowc 0 rfl (n' := (pre ++ mrg lt a1 a2 ++ b1 ++ b2 ++ post).length) (xs' := (pre ++ mrg lt a1 a2 ++ b1 ++ b2 ++ post).flatMap enf) (by rw [hz]; simp) (by rw [hz]; simp)
                  exact ⟨(Sub.cons rfl (by first | rfl | exact congrArg (Value.int _) (by omega)) (Sub.cons rfl (congrArg (Value.int _) (by omega)) (Sub.cons rfl (by first | rfl | exact congrArg (Value.int _) (by omega)) (Sub.cons rfl (congrArg (Value.int _) (by omega)) (Sub.cons rfl (congrArg (Value.int _) (by omega)) (Sub.nil _)))))), S9⟩
              ·
                rintro e24 w24 ⟨hsub, S24⟩
                refine T_weak hsub ?_
                refine T_seq fun K50 hK50 => ?_
                refine T_region ?_
                refine L_y (y_move rfl) rfl ?_
                refine L_y (y_move rfl) rfl ?_
                refine L_y (y_lss rfl rfl) rfl ?_
                refine L_y (y_move rfl) rfl ?_
                refine L_split 209 rfl (fun h209 => ?_) (fun h209 => ?_)
                ·
                  refine L_gyes rfl rfl ?_
                  refine L_y (y_move rfl) rfl ?_
                  refine L_gyes rfl rfl ?_
                  refine L_y (y_move rfl) rfl ?_
                  refine L_gyes rfl rfl ?_
                  refine L_y (y_lss rfl rfl) rfl ?_
                  refine L_y ((by first | exact y_pickT rfl rfl | exact y_pickF rfl rfl)) rfl ?_
                  refine L_nil ?_
                  refine hK50 _ _ ?_
                  refine T_cond rfl (fun h213 => ?_) (fun h213 => ?_)
                  ·
                    refine T_region ?_
                    refine L_y (y_move rfl) rfl ?_
                    refine L_y (y_move rfl) rfl ?_
                    refine L_y (y_move rfl) rfl ?_
                    refine L_y (y_move rfl) rfl ?_
                    refine L_y (y_move rfl) rfl ?_
                    refine L_o (o_call Try.func45 rfl rfl (ih (pre ++ mrg lt a1 a2) b1 b2 post (by omega) _ _ _ w24 (S24.get 0 rfl) (by rw [hn0]; simp [mrg_len]; omega) (by simp [mrg_len]; omega) (by simp [mrg_len]; omega) (by simp [mrg_len]; omega) (by omega) (by omega) q1.2.1 q2.2.1) rfl rfl ?_)
                    rintro e26 w26 ⟨v26, rfl, T26⟩
                    refine ⟨_, rfl, ?_⟩
                    have S26 := S24.turn 0 rfl T26
                    refine L_nil ?_
                    first | refine end0 (fn := Try.f45) rfl ?_ | (simp only [thenQ, inB, if_true]; refine end0 (fn := Try.f45) rfl ?_)
                    exact ⟨_, rfl, by have h := S26.turned1 0 rfl; rw [hsp, show pre ++ (mrg lt a1 a2 ++ mrg lt b1 b2) ++ post = pre ++ mrg lt a1 a2 ++ mrg lt b1 b2 ++ post from by simp]; exact h⟩
                  ·
                    refine T_skip ?_
                    first | refine end0 (fn := Try.f45) rfl ?_ | (simp only [thenQ, inB, if_true]; refine end0 (fn := Try.f45) rfl ?_)
                    have hz : mrg lt b1 b2 = b1 ++ b2 := by rcases (show b1 = [] ∨ b2 = [] from by by_cases q9 : b1.length = 0; exact .inl (List.eq_nil_of_length_eq_zero q9); exact .inr (List.eq_nil_of_length_eq_zero (by omega))) with q | q; rw [q, mrg_nil]; rfl; rw [q, mrg_nilr, List.append_nil]
                    exact ⟨_, rfl, by have h := S24.turned1 0 rfl; rw [hsp, hz]; rw [show pre ++ mrg lt a1 a2 ++ b1 ++ b2 ++ post = pre ++ (mrg lt a1 a2 ++ (b1 ++ b2)) ++ post from by simp] at h; exact h⟩
                ·
                  refine L_gno rfl rfl rfl ?_
                  refine L_gno rfl rfl rfl ?_
                  refine L_gno rfl rfl rfl ?_
                  refine L_y ((by first | exact y_pickT rfl rfl | exact y_pickF rfl rfl)) rfl ?_
                  refine L_nil ?_
                  refine hK50 _ _ ?_
                  refine T_false rfl ?_
                  refine T_skip ?_
                  first | refine end0 (fn := Try.f45) rfl ?_ | (simp only [thenQ, inB, if_true]; refine end0 (fn := Try.f45) rfl ?_)
                  have hz : mrg lt b1 b2 = b1 ++ b2 := by rcases (show b1 = [] ∨ b2 = [] from by by_cases q9 : b1.length = 0; exact .inl (List.eq_nil_of_length_eq_zero q9); exact .inr (List.eq_nil_of_length_eq_zero (by omega))) with q | q; rw [q, mrg_nil]; rfl; rw [q, mrg_nilr, List.append_nil]
                  exact ⟨_, rfl, by have h := S24.turned1 0 rfl; rw [hsp, hz]; rw [show pre ++ mrg lt a1 a2 ++ b1 ++ b2 ++ post = pre ++ (mrg lt a1 a2 ++ (b1 ++ b2)) ++ post from by simp] at h; exact h⟩


theorem symm_all {A : Option Addr} {n c F : Nat} {lt : EV → EV → Bool} (hC : CMP F lt) (hn5 : n ≤ 10000) : ∀ (N : Nat) (pre l1 l2 post : List EV), l1.length + l2.length < N → SMok A n c F lt pre l1 l2 post
  | 0, pre, l1, l2, post, h => absurd h (by omega)
  | N + 1, pre, l1, l2, post, h => fun a m b w0 hw hn ha hm hb h1 h2 hs1 hs2 =>
    symst A n c (l1.length + l2.length) a m b pre l1 l2 post F lt w0 hw hC hn ha hm hb h1 h2 hs1 hs2 rfl (fun pre' l1' l2' post' h' => symm_all hC hn5 N pre' l1' l2' post' (by omega)) hn5
theorem symm {A : Option Addr} {n c F : Nat} {lt : EV → EV → Bool} (hC : CMP F lt) (hn5 : n ≤ 10000) (pre l1 l2 post : List EV) : SMok A n c F lt pre l1 l2 post := symm_all hC hn5 (l1.length + l2.length + 1) pre l1 l2 post (by omega)
end Go.Proofs.Ytmgimcdkeelnpaa

/-
  SortStableFunc.
-/
namespace Go.Proofs.Ytmgimcdkeelnpaa
open Go.RowKit Zk Zx
set_option linter.unusedVariables false
set_option linter.unusedSimpArgs false

/-- Sorted in pieces of so many. -/
def cs (lt : EV → EV → Bool) (bs : Nat) (l : List EV) : List EV := if h : 0 < bs ∧ bs < l.length then srt lt (l.take bs) ++ cs lt bs (l.drop bs) else srt lt l
termination_by l.length
decreasing_by rw [List.length_drop]; omega
theorem cs_last {lt : EV → EV → Bool} {bs : Nat} {l : List EV} (h : l.length ≤ bs) : cs lt bs l = srt lt l := by rw [cs, dif_neg (by omega)]
theorem cs_step {lt : EV → EV → Bool} {bs : Nat} {l : List EV} (h0 : 0 < bs) (h : bs ≤ l.length) : cs lt bs l = srt lt (l.take bs) ++ cs lt bs (l.drop bs) := by
  rcases Nat.lt_or_ge bs l.length with q | q
  · rw [cs, dif_pos ⟨h0, q⟩]
  · have e : l.length = bs := by omega
    rw [cs_last (by omega), List.take_of_length_le (by omega), List.drop_of_length_le (by omega), cs_last (by simp)]
    simp [srt]
theorem cs_two {lt : EV → EV → Bool} {bs : Nat} {l : List EV} (h0 : 0 < bs) (h : 2 * bs ≤ l.length) : cs lt bs l = srt lt (l.take bs) ++ srt lt ((l.drop bs).take bs) ++ cs lt bs (l.drop (2 * bs)) := by
  rw [cs_step h0 (by omega), cs_step h0 (l := l.drop bs) (by rw [List.length_drop]; omega), List.drop_drop, List.append_assoc, show bs + bs = 2 * bs by omega]
theorem cs_one {lt : EV → EV → Bool} {bs : Nat} {l : List EV} (h0 : 0 < bs) (h : bs ≤ l.length) (h2 : l.length ≤ 2 * bs) : cs lt bs l = srt lt (l.take bs) ++ srt lt (l.drop bs) := by
  rw [cs_step h0 h, cs_last (by rw [List.length_drop]; omega)]
theorem srt_two {lt : EV → EV → Bool} (O : Ord3 lt) (l : List EV) (bs : Nat) : mrg lt (srt lt (l.take bs)) (srt lt ((l.drop bs).take bs)) = srt lt (l.take (2 * bs)) := by
  rw [mrg_srt O, show 2 * bs = bs + bs by omega, List.take_add]
theorem srt_two' {lt : EV → EV → Bool} (O : Ord3 lt) (l : List EV) (bs : Nat) : mrg lt (srt lt (l.take bs)) (srt lt (l.drop bs)) = srt lt l := by
  rw [mrg_srt O, List.take_append_drop]
theorem cs_len {lt : EV → EV → Bool} {bs : Nat} : ∀ (N : Nat) (l : List EV), l.length ≤ N → (cs lt bs l).length = l.length
  | N, l, h => by
    rw [cs]
    split
    · rename_i q
      match N, h with
      | 0, h => omega
      | N + 1, h =>
        rw [List.length_append, srt_len, cs_len N (l.drop bs) (by rw [List.length_drop]; omega), List.length_take, List.length_drop]
        omega
    · rw [srt_len]


set_option maxRecDepth 100000 in
theorem stabl (A : Option Addr) (n c : Nat) (l : List EV) (F : Nat) (lt : EV → EV → Bool) (w0 : World) (hw : (enR A c l).holds w0) (hC : CMP F lt) (hn : n = l.length) (hn5 : n ≤ 10000) :
    Calls Try.prog 34 #[.slice A n c, .int .i64 (n : Int), .func (.func F) #[] #[]] w0 fun e w' => ∃ u, e = .returned u ∧ Turned w0 w' (enR A c l) (enR A c (srt lt l)) := by
  refine enter1 (env := [(0, .slice A n c), (1, .int .i64 (n : Int)), (2, .func (.func F) #[] #[])]) [.slice A n c, .int .i64 (n : Int), .func (.func F) #[] #[]] Try.func34 rfl Try.ntmps34 rfl rfl ?_
  have S0 := St.borrow1 (enR A c l) hw (enR_lt hw)
  refine T_seq fun K1 hK1 => ?_
  refine T_region ?_
  refine L_y (y_assign rfl) rfl ?_
  refine L_nil ?_
  refine hK1 _ _ ?_
  refine T_seq fun K2 hK2 => ?_
  refine T_region ?_
  refine L_y (y_move rfl) rfl ?_
  refine L_y (y_assign rfl) rfl ?_
  refine L_y (y_assign rfl) rfl ?_
  refine L_nil ?_
  refine hK2 _ _ ?_
  refine T_seq fun K3 hK3 => ?_
  refine T_block ?_
  refine T_loop1 [(0, _), (1, _), (2, _), (6, _)] (fun (D : List EV) => [(7, .int .i64 (D.length : Int)), (8, .int .i64 ((D.length + 20 : Nat) : Int))]) (fun (D : List EV) => l.length - D.length) (fun (D : List EV) (w : World) => (D.length ≤ l.length ∧ D ++ cs lt 20 (l.drop D.length) = cs lt 20 l) ∧ St w0 (enR A c l).dom [enR A c (D ++ (l.drop D.length))] w) [] (Sub.cons rfl (by first | rfl | exact congrArg (Value.int _) (by omega)) (Sub.cons rfl (by first | rfl | exact congrArg (Value.int _) (by omega)) (Sub.nil _))) (Sub.cons rfl rfl (Sub.cons rfl rfl (Sub.cons rfl rfl (Sub.cons rfl rfl (Sub.nil _))))) ?_ ?_
  ·
    exact ⟨⟨Nat.zero_le _, rfl⟩, by simpa using S0⟩
  ·
    intro D w1 hrel
    obtain ⟨⟨hD, hcs⟩, S1⟩ := hrel
    have hRl : (l.drop D.length).length = l.length - D.length := List.length_drop
    refine T_seq fun K4 hK4 => ?_
    refine T_seq fun K5 hK5 => ?_
    refine T_region ?_
    refine L_y (y_move rfl) rfl ?_
    refine L_y (y_move rfl) rfl ?_
    refine L_y (y_leq rfl rfl) rfl ?_
    refine L_nil ?_
    refine hK5 _ _ ?_
    refine T_cond rfl (fun h13 => ?_) (fun h13 => ?_)
    ·
      rw [show D ++ (l.drop D.length) = D ++ (l.drop D.length).take 20 ++ (l.drop D.length).drop 20 from by rw [List.append_assoc, List.take_append_drop]] at S1
      refine T_skip ?_
      refine hK4 _ _ ?_
      refine T_block ?_
      refine T_seq fun K6 hK6 => ?_
      refine T_region ?_
      refine L_y (y_move rfl) rfl ?_
      refine L_y (y_move rfl) rfl ?_
      refine L_y (y_move rfl) rfl ?_
      refine L_y (y_move rfl) rfl ?_
      refine L_o (o_call Try.func44 rfl rfl (insor A n c _ _ D ((l.drop D.length).take 20) ((l.drop D.length).drop 20) F lt w1 (S1.get 0 rfl) hC (by simp; omega) rfl (by rw [List.length_take]; omega) (by omega)) rfl rfl ?_)
      rintro e2 w2 ⟨v2, rfl, T2⟩
      refine ⟨_, rfl, ?_⟩
      have S2 := S1.turn 0 rfl T2
      refine L_nil ?_
      refine hK6 _ _ ?_
      refine T_seq fun K7 hK7 => ?_
      refine T_region ?_
      refine L_y (y_move rfl) rfl ?_
      refine L_y (y_assign rfl) rfl ?_
      refine L_nil ?_
      refine hK7 _ _ ?_
      refine T_region ?_
      refine L_y (y_move rfl) rfl ?_
      refine L_y (y_move rfl) rfl ?_
      refine L_y (y_add rfl rfl (i64w (by omega))) rfl ?_
      refine L_y (y_assign rfl) rfl ?_
      refine L_nil ?_
      have hDl : (D ++ srt lt ((l.drop D.length).take 20)).length = D.length + 20 := by rw [List.length_append, srt_len, List.length_take]; omega
      rw [List.drop_drop] at S2
      refine ⟨D ++ srt lt ((l.drop D.length).take 20), by omega, ⟨⟨by omega, by rw [hDl, ← List.drop_drop, List.append_assoc, ← cs_step (by omega) (by omega), hcs]⟩, by rw [hDl]; exact S2⟩, ?_⟩
      exact (Sub.cons rfl (congrArg (Value.int _) (by omega)) (Sub.cons rfl (congrArg (Value.int _) (by omega)) (Sub.cons rfl rfl (Sub.cons rfl rfl (Sub.cons rfl rfl (Sub.cons rfl rfl (Sub.nil _)))))))
    ·
      rw [show D ++ (l.drop D.length) = D ++ (l.drop D.length) ++ [] from by simp] at S1
      refine T_exit ?_
      refine hK3 _ _ ?_
      refine T_seq fun K8 hK8 => ?_
      refine T_region ?_
      refine L_y (y_move rfl) rfl ?_
      refine L_y (y_move rfl) rfl ?_
      refine L_y (y_move rfl) rfl ?_
      refine L_y (y_move rfl) rfl ?_
      refine L_o (o_call Try.func44 rfl rfl (insor A n c _ _ D (l.drop D.length) [] F lt w1 (S1.get 0 rfl) hC (by simp; omega) rfl (by omega) (by omega)) rfl rfl ?_)
      rintro e3 w3 ⟨v3, rfl, T3⟩
      refine ⟨_, rfl, ?_⟩
      have S3 := S1.turn 0 rfl T3
      have e9 : D ++ srt lt (l.drop D.length) ++ [] = cs lt 20 l := by rw [List.append_nil, ← cs_last (bs := 20) (by omega), hcs]
      rw [e9] at S3
      refine L_nil ?_
      refine hK8 _ _ ?_
      refine T_block ?_
      refine T_loop1 [(0, _), (1, _), (2, _)] (fun (bs : Nat) => [(6, .int .i64 (bs : Int))]) (fun (bs : Nat) => n - bs) (fun (bs : Nat) (w : World) => (20 ≤ bs) ∧ St w0 (enR A c l).dom [enR A c (cs lt bs l)] w) 20 (Sub.cons rfl (by first | rfl | exact congrArg (Value.int _) (by omega)) (Sub.nil _)) (Sub.cons rfl rfl (Sub.cons rfl rfl (Sub.cons rfl rfl (Sub.nil _)))) ?_ ?_
      ·
        exact ⟨by omega, S3⟩
      ·
        intro bs w4 hrel
        obtain ⟨hbs, S4⟩ := hrel
        refine T_seq fun K9 hK9 => ?_
        refine T_seq fun K10 hK10 => ?_
        refine T_region ?_
        refine L_y (y_move rfl) rfl ?_
        refine L_y (y_move rfl) rfl ?_
        refine L_y (y_lss rfl rfl) rfl ?_
        refine L_nil ?_
        refine hK10 _ _ ?_
        refine T_cond rfl (fun h30 => ?_) (fun h30 => ?_)
        ·
          refine T_skip ?_
          refine hK9 _ _ ?_
          refine T_block ?_
          refine T_seq fun K11 hK11 => ?_
          refine T_region ?_
          refine L_y (y_move rfl) rfl ?_
          refine L_y (y_mul rfl rfl (i64w (by omega))) rfl ?_
          refine L_y (y_assign rfl) rfl ?_
          refine L_y (y_assign rfl) rfl ?_
          refine L_nil ?_
          refine hK11 _ _ ?_
          refine T_seq fun K12 hK12 => ?_
          refine T_block ?_
          refine T_loop1 [(0, _), (1, _), (2, _), (6, _)] (fun (E : List EV) => [(7, .int .i64 (E.length : Int)), (8, .int .i64 ((E.length + 2 * bs : Nat) : Int))]) (fun (E : List EV) => l.length - E.length) (fun (E : List EV) (w : World) => (E.length ≤ l.length ∧ E ++ cs lt (2 * bs) (l.drop E.length) = cs lt (2 * bs) l) ∧ St w0 (enR A c l).dom [enR A c (E ++ cs lt bs (l.drop E.length))] w) [] (Sub.cons rfl (by first | rfl | exact congrArg (Value.int _) (by first | omega | (simp; done) | (simp; omega))) (Sub.cons rfl (by first | rfl | exact congrArg (Value.int _) (by first | omega | (simp; done) | (simp; omega))) (Sub.nil _))) (Sub.cons rfl rfl (Sub.cons rfl rfl (Sub.cons rfl rfl (Sub.cons rfl rfl (Sub.nil _))))) ?_ ?_
          ·
            exact ⟨⟨Nat.zero_le _, rfl⟩, by simpa using S4⟩
          ·
            intro E w5 hrel
            obtain ⟨⟨hE, hcs2⟩, S5⟩ := hrel
            have hEl : (l.drop E.length).length = l.length - E.length := List.length_drop
            have hcl := cs_len (lt := lt) (bs := bs) _ (l.drop E.length) (Nat.le_refl _)
            refine T_seq fun K13 hK13 => ?_
            refine T_seq fun K14 hK14 => ?_
            refine T_region ?_
            refine L_y (y_move rfl) rfl ?_
            refine L_y (y_move rfl) rfl ?_
            refine L_y (y_leq rfl rfl) rfl ?_
            refine L_nil ?_
            refine hK14 _ _ ?_
            refine T_cond rfl (fun h35 => ?_) (fun h35 => ?_)
            ·
              rw [cs_two (by omega) (by omega), show E ++ (srt lt ((l.drop E.length).take bs) ++ srt lt (((l.drop E.length).drop bs).take bs) ++ cs lt bs ((l.drop E.length).drop (2 * bs))) = E ++ srt lt ((l.drop E.length).take bs) ++ srt lt (((l.drop E.length).drop bs).take bs) ++ cs lt bs ((l.drop E.length).drop (2 * bs)) from by simp] at S5
              have k1 : (srt lt ((l.drop E.length).take bs)).length = bs := by rw [srt_len, List.length_take]; omega
              have k2 : (srt lt (((l.drop E.length).drop bs).take bs)).length = bs := by rw [srt_len, List.length_take, List.length_drop]; omega
              have k3 := cs_len (lt := lt) (bs := bs) _ ((l.drop E.length).drop (2 * bs)) (Nat.le_refl _)
              rw [List.length_drop] at k3
              refine T_skip ?_
              refine hK13 _ _ ?_
              refine T_block ?_
              refine T_seq fun K15 hK15 => ?_
              refine T_region ?_
              refine L_y (y_move rfl) rfl ?_
              refine L_y (y_move rfl) rfl ?_
              refine L_y (y_move rfl) rfl ?_
              refine L_y (y_move rfl) rfl ?_
              refine L_y (y_add rfl rfl (i64w (by omega))) rfl ?_
              refine L_y (y_move rfl) rfl ?_
              refine L_y (y_move rfl) rfl ?_
              refine L_o (o_call Try.func45 rfl rfl (symm hC hn5 E (srt lt ((l.drop E.length).take bs)) (srt lt (((l.drop E.length).drop bs).take bs)) (cs lt bs ((l.drop E.length).drop (2 * bs))) _ _ _ w5 (S5.get 0 rfl) (by rw [List.length_append, List.length_append, List.length_append]; omega) rfl (by omega) (by omega) (by omega) (by omega) (srt_sorted hC.ord _) (srt_sorted hC.ord _)) rfl rfl ?_)
              rintro e6 w6 ⟨v6, rfl, T6⟩
              refine ⟨_, rfl, ?_⟩
              have S6 := S5.turn 0 rfl T6
              refine L_nil ?_
              refine hK15 _ _ ?_
              refine T_seq fun K16 hK16 => ?_
              refine T_region ?_
              refine L_y (y_move rfl) rfl ?_
              refine L_y (y_assign rfl) rfl ?_
              refine L_nil ?_
              refine hK16 _ _ ?_
              refine T_region ?_
              refine L_y (y_move rfl) rfl ?_
              refine L_y (y_move rfl) rfl ?_
              refine L_y (y_mul rfl rfl (i64w (by omega))) rfl ?_
              refine L_y (y_add rfl rfl (i64w (by omega))) rfl ?_
              refine L_y (y_assign rfl) rfl ?_
              refine L_nil ?_
              have hDl : (E ++ srt lt ((l.drop E.length).take (2 * bs))).length = E.length + 2 * bs := by rw [List.length_append, srt_len, List.length_take]; omega
              have e9 : E ++ mrg lt (srt lt ((l.drop E.length).take bs)) (srt lt (((l.drop E.length).drop bs).take bs)) ++ cs lt bs ((l.drop E.length).drop (2 * bs)) = E ++ srt lt ((l.drop E.length).take (2 * bs)) ++ cs lt bs (l.drop (E.length + 2 * bs)) := by rw [srt_two hC.ord, List.drop_drop]
              rw [e9] at S6
              refine ⟨E ++ srt lt ((l.drop E.length).take (2 * bs)), by omega, ⟨⟨by omega, by rw [hDl, ← List.drop_drop, List.append_assoc, ← cs_step (by omega) (by omega), hcs2]⟩, by rw [hDl]; exact S6⟩, ?_⟩
              exact (Sub.cons rfl (congrArg (Value.int _) (by first | omega | (simp; done) | (simp; omega))) (Sub.cons rfl (congrArg (Value.int _) (by first | omega | (simp; done) | (simp; omega))) (Sub.cons rfl rfl (Sub.cons rfl rfl (Sub.cons rfl rfl (Sub.cons rfl rfl (Sub.nil _)))))))
            ·
              refine T_exit ?_
              refine hK12 _ _ ?_
              refine T_seq fun K17 hK17 => ?_
              refine T_seq fun K18 hK18 => ?_
              refine T_region ?_
              refine L_y (y_move rfl) rfl ?_
              refine L_y (y_move rfl) rfl ?_
              refine L_y (y_add rfl rfl (i64w (by omega))) rfl ?_
              refine L_y (y_assign rfl) rfl ?_
              refine L_nil ?_
              refine hK18 _ _ ?_
              refine T_seq fun K19 hK19 => ?_
              refine T_region ?_
              refine L_y (y_move rfl) rfl ?_
              refine L_y (y_move rfl) rfl ?_
              refine L_y (y_lss rfl rfl) rfl ?_
              refine L_nil ?_
              refine hK19 _ _ ?_
              refine T_cond rfl (fun h54 => ?_) (fun h54 => ?_)
              ·
                rw [cs_one (by omega) (by omega) (by omega), show E ++ (srt lt ((l.drop E.length).take bs) ++ srt lt ((l.drop E.length).drop bs)) = E ++ srt lt ((l.drop E.length).take bs) ++ srt lt ((l.drop E.length).drop bs) ++ [] from by simp] at S5
                have k1 : (srt lt ((l.drop E.length).take bs)).length = bs := by rw [srt_len, List.length_take]; omega
                have k2 : (srt lt ((l.drop E.length).drop bs)).length = l.length - E.length - bs := by rw [srt_len, List.length_drop]; omega
                refine T_region ?_
                refine L_y (y_move rfl) rfl ?_
                refine L_y (y_move rfl) rfl ?_
                refine L_y (y_move rfl) rfl ?_
                refine L_y (y_move rfl) rfl ?_
                refine L_y (y_move rfl) rfl ?_
                refine L_o (o_call Try.func45 rfl rfl (symm hC hn5 E (srt lt ((l.drop E.length).take bs)) (srt lt ((l.drop E.length).drop bs)) [] _ _ _ w5 (S5.get 0 rfl) (by rw [List.length_append, List.length_append, List.length_append, List.length_nil]; omega) rfl (by omega) (by omega) (by omega) (by omega) (srt_sorted hC.ord _) (srt_sorted hC.ord _)) rfl rfl ?_)
                rintro e7 w7 ⟨v7, rfl, T7⟩
                refine ⟨_, rfl, ?_⟩
                have S7 := S5.turn 0 rfl T7
                have e9 : E ++ mrg lt (srt lt ((l.drop E.length).take bs)) (srt lt ((l.drop E.length).drop bs)) ++ [] = cs lt (2 * bs) l := by rw [srt_two' hC.ord, List.append_nil, ← cs_last (bs := 2 * bs) (by omega), hcs2]
                rw [e9] at S7
                refine L_nil ?_
                refine hK17 _ _ ?_
                refine T_region ?_
                refine L_y (y_move rfl) rfl ?_
                refine L_y (y_mul rfl rfl (i64w (by omega))) rfl ?_
                refine L_y (y_assign rfl) rfl ?_
                refine L_nil ?_
                refine ⟨2 * bs, by omega, ⟨by omega, S7⟩, ?_⟩
                exact (Sub.cons rfl (congrArg (Value.int _) (by omega)) (Sub.cons rfl rfl (Sub.cons rfl rfl (Sub.cons rfl rfl (Sub.nil _)))))
              ·
                rw [cs_last (bs := bs) (by omega), ← cs_last (bs := 2 * bs) (by omega), hcs2] at S5
                refine T_skip ?_
                refine hK17 _ _ ?_
                refine T_region ?_
                refine L_y (y_move rfl) rfl ?_
                refine L_y (y_mul rfl rfl (i64w (by omega))) rfl ?_
                refine L_y (y_assign rfl) rfl ?_
                refine L_nil ?_
                refine ⟨2 * bs, by omega, ⟨by omega, S5⟩, ?_⟩
                exact (Sub.cons rfl (congrArg (Value.int _) (by omega)) (Sub.cons rfl rfl (Sub.cons rfl rfl (Sub.cons rfl rfl (Sub.nil _)))))
        ·
          refine T_exit ?_
          first | refine end0 (fn := Try.f34) rfl ?_ | (simp only [thenQ, inB, if_true]; refine end0 (fn := Try.f34) rfl ?_)
          have h := S4.turned1 0 rfl
          rw [cs_last (by omega)] at h
          exact ⟨_, rfl, h⟩


set_option maxRecDepth 100000 in
theorem sortst (A : Option Addr) (n c : Nat) (l : List EV) (F : Nat) (lt : EV → EV → Bool) (w0 : World) (hw : (enR A c l).holds w0) (hC : CMP F lt) (hn : n = l.length) (hn5 : n ≤ 10000) :
    Calls Try.prog 24 #[.slice A n c, .func (.func F) #[] #[]] w0 fun e w' => ∃ u, e = .returned u ∧ Turned w0 w' (enR A c l) (enR A c (srt lt l)) := by
  refine enter1 (env := [(0, .slice A n c), (1, .func (.func F) #[] #[])]) [.slice A n c, .func (.func F) #[] #[]] Try.func24 rfl Try.ntmps24 rfl rfl ?_
  have S0 := St.borrow1 (enR A c l) hw (enR_lt hw)
  refine T_region ?_
  refine L_y (y_move rfl) rfl ?_
  refine L_y (y_move rfl) rfl ?_
  refine L_y (y_len Try.underlying22 rfl) rfl ?_
  refine L_y (y_move rfl) rfl ?_
  refine L_o (o_call Try.func34 rfl rfl (stabl A n c l F lt w0 (S0.get 0 rfl) hC hn hn5) rfl rfl ?_)
  rintro e1 w1 ⟨v1, rfl, T1⟩
  refine ⟨_, rfl, ?_⟩
  have S1 := S0.turn 0 rfl T1
  refine L_nil ?_
  first | refine end0 (fn := Try.f24) rfl ?_ | (simp only [thenQ, inB, if_true]; refine end0 (fn := Try.f24) rfl ?_)
  exact ⟨_, rfl, S1.turned1 0 rfl⟩
end Go.Proofs.Ytmgimcdkeelnpaa

/-
  The order of bytes' lists. General; nothing here names a program.
-/
namespace Go.Proofs.Ytmgimcdkeelnpaa.Zx
open Go.RowKit Zk
set_option linter.unusedVariables false
/-- a before b. -/
def bl (a b : List UInt8) : Bool := Op.bytesLess a b
theorem sLt_eq (a b : List UInt8) : sLt ⟨a.toArray⟩ ⟨b.toArray⟩ = bl a b := by
  unfold sLt
  rw [toList_eq, toList_eq]
  rfl
theorem bl_nil (a : List UInt8) : bl a [] = false := by cases a <;> rfl
theorem bl_cons (x y : UInt8) (a b : List UInt8) : bl (x :: a) (y :: b) = (decide (x < y) || (x == y && bl a b)) := rfl
theorem bl_irr : ∀ a, bl a a = false
  | [] => rfl
  | x :: a => by rw [bl_cons, bl_irr a]; simp
theorem bl_trans : ∀ a b c, bl a b = true → bl b c = true → bl a c = true
  | _, [], _, h, _ => by rw [bl_nil] at h; cases h
  | _, _ :: _, [], _, h => by rw [bl_nil] at h; cases h
  | [], _ :: _, _ :: _, _, _ => rfl
  | x :: a, y :: b, z :: c, h1, h2 => by
    rw [bl_cons] at h1 h2 ⊢
    simp only [Bool.or_eq_true, decide_eq_true_eq, Bool.and_eq_true, beq_iff_eq] at h1 h2 ⊢
    rcases h1 with h1 | ⟨h1, h3⟩
    · rcases h2 with h2 | ⟨h2, h4⟩
      · exact .inl (UInt8.lt_trans h1 h2)
      · subst h2; exact .inl h1
    · subst h1
      rcases h2 with h2 | ⟨h2, h4⟩
      · exact .inl h2
      · exact .inr ⟨h2, bl_trans a b c h3 h4⟩
theorem bl_total : ∀ a b, bl a b = false → a ≠ b → bl b a = true
  | [], [], _, h => absurd rfl h
  | [], _ :: _, h, _ => by cases h
  | _ :: _, [], _, _ => rfl
  | x :: a, y :: b, h, hn => by
    rw [bl_cons] at h ⊢
    simp only [Bool.or_eq_false_iff, decide_eq_false_iff_not, Bool.and_eq_false_iff, beq_eq_false_iff_ne] at h
    simp only [Bool.or_eq_true, decide_eq_true_eq, Bool.and_eq_true, beq_iff_eq]
    by_cases hxy : x = y
    · subst hxy
      rcases h.2 with h2 | h2
      · exact absurd rfl h2
      · exact .inr ⟨rfl, bl_total a b h2 (fun e => hn (by rw [e]))⟩
    · left
      rcases UInt8.lt_or_lt_of_ne hxy with h3 | h3
      · exact absurd h3 h.1
      · exact h3
theorem bl_ntrans (x y z : List UInt8) (h1 : bl x y = false) (h2 : bl y z = false) : bl x z = false := by
  cases h3 : bl x z
  · rfl
  · exfalso
    by_cases e1 : x = y
    · subst e1; rw [h3] at h2; cases h2
    · have h4 := bl_total x y h1 e1
      have h5 := bl_trans _ _ _ h4 h3
      rw [h5] at h2
      cases h2
theorem cmp_bl : ∀ a b : List UInt8, decide (Lib.compareBytes a b < 0) = bl a b
  | [], [] => rfl
  | [], _ :: _ => rfl
  | _ :: _, [] => rfl
  | x :: a, y :: b => by
    rw [bl_cons, Lib.compareBytes]
    by_cases h1 : x < y
    · simp [h1]
    · by_cases h2 : y < x
      · have h3 : x ≠ y := fun e => by subst e; exact h1 h2
        simp [h1, h2, h3]
      · have h3 : x = y := by
          rcases Classical.em (x = y) with h | h
          · exact h
          · rcases UInt8.lt_or_lt_of_ne h with h4 | h4
            · exact (h1 h4).elim
            · exact (h2 h4).elim
        subst h3
        have ih := cmp_bl a b
        rw [if_neg h1, if_neg h1, ih]
        simp [h1]
theorem ordBl {α : Type} (key : α → List UInt8) : Ord3 fun x y => bl (key x) (key y) where
  asym x y h := by
    cases h2 : bl (key y) (key x) with
    | false => rfl
    | true =>
      have := bl_trans _ _ _ h h2
      rw [bl_irr] at this
      cases this
  nt x y z h1 h2 := bl_ntrans _ _ _ h1 h2
end Go.Proofs.Ytmgimcdkeelnpaa.Zx

/-
  The orders.
-/
namespace Go.Proofs.Ytmgimcdkeelnpaa
open Go.RowKit Zk Zx
set_option linter.unusedVariables false
set_option linter.unusedSimpArgs false
/-- Where the library's parts lie here. -/
def strCmp_ren : Go.Shelf.Ren := ⟨fun | 106 => 35 | 213 => 46 | 265 => 53 | n => n, fun | 9 => 9 | 3 => 3 | n => n, fun | n => n⟩
theorem strCmp : Go.Proofs.Lays.n106 Try.prog strCmp_ren := {
  mixed := by kernel_rfl,
  f106 := Try.func35.trans (congrArg some (by kernel_rfl)),
  f213 := Try.func46.trans (congrArg some (by kernel_rfl)),
  f265 := Try.func53.trans (congrArg some (by kernel_rfl)),
  t3 := Try.underlying3,
  a3 := Try.isAgg3,
  z3 := Try.sizeOf3,
  v3 := Try.zeroValue3,
  t9 := Try.underlying9,
  a9 := Try.isAgg9,
  z9 := Try.sizeOf9,
  v9 := Try.zeroValue9 }
def idxS_ren : Go.Shelf.Ren := ⟨fun | 217 => 61 | 266 => 66 | n => n, fun | 9 => 9 | 5 => 5 | 3 => 3 | n => n, fun | n => n⟩
theorem idxS : Go.Proofs.Lays.n217 Try.prog idxS_ren := {
  mixed := by kernel_rfl,
  f217 := Try.func61.trans (congrArg some (by kernel_rfl)),
  f266 := Try.func66.trans (congrArg some (by kernel_rfl)),
  t3 := Try.underlying3,
  a3 := Try.isAgg3,
  z3 := Try.sizeOf3,
  v3 := Try.zeroValue3,
  t5 := Try.underlying5,
  a5 := Try.isAgg5,
  z5 := Try.sizeOf5,
  v5 := Try.zeroValue5,
  t9 := Try.underlying9,
  a9 := Try.isAgg9,
  z9 := Try.sizeOf9,
  v9 := Try.zeroValue9 }
def idxB_ren : Go.Shelf.Ren := ⟨fun | 185 => 51 | 187 => 55 | 115 => 56 | 253 => 57 | 224 => 58 | 254 => 59 | 255 => 64 | 291 => 65 | n => n, fun | 37 => 30 | 3 => 3 | 4 => 4 | 0 => 0 | 5 => 5 | 46 => 81 | 9 => 9 | 146 => 86 | 51 => 85 | n => n, fun | 1 => 0 | n => n⟩
theorem idxB : Go.Proofs.Lays.n185 Try.prog idxB_ren := {
  mixed := by kernel_rfl,
  f115 := Try.func56.trans (congrArg some (by kernel_rfl)),
  f185 := Try.func51.trans (congrArg some (by kernel_rfl)),
  f187 := Try.func55.trans (congrArg some (by kernel_rfl)),
  f224 := Try.func58.trans (congrArg some (by kernel_rfl)),
  f253 := Try.func57.trans (congrArg some (by kernel_rfl)),
  f254 := Try.func59.trans (congrArg some (by kernel_rfl)),
  f255 := Try.func64.trans (congrArg some (by kernel_rfl)),
  f291 := Try.func65.trans (congrArg some (by kernel_rfl)),
  t0 := Try.underlying0,
  a0 := Try.isAgg0,
  z0 := Try.sizeOf0,
  v0 := Try.zeroValue0,
  t3 := Try.underlying3,
  a3 := Try.isAgg3,
  z3 := Try.sizeOf3,
  v3 := Try.zeroValue3,
  t4 := Try.underlying4,
  a4 := Try.isAgg4,
  z4 := Try.sizeOf4,
  v4 := Try.zeroValue4,
  t5 := Try.underlying5,
  a5 := Try.isAgg5,
  z5 := Try.sizeOf5,
  v5 := Try.zeroValue5,
  t9 := Try.underlying9,
  a9 := Try.isAgg9,
  z9 := Try.sizeOf9,
  v9 := Try.zeroValue9,
  t37 := Try.underlying30,
  a37 := Try.isAgg30,
  z37 := Try.sizeOf30,
  v37 := Try.zeroValue30,
  t46 := Try.underlying81,
  a46 := Try.isAgg81,
  z46 := Try.sizeOf81,
  v46 := Try.zeroValue81,
  t51 := Try.underlying85,
  a51 := Try.isAgg85,
  z51 := Try.sizeOf85,
  v51 := Try.zeroValue85,
  t146 := Try.underlying86,
  a146 := Try.isAgg86,
  z146 := Try.sizeOf86,
  v146 := Try.zeroValue86,
  g1 := by kernel_rfl }


theorem sLt_bl (a b : ByteArray) : sLt a b = bl a.data.toList b.data.toList := by
  have h := sLt_eq a.data.toList b.data.toList
  rw [Array.toArray_toList, Array.toArray_toList] at h
  exact h
def keyB (e : EV) : ByteArray := if e.md = 3 then e.nm ++ ⟨#[47]⟩ else e.nm
def ltK (x y : EV) : Bool := sLt (keyB x) (keyB y)
def ltN (x y : EV) : Bool := sLt x.nm y.nm
theorem ordK : Ord3 ltK := by
  have h := ordBl fun e : EV => (keyB e).data.toList
  have e : ltK = fun x y => bl (keyB x).data.toList (keyB y).data.toList := by funext x y; exact sLt_bl _ _
  rw [e]
  exact h
theorem ordN : Ord3 ltN := by
  have h := ordBl fun e : EV => e.nm.data.toList
  have e : ltN = fun x y => bl x.nm.data.toList y.nm.data.toList := by funext x y; exact sLt_bl _ _
  rw [e]
  exact h
theorem compar (a b : ByteArray) (w0 : World) : Calls Try.prog 35 #[.string a, .string b] w0 fun e w' => ∃ u, e = .returned u ∧ Like w0 w' ∧ ∃ v : Int, u = .int .i64 v ∧ (v < 0 ↔ sLt a b = true) :=
  (show Calls Try.prog 35 _ _ _ from Any.strings_Compare strCmp a b w0).mono fun e w' ⟨h1, h2⟩ => by
    subst h2
    refine ⟨_, h1, Like.refl _, _, rfl, ?_⟩
    rw [sLt_bl, ← cmp_bl]
    exact decide_eq_true_iff.symm


set_option maxRecDepth 100000 in
theorem key (x : EV) (w0 : World)  :
    Calls Try.prog 36 #[.agg (enf x).toArray] w0 fun e w' => ∃ u, e = .returned u ∧ Like w0 w' ∧ u = .string (keyB x) := by
  refine enter1 (env := [(0, .agg (enf x).toArray)]) [.agg (enf x).toArray] Try.func36 rfl Try.ntmps36 rfl rfl ?_
  have S0 := St.start w0 noM; have hsz := x.h.2; have h1z : (⟨#[47]⟩ : ByteArray).size = 1 := rfl
  refine T_seq fun K1 hK1 => ?_
  refine T_region ?_
  refine L_o (o_box rfl S0 rfl fun b1 w1 hb1 S1 => ?_)
  refine L_y (y_assign rfl) rfl ?_
  refine L_nil ?_
  refine hK1 _ _ ?_
  refine T_seq fun K2 hK2 => ?_
  refine T_seq fun K3 hK3 => ?_
  refine T_region ?_
  refine L_y (y_fieldA 1 Try.underlying39 rfl sz3 rfl rfl rfl) rfl ?_
  refine L_y (y_ldc Try.underlying3 rfl rfl (((S1.blk 0 rfl).cell _).trans (by rfl))) rfl ?_
  refine L_y (y_eql rfl rfl) rfl ?_
  refine L_nil ?_
  refine hK3 _ _ ?_
  refine T_cond rfl (fun h5 => ?_) (fun h5 => ?_)
  ·
    refine T_seq fun K4 hK4 => ?_
    refine T_region ?_
    refine L_y (y_fieldA 0 Try.underlying39 rfl sz9 rfl rfl rfl) rfl ?_
    refine L_y (y_ldc Try.underlying9 rfl rfl (((S1.blk 0 rfl).cell _).trans (by rfl))) rfl ?_
    refine L_y (y_cat rfl rfl (by omega)) rfl ?_
    refine L_y (y_assign rfl) rfl ?_
    refine L_nil ?_
    refine hK4 _ _ ?_
    refine T_ret ?_
    repeat (first | with_reducible refine up_then ?_ | with_reducible refine up_in ?_)
    refine ret1 rfl rfl ?_
    first | exact ⟨_, rfl, S1.like0, by unfold keyB; rw [if_pos (by omega)]⟩ | exact ⟨_, rfl, S1.like0, by unfold keyB; rw [if_neg (by omega)]; rfl⟩
  ·
    refine T_skip ?_
    refine hK2 _ _ ?_
    refine T_seq fun K5 hK5 => ?_
    refine T_region ?_
    refine L_y (y_fieldA 0 Try.underlying39 rfl sz9 rfl rfl rfl) rfl ?_
    refine L_y (y_ldc Try.underlying9 rfl rfl (((S1.blk 0 rfl).cell _).trans (by rfl))) rfl ?_
    refine L_y (y_assign rfl) rfl ?_
    refine L_nil ?_
    refine hK5 _ _ ?_
    refine T_ret ?_
    repeat (first | with_reducible refine up_then ?_ | with_reducible refine up_in ?_)
    refine ret1 rfl rfl ?_
    first | exact ⟨_, rfl, S1.like0, by unfold keyB; rw [if_pos (by omega)]⟩ | exact ⟨_, rfl, S1.like0, by unfold keyB; rw [if_neg (by omega)]; rfl⟩


set_option maxRecDepth 100000 in
theorem rkey (x : EV) (w0 : World)  :
    Calls Try.prog 29 #[.agg (enf x).toArray] w0 fun e w' => ∃ u, e = .returned u ∧ Like w0 w' ∧ u = .string (keyB x) := by
  refine enter1 (env := [(0, .agg (enf x).toArray)]) [.agg (enf x).toArray] Try.func29 rfl Try.ntmps29 rfl rfl ?_
  have S0 := St.start w0 noM; have hsz := x.h.2; have h1z : (⟨#[47]⟩ : ByteArray).size = 1 := rfl
  refine T_seq fun K1 hK1 => ?_
  refine T_region ?_
  refine L_o (o_box rfl S0 rfl fun b1 w1 hb1 S1 => ?_)
  refine L_y (y_assign rfl) rfl ?_
  refine L_nil ?_
  refine hK1 _ _ ?_
  refine T_seq fun K2 hK2 => ?_
  refine T_seq fun K3 hK3 => ?_
  refine T_region ?_
  refine L_y (y_fieldA 1 Try.underlying39 rfl sz3 rfl rfl rfl) rfl ?_
  refine L_y (y_ldc Try.underlying3 rfl rfl (((S1.blk 0 rfl).cell _).trans (by rfl))) rfl ?_
  refine L_y (y_eql rfl rfl) rfl ?_
  refine L_nil ?_
  refine hK3 _ _ ?_
  refine T_cond rfl (fun h5 => ?_) (fun h5 => ?_)
  ·
    refine T_seq fun K4 hK4 => ?_
    refine T_region ?_
    refine L_y (y_fieldA 0 Try.underlying39 rfl sz9 rfl rfl rfl) rfl ?_
    refine L_y (y_ldc Try.underlying9 rfl rfl (((S1.blk 0 rfl).cell _).trans (by rfl))) rfl ?_
    refine L_y (y_cat rfl rfl (by omega)) rfl ?_
    refine L_y (y_assign rfl) rfl ?_
    refine L_nil ?_
    refine hK4 _ _ ?_
    refine T_ret ?_
    repeat (first | with_reducible refine up_then ?_ | with_reducible refine up_in ?_)
    refine ret1 rfl rfl ?_
    first | exact ⟨_, rfl, S1.like0, by unfold keyB; rw [if_pos (by omega)]⟩ | exact ⟨_, rfl, S1.like0, by unfold keyB; rw [if_neg (by omega)]; rfl⟩
  ·
    refine T_skip ?_
    refine hK2 _ _ ?_
    refine T_seq fun K5 hK5 => ?_
    refine T_region ?_
    refine L_y (y_fieldA 0 Try.underlying39 rfl sz9 rfl rfl rfl) rfl ?_
    refine L_y (y_ldc Try.underlying9 rfl rfl (((S1.blk 0 rfl).cell _).trans (by rfl))) rfl ?_
    refine L_y (y_assign rfl) rfl ?_
    refine L_nil ?_
    refine hK5 _ _ ?_
    refine T_ret ?_
    repeat (first | with_reducible refine up_then ?_ | with_reducible refine up_in ?_)
    refine ret1 rfl rfl ?_
    first | exact ⟨_, rfl, S1.like0, by unfold keyB; rw [if_pos (by omega)]⟩ | exact ⟨_, rfl, S1.like0, by unfold keyB; rw [if_neg (by omega)]; rfl⟩


set_option maxRecDepth 100000 in
theorem order (x y : EV) (w0 : World)  :
    Calls Try.prog 25 #[.agg (enf x).toArray, .agg (enf y).toArray] w0 fun e w' => ∃ u, e = .returned u ∧ Like w0 w' ∧ ∃ v : Int, u = .int .i64 v ∧ (v < 0 ↔ ltK x y = true) := by
  refine enter1 (env := [(0, .agg (enf x).toArray), (1, .agg (enf y).toArray)]) [.agg (enf x).toArray, .agg (enf y).toArray] Try.func25 rfl Try.ntmps25 rfl rfl ?_
  have S0 := St.start w0 noM
  refine T_seq fun K1 hK1 => ?_
  refine T_region ?_
  refine L_o (o_box rfl S0 rfl fun b1 w1 hb1 S1 => ?_)
  refine L_o (o_box rfl S1 rfl fun b2 w2 hb2 S2 => ?_)
  refine L_y (y_assign rfl) rfl ?_
  refine L_nil ?_
  refine hK1 _ _ ?_
  refine T_seq fun K2 hK2 => ?_
  refine T_drawnX (fun w => Blk w b1 39 (enf x).toArray ∧ Blk w b2 39 (enf y).toArray) hmix (by kernel_rfl) (fun w l => ⟨(S2.like l).blk 0 rfl, (S2.like l).blk 1 rfl⟩) fun w3 l3 => ?_
  have S3 := S2.like l3
  refine DX_y 0 (by kernel_rfl) rfl (y_of fun w hw => y_ldW Try.underlying39 rfl sz39 rfl (hw.1) (show _ = enf x ∧ _ from ⟨take_enf x, enf_len x⟩)) rfl ?_
  refine DX_y 2 (by kernel_rfl) rfl (y_of fun w hw => y_ldW Try.underlying39 rfl sz39 rfl (hw.2) (show _ = enf y ∧ _ from ⟨take_enf y, enf_len y⟩)) rfl ?_
  refine DX_o1 1 (by kernel_rfl) rfl ?_
  refine o_call Try.func36 rfl rfl (key x w3) rfl rfl ?_
  rintro e4 w4 ⟨v4, rfl, l4, rfl⟩
  refine ⟨_, rfl, ?_⟩
  have S4 := S3.like l4
  refine ⟨⟨S4.blk 0 rfl, S4.blk 1 rfl⟩, ?_⟩
  refine DX_o1 3 (by kernel_rfl) rfl ?_
  refine o_call Try.func36 rfl rfl (key y w4) rfl rfl ?_
  rintro e5 w5 ⟨v5, rfl, l5, rfl⟩
  refine ⟨_, rfl, ?_⟩
  have S5 := S4.like l5
  refine ⟨⟨S5.blk 0 rfl, S5.blk 1 rfl⟩, ?_⟩
  refine DX_o1 4 (by kernel_rfl) rfl ?_
  refine o_call Try.func35 rfl rfl (compar _ _ w5) rfl rfl ?_
  rintro e6 w6 ⟨v6, rfl, l6, v9, rfl, hv9⟩
  refine ⟨_, rfl, ?_⟩
  have S6 := S5.like l6
  refine ⟨⟨S6.blk 0 rfl, S6.blk 1 rfl⟩, ?_⟩
  refine DX_y 5 (by kernel_rfl) rfl (y_assign rfl) rfl ?_
  refine DX_nil (by kernel_rfl) ?_
  refine hK2 _ _ ?_
  refine T_ret ?_
  repeat (first | with_reducible refine up_then ?_ | with_reducible refine up_in ?_)
  refine ret1 rfl rfl ?_
  exact ⟨_, rfl, S6.like0, v9, rfl, hv9⟩


set_option maxRecDepth 100000 in
theorem bynam (x y : EV) (w0 : World)  :
    Calls Try.prog 48 #[.agg (enf x).toArray, .agg (enf y).toArray] w0 fun e w' => ∃ u, e = .returned u ∧ Like w0 w' ∧ ∃ v : Int, u = .int .i64 v ∧ (v < 0 ↔ ltN x y = true) := by
  refine enter1 (env := [(0, .agg (enf x).toArray), (1, .agg (enf y).toArray)]) [.agg (enf x).toArray, .agg (enf y).toArray] Try.func48 rfl Try.ntmps48 rfl rfl ?_
  have S0 := St.start w0 noM
  refine T_seq fun K1 hK1 => ?_
  refine T_region ?_
  refine L_o (o_box rfl S0 rfl fun b1 w1 hb1 S1 => ?_)
  refine L_o (o_box rfl S1 rfl fun b2 w2 hb2 S2 => ?_)
  refine L_y (y_assign rfl) rfl ?_
  refine L_nil ?_
  refine hK1 _ _ ?_
  refine T_seq fun K2 hK2 => ?_
  refine T_region ?_
  refine L_y (y_fieldA 0 Try.underlying39 rfl sz9 rfl rfl rfl) rfl ?_
  refine L_y (y_ldc Try.underlying9 rfl rfl (((S2.blk 0 rfl).cell _).trans (by rfl))) rfl ?_
  refine L_y (y_fieldA 0 Try.underlying39 rfl sz9 rfl rfl rfl) rfl ?_
  refine L_y (y_ldc Try.underlying9 rfl rfl (((S2.blk 1 rfl).cell _).trans (by rfl))) rfl ?_
  refine L_o (o_call Try.func35 rfl rfl (compar _ _ w2) rfl rfl ?_)
  rintro e3 w3 ⟨v3, rfl, l3, v9, rfl, hv9⟩
  refine ⟨_, rfl, ?_⟩
  have S3 := S2.like l3
  refine L_y (y_assign rfl) rfl ?_
  refine L_nil ?_
  refine hK2 _ _ ?_
  refine T_ret ?_
  repeat (first | with_reducible refine up_then ?_ | with_reducible refine up_in ?_)
  refine ret1 rfl rfl ?_
  exact ⟨_, rfl, S3.like0, v9, rfl, hv9⟩


theorem cmpK : CMP 25 ltK := ⟨ordK, ⟨_, Try.func25, by kernel_rfl, by kernel_rfl⟩, fun x y w => order x y w⟩
theorem cmpN : CMP 48 ltN := ⟨ordN, ⟨_, Try.func48, by kernel_rfl, by kernel_rfl⟩, fun x y w => bynam x y w⟩
end Go.Proofs.Ytmgimcdkeelnpaa
