/-
  Maps that the call makes: integer elements. General; nothing here names a program.
-/
import Derived.Test.YtmgimcdkeelnpaaZj
import Derived.Test.YtmgimcdkeelnpaaZh
import Derived.Maps.RangeWalk
import Derived.Maps.OwnOps
import Derived.Maps.OwnSet
namespace Go.Proofs.Ytmgimcdkeelnpaa.Zx
open Go.RowKit Zk
set_option linter.unusedVariables false
set_option linter.unusedSimpArgs false
abbrev DU := DataW Unit
/-- A map of the call's own that reads as D. -/
def mapR (P : Program) (k e : TypeId) (b n : Nat) (D : DU) : Res where
  dom i := i = b
  holds w := w.ownsMap P k (plainElem P e) b n D
  stable w w' h hh := by
    obtain ⟨es, clock, hb, rest⟩ := hh
    exact ⟨es, clock, (h b rfl).trans hb, rest⟩
/-- The same while a loop goes through it. -/
def rngR (P : Program) (k e : TypeId) (b r n : Nat) (D : DU) (left : Lit → Bool) (cnt : Nat) : Res where
  dom i := i = b ∨ i = r
  holds w := w.ranges P k (plainElem P e) b r n D left cnt
  stable w w' h hh := by
    obtain ⟨es, clock, since, seen, c0, hb, F, hs, hD, hr, rest⟩ := hh
    exact ⟨es, clock, since, seen, c0, (h b (.inl rfl)).trans hb, F, hs, hD, (h r (.inr rfl)).trans hr, rest⟩
section
variable {P : Program} {w w' w0 : World} {M : Nat → Prop} {rs : List Res} {k e : TypeId}
/-- Old memory that the call does not write to. -/
theorem St.keepM (S : St w0 M rs w) {r : Res} (h : r.holds w0) (hd : ∀ i, r.dom i → i < w0.heap.size) (hM : ∀ i, r.dom i → ¬ M i) : r.holds w := r.stable w0 w (fun i hi => S.old i (hd i hi) (hM i hi)) h
theorem mapR_lt {b n : Nat} {D : DU} (h : (mapR P k e b n D).holds w) : ∀ i, (mapR P k e b n D).dom i → i < w.heap.size := fun i hi => by
  have hi' : i = b := hi
  subst hi'
  exact World.ownsMap.lt h
/-- A map that is not written goes on being a map. -/
theorem St.maps (S : St w0 M rs w) (j : Nat) {b r n cnt : Nat} {D : DU} {left : Lit → Bool} (hj : rs[j]? = some (rngR P k e b r n D left cnt)) : St w0 M (rs.set j (mapR P k e b n D)) w :=
  S.upd j hj rfl rfl rfl (Nat.le_refl _) (fun _ _ _ => rfl) (World.ranges.owns (S.get j hj)) fun i hi => .inl (.inl hi)
end
section
variable {P : Program} {N : Nat} {Q : Post} {env : Env} {w w0 : World} {M : Nat → Prop} {rs : List Res} {K : Env → World → Prop} {d : Tmp} {dst : Option Tmp} {ty : TypeId} {pos : String} {after : Array Edge} {g : Option (Nat × Bool)}
/-- 'make(map[K]V)' -/
theorem o_makeMap {t k e : TypeId} (S : St w0 M rs w) (hd : Nat.blt d N = true)
    (h : ∀ b w', w0.heap.size ≤ b → St w0 M (rs ++ [mapR P k e b 0 (.map [])]) w' → K ((d, .map (some b)) :: env) w') :
    O P N Q ⟨some d, .makeMap t none, ty, pos, after, g⟩ env w K := fun a ha => by
  unfold Oper.wp execOp
  simp only [run_makeMap, Option.map_none, Sem.run_bind, Sem.run_pure, Result.andThen_ok]
  refine ⟨_, ha.put d _ hd, h _ _ S.size (S.new (like_alloc w _) _ (World.ownsMap_made w P k (plainElem P e)) fun i hi => ?_)⟩
  have hi' : i = w.heap.size := hi
  subst hi'
  exact ⟨Nat.le_refl _, (World.ownsMap_made (H := Unit) w P k (plainElem P e)).lt⟩
/-- 'm[k]' -/
theorem y_look {t k e : TypeId} {q : IntKind} {b n : Nat} {D : DU} {m x : Operand} {key : Value} {kl : Lit} {c : Int} (hown : w.ownsMap P k (plainElem P e) b n D) (KY : Maps.Keyed P k) (ht : P.underlying t = some (.map k e)) (he : P.underlying e = some (.int q))
    (hz : ∀ w, (zeroValue e).run P w = .ok (.int q 0) w) (hm : ev env m = some (.map (some b))) (hx : ev env x = some key) (hkey : keyOf P k key = some kl) (hc : D.atKey kl (.lit (.int q 0)) = .lit (.int q c)) :
    Y P (Like w) env ⟨dst, .lookup t m x false, ty, pos, after, g⟩ (.int q c) := fun N a w' ha hw => by
  have h2 : w'.ownsMap P k (plainElem P e) b n D := (mapR P k e b n D).stable w w' (fun i hi => by have hi' : i = b := hi; subst hi'; exact hw.block i hown.lt) hown
  obtain ⟨c', hrun, hat, _⟩ := h2.lookup_int KY ht he (hz w') hkey
  rw [hc] at hat
  simp only [DataW.lit.injEq, Lit.int.injEq, true_and] at hat
  subst hat
  simp only [execOp, ha.eval hm, ha.eval hx, Sem.run_bind, hrun, Sem.run_pure, Result.andThen_ok]
/-- 'm[k] = v' -/
theorem o_mapUp {t k e : TypeId} {q : IntKind} {b n : Nat} {D : DU} {m x v : Operand} {key : Value} {kl : Lit} {c : Int} (S : St w0 M rs w) (j : Nat) (hj : rs[j]? = some (mapR P k e b n D)) (KY : Maps.Keyed P k) (ht : P.underlying t = some (.map k e)) (he : P.underlying e = some (.int q))
    (hm : ev env m = some (.map (some b))) (hx : ev env x = some key) (hv : ev env v = some (.int q c)) (hkey : keyOf P k key = some kl) (hn : n < 9223372036854775807) (hw : (Lit.int q c).wf = true)
    (h : ∀ w', St w0 M (rs.set j (mapR P k e b (n + 1) (D.put kl (.lit (.int q c))))) w' → K env w') :
    O P N Q ⟨none, .mapUpdate t m x v, ty, pos, after, g⟩ env w K := fun a ha => by
  have hown : w.ownsMap P k (plainElem P e) b n D := S.get j hj
  obtain ⟨w', hrun, h1, h2⟩ := hown.update KY ht (by unfold maxLen; exact hn) hkey (plainElem_int (H := Unit) he hw)
  unfold Oper.wp
  simp only [execOp, ha.eval hm, ha.eval hx, ha.eval hv, Sem.run_bind, hrun, Sem.run_pure, Result.andThen_ok]
  refine ⟨env, ha, h w' (S.upd j hj h2.os h2.tape h2.output h2.size (fun i hi hn => h2.block i hi fun e => hn ?_) h1 fun i hi => .inl hi)⟩
  injection e with e
/-- 'range m' -/
theorem o_range {t k e : TypeId} {b n : Nat} {D : DU} {m : Operand} (S : St w0 M rs w) (j : Nat) (hj : rs[j]? = some (mapR P k e b n D)) (KY : Maps.Keyed P k) (ht : P.underlying t = some (.map k e)) (hm : ev env m = some (.map (some b))) (hd : Nat.blt d N = true)
    (h : ∀ r w', St w0 M (rs.set j (rngR P k e b r n D (Maps.has D) (Maps.size D))) w' → K ((d, .pointer (some ⟨r, 0, none⟩)) :: env) w') :
    O P N Q ⟨some d, .range t m, ty, pos, after, g⟩ env w K := fun a ha => by
  have hown : w.ownsMap P k (plainElem P e) b n D := S.get j hj
  obtain ⟨w', hrun, h1, h2, h3⟩ := hown.range KY ht
  unfold Oper.wp
  simp only [execOp, ha.eval hm, Sem.run_bind, hrun, Sem.run_pure, Result.andThen_ok]
  refine ⟨_, ha.put d _ hd, h _ w' (S.upd j hj h2.os h2.tape h2.output h2.size (fun i hi hn => h2.block i hi (by simp)) h1 fun i hi => ?_)⟩
  rcases hi with hi | hi
  · exact .inl hi
  · subst hi
    exact .inr ⟨Nat.le_refl _, by omega⟩
/-- The step: string keys, integer elements. -/
theorem o_next {k e : TypeId} {q : IntKind} {b r n cnt : Nat} {D : DU} {left : Lit → Bool} {it : Operand} (S : St w0 M rs w) (j : Nat) (hj : rs[j]? = some (rngR P k e b r n D left cnt)) (KY : Maps.Keyed P k) (hk : P.underlying k = some .string) (he : P.underlying e = some (.int q))
    (hit : ev env it = some (.pointer (some ⟨r, 0, none⟩))) (hd : Nat.blt d N = true)
    (h0 : (∀ kl, left kl = false) → K ((d, .tuple #[.bool false]) :: env) w)
    (h1 : ∀ (s : ByteArray) (c : Int) (cnt' : Nat) w', left (.string s.data.toList) = true → (∀ zd, D.atKey (.string s.data.toList) zd = .lit (.int q c)) → s.size ≤ maxLen → cnt' < cnt →
      St w0 M (rs.set j (rngR P k e b r n D (fun z => left z && !z.sameKey (.string s.data.toList)) cnt')) w' → (Instr.entry (.pointer (some ⟨r, 0, none⟩))).run P w' = .ok (.tuple #[.string s, .int q c]) w' →
      K ((d, .tuple #[.bool true, .string s, .int q c]) :: env) w') :
    O P N Q ⟨some d, .next it false, ty, pos, after, g⟩ env w K := fun a ha => by
  have hr : w.ranges P k (plainElem P e) b r n D left cnt := S.get j hj
  unfold Oper.wp
  rcases hr.next KY ty with ⟨_, hl, hrun⟩ | ⟨key, v, kl, y, w', cnt', hkey, hlk, hv, hat, hrun, hrg, hlt, hgr, hsz, hen⟩
  · simp only [execOp, ha.eval hit, Sem.run_bind, hrun, Sem.run_pure, Result.andThen_ok]
    exact ⟨_, ha.put d _ hd, h0 hl⟩
  · obtain ⟨c, rfl, hy, hwc⟩ := plainElem_int_inv he hv
    obtain ⟨s, rfl, rfl, hs⟩ : ∃ s : ByteArray, key = .string s ∧ kl = .string s.data.toList ∧ s.size ≤ maxLen := by
      cases key <;> simp [keyOf, hk, mapKey] at hkey
      exact ⟨_, rfl, hkey.2.symm, hkey.1⟩
    simp only [execOp, ha.eval hit, Sem.run_bind, hrun, Sem.run_pure, Result.andThen_ok]
    refine ⟨_, ha.put d _ hd, h1 s c cnt' w' hlk (fun zd => by rw [hat zd, hy]) hs hlt (S.upd j hj hgr.os hgr.tape hgr.output hgr.size (fun i hi hn => hgr.block i hi fun e => hn (.inr (by injection e))) hrg fun i hi => .inl hi) hen⟩
/-- The round's key and element. -/
theorem o_entry {it : Operand} {r : Nat} {u v : Value} (hit : ev env it = some (.pointer (some ⟨r, 0, none⟩))) (hen : (Instr.entry (.pointer (some ⟨r, 0, none⟩))).run P w = .ok (.tuple #[u, v]) w) (hd : Nat.blt d N = true)
    (h : K ((d, .tuple #[u, v]) :: env) w) : O P N Q ⟨some d, .entry it, ty, pos, after, g⟩ env w K := fun a ha => by
  unfold Oper.wp
  simp only [execOp, ha.eval hit, Sem.run_bind, hen, Sem.run_pure, Result.andThen_ok]
  exact ⟨_, ha.put d _ hd, h⟩
/-- 'x[k].f = v' in a row of the call's own. -/
theorem o_strowN {st : TypeId} {x y : Operand} {e size n c k : Nat} {A : Option Addr} {xs : List Value} {v : Value} (S : St w0 M rs w) (i : Nat) (hk : rs[i]? = some (row e size A n c xs)) (hx : ev env x = some (pRF A k)) (hy : ev env y = some v)
    (hv : v.oneCell' = true) (hsz : (P.info? st).map (·.size) = some 1) (hkn : k < n * size)
    (h : ∀ w', St w0 M (rs.set i (row e size A n c (xs.set k v))) w' → K env w') : O P N Q ⟨none, .store st x y, ty, pos, after, g⟩ env w K := fun a ha => by
  have hown : w.ownsRow 0 e size (.slice A n c) n xs := S.get i hk
  have hn0 : 0 < n := by
    rcases Nat.eq_zero_or_pos n with h0 | h0
    · subst h0; simp at hkn
    · exact h0
  obtain ⟨b, cap, hv', _, hlt⟩ := hown.form hn0
  injection hv' with hA _ hcap
  subst hA; subst hcap
  have hxa : a.eval x = .pointer (some ⟨b, k, none⟩) := by
    rw [ha.eval hx]
    simp [pRF, Addr.add_mid]
  have hxl : xs.length = n * size := hown.1
  have hc : w.cell? ⟨b, k, none⟩ = some (xs[k]'(by omega)) := (hown.cellAt k (by omega)).trans (List.getElem?_eq_getElem (by omega))
  have hf : w.frozen? ⟨b, k, none⟩ = false := hown.frozenAt k
  have hr : (storeVar st ⟨b, k, none⟩ v).run P w = .ok () (w.setCell ⟨b, k, none⟩ v) := by
    simp only [storeVar, Sem.run_bind, sizeOf_run hsz, cells_one hv, Result.andThen_ok]
    simp [storeCells, hv, stored, hc, hf, run_store, go_sem]
  unfold Oper.wp execOp
  simp only [hxa, ha.eval hy, Instr.storeAt, Instr.sureAddr, Sem.run_bind, Sem.run_pure, Result.andThen_ok, hr]
  refine ⟨env, ha, h _ (S.upd i hk rfl rfl rfl (by simp) (fun j hj hn => Below.heap_setCell w ⟨b, k, none⟩ v j (fun e => hn (by simp [row, Value.ownBlock, e]))) ?_ fun j hj => .inl hj)⟩
  exact (hown.stored k v).1
end
end Go.Proofs.Ytmgimcdkeelnpaa.Zx
