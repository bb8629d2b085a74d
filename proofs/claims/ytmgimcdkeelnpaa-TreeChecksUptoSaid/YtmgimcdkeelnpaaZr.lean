/-
  Many blocks as one piece; two pieces as one, apart from each other; slices with a bound. General; nothing here names a program.
-/
import Derived.Test.YtmgimcdkeelnpaaZq
namespace Go.Proofs.Ytmgimcdkeelnpaa.Zx
open Go.RowKit Zk
set_option linter.unusedVariables false
set_option linter.unusedSimpArgs false
/-- Blocks known whole, by their numbers. -/
def heapR (t : Nat) (ss : Nat → Option (Array Value)) : Res where
  dom i := (ss i).isSome = true
  holds w := ∀ i cur, ss i = some cur → Blk w i t cur
  stable w w' h hh := fun i cur hi => (h i (by simp [hi])).trans (hh i cur hi)
def upd (ss : Nat → Option (Array Value)) (b : Nat) (cur : Array Value) : Nat → Option (Array Value) := fun i => if i = b then some cur else ss i
theorem upd_same (ss : Nat → Option (Array Value)) (b : Nat) (cur : Array Value) : upd ss b cur b = some cur := by unfold upd; rw [if_pos rfl]
theorem upd_ne {ss : Nat → Option (Array Value)} {b i : Nat} {cur : Array Value} (h : i ≠ b) : upd ss b cur i = ss i := by unfold upd; rw [if_neg h]
theorem heapR_none (t : Nat) (w : World) : (heapR t fun _ => none).holds w := fun i cur h => by cases h
/-- What lies in a block reads. -/
theorem heapR_rs {t : Nat} {ss : Nat → Option (Array Value)} {w : World} (h : (heapR t ss).holds w) {b o n c : Nat} {cur : Array Value} {xs : List Value} (hb : ss b = some cur) (hx : xs.length = n) (hcell : ∀ j u, xs[j]? = some u → cur[o + j]? = some u) (hnc : n ≤ c) (hc : c ≤ 9223372036854775807) :
    Rs w 1 (some ⟨b, o, none⟩) n c xs :=
  ⟨⟨by omega, fun hn => ⟨_, rfl, (h b cur hb).lt, fun j u hu => by rw [Addr.add_lit]; exact ((h b cur hb).cell (o + j)).trans (hcell j u hu)⟩⟩, hnc, hc⟩
/-- Two pieces as one, apart from each other. -/
def sep (r s : Res) : Res where
  dom i := r.dom i ∨ s.dom i
  holds w := r.holds w ∧ s.holds w ∧ ∀ i, r.dom i → ¬ s.dom i
  stable w w' h hh := ⟨r.stable w w' (fun i hi => h i (.inl hi)) hh.1, s.stable w w' (fun i hi => h i (.inr hi)) hh.2.1, hh.2.2⟩
section
variable {w0 w w' : World} {M : Nat → Prop} {rs : List Res}
theorem St.sepj {r s : Res} (S : St w0 M (rs ++ [r, s]) w) : St w0 M (rs ++ [sep r s]) w :=
  ⟨S.os, S.tape, S.output, S.size, S.old, fun q hq => by
    rcases List.mem_append.1 hq with hq | hq
    · exact S.res q (List.mem_append_left _ hq)
    · obtain rfl := List.mem_singleton.1 hq
      have h1 := S.res r (by simp)
      have h2 := S.res s (by simp)
      have h := S.apart
      rw [List.pairwise_append, List.pairwise_cons] at h
      exact ⟨⟨h1.1, h2.1, h.2.1.1 s (by simp)⟩, fun i hi => by rcases hi with hi | hi; exact h1.2 i hi; exact h2.2 i hi⟩, by
    have h := S.apart
    rw [List.pairwise_append] at h ⊢
    refine ⟨h.1, List.pairwise_singleton _ _, fun a ha b hb i hi => ?_⟩
    obtain rfl := List.mem_singleton.1 hb
    intro hx
    rcases hx with hx | hx
    · exact h.2.2 a ha r (by simp) i hi hx
    · exact h.2.2 a ha s (by simp) i hi hx⟩
theorem St.seps {r s : Res} (S : St w0 M (rs ++ [sep r s]) w) : St w0 M (rs ++ [r, s]) w := by
  have h := S.res (sep r s) (by simp)
  have hp := S.apart
  rw [List.pairwise_append] at hp
  refine ⟨S.os, S.tape, S.output, S.size, S.old, fun q hq => ?_, ?_⟩
  · rcases List.mem_append.1 hq with hq | hq
    · exact S.res q (List.mem_append_left _ hq)
    · rcases List.mem_cons.1 hq with rfl | hq
      · exact ⟨h.1.1, fun i hi => h.2 i (.inl hi)⟩
      · obtain rfl := List.mem_singleton.1 hq
        exact ⟨h.1.2.1, fun i hi => h.2 i (.inr hi)⟩
  · rw [List.pairwise_append, List.pairwise_cons]
    refine ⟨hp.1, ⟨fun b hb => ?_, List.pairwise_singleton _ _⟩, fun a ha b hb i hi hx => ?_⟩
    · obtain rfl := List.mem_singleton.1 hb
      exact h.1.2.2
    · rcases List.mem_cons.1 hb with rfl | hb
      · exact hp.2.2 a ha _ (List.mem_singleton_self _) i hi (.inl hx)
      · obtain rfl := List.mem_singleton.1 hb
        exact hp.2.2 a ha _ (List.mem_singleton_self _) i hi (.inr hx)
theorem St.turnedS {r s r' s' : Res} (S : St w0 (fun i => r.dom i ∨ s.dom i) [r', s'] w) : Turned w0 w (sep r s) (sep r' s') := by
  have S2 : St w0 (fun i => r.dom i ∨ s.dom i) ([] ++ [sep r' s']) w := St.sepj (rs := []) S
  have h := S2.res (sep r' s') (by simp)
  exact ⟨S.os, S.tape, S.output, S.size, S.old, h.1, fun i hi => by
    have h2 := h.2 i hi
    rcases h2.2 with h3 | h3
    · exact .inr ⟨h3, h2.1⟩
    · exact .inl h3⟩
/-- A new row is one block more. -/
theorem heap_join {t : Nat} {ss : Nat → Option (Array Value)} {b n c : Nat} {xs : List Value} (S : St w0 M (rs ++ [heapR t ss, row t 1 (some ⟨b, 0, none⟩) n c xs]) w) :
    ∃ cur, cur.size = c ∧ ss b = none ∧ c ≤ 9223372036854775807 ∧ St w0 M (rs ++ [heapR t (upd ss b cur)]) w := by
  have hr := S.res (row t 1 (some ⟨b, 0, none⟩) n c xs) (by simp)
  have hh := S.res (heapR t ss) (by simp)
  have hp := S.apart
  rw [List.pairwise_append, List.pairwise_cons] at hp
  have hno : ss b = none := by
    cases hb : ss b with
    | none => rfl
    | some cur => exact (hp.2.1.1 _ (List.mem_singleton_self _) b (by simp [heapR, hb]) rfl).elim
  rcases hr.1.2 with ⟨h, _⟩ | ⟨g, cap, cur, h, _, hg, hnc, hcm, hcs, _⟩
  · cases h
  · cases h
    refine ⟨cur, by omega, hno, by unfold maxLen at hcm; exact hcm, S.os, S.tape, S.output, S.size, S.old, fun q hq => ?_, ?_⟩
    · rcases List.mem_append.1 hq with hq | hq
      · exact S.res q (List.mem_append_left _ hq)
      · obtain rfl := List.mem_singleton.1 hq
        refine ⟨fun i cur' hi => ?_, fun i hi => ?_⟩
        · by_cases e : i = b
          · subst e
            rw [upd_same] at hi
            cases hi
            exact hg
          · rw [upd_ne e] at hi
            exact hh.1 i cur' hi
        · by_cases e : i = b
          · subst e
            exact hr.2 i rfl
          · refine hh.2 i ?_
            have hi' : (upd ss b cur i).isSome = true := hi
            rw [upd_ne e] at hi'
            exact hi'
    · rw [List.pairwise_append]
      refine ⟨hp.1, List.pairwise_singleton _ _, fun a ha q hq i hi hx => ?_⟩
      obtain rfl := List.mem_singleton.1 hq
      by_cases e : i = b
      · subst e
        exact hp.2.2 a ha _ (List.mem_cons_of_mem _ (List.mem_singleton_self _)) i hi rfl
      · have hi' : (upd ss b cur i).isSome = true := hx
        rw [upd_ne e] at hi'
        exact hp.2.2 a ha (heapR t ss) List.mem_cons_self i hi hi'
end
section
variable {P : Program} {S : World → Prop} {N : Nat} {Q : Post} {K : Env → World → Prop} {env : Env} {w0 w : World} {M : Nat → Prop} {rs : List Res} {dst : Option Tmp} {d : Tmp} {ty : TypeId} {pos : String} {after : Array Edge} {g : Option (Nat × Bool)}
/-- A store into one of many blocks. -/
theorem o_stH {st : TypeId} {x y : Operand} {b o t : Nat} {ss : Nat → Option (Array Value)} {cs : Array Value} {v : Value} (S : St w0 M rs w) (k : Nat) (hk : rs[k]? = some (heapR t ss)) (hs : ss b = some cs) (hx : ev env x = some (.pointer (some ⟨b, o, none⟩))) (hy : ev env y = some v)
    (hv : v.oneCell' = true) (hsz : (P.info? st).map (·.size) = some 1) (ho : o < cs.size)
    (h : ∀ w', St w0 M (rs.set k (heapR t (upd ss b (cs.setIfInBounds o v)))) w' → K env w') : O P N Q ⟨none, .store st x y, ty, pos, after, g⟩ env w K := fun a ha => by
  have hH : (heapR t ss).holds w := S.get k hk
  have hB : Blk w b t cs := hH b cs hs
  have hc : w.cell? ⟨b, o, none⟩ = some cs[o] := (hB.cell o).trans (Array.getElem?_eq_getElem ho)
  have hr : (storeVar st ⟨b, o, none⟩ v).run P w = .ok () (w.setCell ⟨b, o, none⟩ v) := by
    simp only [storeVar, Sem.run_bind, sizeOf_run hsz, cells_one hv, Result.andThen_ok]
    simp [storeCells, hv, stored, hc, hB.frozen o, run_store, go_sem]
  unfold Oper.wp execOp
  simp only [ha.eval hx, ha.eval hy, Instr.storeAt, Instr.sureAddr, Sem.run_bind, Sem.run_pure, Result.andThen_ok, hr]
  have hdom : ∀ i, (heapR t (upd ss b (cs.setIfInBounds o v))).dom i → (heapR t ss).dom i := fun i hi => by
    by_cases e : i = b
    · subst e; show (ss i).isSome = true; rw [hs]; rfl
    · have hi' : (upd ss b (cs.setIfInBounds o v) i).isSome = true := hi
      rw [upd_ne e] at hi'
      exact hi'
  refine ⟨env, ha, h _ (S.upd k hk rfl rfl rfl (by simp) (fun i hi hn => Below.heap_setCell w ⟨b, o, none⟩ v i (fun e => hn (show (ss i).isSome = true by rw [show i = b from e, hs]; rfl))) (fun i cur hi => ?_) fun i hi => .inl (hdom i hi))⟩
  by_cases e : i = b
  · subst e
    rw [upd_same] at hi
    cases hi
    exact hB.set_ o v
  · rw [upd_ne e] at hi
    exact (Below.heap_setCell w ⟨b, o, none⟩ v i e).trans (hH i cur hi)
/-- A slice with a bound. -/
theorem y_sliceX {x : Operand} {t e : TypeId} {A : Option Addr} {n c l u m size : Nat} {kl kh km : IntKind} {jl jh jm : Int} {i j k : Operand} (ht : P.underlying t = some (.slice e)) (hsz : (P.info? e).map (·.size) = some size) (hx : ev env x = some (.slice A n c))
    (hi : ev env i = some (.int kl jl)) (hj : ev env j = some (.int kh jh)) (hm : ev env k = some (.int km jm)) (el : jl = (l : Int)) (eu : jh = (u : Int)) (em : jm = (m : Int)) (h1 : l ≤ u) (h2 : u ≤ m) (h3 : m ≤ c) :
    Y P S env ⟨dst, .slice t x (some i) (some j) (some k), ty, pos, after, g⟩ (.slice (cutA A m l size) (u - l) (m - l)) := fun N a w' ha _ => by
  subst el; subst eu; subst em
  have he : P.elem t = e := by simp [Program.elem, ht]
  have h4 := run_slice_lhm (P := P) (w := w') (t := t) (a := A) (len := n) (cap := c) (by rw [he]; exact ht) kl kh km (l : Int) (u : Int) (m : Int) (by omega) (by omega) (by omega) (by omega)
  rw [he] at h4
  simp only [execOp, ha.eval hx, Option.map_some, Option.map_none, ha.eval hi, ha.eval hj, ha.eval hm, Instr.sliceAt, Sem.run_bind, run_underlying ht, Result.andThen_ok, h4, sizeOf_run hsz, Sem.run_pure, Int.toNat_natCast]
  rfl
theorem T_loop7 {t1 t2 t3 t4 t5 t6 t7 : Type} {c : Code} (ks : Env) (V : t1 → t2 → t3 → t4 → t5 → t6 → t7 → Env) (μ : t1 → t2 → t3 → t4 → t5 → t6 → t7 → Nat) (Rel : t1 → t2 → t3 → t4 → t5 → t6 → t7 → World → Prop) (z1 : t1) (z2 : t2) (z3 : t3) (z4 : t4) (z5 : t5) (z6 : t6) (z7 : t7) (hs : Sub (V z1 z2 z3 z4 z5 z6 z7) env) (hk : Sub ks env) (h0 : Rel z1 z2 z3 z4 z5 z6 z7 w)
    (round : ∀ a1 a2 a3 a4 a5 a6 a7 w, Rel a1 a2 a3 a4 a5 a6 a7 w → T P N c (thenQ (fun e' w' => ∃ p1 p2 p3 p4 p5 p6 p7, μ p1 p2 p3 p4 p5 p6 p7 < μ a1 a2 a3 a4 a5 a6 a7 ∧ Rel p1 p2 p3 p4 p5 p6 p7 w' ∧ Sub (V p1 p2 p3 p4 p5 p6 p7 ++ ks) e') Q) (V a1 a2 a3 a4 a5 a6 a7 ++ ks) w) : T P N (.loop c) Q env w :=
  T_loop (fun m e w => ∃ a1 a2 a3 a4 a5 a6 a7, m = μ a1 a2 a3 a4 a5 a6 a7 ∧ Rel a1 a2 a3 a4 a5 a6 a7 w ∧ Sub (V a1 a2 a3 a4 a5 a6 a7 ++ ks) e) (μ z1 z2 z3 z4 z5 z6 z7) ⟨z1, z2, z3, z4, z5, z6, z7, rfl, h0, Sub.app hs hk⟩ fun m e w ⟨a1, a2, a3, a4, a5, a6, a7, hm, hr, hsub⟩ => T_weak hsub (T_mono (fun e w ⟨p1, p2, p3, p4, p5, p6, p7, h1, h2, h3⟩ => ⟨μ p1 p2 p3 p4 p5 p6 p7, by omega, p1, p2, p3, p4, p5, p6, p7, rfl, h2, h3⟩) (round a1 a2 a3 a4 a5 a6 a7 w hr))
theorem T_loop8 {t1 t2 t3 t4 t5 t6 t7 t8 : Type} {c : Code} (ks : Env) (V : t1 → t2 → t3 → t4 → t5 → t6 → t7 → t8 → Env) (μ : t1 → t2 → t3 → t4 → t5 → t6 → t7 → t8 → Nat) (Rel : t1 → t2 → t3 → t4 → t5 → t6 → t7 → t8 → World → Prop) (z1 : t1) (z2 : t2) (z3 : t3) (z4 : t4) (z5 : t5) (z6 : t6) (z7 : t7) (z8 : t8) (hs : Sub (V z1 z2 z3 z4 z5 z6 z7 z8) env) (hk : Sub ks env) (h0 : Rel z1 z2 z3 z4 z5 z6 z7 z8 w)
    (round : ∀ a1 a2 a3 a4 a5 a6 a7 a8 w, Rel a1 a2 a3 a4 a5 a6 a7 a8 w → T P N c (thenQ (fun e' w' => ∃ p1 p2 p3 p4 p5 p6 p7 p8, μ p1 p2 p3 p4 p5 p6 p7 p8 < μ a1 a2 a3 a4 a5 a6 a7 a8 ∧ Rel p1 p2 p3 p4 p5 p6 p7 p8 w' ∧ Sub (V p1 p2 p3 p4 p5 p6 p7 p8 ++ ks) e') Q) (V a1 a2 a3 a4 a5 a6 a7 a8 ++ ks) w) : T P N (.loop c) Q env w :=
  T_loop (fun m e w => ∃ a1 a2 a3 a4 a5 a6 a7 a8, m = μ a1 a2 a3 a4 a5 a6 a7 a8 ∧ Rel a1 a2 a3 a4 a5 a6 a7 a8 w ∧ Sub (V a1 a2 a3 a4 a5 a6 a7 a8 ++ ks) e) (μ z1 z2 z3 z4 z5 z6 z7 z8) ⟨z1, z2, z3, z4, z5, z6, z7, z8, rfl, h0, Sub.app hs hk⟩ fun m e w ⟨a1, a2, a3, a4, a5, a6, a7, a8, hm, hr, hsub⟩ => T_weak hsub (T_mono (fun e w ⟨p1, p2, p3, p4, p5, p6, p7, p8, h1, h2, h3⟩ => ⟨μ p1 p2 p3 p4 p5 p6 p7 p8, by omega, p1, p2, p3, p4, p5, p6, p7, p8, rfl, h2, h3⟩) (round a1 a2 a3 a4 a5 a6 a7 a8 w hr))
theorem T_loop9 {t1 t2 t3 t4 t5 t6 t7 t8 t9 : Type} {c : Code} (ks : Env) (V : t1 → t2 → t3 → t4 → t5 → t6 → t7 → t8 → t9 → Env) (μ : t1 → t2 → t3 → t4 → t5 → t6 → t7 → t8 → t9 → Nat) (Rel : t1 → t2 → t3 → t4 → t5 → t6 → t7 → t8 → t9 → World → Prop) (z1 : t1) (z2 : t2) (z3 : t3) (z4 : t4) (z5 : t5) (z6 : t6) (z7 : t7) (z8 : t8) (z9 : t9) (hs : Sub (V z1 z2 z3 z4 z5 z6 z7 z8 z9) env) (hk : Sub ks env) (h0 : Rel z1 z2 z3 z4 z5 z6 z7 z8 z9 w)
    (round : ∀ a1 a2 a3 a4 a5 a6 a7 a8 a9 w, Rel a1 a2 a3 a4 a5 a6 a7 a8 a9 w → T P N c (thenQ (fun e' w' => ∃ p1 p2 p3 p4 p5 p6 p7 p8 p9, μ p1 p2 p3 p4 p5 p6 p7 p8 p9 < μ a1 a2 a3 a4 a5 a6 a7 a8 a9 ∧ Rel p1 p2 p3 p4 p5 p6 p7 p8 p9 w' ∧ Sub (V p1 p2 p3 p4 p5 p6 p7 p8 p9 ++ ks) e') Q) (V a1 a2 a3 a4 a5 a6 a7 a8 a9 ++ ks) w) : T P N (.loop c) Q env w :=
  T_loop (fun m e w => ∃ a1 a2 a3 a4 a5 a6 a7 a8 a9, m = μ a1 a2 a3 a4 a5 a6 a7 a8 a9 ∧ Rel a1 a2 a3 a4 a5 a6 a7 a8 a9 w ∧ Sub (V a1 a2 a3 a4 a5 a6 a7 a8 a9 ++ ks) e) (μ z1 z2 z3 z4 z5 z6 z7 z8 z9) ⟨z1, z2, z3, z4, z5, z6, z7, z8, z9, rfl, h0, Sub.app hs hk⟩ fun m e w ⟨a1, a2, a3, a4, a5, a6, a7, a8, a9, hm, hr, hsub⟩ => T_weak hsub (T_mono (fun e w ⟨p1, p2, p3, p4, p5, p6, p7, p8, p9, h1, h2, h3⟩ => ⟨μ p1 p2 p3 p4 p5 p6 p7 p8 p9, by omega, p1, p2, p3, p4, p5, p6, p7, p8, p9, rfl, h2, h3⟩) (round a1 a2 a3 a4 a5 a6 a7 a8 a9 w hr))
/-- A guard that was itself passed over, where the order is drawn. -/
theorem DL_gnu {ops : Array Oper} {i : Nat} {d : Tmp} {op : Op} {order : List (Nat × Bool)} {j : Nat} {b : Bool} {t : Tmp} (hi : ops[i]? = some ⟨some d, op, ty, pos, after, some (j, b)⟩)
    (hj : (ops[j]?).bind (·.dst) = some t) (ht : look env t = some undef) (hd : Nat.blt d N = true) (h : DL P N ops Q S order ((d, undef) :: env) w) : DL P N ops Q S ((i, true) :: order) env w :=
  DL_yi hi rfl (fun a ha => .inr ⟨by
    have : ((none : Option Bool) == some b) = false := by cases b <;> rfl
    simp [Region.wanted, yielded, hj, ha.vals t _ ht, undef], rfl⟩) hd h
end
end Go.Proofs.Ytmgimcdkeelnpaa.Zx
