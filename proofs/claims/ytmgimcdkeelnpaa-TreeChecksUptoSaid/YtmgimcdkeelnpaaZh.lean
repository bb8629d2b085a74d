/-
  Calls that turn a piece of the caller's memory; function values; '[]byte(s)'. General; nothing here names a program.
-/
import Derived.Test.YtmgimcdkeelnpaaZe
namespace Go.Proofs.Ytmgimcdkeelnpaa.Zx
open Go.RowKit Zk
set_option linter.unusedVariables false
set_option linter.unusedSimpArgs false
/-- From w to w' only the piece r has changed: it is r' now; and there is new memory. -/
structure Turned (w w' : World) (r r' : Res) : Prop where
  os : w'.os = w.os
  tape : w'.tape = w.tape
  output : w'.output = w.output
  size : w.heap.size ≤ w'.heap.size
  old : ∀ i, i < w.heap.size → ¬ r.dom i → w'.heap[i]? = w.heap[i]?
  holds : r'.holds w'
  dom : ∀ i, r'.dom i → r.dom i ∨ (w.heap.size ≤ i ∧ i < w'.heap.size)
/-- Two pieces as one. -/
def both (r s : Res) : Res where
  dom i := r.dom i ∨ s.dom i
  holds w := r.holds w ∧ s.holds w
  stable w w' h hh := ⟨r.stable w w' (fun i hi => h i (.inl hi)) hh.1, s.stable w w' (fun i hi => h i (.inr hi)) hh.2⟩
section
variable {w0 w w' : World} {M : Nat → Prop} {rs : List Res}
theorem St.turn (S : St w0 M rs w) (k : Nat) {r r' : Res} (hk : rs[k]? = some r) (h : Turned w w' r r') : St w0 M (rs.set k r') w' :=
  S.upd k hk h.os h.tape h.output h.size h.old h.holds h.dom
theorem Turned.refl {w : World} {r : Res} (h : r.holds w) : Turned w w r r := ⟨rfl, rfl, rfl, Nat.le_refl _, fun _ _ _ => rfl, h, fun i hi => .inl hi⟩
theorem Turned.like {r : Res} (l : Like w w') (h : r.holds w) (hd : ∀ i, r.dom i → i < w.heap.size) : Turned w w' r r :=
  ⟨l.os, l.tape, l.output, l.size, fun i hi _ => l.block i hi, r.stable w w' (fun i hi => l.block i (hd i hi)) h, fun i hi => .inl hi⟩
/-- A piece that the callee turned, and one that it made. -/
theorem St.newT (S : St w0 M rs w) (k : Nat) {r r' : Res} (hk : rs[k]? = some r) (h : Turned w w' r r') (hdom : ∀ i, r'.dom i → r.dom i) {new : Res} (hn : new.holds w') (hd : ∀ i, new.dom i → w.heap.size ≤ i ∧ i < w'.heap.size) : St w0 M (rs.set k r' ++ [new]) w' := by
  have S' := S.turn k hk h
  have hin : ∀ q ∈ rs.set k r', ∀ i, q.dom i → i < w.heap.size := fun q hq i hi => by
    rcases List.mem_or_eq_of_mem_set hq with hq | rfl
    · exact ((S.res q hq).2 i hi).1
    · exact ((S.res r (List.mem_of_getElem? hk)).2 i (hdom i hi)).1
  refine ⟨S'.os, S'.tape, S'.output, S'.size, S'.old, fun q hq => ?_, ?_⟩
  · rcases List.mem_append.1 hq with hq | hq
    · exact S'.res q hq
    · obtain rfl := List.mem_singleton.1 hq
      exact ⟨hn, fun i hi => ⟨(hd i hi).2, .inl (Nat.le_trans S.size (hd i hi).1)⟩⟩
  · rw [List.pairwise_append]
    refine ⟨S'.apart, List.pairwise_singleton _ _, fun q hq s hs i hi hsi => ?_⟩
    obtain rfl := List.mem_singleton.1 hs
    have h1 := hin q hq i hi
    have h2 := (hd i hsi).1
    omega
/-- The callee's start: two pieces that it may write to. -/
theorem St.borrow2 (r s : Res) (hr : r.holds w) (hs : s.holds w) (hd : ∀ i, r.dom i ∨ s.dom i → i < w.heap.size) (hap : ∀ i, r.dom i → ¬ s.dom i) : St w (fun i => r.dom i ∨ s.dom i) [r, s] w :=
  ⟨rfl, rfl, rfl, Nat.le_refl _, fun _ _ _ => rfl, fun q hq => by
    rcases List.mem_cons.1 hq with rfl | hq
    · exact ⟨hr, fun i hi => ⟨hd i (.inl hi), .inr (.inl hi)⟩⟩
    · obtain rfl := List.mem_singleton.1 hq
      exact ⟨hs, fun i hi => ⟨hd i (.inr hi), .inr (.inr hi)⟩⟩, List.pairwise_cons.2 ⟨fun s' hs' => by obtain rfl := List.mem_singleton.1 hs'; exact hap, List.pairwise_singleton _ _⟩⟩
theorem St.borrow1 (r : Res) (hr : r.holds w) (hd : ∀ i, r.dom i → i < w.heap.size) : St w r.dom [r] w :=
  ⟨rfl, rfl, rfl, Nat.le_refl _, fun _ _ _ => rfl, fun q hq => by
    obtain rfl := List.mem_singleton.1 hq
    exact ⟨hr, fun i hi => ⟨hd i hi, .inr hi⟩⟩, List.pairwise_singleton _ _⟩
/-- The callee's end. -/
theorem St.turned1 {r : Res} (S : St w0 r.dom rs w) (k : Nat) {r' : Res} (hk : rs[k]? = some r') : Turned w0 w r r' :=
  ⟨S.os, S.tape, S.output, S.size, S.old, S.get k hk, fun i hi => by
    have h := (S.res r' (List.mem_of_getElem? hk)).2 i hi
    rcases h.2 with h2 | h2
    · exact .inr ⟨h2, h.1⟩
    · exact .inl h2⟩
theorem St.turned2 {r s : Res} (S : St w0 (fun i => r.dom i ∨ s.dom i) rs w) (j k : Nat) {r' s' : Res} (hj : rs[j]? = some r') (hk : rs[k]? = some s') : Turned w0 w (both r s) (both r' s') :=
  ⟨S.os, S.tape, S.output, S.size, S.old, ⟨S.get j hj, S.get k hk⟩, fun i hi => by
    have h : i < w.heap.size ∧ (w0.heap.size ≤ i ∨ (r.dom i ∨ s.dom i)) := by
      rcases hi with hi | hi
      · exact (S.res r' (List.mem_of_getElem? hj)).2 i hi
      · exact (S.res s' (List.mem_of_getElem? hk)).2 i hi
    rcases h.2 with h2 | h2
    · exact .inr ⟨h2, h.1⟩
    · exact .inl h2⟩
/-- A piece's blocks are there. -/
theorem St.lt (S : St w0 M rs w) (k : Nat) {r : Res} (hk : rs[k]? = some r) : ∀ i, r.dom i → i < w.heap.size := fun i hi => ((S.res r (List.mem_of_getElem? hk)).2 i hi).1
/-- Two of the list are apart. -/
theorem St.apart_ (S : St w0 M rs w) (i j : Nat) {r s : Res} (hi : rs[i]? = some r) (hj : rs[j]? = some s) (hij : Nat.beq i j = false) : ∀ x, r.dom x → ¬ s.dom x := fun x hx hsx => by
  have hap := List.pairwise_iff_getElem.1 S.apart
  obtain ⟨hil, hie⟩ := List.getElem?_eq_some_iff.1 hi
  obtain ⟨hjl, hje⟩ := List.getElem?_eq_some_iff.1 hj
  have hne : i ≠ j := fun e => by subst e; simp at hij
  rcases Nat.lt_or_gt_of_ne hne with h | h
  · exact hap i j hil hjl h x (by rw [hie]; exact hx) (by rw [hje]; exact hsx)
  · exact hap j i hjl hil h x (by rw [hje]; exact hsx) (by rw [hie]; exact hx)
/-- Two pieces of the list become one (at the end of the list). -/
theorem St.join {r s : Res} (S : St w0 M [r, s] w) : St w0 M [both r s] w :=
  ⟨S.os, S.tape, S.output, S.size, S.old, fun q hq => by
    obtain rfl := List.mem_singleton.1 hq
    have h1 := S.res r (by simp)
    have h2 := S.res s (by simp)
    exact ⟨⟨h1.1, h2.1⟩, fun i hi => by rcases hi with hi | hi; exact h1.2 i hi; exact h2.2 i hi⟩, List.pairwise_singleton _ _⟩
end
section
variable {P : Program} {S : World → Prop} {env : Env} {w w0 : World} {M : Nat → Prop} {rs : List Res} {N : Nat} {Q : Post} {K : Env → World → Prop} {dst : Option Tmp} {d : Tmp} {ty : TypeId} {pos : String} {after : Array Edge} {g : Option (Nat × Bool)}
/-- A function value with what it has of its own. -/
theorem y_makeFunc {fn : Fn} {first captured : Array Operand} {fs cs : List Value} (hf : evl env first.toList = some fs) (hc : evl env captured.toList = some cs) : Y P S env ⟨dst, .makeFunc fn first captured, ty, pos, after, g⟩ (.func fn fs.toArray cs.toArray) := fun N a w ha _ => by
  have e1 : first.map a.eval = fs.toArray := by
    rw [← evl_map ha first.toList fs hf]
    apply Array.ext'
    simp
  have e2 : captured.map a.eval = cs.toArray := by
    rw [← evl_map ha captured.toList cs hc]
    apply Array.ext'
    simp
  simp only [execOp, e1, e2, Instr.makeFunc, Sem.run_bind, Sem.run_pure, Result.andThen_ok]
/-- A call of a function value. -/
theorem o_callv {f : FuncId} {fn : Func} {v : Operand} {xs : Array Operand} {ts : Array TypeId} {fs cs vs args : List Value} {R : Ending → World → Prop} (hv : ev env v = some (.func (.func f) fs.toArray cs.toArray)) (hf : P.funcs[f]? = some fn) (hn : (fn.name == "runtime.NumGoroutine") = false) (hb : fn.body.isNone = false)
    (hc : Calls P f args.toArray w R) (hargs : evl env xs.toList = some vs) (hall : fs ++ vs ++ cs = args) (hd : ∀ d', dst = some d' → Nat.blt d' N = true)
    (h : ∀ e w', R e w' → ∃ u, e = .returned u ∧ K (match dst with | some d' => (d', u) :: env | none => env) w') :
    O P N Q ⟨dst, .call { callee := .value v, args := xs, argTypes := ts }, ty, pos, after, g⟩ env w K := fun a ha => by
  have hmap : xs.map a.eval = vs.toArray := by
    rw [← evl_map ha xs.toList vs hargs]
    apply Array.ext'
    simp
  unfold Oper.wp
  have hrun : (execOp a.eval ⟨dst, .call { callee := .value v, args := xs, argTypes := ts }, ty, pos, after, g⟩).run P w = .ok (.enter f args.toArray) w := by
    simp only [execOp, resolve, hmap, ha.eval hv, Deferred.ofValue, invoke, callFunc, Sem.run_bind, Sem.run_pure, Result.andThen_ok, run_program, hf, hn, hb, Bool.false_eq_true, if_false]
    rw [← hall]
    simp
  rw [hrun]
  refine hc.mono fun e w' hR => ?_
  obtain ⟨u, rfl, hK⟩ := h e w' hR
  cases dst with
  | none => exact ⟨env, ha, hK⟩
  | some d' => exact ⟨_, ha.put d' u (hd d' rfl), hK⟩
/-- '[]byte(s)' -/
theorem o_sbytes {src dt e : TypeId} {x : Operand} {s : ByteArray} (hs : P.underlying src = some .string) (hd : P.underlying dt = some (.slice e)) (he : P.underlying e = some (.int .u8)) (hx : ev env x = some (.string s)) (hlen : s.size ≤ 4611686018427387904) (S : St w0 M rs w) (hdN : Nat.blt d N = true)
    (h : ∀ b c w', Like w w' → St w0 M (rs ++ [fixed 1 (some ⟨b, 0, none⟩) s.size c (bL s.data.toList)]) w' → K ((d, .slice (some ⟨b, 0, none⟩) s.size c) :: env) w') :
    O P N Q ⟨some d, .convert src dt x, ty, pos, after, g⟩ env w K := fun a ha => by
  have hr := run_bytes_of_string (P := P) w src dt e s hs hd he
  have hcap := grownCap_ge w s.size 0 e
  have hmax := grownCap_le_maxLen w s.size 0 e (by unfold maxLen; omega)
  generalize grownCap w s.size 0 e = cap at *
  generalize hC : bytesRow s cap = C at *
  have hl : Like w (w.drew.alloc (.cells C e (C.size, C.size + 1))) := Like.trans (Like.drew w) (like_alloc _ _)
  have hblk : (w.drew.alloc (.cells C e (C.size, C.size + 1))).heap[w.heap.size]? = some (.cells C e (C.size, C.size + 1)) := heap_alloc_new w.drew _
  unfold Oper.wp execOp
  simp only [ha.eval hx, Sem.run_bind, hr, Result.andThen_ok, Sem.run_pure]
  refine ⟨_, ha.put d _ hdN, h _ _ _ hl (S.new hl _ ⟨⟨by simp [size_toList], fun h0 => ⟨_, rfl, (Array.getElem?_eq_some_iff.1 hblk).1, fun j u hu => ?_⟩⟩, hcap, by unfold maxLen at hmax; exact hmax⟩ fun i ⟨ad, _, hA, hi⟩ => ?_)⟩
  · rw [Addr.add_mid, cell_of_row _ _ _ C e _ hblk, Nat.zero_add, ← hC]
    have hj : j < s.data.toList.length := by have := (List.getElem?_eq_some_iff.1 hu).1; simpa using this
    have hj2 : j < s.data.size := by simpa using hj
    unfold bytesRow
    rw [Array.getElem?_append_left (by simpa using hj2), ← hu]
    simp [bL]
    rfl
  · cases hA
    subst hi
    exact ⟨Nat.le_refl _, (Array.getElem?_eq_some_iff.1 hblk).1⟩
/-- 'make', what was there unchanged. -/
theorem o_makeL {t e : TypeId} {z : Value} {bytes : Nat} {x y : Operand} {k k' : IntKind} {jn jc : Int} {n c : Nat} (TE : Elem P t e z 1 bytes) (hone : z.oneCell' = true) (S : St w0 M rs w) (hx : ev env x = some (.int k jn)) (hy : ev env y = some (.int k' jc)) (hn : Nt jn n) (hc : Nt jc c) (hd : Nat.blt d N = true)
    (hnc : n ≤ c) (hbytes : c * bytes ≤ 281474976710656) (hcm : c ≤ 9223372036854775807)
    (h : ∀ b w', Like w w' → St w0 M (rs ++ [row e 1 (some ⟨b, 0, none⟩) n c (List.replicate n z)]) w' → K ((d, .slice (some ⟨b, 0, none⟩) n c) :: env) w') :
    O P N Q ⟨some d, .makeSlice t x y, ty, pos, after, g⟩ env w K := fun a ha => by
  have e1 := hn.eq
  have e2 := hc.eq
  subst e1; subst e2
  obtain ⟨i, hi, hz', hsize, hby⟩ := info_parts TE.hi
  have hb : (i.bytes : Int) * (c : Int) ≤ 281474976710656 := by
    have h : ((i.bytes * c : Nat) : Int) ≤ 281474976710656 := by rw [hby, Nat.mul_comm]; omega
    rwa [Int.natCast_mul] at h
  have hr := run_make (P := P) w t e i z TE.ht hi hz' k k' n c (by omega) (by omega) hb (by omega)
  simp only [Int.toNat_natCast] at hr
  unfold Oper.wp execOp
  simp only [ha.eval hx, ha.eval hy, Sem.run_bind, hr, Result.andThen_ok, Sem.run_pure]
  have hzc : z.cells.size = 1 := TE.hzs
  have hcells : madeCells z.cells (c * i.size) = Array.replicate c z := by
    rw [hsize, Nat.mul_one, cells_one hone]
    apply Array.ext
    · simp [madeCells]
    · intro j h1 h2
      simp [madeCells, Nat.mod_one]
  refine ⟨_, ha.put d _ hd, h _ _ (like_alloc w _) (S.new (like_alloc w _) _ ?_ fun i hi => ?_)⟩
  · refine ⟨by simp, .inr ⟨w.heap.size, c, _, rfl, Nat.zero_le _, heap_alloc_new w _, hnc, by unfold maxLen; omega, ?_, ?_⟩⟩
    · rw [hcells]; simp
    · rw [hcells, Nat.mul_one]
      simp [hnc]
  · change (Value.slice (some ⟨w.heap.size, 0, none⟩) n c).ownBlock = some i at hi
    simp only [Value.ownBlock, Option.some.injEq] at hi
    subst hi
    exact ⟨Nat.le_refl _, by simp⟩
end
section
variable {w0 w : World} {M : Nat → Prop} {rs : List Res}
/-- The last two pieces as one. -/
theorem St.join2 {r s : Res} (S : St w0 M (rs ++ [r, s]) w) : St w0 M (rs ++ [both r s]) w :=
  ⟨S.os, S.tape, S.output, S.size, S.old, fun q hq => by
    rcases List.mem_append.1 hq with hq | hq
    · exact S.res q (List.mem_append_left _ hq)
    · obtain rfl := List.mem_singleton.1 hq
      have h1 := S.res r (by simp)
      have h2 := S.res s (by simp)
      exact ⟨⟨h1.1, h2.1⟩, fun i hi => by rcases hi with hi | hi; exact h1.2 i hi; exact h2.2 i hi⟩, by
    have h := S.apart
    rw [List.pairwise_append] at h ⊢
    refine ⟨h.1, List.pairwise_singleton _ _, fun a ha b hb i hi => ?_⟩
    obtain rfl := List.mem_singleton.1 hb
    intro hx
    rcases hx with hx | hx
    · exact h.2.2 a ha r (by simp) i hi hx
    · exact h.2.2 a ha s (by simp) i hi hx⟩
theorem old_block {size n c : Nat} {A : Option Addr} {xs : List Value} (h : Rs w size A n c xs) {ad : Addr} (hn : 0 < n) (hA : A = some ad) : ad.block < w.heap.size := by
  obtain ⟨ad', hA', hb, _⟩ := h.rd.2 hn
  rw [hA] at hA'
  cases hA'
  exact hb
end
end Go.Proofs.Ytmgimcdkeelnpaa.Zx
