import Derived.Test.YtgaklngnfecdaaaMgINone1
import Derived.Maps.RangeWalk
import Derived.Maps.OwnOps
import Derived.Maps.OwnSet
import Derived.ArgAppend
import Derived.Scope
import Derived.Test.YtgaklngnfecdaaaRows
import Derived.Laws.StructEq
import Derived.Lib.Bytealg
import Derived.Shelf.Small.Strs
import Derived.Shelf.Strings.Search1
import Derived.Shelf.Bytes.SlIndexAt
import Derived.Deep.RegionWith
import Derived.Deep.RegionLaw
import Derived.Deep.CondSized
import Derived.JoinedCond

/-
  Calls that turn a piece of the caller's memory; function values; '[]byte(s)'. General; nothing here names a program.
-/
namespace Go.Proofs.Ytgaklngnfecdaaa.Zx
open Go.RowKit Zk
set_option linter.unusedVariables false
set_option linter.unusedSimpArgs false
/-- From w to w' only the piece r has changed: it is r' now; and there is new memory. -/
structure Turned (w w' : World) (r r' : Res) : Prop where
  os : w'.os = w.os
  tape : w'.tape = w.tape
  output : w'.output = w.output
  size : w.heap.size ≤ w'.heap.size
  old : ∀ i, i < w.heap.size → ¬ r.dom i → w'.heap[i]? = w.heap[i]?
  holds : r'.holds w'
  dom : ∀ i, r'.dom i → r.dom i ∨ (w.heap.size ≤ i ∧ i < w'.heap.size)
/-- Two pieces as one. -/
def both (r s : Res) : Res where
  dom i := r.dom i ∨ s.dom i
  holds w := r.holds w ∧ s.holds w
  stable w w' h hh := ⟨r.stable w w' (fun i hi => h i (.inl hi)) hh.1, s.stable w w' (fun i hi => h i (.inr hi)) hh.2⟩
section
variable {w0 w w' : World} {M : Nat → Prop} {rs : List Res}
theorem St.turn (S : St w0 M rs w) (k : Nat) {r r' : Res} (hk : rs[k]? = some r) (h : Turned w w' r r') : St w0 M (rs.set k r') w' :=
  S.upd k hk h.os h.tape h.output h.size h.old h.holds h.dom
theorem Turned.refl {w : World} {r : Res} (h : r.holds w) : Turned w w r r := ⟨rfl, rfl, rfl, Nat.le_refl _, fun _ _ _ => rfl, h, fun i hi => .inl hi⟩
theorem Turned.like {r : Res} (l : Like w w') (h : r.holds w) (hd : ∀ i, r.dom i → i < w.heap.size) : Turned w w' r r :=
  ⟨l.os, l.tape, l.output, l.size, fun i hi _ => l.block i hi, r.stable w w' (fun i hi => l.block i (hd i hi)) h, fun i hi => .inl hi⟩
/-- A piece that the callee turned, and one that it made. -/
theorem St.newT (S : St w0 M rs w) (k : Nat) {r r' : Res} (hk : rs[k]? = some r) (h : Turned w w' r r') (hdom : ∀ i, r'.dom i → r.dom i) {new : Res} (hn : new.holds w') (hd : ∀ i, new.dom i → w.heap.size ≤ i ∧ i < w'.heap.size) : St w0 M (rs.set k r' ++ [new]) w' := by
  have S' := S.turn k hk h
  have hin : ∀ q ∈ rs.set k r', ∀ i, q.dom i → i < w.heap.size := fun q hq i hi => by
    rcases List.mem_or_eq_of_mem_set hq with hq | rfl
    · exact ((S.res q hq).2 i hi).1
    · exact ((S.res r (List.mem_of_getElem? hk)).2 i (hdom i hi)).1
  refine ⟨S'.os, S'.tape, S'.output, S'.size, S'.old, fun q hq => ?_, ?_⟩
  · rcases List.mem_append.1 hq with hq | hq
    · exact S'.res q hq
    · obtain rfl := List.mem_singleton.1 hq
      exact ⟨hn, fun i hi => ⟨(hd i hi).2, .inl (Nat.le_trans S.size (hd i hi).1)⟩⟩
  · rw [List.pairwise_append]
    refine ⟨S'.apart, List.pairwise_singleton _ _, fun q hq s hs i hi hsi => ?_⟩
    obtain rfl := List.mem_singleton.1 hs
    have h1 := hin q hq i hi
    have h2 := (hd i hsi).1
    omega
/-- The callee's start: two pieces that it may write to. -/
theorem St.borrow2 (r s : Res) (hr : r.holds w) (hs : s.holds w) (hd : ∀ i, r.dom i ∨ s.dom i → i < w.heap.size) (hap : ∀ i, r.dom i → ¬ s.dom i) : St w (fun i => r.dom i ∨ s.dom i) [r, s] w :=
  ⟨rfl, rfl, rfl, Nat.le_refl _, fun _ _ _ => rfl, fun q hq => by
    rcases List.mem_cons.1 hq with rfl | hq
    · exact ⟨hr, fun i hi => ⟨hd i (.inl hi), .inr (.inl hi)⟩⟩
    · obtain rfl := List.mem_singleton.1 hq
      exact ⟨hs, fun i hi => ⟨hd i (.inr hi), .inr (.inr hi)⟩⟩, List.pairwise_cons.2 ⟨fun s' hs' => by obtain rfl := List.mem_singleton.1 hs'; exact hap, List.pairwise_singleton _ _⟩⟩
theorem St.borrow1 (r : Res) (hr : r.holds w) (hd : ∀ i, r.dom i → i < w.heap.size) : St w r.dom [r] w :=
  ⟨rfl, rfl, rfl, Nat.le_refl _, fun _ _ _ => rfl, fun q hq => by
    obtain rfl := List.mem_singleton.1 hq
    exact ⟨hr, fun i hi => ⟨hd i hi, .inr hi⟩⟩, List.pairwise_singleton _ _⟩
/-- The callee's end. -/
theorem St.turned1 {r : Res} (S : St w0 r.dom rs w) (k : Nat) {r' : Res} (hk : rs[k]? = some r') : Turned w0 w r r' :=
  ⟨S.os, S.tape, S.output, S.size, S.old, S.get k hk, fun i hi => by
    have h := (S.res r' (List.mem_of_getElem? hk)).2 i hi
    rcases h.2 with h2 | h2
    · exact .inr ⟨h2, h.1⟩
    · exact .inl h2⟩
theorem St.turned2 {r s : Res} (S : St w0 (fun i => r.dom i ∨ s.dom i) rs w) (j k : Nat) {r' s' : Res} (hj : rs[j]? = some r') (hk : rs[k]? = some s') : Turned w0 w (both r s) (both r' s') :=
  ⟨S.os, S.tape, S.output, S.size, S.old, ⟨S.get j hj, S.get k hk⟩, fun i hi => by
    have h : i < w.heap.size ∧ (w0.heap.size ≤ i ∨ (r.dom i ∨ s.dom i)) := by
      rcases hi with hi | hi
      · exact (S.res r' (List.mem_of_getElem? hj)).2 i hi
      · exact (S.res s' (List.mem_of_getElem? hk)).2 i hi
    rcases h.2 with h2 | h2
    · exact .inr ⟨h2, h.1⟩
    · exact .inl h2⟩
/-- A piece's blocks are there. -/
theorem St.lt (S : St w0 M rs w) (k : Nat) {r : Res} (hk : rs[k]? = some r) : ∀ i, r.dom i → i < w.heap.size := fun i hi => ((S.res r (List.mem_of_getElem? hk)).2 i hi).1
/-- Two of the list are apart. -/
theorem St.apart_ (S : St w0 M rs w) (i j : Nat) {r s : Res} (hi : rs[i]? = some r) (hj : rs[j]? = some s) (hij : Nat.beq i j = false) : ∀ x, r.dom x → ¬ s.dom x := fun x hx hsx => by
  have hap := List.pairwise_iff_getElem.1 S.apart
  obtain ⟨hil, hie⟩ := List.getElem?_eq_some_iff.1 hi
  obtain ⟨hjl, hje⟩ := List.getElem?_eq_some_iff.1 hj
  have hne : i ≠ j := fun e => by subst e; simp at hij
  rcases Nat.lt_or_gt_of_ne hne with h | h
  · exact hap i j hil hjl h x (by rw [hie]; exact hx) (by rw [hje]; exact hsx)
  · exact hap j i hjl hil h x (by rw [hje]; exact hsx) (by rw [hie]; exact hx)
end
section
variable {P : Program} {S : World → Prop} {env : Env} {w w0 : World} {M : Nat → Prop} {rs : List Res} {N : Nat} {Q : Post} {K : Env → World → Prop} {dst : Option Tmp} {d : Tmp} {ty : TypeId} {pos : String} {after : Array Edge} {g : Option (Nat × Bool)}
/-- A function value with what it has of its own. -/
theorem y_makeFunc {fn : Fn} {first captured : Array Operand} {fs cs : List Value} (hf : evl env first.toList = some fs) (hc : evl env captured.toList = some cs) : Y P S env ⟨dst, .makeFunc fn first captured, ty, pos, after, g⟩ (.func fn fs.toArray cs.toArray) := fun N a w ha _ => by
  have e1 : first.map a.eval = fs.toArray := by
    rw [← evl_map ha first.toList fs hf]
    apply Array.ext'
    simp
  have e2 : captured.map a.eval = cs.toArray := by
    rw [← evl_map ha captured.toList cs hc]
    apply Array.ext'
    simp
  simp only [execOp, e1, e2, Instr.makeFunc, Sem.run_bind, Sem.run_pure, Result.andThen_ok]
/-- A call of a function value. -/
theorem o_callv {f : FuncId} {fn : Func} {v : Operand} {xs : Array Operand} {ts : Array TypeId} {fs cs vs args : List Value} {R : Ending → World → Prop} (hv : ev env v = some (.func (.func f) fs.toArray cs.toArray)) (hf : P.funcs[f]? = some fn) (hn : (fn.name == "runtime.NumGoroutine") = false) (hb : fn.body.isNone = false)
    (hc : Calls P f args.toArray w R) (hargs : evl env xs.toList = some vs) (hall : fs ++ vs ++ cs = args) (hd : ∀ d', dst = some d' → Nat.blt d' N = true)
    (h : ∀ e w', R e w' → ∃ u, e = .returned u ∧ K (match dst with | some d' => (d', u) :: env | none => env) w') :
    O P N Q ⟨dst, .call { callee := .value v, args := xs, argTypes := ts }, ty, pos, after, g⟩ env w K := fun a ha => by
  have hmap : xs.map a.eval = vs.toArray := by
    rw [← evl_map ha xs.toList vs hargs]
    apply Array.ext'
    simp
  unfold Oper.wp
  have hrun : (execOp a.eval ⟨dst, .call { callee := .value v, args := xs, argTypes := ts }, ty, pos, after, g⟩).run P w = .ok (.enter f args.toArray) w := by
    simp only [execOp, resolve, hmap, ha.eval hv, Deferred.ofValue, invoke, callFunc, Sem.run_bind, Sem.run_pure, Result.andThen_ok, run_program, hf, hn, hb, Bool.false_eq_true, if_false]
    rw [← hall]
    simp
  rw [hrun]
  refine hc.mono fun e w' hR => ?_
  obtain ⟨u, rfl, hK⟩ := h e w' hR
  cases dst with
  | none => exact ⟨env, ha, hK⟩
  | some d' => exact ⟨_, ha.put d' u (hd d' rfl), hK⟩
/-- '[]byte(s)' -/
theorem o_sbytes {src dt e : TypeId} {x : Operand} {s : ByteArray} (hs : P.underlying src = some .string) (hd : P.underlying dt = some (.slice e)) (he : P.underlying e = some (.int .u8)) (hx : ev env x = some (.string s)) (hlen : s.size ≤ 4611686018427387904) (S : St w0 M rs w) (hdN : Nat.blt d N = true)
    (h : ∀ b c w', Like w w' → St w0 M (rs ++ [fixed 1 (some ⟨b, 0, none⟩) s.size c (bL s.data.toList)]) w' → K ((d, .slice (some ⟨b, 0, none⟩) s.size c) :: env) w') :
    O P N Q ⟨some d, .convert src dt x, ty, pos, after, g⟩ env w K := fun a ha => by
  have hr := run_bytes_of_string (P := P) w src dt e s hs hd he
  have hcap := grownCap_ge w s.size 0 e
  have hmax := grownCap_le_maxLen w s.size 0 e (by unfold maxLen; omega)
  generalize grownCap w s.size 0 e = cap at *
  generalize hC : bytesRow s cap = C at *
  have hl : Like w (w.drew.alloc (.cells C e (C.size, C.size + 1))) := Like.trans (Like.drew w) (like_alloc _ _)
  have hblk : (w.drew.alloc (.cells C e (C.size, C.size + 1))).heap[w.heap.size]? = some (.cells C e (C.size, C.size + 1)) := heap_alloc_new w.drew _
  unfold Oper.wp execOp
  simp only [ha.eval hx, Sem.run_bind, hr, Result.andThen_ok, Sem.run_pure]
  refine ⟨_, ha.put d _ hdN, h _ _ _ hl (S.new hl _ ⟨⟨by simp [size_toList], fun h0 => ⟨_, rfl, (Array.getElem?_eq_some_iff.1 hblk).1, fun j u hu => ?_⟩⟩, hcap, by unfold maxLen at hmax; exact hmax⟩ fun i ⟨ad, _, hA, hi⟩ => ?_)⟩
  · rw [Addr.add_mid, cell_of_row _ _ _ C e _ hblk, Nat.zero_add, ← hC]
    have hj : j < s.data.toList.length := by have := (List.getElem?_eq_some_iff.1 hu).1; simpa using this
    have hj2 : j < s.data.size := by simpa using hj
    unfold bytesRow
    rw [Array.getElem?_append_left (by simpa using hj2), ← hu]
    simp [bL]
    rfl
  · cases hA
    subst hi
    exact ⟨Nat.le_refl _, (Array.getElem?_eq_some_iff.1 hblk).1⟩
/-- 'make', what was there unchanged. -/
theorem o_makeL {t e : TypeId} {z : Value} {bytes : Nat} {x y : Operand} {k k' : IntKind} {jn jc : Int} {n c : Nat} (TE : Elem P t e z 1 bytes) (hone : z.oneCell' = true) (S : St w0 M rs w) (hx : ev env x = some (.int k jn)) (hy : ev env y = some (.int k' jc)) (hn : Nt jn n) (hc : Nt jc c) (hd : Nat.blt d N = true)
    (hnc : n ≤ c) (hbytes : c * bytes ≤ 281474976710656) (hcm : c ≤ 9223372036854775807)
    (h : ∀ b w', Like w w' → St w0 M (rs ++ [row e 1 (some ⟨b, 0, none⟩) n c (List.replicate n z)]) w' → K ((d, .slice (some ⟨b, 0, none⟩) n c) :: env) w') :
    O P N Q ⟨some d, .makeSlice t x y, ty, pos, after, g⟩ env w K := fun a ha => by
  have e1 := hn.eq
  have e2 := hc.eq
  subst e1; subst e2
  obtain ⟨i, hi, hz', hsize, hby⟩ := info_parts TE.hi
  have hb : (i.bytes : Int) * (c : Int) ≤ 281474976710656 := by
    have h : ((i.bytes * c : Nat) : Int) ≤ 281474976710656 := by rw [hby, Nat.mul_comm]; omega
    rwa [Int.natCast_mul] at h
  have hr := run_make (P := P) w t e i z TE.ht hi hz' k k' n c (by omega) (by omega) hb (by omega)
  simp only [Int.toNat_natCast] at hr
  unfold Oper.wp execOp
  simp only [ha.eval hx, ha.eval hy, Sem.run_bind, hr, Result.andThen_ok, Sem.run_pure]
  have hzc : z.cells.size = 1 := TE.hzs
  have hcells : madeCells z.cells (c * i.size) = Array.replicate c z := by
    rw [hsize, Nat.mul_one, cells_one hone]
    apply Array.ext
    · simp [madeCells]
    · intro j h1 h2
      simp [madeCells, Nat.mod_one]
  refine ⟨_, ha.put d _ hd, h _ _ (like_alloc w _) (S.new (like_alloc w _) _ ?_ fun i hi => ?_)⟩
  · refine ⟨by simp, .inr ⟨w.heap.size, c, _, rfl, Nat.zero_le _, heap_alloc_new w _, hnc, by unfold maxLen; omega, ?_, ?_⟩⟩
    · rw [hcells]; simp
    · rw [hcells, Nat.mul_one]
      simp [hnc]
  · change (Value.slice (some ⟨w.heap.size, 0, none⟩) n c).ownBlock = some i at hi
    simp only [Value.ownBlock, Option.some.injEq] at hi
    subst hi
    exact ⟨Nat.le_refl _, by simp⟩
end
section
variable {w0 w : World} {M : Nat → Prop} {rs : List Res}
/-- The last two pieces as one. -/
theorem St.join2 {r s : Res} (S : St w0 M (rs ++ [r, s]) w) : St w0 M (rs ++ [both r s]) w :=
  ⟨S.os, S.tape, S.output, S.size, S.old, fun q hq => by
    rcases List.mem_append.1 hq with hq | hq
    · exact S.res q (List.mem_append_left _ hq)
    · obtain rfl := List.mem_singleton.1 hq
      have h1 := S.res r (by simp)
      have h2 := S.res s (by simp)
      exact ⟨⟨h1.1, h2.1⟩, fun i hi => by rcases hi with hi | hi; exact h1.2 i hi; exact h2.2 i hi⟩, by
    have h := S.apart
    rw [List.pairwise_append] at h ⊢
    refine ⟨h.1, List.pairwise_singleton _ _, fun a ha b hb i hi => ?_⟩
    obtain rfl := List.mem_singleton.1 hb
    intro hx
    rcases hx with hx | hx
    · exact h.2.2 a ha r (by simp) i hi hx
    · exact h.2.2 a ha s (by simp) i hi hx⟩
end
end Go.Proofs.Ytgaklngnfecdaaa.Zx


/-
  A call that waits for the function's end. General; nothing here names a program.
-/
namespace Go.Proofs.Ytgaklngnfecdaaa.Zx
open Go.RowKit Zk
set_option linter.unusedVariables false
set_option linter.unusedSimpArgs false
section
variable {P : Program} {N : Nat} {Q : Post} {env : Env} {w : World}
/-- A guard that was itself passed over. -/
theorem L_gnu {ops : Array Oper} {rest : List Oper} {d : Tmp} {op : Op} {ty : TypeId} {pos : String} {after : Array Edge} {j : Nat} {b : Bool} {t : Tmp}
    (hj : (ops[j]?).bind (·.dst) = some t) (ht : look env t = some undef) (hd : Nat.blt d N = true) (h : L P N ops Q rest ((d, undef) :: env) w) : L P N ops Q (⟨some d, op, ty, pos, after, some (j, b)⟩ :: rest) env w := fun a ha => by
  have h1 := h _ (ha.put d undef hd)
  have hw : yielded ops a.tmps j = none := by
    simp [yielded, hj, ha.vals t _ ht, undef]
  unfold wpList
  have hne : ((none : Option Bool) == some b) = false := by cases b <;> rfl
  simp only [Region.wanted, hw, hne, Bool.false_eq_true, if_false]
  exact h1
/-- The end of a function that lets calls wait. -/
def bodyQD (P : Program) (fn : Func) (R : Ending → World → Prop) : Post
  | .ret, env, w | .normal, env, w => ∀ N a, Fits N env a → Leaves P fn a.tmps R (dfs env) .returning w
  | .panic c, env, w => ∃ es : Env, (∀ i v, look es i = some v → i < 4) ∧ Sub es env ∧ ∀ N a, Fits N es a → Leaves P fn a.tmps R (dfs es) (.panicking c) w
  | _, _, _ => False
theorem look_rm_ne {d i : Nat} (h : i ≠ d) : ∀ e : Env, look (rm d e) i = look e i
  | [] => rfl
  | (j, u) :: e => by
    have ih := look_rm_ne h e
    unfold rm at ih ⊢
    rw [List.filter_cons]
    cases hb : Nat.beq j d with
    | true =>
      have e1 : j = d := by simpa using hb
      have e2 : Nat.beq j i = false := by
        cases hc : Nat.beq j i with
        | true => exact absurd (by have : j = i := by simpa using hc
                                   omega) h
        | false => rfl
      simp only [Bool.not_true, Bool.false_eq_true, if_false, look, e2, cond_false]
      exact ih
    | false =>
      simp only [Bool.not_false, if_true, look]
      rw [ih]
/-- What is asked of a panic lies in the first slots: those behind them may be forgotten. -/
instance {P : Program} {fn : Func} {R : Ending → World → Prop} {d : Nat} : PSt (bodyQD P fn R) (d + 4) := ⟨fun hd c env w h => by
  obtain ⟨es, h1, h2, h3⟩ := h
  refine ⟨es, h1, ⟨h2.1.trans (dfs_rm _ hd env).symm, fun i v hi => ?_⟩, h3⟩
  have h4 := h1 i v hi
  rw [look_rm_ne (by omega)]
  exact h2.2 i v hi⟩
theorem enterD1 {f : FuncId} {fn : Func} {c : Code} (args : List Value) {R : Ending → World → Prop} (hf : P.funcs[f]? = some fn) (hb : fn.body = some c) (hn : fn.ntmps = N)
    (hN : Nat.ble args.length N = true) (he : envOf args 0 = env) (h : T P N c (bodyQD P fn R) env w) (hd0 : dfs env = [] := by rfl) (hsm : Nat.ble N 1000000 = true := by rfl) : Calls P f args.toArray w R := by
  refine calls_of_wp_defers hf hb ?_
  have hsm' : N ≤ 1000000 := by simpa using hsm
  have hN' : args.length ≤ N := by simpa using hN
  have hfit : Fits N env { tmps := args.toArray ++ Array.replicate (fn.ntmps - args.toArray.size) undef, defers := [] } := by
    refine ⟨hd0.symm, hsm', by simp [hn]; omega, fun i v hv => ?_⟩
    have h1 : args[i]? = some v := by subst he; simpa using (look_envOf _ _ _ _ hv).2
    have h2 := (List.getElem?_eq_some_iff.1 h1).1
    rw [Array.getElem?_append_left (by simpa using h2)]
    simpa using h1
  refine Code.wp_mono (fun e a w hq => ?_) (h _ hfit)
  cases e with
  | normal =>
    obtain ⟨e', h1, h2⟩ := hq
    have h3 := h2 N a h1
    rw [← h1.defers] at h3
    exact h3
  | ret =>
    obtain ⟨e', h1, h2⟩ := hq
    have h3 := h2 N a h1
    rw [← h1.defers] at h3
    exact h3
  | panic c =>
    obtain ⟨e', h1, es, _, h2, h3⟩ := hq
    have h4 := h3 N a (h1.sub h2)
    rw [← (h1.sub h2).defers] at h4
    exact h4
  | outgrown => exact hq.elim
  | exit i => obtain ⟨_, _, h⟩ := hq; exact h.elim
  | goto i => obtain ⟨_, _, h⟩ := hq; exact h.elim
end
end Go.Proofs.Ytgaklngnfecdaaa.Zx


/-
  Maps that the call makes: integer elements. General; nothing here names a program.
-/
namespace Go.Proofs.Ytgaklngnfecdaaa.Zx
open Go.RowKit Zk
set_option linter.unusedVariables false
set_option linter.unusedSimpArgs false
section
variable {P : Program} {w w' w0 : World} {M : Nat → Prop} {rs : List Res} {k e : TypeId}
end
section
variable {P : Program} {N : Nat} {Q : Post} {env : Env} {w w0 : World} {M : Nat → Prop} {rs : List Res} {K : Env → World → Prop} {d : Tmp} {dst : Option Tmp} {ty : TypeId} {pos : String} {after : Array Edge} {g : Option (Nat × Bool)}
/-- 'x[k].f = v' in a row of the call's own. -/
theorem o_strowN {st : TypeId} {x y : Operand} {e size n c k : Nat} {A : Option Addr} {xs : List Value} {v : Value} (S : St w0 M rs w) (i : Nat) (hk : rs[i]? = some (row e size A n c xs)) (hx : ev env x = some (pRF A k)) (hy : ev env y = some v)
    (hv : v.oneCell' = true) (hsz : (P.info? st).map (·.size) = some 1) (hkn : k < n * size)
    (h : ∀ w', St w0 M (rs.set i (row e size A n c (xs.set k v))) w' → K env w') : O P N Q ⟨none, .store st x y, ty, pos, after, g⟩ env w K := fun a ha => by
  have hown : w.ownsRow 0 e size (.slice A n c) n xs := S.get i hk
  have hn0 : 0 < n := by
    rcases Nat.eq_zero_or_pos n with h0 | h0
    · subst h0; simp at hkn
    · exact h0
  obtain ⟨b, cap, hv', _, hlt⟩ := hown.form hn0
  injection hv' with hA _ hcap
  subst hA; subst hcap
  have hxa : a.eval x = .pointer (some ⟨b, k, none⟩) := by
    rw [ha.eval hx]
    simp [pRF, Addr.add_mid]
  have hxl : xs.length = n * size := hown.1
  have hc : w.cell? ⟨b, k, none⟩ = some (xs[k]'(by omega)) := (hown.cellAt k (by omega)).trans (List.getElem?_eq_getElem (by omega))
  have hf : w.frozen? ⟨b, k, none⟩ = false := hown.frozenAt k
  have hr : (storeVar st ⟨b, k, none⟩ v).run P w = .ok () (w.setCell ⟨b, k, none⟩ v) := by
    simp only [storeVar, Sem.run_bind, sizeOf_run hsz, cells_one hv, Result.andThen_ok]
    simp [storeCells, hv, stored, hc, hf, run_store, go_sem]
  unfold Oper.wp execOp
  simp only [hxa, ha.eval hy, Instr.storeAt, Instr.sureAddr, Sem.run_bind, Sem.run_pure, Result.andThen_ok, hr]
  refine ⟨env, ha, h _ (S.upd i hk rfl rfl rfl (by simp) (fun j hj hn => Below.heap_setCell w ⟨b, k, none⟩ v j (fun e => hn (by simp [row, Value.ownBlock, e]))) ?_ fun j hj => .inl hj)⟩
  exact (hown.stored k v).1
end
end Go.Proofs.Ytgaklngnfecdaaa.Zx


/-
  Appends onto a row of the call's own, where the old slice is still read afterwards. General; nothing here names a program.
-/
namespace Go.Proofs.Ytgaklngnfecdaaa.Zx
open Go.RowKit Zk
set_option linter.unusedVariables false
set_option linter.unusedSimpArgs false
section
variable {P : Program} {t e : TypeId} {z : Value} {size bytes : Nat}
variable {N : Nat} {Q : Post} {K : Env → World → Prop} {env : Env} {w0 w : World} {M : Nat → Prop} {rs : List Res} {d : Tmp} {ty : TypeId} {pos : String} {after : Array Edge} {g : Option (Nat × Bool)}
end
end Go.Proofs.Ytgaklngnfecdaaa.Zx


/-
  Many blocks as one piece; two pieces as one, apart from each other; slices with a bound. General; nothing here names a program.
-/
namespace Go.Proofs.Ytgaklngnfecdaaa.Zx
open Go.RowKit Zk
set_option linter.unusedVariables false
set_option linter.unusedSimpArgs false
def upd (ss : Nat → Option (Array Value)) (b : Nat) (cur : Array Value) : Nat → Option (Array Value) := fun i => if i = b then some cur else ss i
section
variable {w0 w w' : World} {M : Nat → Prop} {rs : List Res}
end
section
variable {P : Program} {S : World → Prop} {N : Nat} {Q : Post} {K : Env → World → Prop} {env : Env} {w0 w : World} {M : Nat → Prop} {rs : List Res} {dst : Option Tmp} {d : Tmp} {ty : TypeId} {pos : String} {after : Array Edge} {g : Option (Nat × Bool)}
end
end Go.Proofs.Ytgaklngnfecdaaa.Zx


/-
  Rows of elements of many cells: an element stored whole, a tail cleared, a row cut. General; nothing here names a program.
-/
namespace Go.Proofs.Ytgaklngnfecdaaa.Zx
open Go.RowKit Zk
set_option linter.unusedVariables false
set_option linter.unusedSimpArgs false
section
variable {P : Program} {N : Nat} {Q : Post} {env : Env} {w w0 : World} {M : Nat → Prop} {rs : List Res} {K : Env → World → Prop} {ty : TypeId} {pos : String} {after : Array Edge} {g : Option (Nat × Bool)}
theorem row_cells {w : World} {e k n c : Nat} {A : Option Addr} {xs : List Value} (h : w.ownsRow 0 e k (.slice A n c) n xs) (hn : 0 < n) : ∃ b cur, A = some ⟨b, 0, none⟩ ∧ Blk w b e cur ∧ n ≤ c ∧ c ≤ maxLen ∧ cur.size = c * k ∧ cur.toList.take (n * k) = xs := by
  rcases h.2 with ⟨h1, h2⟩ | ⟨b, cap, cur, h1, _, hg, hnc, hcm, hcs, hx⟩
  · omega
  · cases h1
    exact ⟨b, cur, rfl, hg, hnc, hcm, hcs, hx⟩
theorem cells_row {w : World} {e k n c b : Nat} {xs : List Value} {cur : Array Value} (hg : Blk w b e cur) (hnc : n ≤ c) (hcm : c ≤ maxLen) (hcs : cur.size = c * k) (hx : cur.toList.take (n * k) = xs) (hl : xs.length = n * k) : w.ownsRow 0 e k (.slice (some ⟨b, 0, none⟩) n c) n xs :=
  ⟨hl, .inr ⟨b, c, cur, rfl, Nat.zero_le _, hg, hnc, hcm, hcs, hx⟩⟩
/-- The beginning of an own row is one. -/
theorem St.rowcut (S : St w0 M rs w) (i : Nat) {e k n c m : Nat} {A : Option Addr} {xs : List Value} (hk : rs[i]? = some (Zx.row e k A n c xs)) (hm : m ≤ n) : St w0 M (rs.set i (Zx.row e k A m c (xs.take (m * k)))) w := by
  have hown : w.ownsRow 0 e k (.slice A n c) n xs := S.get i hk
  refine S.upd i hk rfl rfl rfl (Nat.le_refl _) (fun _ _ _ => rfl) ?_ fun j hj => .inl (show (Value.slice A n c).ownBlock = some j by
      have h2 : (Value.slice A m c).ownBlock = some j := hj
      cases A <;> exact h2)
  show w.ownsRow 0 e k (.slice A m c) m (xs.take (m * k))
  have hle : m * k ≤ n * k := Nat.mul_le_mul_right _ hm
  have hl : (xs.take (m * k)).length = m * k := by rw [List.length_take, hown.1]; omega
  rcases hown.2 with ⟨h1, h2⟩ | ⟨b, cap, cur, h1, h0, hg, hnc, hcm, hcs, hx⟩
  · cases h1
    exact ⟨hl, .inl ⟨by rw [show m = 0 by omega, h2], by omega⟩⟩
  · cases h1
    exact ⟨hl, .inr ⟨b, c, cur, rfl, h0, hg, by omega, hcm, hcs, by rw [← hx, List.take_take, Nat.min_eq_left hle]⟩⟩
theorem o_strowE {st : TypeId} {x y : Operand} {e n c k size : Nat} {A : Option Addr} {xs : List Value} {vs : Array Value} (S : St w0 M rs w) (i : Nat) (hk : rs[i]? = some (row e size A n c xs)) (hx : ev env x = some (pR A k size)) (hy : ev env y = some (.agg vs))
    (hv : ∀ u ∈ vs.toList, u.oneCell' = true) (hvs : vs.size = size) (hsz : (P.info? st).map (·.size) = some size) (hkn : k < n)
    (h : ∀ w', St w0 M (rs.set i (row e size A n c (xs.take (k * size) ++ vs.toList ++ xs.drop ((k + 1) * size)))) w' → K env w') : O P N Q ⟨none, .store st x y, ty, pos, after, g⟩ env w K := fun a ha => by
  have hown : w.ownsRow 0 e size (.slice A n c) n xs := S.get i hk
  obtain ⟨b, cur, rfl, hg, hnc, hcm, hcs, hxs⟩ := row_cells hown (by omega)
  have hxa : a.eval x = .pointer (some ⟨b, k * size, none⟩) := by
    rw [ha.eval hx]
    simp [pR, Addr.add_mid]
  have hle : (k + 1) * size ≤ n * size := Nat.mul_le_mul_right _ hkn
  have hle2 : n * size ≤ c * size := Nat.mul_le_mul_right _ hnc
  have e1 : (k + 1) * size = k * size + size := Nat.succ_mul _ _
  have hcl : cur.toList.length = c * size := by rw [Array.length_toList]; exact hcs
  refine wp_stB st x y rfl b (k * size) hxa vs (ha.eval hy) e cur hg (by rw [hvs]; exact hsz) (by rw [hvs]; omega) hv fun w' h2 h3 => ⟨env, ha, h w' (S.upd i hk h3.os h3.tape h3.output h3.size (fun j hj hn => h3.block j hj (fun e => hn (by injection e with e; rw [e]; rfl))) ?_ fun j hj => .inl hj)⟩
  have hvl : vs.toList.length = size := by rw [Array.length_toList, hvs]
  refine cells_row h2 hnc hcm ?_ ?_ ?_
  · rw [List.size_toArray, List.length_append, List.length_append, List.length_take, List.length_drop, hvl, hvs, hcl]; omega
  rotate_left
  · rw [List.length_append, List.length_append, List.length_take, List.length_drop, hvl, hown.1]; omega
  rw [hvs]
  show (cur.toList.take (k * size) ++ vs.toList ++ cur.toList.drop (k * size + size)).take (n * size) = _
  have l1 : (cur.toList.take (k * size) ++ vs.toList).length = k * size + size := by rw [List.length_append, List.length_take, hvl]; omega
  rw [List.take_append, l1, List.take_of_length_le (by rw [l1]; omega), ← hxs, List.take_take, Nat.min_eq_left (by omega), e1, List.drop_take]
/-- clear(s), s a tail of an own row. -/
theorem o_clearR {x : Operand} {t e n c l size : Nat} {z : Value} {A : Option Addr} {xs : List Value} (S : St w0 M rs w) (i : Nat) (hk : rs[i]? = some (row e size A n c xs)) (ht : P.underlying t = some (.slice e)) (hz : ∀ W, (zeroValue e).run P W = .ok z W) (hzs : z.cells.size = size)
    (hz1 : ∀ u ∈ z.cells.toList, u.oneCell' = true) (hx : ev env x = some (.slice (cutA A c l size) (n - l) (c - l))) (hl : l < n)
    (h : ∀ w' ys, ys.take (l * size) = xs.take (l * size) → ys.length = n * size → St w0 M (rs.set i (row e size A n c ys)) w' → K env w') : O P N Q ⟨none, .call { callee := .builtin .clear, args := #[x], argTypes := #[t] }, ty, pos, after, g⟩ env w K := fun a ha => by
  have hown : w.ownsRow 0 e size (.slice A n c) n xs := S.get i hk
  obtain ⟨b, cur, rfl, hg, hnc, hcm, hcs, hxs⟩ := row_cells hown (by omega)
  have hle2 : n * size ≤ c * size := Nat.mul_le_mul_right _ hnc
  have hle1 : l * size ≤ n * size := Nat.mul_le_mul_right _ (by omega)
  have hsub : (n - l) * size = n * size - l * size := Nat.sub_mul _ _ _
  have hxa : a.eval x = .slice (some ⟨b, l * size, none⟩) (n - l) (c - l) := by
    rw [ha.eval hx]
    unfold cutA
    rw [if_neg (by omega)]
    simp [Addr.add_mid]
  have hzl : (Builtin.zeroCells z.cells (n - l)).size = (n - l) * size := by simp [Builtin.zeroCells, hzs]
  have hz1' : ∀ u ∈ (Builtin.zeroCells z.cells (n - l)).toList, u.oneCell' = true := fun u hu => by
    rcases Nat.eq_zero_or_pos size with h0 | h0
    · rw [h0, Nat.mul_zero] at hzl
      rw [Array.eq_empty_of_size_eq_zero hzl] at hu
      simp at hu
    · simp only [Builtin.zeroCells, Array.toList_map, List.mem_map] at hu
      obtain ⟨q, hq, rfl⟩ := hu
      have : q % z.cells.size < z.cells.size := Nat.mod_lt _ (by omega)
      rw [getElem!_pos z.cells _ this]
      exact hz1 _ (by simp)
  have hr := run_storeCells_at (P := P) b (l * size) e (Builtin.zeroCells z.cells (n - l)).toList 0 cur w hg (by simp only [Nat.add_zero, Array.length_toList, hzl]; omega) hz1'
  simp only [Nat.add_zero, Array.length_toList, hzl] at hr
  obtain ⟨m, hm⟩ : ∃ m, n - l = m + 1 := ⟨n - l - 1, by omega⟩
  have hrun : (Builtin.clear_ #[t] ty #[.slice (some ⟨b, l * size, none⟩) (n - l) (c - l)]).run P w = .ok (.tuple #[]) (w.setRow b (cur.toList.take (l * size) ++ (Builtin.zeroCells z.cells (n - l)).toList ++ cur.toList.drop (l * size + (n - l) * size)).toArray) := by
    rw [hm] at hr ⊢
    simp [Builtin.clear_, run_underlying ht, hz, hr]
  have h2 := setRow_heap w b cur (cur.toList.take (l * size) ++ (Builtin.zeroCells z.cells (n - l)).toList ++ cur.toList.drop (l * size + (n - l) * size)).toArray e _ hg
  generalize hw' : w.setRow b (cur.toList.take (l * size) ++ (Builtin.zeroCells z.cells (n - l)).toList ++ cur.toList.drop (l * size + (n - l) * size)).toArray = w' at hrun h2
  have h3 : w.grownBy w' (some b) := by
    subst hw'
    exact ⟨rfl, rfl, rfl, by simp, fun k hk hne => setRow_other w b k _ (fun e => hne (by rw [e]))⟩
  unfold Oper.wp execOp
  simp only [resolve, invoke, builtin, Sem.run_bind, Sem.run_pure, Result.andThen_ok, List.map_toArray, List.map_cons, List.map_nil, hxa, hrun]
  have hll : (cur.toList.take (l * size)).length = l * size := by rw [List.length_take, Array.length_toList]; omega
  refine ⟨env, ha, h w' ((cur.toList.take (l * size) ++ (Builtin.zeroCells z.cells (n - l)).toList ++ cur.toList.drop (l * size + (n - l) * size)).take (n * size)) ?_ ?_ (S.upd i hk h3.os h3.tape h3.output h3.size (fun j hj hn => h3.block j hj (fun e => hn (by injection e with e; rw [e]; rfl))) ?_ fun j hj => .inl hj)⟩
  · rw [List.take_take, Nat.min_eq_left hle1, List.append_assoc, List.take_left' hll, ← hxs, List.take_take, Nat.min_eq_left hle1]
  · rw [List.length_take, List.length_append, List.length_append, hll, Array.length_toList, hzl, List.length_drop, Array.length_toList]
    omega
  · refine cells_row h2 hnc hcm ?_ rfl ?_
    · rw [List.size_toArray, List.length_append, List.length_append, hll, Array.length_toList, hzl, List.length_drop, Array.length_toList]
      omega
    · rw [List.length_take, List.length_append, List.length_append, hll, Array.length_toList, hzl, List.length_drop, Array.length_toList]
      omega
end
theorem flat_set {α : Type} (f : α → List Value) {size : Nat} (hf : ∀ x, (f x).length = size) : ∀ (xs : List α) (k : Nat) (x : α), k < xs.length → (xs.flatMap f).take (k * size) ++ f x ++ (xs.flatMap f).drop ((k + 1) * size) = (xs.set k x).flatMap f
  | y :: xs, 0, x, _ => by
    rw [Nat.zero_mul, List.take_zero, List.nil_append, Nat.zero_add, Nat.one_mul, List.flatMap_cons, List.drop_left' (hf y), List.set_cons_zero, List.flatMap_cons]
  | y :: xs, k + 1, x, h => by
    have ih := flat_set f hf xs k x (by simpa using h)
    have e1 : (k + 1) * size = (f y).length + k * size := by rw [hf, Nat.succ_mul]; omega
    have e2 : (k + 1 + 1) * size = (f y).length + (k + 1) * size := by rw [hf, Nat.succ_mul (k + 1)]; omega
    have e3 : (f y ++ xs.flatMap f).drop ((k + 1 + 1) * size) = (xs.flatMap f).drop ((k + 1) * size) := by rw [e2, List.drop_length_add_append]
    have e4 : (f y ++ xs.flatMap f).take ((k + 1) * size) = f y ++ (xs.flatMap f).take (k * size) := by rw [e1, List.take_length_add_append]
    rw [List.flatMap_cons, e3, e4, List.set_cons_succ, List.flatMap_cons, ← ih]
    simp only [List.append_assoc]
theorem flat_take {α : Type} (f : α → List Value) {size : Nat} (hf : ∀ x, (f x).length = size) : ∀ (xs : List α) (k : Nat), (xs.flatMap f).take (k * size) = (xs.take k).flatMap f
  | _, 0 => by simp
  | [], k + 1 => by simp
  | y :: xs, k + 1 => by
    rw [List.flatMap_cons, List.take_succ_cons, List.flatMap_cons, ← flat_take f hf xs k, show (k + 1) * size = (f y).length + k * size by rw [hf, Nat.succ_mul]; omega, List.take_length_add_append]
end Go.Proofs.Ytgaklngnfecdaaa.Zx


/-
  Sizes and zeros of the seat's types.
-/
namespace Go.Proofs.Ytgaklngnfecdaaa
open Go.RowKit Zk Zx
set_option linter.unusedVariables false
set_option linter.unusedSimpArgs false
theorem hmix : Try.prog.follows .mixedOrders = true := by kernel_rfl
theorem is3 : (Try.prog.underlying 3).isSome = true := by kernel_rfl
theorem sz3 : (Try.prog.info? 3).map (·.size) = some 1 := by kernel_rfl
theorem sz4 : (Try.prog.info? 4).map (·.size) = some 1 := by kernel_rfl
theorem is5 : (Try.prog.underlying 5).isSome = true := by kernel_rfl
theorem sz5 : (Try.prog.info? 5).map (·.size) = some 1 := by kernel_rfl
theorem zz5 (W : World) : (zeroValue 5).run Try.prog W = .ok (.int .u8 0) W := by kernel_rfl
theorem sz9 : (Try.prog.info? 9).map (·.size) = some 1 := by kernel_rfl
theorem zz9 (W : World) : (zeroValue 9).run Try.prog W = .ok (.string ⟨#[]⟩) W := by kernel_rfl
theorem sz23 : (Try.prog.info? 23).map (·.size) = some 32 := by kernel_rfl
theorem zz23 (W : World) : (zeroValue 23).run Try.prog W = .ok (.agg (Array.replicate 32 (.int .u8 0))) W := by kernel_rfl
theorem sz24 : (Try.prog.info? 24).map (·.size) = some 1 := by kernel_rfl
theorem te24 : Elem Try.prog 24 23 (.agg (Array.replicate 32 (.int .u8 0))) 32 32 := ⟨Try.underlying24, by kernel_rfl, rfl, by decide⟩
theorem sz26 : (Try.prog.info? 26).map (·.size) = some 36 := by kernel_rfl
theorem zz26 (W : World) : (zeroValue 26).run Try.prog W = .ok (.agg #[.int .u8 0, .int .u8 0, .int .u8 0, .int .u8 0, .int .u8 0, .int .u8 0, .int .u8 0, .int .u8 0, .int .u8 0, .int .u8 0, .int .u8 0, .int .u8 0, .int .u8 0, .int .u8 0, .int .u8 0, .int .u8 0, .int .u8 0, .int .u8 0, .int .u8 0, .int .u8 0, .int .u8 0, .int .u8 0, .int .u8 0, .int .u8 0, .int .u8 0, .int .u8 0, .int .u8 0, .int .u8 0, .int .u8 0, .int .u8 0, .int .u8 0, .int .u8 0, .slice none 0 0, .string ⟨#[]⟩, .int .i64 0, .string ⟨#[]⟩]) W := by kernel_rfl
theorem sz27 : (Try.prog.info? 27).map (·.size) = some 1 := by kernel_rfl
theorem zz27 (W : World) : (zeroValue 27).run Try.prog W = .ok (.slice none 0 0) W := by kernel_rfl
theorem te27 : Elem Try.prog 27 5 (.int .u8 0) 1 1 := ⟨Try.underlying27, by kernel_rfl, rfl, by decide⟩
theorem sz28 : (Try.prog.info? 28).map (·.size) = some 1 := by kernel_rfl
theorem zz28 (W : World) : (zeroValue 28).run Try.prog W = .ok (.int .i64 0) W := by kernel_rfl
theorem te43 : Elem Try.prog 43 62 (.agg #[.int .u8 0, .int .u8 0, .int .u8 0, .int .u8 0, .int .u8 0, .int .u8 0, .int .u8 0, .int .u8 0, .int .u8 0, .int .u8 0, .int .u8 0, .int .u8 0, .int .u8 0, .int .u8 0, .int .u8 0, .int .u8 0, .int .u8 0, .int .u8 0, .int .u8 0, .int .u8 0, .int .u8 0, .int .u8 0, .int .u8 0, .int .u8 0, .int .u8 0, .int .u8 0, .int .u8 0, .int .u8 0, .int .u8 0, .int .u8 0, .int .u8 0, .int .u8 0, .int .i64 0, .int .u32 0]) 34 48 := ⟨Try.underlying43, by kernel_rfl, rfl, by decide⟩
theorem sz49 : (Try.prog.info? 49).map (·.size) = some 1 := by kernel_rfl
theorem zz49 (W : World) : (zeroValue 49).run Try.prog W = .ok (.pointer none) W := by kernel_rfl
theorem is60 : (Try.prog.underlying 60).isSome = true := by kernel_rfl
theorem sz60 : (Try.prog.info? 60).map (·.size) = some 1 := by kernel_rfl
theorem sz62 : (Try.prog.info? 62).map (·.size) = some 34 := by kernel_rfl
theorem zz62 (W : World) : (zeroValue 62).run Try.prog W = .ok (.agg #[.int .u8 0, .int .u8 0, .int .u8 0, .int .u8 0, .int .u8 0, .int .u8 0, .int .u8 0, .int .u8 0, .int .u8 0, .int .u8 0, .int .u8 0, .int .u8 0, .int .u8 0, .int .u8 0, .int .u8 0, .int .u8 0, .int .u8 0, .int .u8 0, .int .u8 0, .int .u8 0, .int .u8 0, .int .u8 0, .int .u8 0, .int .u8 0, .int .u8 0, .int .u8 0, .int .u8 0, .int .u8 0, .int .u8 0, .int .u8 0, .int .u8 0, .int .u8 0, .int .i64 0, .int .u32 0]) W := by kernel_rfl
theorem sz85 : (Try.prog.info? 85).map (·.size) = some 33 := by kernel_rfl
theorem sz94 : (Try.prog.info? 94).map (·.size) = some 1 := by kernel_rfl
theorem te94 : Elem Try.prog 94 119 (.agg #[.int .u8 0, .int .u8 0, .int .u8 0, .int .u8 0, .int .u8 0, .int .u8 0, .int .u8 0, .int .u8 0, .int .u8 0, .int .u8 0, .int .u8 0, .int .u8 0, .int .u8 0, .int .u8 0, .int .u8 0, .int .u8 0, .int .u8 0, .int .u8 0, .int .u8 0, .int .u8 0, .int .u8 0, .int .u8 0, .int .u8 0, .int .u8 0, .int .u8 0, .int .u8 0, .int .u8 0, .int .u8 0, .int .u8 0, .int .u8 0, .int .u8 0, .int .u8 0, .int .u32 0, .int .i64 0]) 34 48 := ⟨Try.underlying94, by kernel_rfl, rfl, by decide⟩
theorem sz95 : (Try.prog.info? 95).map (·.size) = some 256 := by kernel_rfl
theorem zz95 (W : World) : (zeroValue 95).run Try.prog W = .ok (.agg (Array.replicate 256 (.int .i64 0))) W := by kernel_rfl
theorem te98 : Elem Try.prog 98 49 (.pointer none) 1 8 := ⟨Try.underlying98, by kernel_rfl, rfl, by decide⟩
theorem sz104 : (Try.prog.info? 104).map (·.size) = some 1 := by kernel_rfl
theorem sz106 : (Try.prog.info? 106).map (·.size) = some 2 := by kernel_rfl
theorem zz106 (W : World) : (zeroValue 106).run Try.prog W = .ok (.agg #[.pointer none, .slice none 0 0]) W := by kernel_rfl
theorem sz119 : (Try.prog.info? 119).map (·.size) = some 34 := by kernel_rfl
theorem zz119 (W : World) : (zeroValue 119).run Try.prog W = .ok (.agg #[.int .u8 0, .int .u8 0, .int .u8 0, .int .u8 0, .int .u8 0, .int .u8 0, .int .u8 0, .int .u8 0, .int .u8 0, .int .u8 0, .int .u8 0, .int .u8 0, .int .u8 0, .int .u8 0, .int .u8 0, .int .u8 0, .int .u8 0, .int .u8 0, .int .u8 0, .int .u8 0, .int .u8 0, .int .u8 0, .int .u8 0, .int .u8 0, .int .u8 0, .int .u8 0, .int .u8 0, .int .u8 0, .int .u8 0, .int .u8 0, .int .u8 0, .int .u8 0, .int .u32 0, .int .i64 0]) W := by kernel_rfl
theorem is127 : (Try.prog.underlying 127).isSome = true := by kernel_rfl
theorem sz127 : (Try.prog.info? 127).map (·.size) = some 1 := by kernel_rfl
theorem is162 : (Try.prog.underlying 162).isSome = true := by kernel_rfl
theorem te169 : Elem Try.prog 169 9 (.string ⟨#[]⟩) 1 16 := ⟨Try.underlying169, by kernel_rfl, rfl, by decide⟩
theorem te177 : Elem Try.prog 177 27 (.slice none 0 0) 1 24 := ⟨Try.underlying177, by kernel_rfl, rfl, by decide⟩
theorem sz185 : (Try.prog.info? 185).map (·.size) = some 8 := by kernel_rfl
theorem zz185 (W : World) : (zeroValue 185).run Try.prog W = .ok (.agg #[.int .u32 0, .int .u32 0, .int .u32 0, .int .u32 0, .int .u32 0, .int .u32 0, .int .u32 0, .int .u32 0]) W := by kernel_rfl
theorem sz189 : (Try.prog.info? 189).map (·.size) = some 1 := by kernel_rfl
theorem zz189 (W : World) : (zeroValue 189).run Try.prog W = .ok (.agg #[.int .i64 0]) W := by kernel_rfl
theorem sz218 : (Try.prog.info? 218).map (·.size) = some 64 := by kernel_rfl
theorem sz220 : (Try.prog.info? 220).map (·.size) = some 74 := by kernel_rfl
theorem zz220 (W : World) : (zeroValue 220).run Try.prog W = .ok (.agg #[.bool false, .int .u64 0, .int .u32 0, .int .u32 0, .int .u32 0, .int .u32 0, .int .u32 0, .int .u32 0, .int .u32 0, .int .u32 0, .int .u8 0, .int .u8 0, .int .u8 0, .int .u8 0, .int .u8 0, .int .u8 0, .int .u8 0, .int .u8 0, .int .u8 0, .int .u8 0, .int .u8 0, .int .u8 0, .int .u8 0, .int .u8 0, .int .u8 0, .int .u8 0, .int .u8 0, .int .u8 0, .int .u8 0, .int .u8 0, .int .u8 0, .int .u8 0, .int .u8 0, .int .u8 0, .int .u8 0, .int .u8 0, .int .u8 0, .int .u8 0, .int .u8 0, .int .u8 0, .int .u8 0, .int .u8 0, .int .u8 0, .int .u8 0, .int .u8 0, .int .u8 0, .int .u8 0, .int .u8 0, .int .u8 0, .int .u8 0, .int .u8 0, .int .u8 0, .int .u8 0, .int .u8 0, .int .u8 0, .int .u8 0, .int .u8 0, .int .u8 0, .int .u8 0, .int .u8 0, .int .u8 0, .int .u8 0, .int .u8 0, .int .u8 0, .int .u8 0, .int .u8 0, .int .u8 0, .int .u8 0, .int .u8 0, .int .u8 0, .int .u8 0, .int .u8 0, .int .u8 0, .int .u8 0]) W := by kernel_rfl
theorem sz245 : (Try.prog.info? 245).map (·.size) = some 64 := by kernel_rfl
theorem zz245 (W : World) : (zeroValue 245).run Try.prog W = .ok (.agg (Array.replicate 64 (.int .u32 0))) W := by kernel_rfl
theorem sz252 : (Try.prog.info? 252).map (·.size) = some 34 := by kernel_rfl
end Go.Proofs.Ytgaklngnfecdaaa


/-
  Regions that draw their order and make two variables in either order. General; nothing here names a program.
-/
namespace Go.Proofs.Ytgaklngnfecdaaa.Zx
open Go.RowKit Zk
set_option linter.unusedVariables false
set_option linter.unusedSimpArgs false

section
variable {P : Program} {N : Nat} {Q : Post} {env : Env} {w w0 : World} {M : Nat → Prop} {rs : List Res} {S : World → Prop} {ops : Array Oper} {listed : Array Bool} {fuel : Nat}
theorem y_of {o : Oper} {v : Value} (h : ∀ w, S w → Y P (Like w) env o v) : Y P S env o v := fun N a w' ha hw => h w' hw N a w' ha (Like.refl w')
def DX (P : Program) (N : Nat) (ops : Array Oper) (Q : Post) (S : World → Prop) (listed : Array Bool) (fuel : Nat) (env : Env) (w : World) : Prop :=
  Region.noSelect ops = true → S w → ∀ a, Fits N env a → wpAnyH P .any ops (lift N Q) S fuel listed a w
theorem T_drawnX {id : Nat} {l : List Oper} (S : World → Prop) (hm : P.follows .mixedOrders = true) (hB : Region.noSelect l.toArray = true) (hS : ∀ w1, Like w w1 → S w1)
    (h : ∀ w1, Like w w1 → DX P N l.toArray Q S (Array.replicate l.toArray.size false) l.toArray.size env w1) : T P N (.region id l.toArray true) Q env w := fun a ha =>
  wp_region_held hm (h _ (Like.drew w) hB (hS _ (Like.drew w)) a ha)
theorem DX_y {d : Tmp} [PSt Q d] {op : Op} {ty : TypeId} {pos : String} {after : Array Edge} {v : Value} (i : Nat) (hr : ((Region.ready .any ops listed).contains i && Region.free .any ops listed i) = true) (hi : ops[i]? = some ⟨some d, op, ty, pos, after, none⟩)
    (hy : Y P S env ⟨some d, op, ty, pos, after, none⟩ v) (hd : Nat.blt d N = true) (h : DX P N ops Q S (listed.setIfInBounds i true) fuel ((d, v) :: env) w) : DX P N ops Q S listed (fuel + 1) env w := fun hs hS a ha => by
  simp only [Bool.and_eq_true] at hr
  exact wpAnyH_take hi hs hr.2 hr.1 (fun c a w hq => by first | exact lift_rm hd hq | (rw [hdst] at hq; exact lift_rm hd hq)) (.inl ⟨by simp [Region.wanted], fun w hw => hy N a w ha hw⟩) hS (h hs hS _ (ha.put d v hd))
end
end Go.Proofs.Ytgaklngnfecdaaa.Zx


/-
  Maps whose keys are bytes in arrays; families of pieces; a choice of pieces. General; nothing here names a program.
-/
namespace Go.Proofs.Ytgaklngnfecdaaa.Zx
open Go.RowKit Zk
set_option linter.unusedVariables false
set_option linter.unusedSimpArgs false
section
variable {w w0 : World} {M : Nat → Prop} {rs : List Res}
/-- Pieces, chosen by their numbers. -/
theorem St.sel (S : St w0 M rs w) (ix : List Nat) (hnd : ix.Nodup) : St w0 M (ix.filterMap (rs[·]?)) w := by
  refine ⟨S.os, S.tape, S.output, S.size, S.old, fun r hr => ?_, ?_⟩
  · obtain ⟨i, _, hi⟩ := List.mem_filterMap.1 hr
    exact S.res r (List.mem_of_getElem? hi)
  · rw [List.pairwise_filterMap]
    refine List.Pairwise.imp ?_ hnd
    intro i j hij a ha b hb x hx hy
    have hp := List.pairwise_iff_getElem.1 S.apart
    obtain ⟨h1, h2⟩ := List.getElem?_eq_some_iff.1 ha
    obtain ⟨h3, h4⟩ := List.getElem?_eq_some_iff.1 hb
    rcases Nat.lt_or_gt_of_ne hij with h | h
    · exact hp i j h1 h3 h x (by rw [h2]; exact hx) (by rw [h4]; exact hy)
    · exact hp j i h3 h1 h x (by rw [h4]; exact hy) (by rw [h2]; exact hx)
end
section
variable {P : Program}
end
section
variable {P : Program} {N : Nat} {Q : Post} {env : Env} {w w0 : World} {M : Nat → Prop} {rs : List Res} {K : Env → World → Prop} {d : Tmp} {ty : TypeId} {pos : String} {after : Array Edge} {g : Option (Nat × Bool)} {dst : Option Tmp}
/-- A slice as a pointer to an array. -/
theorem y_arrAt {t e : TypeId} {n m c : Nat} {A : Option Addr} {x : Operand} {S : World → Prop} (ht : P.underlying t = some (.array n e)) (hx : ev env x = some (.slice A m c)) (hn : n ≤ m) :
    Y P S env ⟨dst, .sliceToArrayPointer t x, ty, pos, after, g⟩ (.pointer A) := fun N c w hc _ => by
  simp only [execOp, hc.eval hx, Instr.arrayAt, Sem.run_bind, run_underlying ht, Result.andThen_ok]
  rw [if_neg (by omega)]
  simp only [Sem.run_bind, Sem.run_pure, Result.andThen_ok]
end
end Go.Proofs.Ytgaklngnfecdaaa.Zx


/-
  A law's arguments, opened: slices of elements of many cells. General; nothing here names a program.
-/
namespace Go.Proofs.Ytgaklngnfecdaaa.Zx
open Go.ChangeShapes Go.WideShapes Go.ChangeAt Go.RowKit Go.Deep Zk
set_option linter.unusedVariables false
section
variable {H : Type} {enc : TypeId × Value → H} {P : Program} {w : World} {base : Nat} {spare : Nat → Bool} {held : Bool}
theorem flat_len {α : Type} (f : α → List Value) (size : Nat) (hlen : ∀ y, (f y).length = size) : ∀ l : List α, (l.flatMap f).length = l.length * size
  | [] => by simp
  | y :: l => by rw [List.flatMap_cons, List.length_append, hlen, flat_len f size hlen l, List.length_cons, Nat.succ_mul]; omega
theorem flat_cut {α : Type} (f : α → List Value) (size : Nat) (hlen : ∀ y, (f y).length = size) : ∀ (l : List α) (k : Nat) (y : α), l[k]? = some y → ((l.flatMap f).drop (k * size)).take size = f y
  | [], k, y, h => by simp at h
  | z :: l, 0, y, h => by
    have e : z = y := by simpa using h
    subst e
    rw [Nat.zero_mul, List.drop_zero, List.flatMap_cons, List.take_append_of_le_length (by rw [hlen]; exact Nat.le_refl _), List.take_of_length_le (by rw [hlen]; exact Nat.le_refl _)]
  | z :: l, k + 1, y, h => by
    rw [List.flatMap_cons, Nat.succ_mul, Nat.add_comm, ← List.drop_drop, List.drop_left' (hlen z)]
    exact flat_cut f size hlen l k y (by simpa using h)
end
section
variable {P : Program} {env : Env} {w : World} {dst : Option Tmp} {ty : TypeId} {pos : String} {after : Array Edge} {g : Option (Nat × Bool)}
/-- A load of an element of many cells. -/
theorem y_ldp {α : Type} {f : α → List Value} {l : List α} {y : α} {x : Operand} {A : Option Addr} {n c k size : Nat} {lt : TypeId} {d : TypeDesc} (hlen : ∀ y, (f y).length = size) (hd : P.underlying lt = some d) (hrow : d.isRow = true) (hsz : (P.info? lt).map (·.size) = some size) (hx : ev env x = some (pR A k size)) (hr : Rs w size A n c (l.flatMap f)) (hk : k < n) (hy : l[k]? = some y) :
    Y P (Like w) env ⟨dst, .load lt x, ty, pos, after, g⟩ (.agg (f y).toArray) := by
  have h := y_ldn (dst := dst) (ty := ty) (pos := pos) (after := after) (g := g) hd hrow hsz hx hr hk
  rwa [flat_cut f size hlen l k y hy] at h
end
end Go.Proofs.Ytgaklngnfecdaaa.Zx


/-
  Families: a piece taken out and put in, anywhere; rows that stay as they are. General; nothing here names a program.
-/
namespace Go.Proofs.Ytgaklngnfecdaaa.Zx
open Go.RowKit Zk
set_option linter.unusedVariables false
set_option linter.unusedSimpArgs false
section
variable {w w0 : World} {M : Nat → Prop} {rs : List Res}
end
section
variable {P : Program} {env : Env} {w : World} {dst : Option Tmp} {ty : TypeId} {pos : String} {after : Array Edge} {g : Option (Nat × Bool)}
/-- An array, read where a slice points. -/
theorem y_ldArr {x : Operand} {A : Option Addr} {n c m : Nat} {l : List UInt8} {lt e : TypeId} (ht : P.underlying lt = some (.array m e)) (hsz : (P.info? lt).map (·.size) = some m) (hx : ev env x = some (.pointer A)) (hr : Rs w 1 A n c (bL l)) (hm : m ≤ n) (hpos : 0 < m) :
    Y P (Like w) env ⟨dst, .load lt x, ty, pos, after, g⟩ (.agg (bA (l.take m))) := by
  obtain ⟨ad, rfl, hb, hcell⟩ := hr.rd.2 (by omega)
  have hl := hr.lenb
  have hr2 : Rs w m (some ad) 1 1 (bL (l.take m)) := ⟨⟨by simp; omega, fun _ => ⟨ad, rfl, hb, fun j u hj => hcell j u (by
    have e1 : bL (l.take m) = (bL l).take m := by simp [bL]
    rw [e1, List.getElem?_take] at hj
    split at hj
    · exact hj
    · cases hj)⟩⟩, Nat.le_refl _, by omega⟩
  have h := y_ldn (P := P) (env := env) (dst := dst) (ty := ty) (pos := pos) (after := after) (g := g) (x := x) (k := 0) ht rfl hsz (by rw [hx]; simp [pR, Addr.add]) hr2 (by omega)
  have e2 : ((bL (l.take m)).drop (0 * m)).take m = bL (l.take m) := by
    rw [Nat.zero_mul, List.drop_zero]
    exact List.take_of_length_le (by simp; omega)
  rw [e2] at h
  exact h
end
end Go.Proofs.Ytgaklngnfecdaaa.Zx


/-
  Regions that draw their order, where two operations may come up: both are walked. General; nothing here names a program.
-/
namespace Go.Proofs.Ytgaklngnfecdaaa.Zx
open Go.RowKit Zk
set_option linter.unusedVariables false
set_option linter.unusedSimpArgs false
section
variable {P : Program} {N : Nat} {Q : Post} {env : Env} {w w0 : World} {M : Nat → Prop} {rs : List Res} {S : World → Prop} {ops : Array Oper} {listed : Array Bool} {fuel : Nat}
theorem DX_nil (hr : Region.ready .any ops listed = []) (h : Q .normal env w) : DX P N ops Q S listed fuel env w := fun _ _ a ha => wpAnyH_done hr ⟨env, ha, h⟩ fuel
theorem DX_o1 {d : Option Tmp} {op : Op} {ty : TypeId} {pos : String} {after : Array Edge} (i : Nat) (hr : Region.ready .any ops listed = [i]) (hi : ops[i]? = some ⟨d, op, ty, pos, after, none⟩)
    (h : O P N Q ⟨d, op, ty, pos, after, none⟩ env w (fun e' w' => S w' ∧ DX P N ops Q S (listed.setIfInBounds i true) fuel e' w')) : DX P N ops Q S listed (fuel + 1) env w := fun hs hS a ha => by
  refine wpAnyH_all hr (by simp) fun j hj => ?_
  obtain rfl := List.mem_singleton.1 hj
  unfold wpOp
  simp only [hi, Region.wanted, if_true]
  exact .inl (Oper.wp_mono (fun a' w' ⟨e', h3, h4, h5⟩ => ⟨h4, h5 hs h4 a' h3⟩) (h a ha))
theorem DX_o2 {d1 d2 : Option Tmp} {op1 op2 : Op} {ty1 ty2 : TypeId} {pos1 pos2 : String} {after1 after2 : Array Edge} (i j : Nat) (hr : Region.ready .any ops listed = [i, j]) (hi : ops[i]? = some ⟨d1, op1, ty1, pos1, after1, none⟩) (hj : ops[j]? = some ⟨d2, op2, ty2, pos2, after2, none⟩)
    (h1 : O P N Q ⟨d1, op1, ty1, pos1, after1, none⟩ env w (fun e' w' => S w' ∧ DX P N ops Q S (listed.setIfInBounds i true) fuel e' w'))
    (h2 : O P N Q ⟨d2, op2, ty2, pos2, after2, none⟩ env w (fun e' w' => S w' ∧ DX P N ops Q S (listed.setIfInBounds j true) fuel e' w')) : DX P N ops Q S listed (fuel + 1) env w := fun hs hS a ha => by
  refine wpAnyH_all hr (by simp) fun q hq => ?_
  have hq' : q = i ∨ q = j := by simpa using hq
  rcases hq' with rfl | rfl
  · unfold wpOp
    simp only [hi, Region.wanted, if_true]
    exact .inl (Oper.wp_mono (fun a' w' ⟨e', h3, h4, h5⟩ => ⟨h4, h5 hs h4 a' h3⟩) (h1 a ha))
  · unfold wpOp
    simp only [hj, Region.wanted, if_true]
    exact .inl (Oper.wp_mono (fun a' w' ⟨e', h3, h4, h5⟩ => ⟨h4, h5 hs h4 a' h3⟩) (h2 a ha))
end
end Go.Proofs.Ytgaklngnfecdaaa.Zx


/-
  '==' on structs of ints. General; nothing here names a program.
-/
namespace Go.Proofs.Ytgaklngnfecdaaa.Zx
open Go.RowKit Zk
set_option linter.unusedVariables false
set_option linter.unusedSimpArgs false
section
variable {P : Program}
theorem run_part_int {t : TypeId} {k : IntKind} (ht : P.underlying t = some (.int k)) {cs : Array Value} {o : Nat} {v : Value} (hv : cs[o]? = some v) (w : World) : (part t cs o).run P w = .ok v w := by
  have h : (isAgg t).run P w = .ok false w := by
    unfold isAgg
    rw [Sem.run_bind, run_underlying ht w]
    rfl
  unfold part
  rw [Sem.run_bind, h]
  simp only [Result.andThen_ok, Bool.false_eq_true, if_false, hv, Sem.run_pure]
variable {S : World → Prop} {env : Env} {dst : Option Tmp} {ty : TypeId} {pos : String} {after : Array Edge} {g : Option (Nat × Bool)}
end
section
open Go.ChangeShapes Go.WideShapes Go.ChangeAt Go.Deep
variable {H : Type} {enc : TypeId × Value → H} {P : Program} {w : World} {base : Nat} {spare : Nat → Bool} {held : Bool}
end
end Go.Proofs.Ytgaklngnfecdaaa.Zx


/-
  Stable sorting of lists, in plain Lean: insertion, merging, how a merge is split. General; nothing here names a program.
-/
namespace Go.Proofs.Ytgaklngnfecdaaa.Zx
set_option linter.unusedVariables false
set_option linter.unusedSimpArgs false
section
variable {α : Type}
/-- What a comparison must be. -/
structure Ord3 (lt : α → α → Bool) : Prop where
  asym : ∀ x y, lt x y = true → lt y x = false
  nt : ∀ x y z, lt x y = false → lt y z = false → lt x z = false
theorem Ord3.tr {lt : α → α → Bool} (O : Ord3 lt) {x y z : α} (h1 : lt x y = true) (h2 : lt z y = false) : lt x z = true := by
  cases h : lt x z with
  | true => rfl
  | false => rw [O.nt x z y h h2] at h1; exact h1
variable (lt : α → α → Bool)
variable {lt}
end
end Go.Proofs.Ytgaklngnfecdaaa.Zx


/-
  Entries; swapRange.
-/
namespace Go.Proofs.Ytgaklngnfecdaaa.Tre
open Go.RowKit Zk Zx
set_option linter.unusedVariables false
set_option linter.unusedSimpArgs false

/-- An entry. -/
structure EV where
  nm : ByteArray
  md : Int
  id : List UInt8
  h : id.length = 32 ∧ nm.size ≤ 1000000000
deriving DecidableEq
def enf (e : EV) : List Value := Value.string e.nm :: Value.int .i64 e.md :: bL e.id
theorem enf_len (e : EV) : (enf e).length = 34 := by simp [enf, e.h.1]
theorem take_enf (e : EV) : List.take 34 (List.drop 0 (enf e).toArray.toList) = enf e := by
  rw [List.drop_zero]
  exact List.take_of_length_le (by rw [List.toList_toArray, enf_len]; exact Nat.le_refl _)
end Go.Proofs.Ytgaklngnfecdaaa.Tre


/-
  The order of bytes' lists. General; nothing here names a program.
-/
namespace Go.Proofs.Ytgaklngnfecdaaa.Zx
open Go.RowKit Zk
set_option linter.unusedVariables false
/-- a before b. -/
def bl (a b : List UInt8) : Bool := Op.bytesLess a b
theorem sLt_eq (a b : List UInt8) : sLt ⟨a.toArray⟩ ⟨b.toArray⟩ = bl a b := by
  unfold sLt
  rw [toList_eq, toList_eq]
  rfl
theorem bl_cons (x y : UInt8) (a b : List UInt8) : bl (x :: a) (y :: b) = (decide (x < y) || (x == y && bl a b)) := rfl
theorem cmp_bl : ∀ a b : List UInt8, decide (Lib.compareBytes a b < 0) = bl a b
  | [], [] => rfl
  | [], _ :: _ => rfl
  | _ :: _, [] => rfl
  | x :: a, y :: b => by
    rw [bl_cons, Lib.compareBytes]
    by_cases h1 : x < y
    · simp [h1]
    · by_cases h2 : y < x
      · have h3 : x ≠ y := fun e => by subst e; exact h1 h2
        simp [h1, h2, h3]
      · have h3 : x = y := by
          rcases Classical.em (x = y) with h | h
          · exact h
          · rcases UInt8.lt_or_lt_of_ne h with h4 | h4
            · exact (h1 h4).elim
            · exact (h2 h4).elim
        subst h3
        have ih := cmp_bl a b
        rw [if_neg h1, if_neg h1, ih]
        simp [h1]
end Go.Proofs.Ytgaklngnfecdaaa.Zx


/-
  The orders.
-/
namespace Go.Proofs.Ytgaklngnfecdaaa.Tre
open Go.RowKit Zk Zx
set_option linter.unusedVariables false
set_option linter.unusedSimpArgs false
/-- Where the library's parts lie here. -/
def strCmp_ren : Go.Shelf.Ren := ⟨fun | 106 => 206 | 213 => 211 | 265 => 213 | n => n, fun | 9 => 9 | 3 => 3 | n => n, fun | n => n⟩
theorem strCmp : Go.Proofs.Lays.n106 Try.prog strCmp_ren := {
  mixed := by kernel_rfl,
  f106 := Try.func206.trans (congrArg some (by kernel_rfl)),
  f213 := Try.func211.trans (congrArg some (by kernel_rfl)),
  f265 := Try.func213.trans (congrArg some (by kernel_rfl)),
  t3 := Try.underlying3,
  a3 := Try.isAgg3,
  z3 := Try.sizeOf3,
  v3 := Try.zeroValue3,
  t9 := Try.underlying9,
  a9 := Try.isAgg9,
  z9 := Try.sizeOf9,
  v9 := Try.zeroValue9 }
def idxS_ren : Go.Shelf.Ren := ⟨fun | 217 => 189 | 266 => 202 | n => n, fun | 9 => 9 | 5 => 5 | 3 => 3 | n => n, fun | n => n⟩
theorem idxS : Go.Proofs.Lays.n217 Try.prog idxS_ren := {
  mixed := by kernel_rfl,
  f217 := Try.func189.trans (congrArg some (by kernel_rfl)),
  f266 := Try.func202.trans (congrArg some (by kernel_rfl)),
  t3 := Try.underlying3,
  a3 := Try.isAgg3,
  z3 := Try.sizeOf3,
  v3 := Try.zeroValue3,
  t5 := Try.underlying5,
  a5 := Try.isAgg5,
  z5 := Try.sizeOf5,
  v5 := Try.zeroValue5,
  t9 := Try.underlying9,
  a9 := Try.isAgg9,
  z9 := Try.sizeOf9,
  v9 := Try.zeroValue9 }
theorem sLt_bl (a b : ByteArray) : sLt a b = bl a.data.toList b.data.toList := by
  have h := sLt_eq a.data.toList b.data.toList
  rw [Array.toArray_toList, Array.toArray_toList] at h
  exact h
def keyB (e : EV) : ByteArray := if e.md = 3 then e.nm ++ ⟨#[47]⟩ else e.nm
def ltK (x y : EV) : Bool := sLt (keyB x) (keyB y)
theorem compar (a b : ByteArray) (w0 : World) : Calls Try.prog 206 #[.string a, .string b] w0 fun e w' => ∃ u, e = .returned u ∧ Like w0 w' ∧ ∃ v : Int, u = .int .i64 v ∧ (v < 0 ↔ sLt a b = true) :=
  (show Calls Try.prog 206 _ _ _ from Any.strings_Compare strCmp a b w0).mono fun e w' ⟨h1, h2⟩ => by
    subst h2
    refine ⟨_, h1, Like.refl _, _, rfl, ?_⟩
    rw [sLt_bl, ← cmp_bl]
    exact decide_eq_true_iff.symm


set_option maxRecDepth 100000 in
theorem key (x : EV) (w0 : World)  :
    Calls Try.prog 207 #[.agg (enf x).toArray] w0 fun e w' => ∃ u, e = .returned u ∧ Like w0 w' ∧ u = .string (keyB x) := by
  refine enter1 (env := [(0, .agg (enf x).toArray)]) [.agg (enf x).toArray] Try.func207 rfl Try.ntmps207 rfl rfl ?_
  have S0 := St.start w0 noM; have hsz := x.h.2; have h1z : (⟨#[47]⟩ : ByteArray).size = 1 := rfl
  refine T_seq fun K1 hK1 => ?_
  refine T_region ?_
  refine L_o (o_box rfl S0 rfl fun b1 w1 hb1 S1 => ?_)
  refine L_y (y_assign rfl) rfl ?_
  refine L_nil ?_
  refine hK1 _ _ ?_
  refine T_seq fun K2 hK2 => ?_
  refine T_seq fun K3 hK3 => ?_
  refine T_region ?_
  refine L_y (y_fieldA 1 Try.underlying252 rfl sz3 rfl rfl rfl) rfl ?_
  refine L_y (y_ldc Try.underlying3 rfl rfl (((S1.blk 0 rfl).cell _).trans (by rfl))) rfl ?_
  refine L_y (y_eql rfl rfl) rfl ?_
  refine L_nil ?_
  refine hK3 _ _ ?_
  refine T_cond rfl (fun h5 => ?_) (fun h5 => ?_)
  ·
    refine T_seq fun K4 hK4 => ?_
    refine T_region ?_
    refine L_y (y_fieldA 0 Try.underlying252 rfl sz9 rfl rfl rfl) rfl ?_
    refine L_y (y_ldc Try.underlying9 rfl rfl (((S1.blk 0 rfl).cell _).trans (by rfl))) rfl ?_
    refine L_y (y_cat rfl rfl (by omega)) rfl ?_
    refine L_y (y_assign rfl) rfl ?_
    refine L_nil ?_
    refine hK4 _ _ ?_
    refine T_ret ?_
    repeat (first | with_reducible refine up_then ?_ | with_reducible refine up_in ?_)
    refine ret1 rfl rfl ?_
    first | exact ⟨_, rfl, S1.like0, by unfold keyB; rw [if_pos (by omega)]⟩ | exact ⟨_, rfl, S1.like0, by unfold keyB; rw [if_neg (by omega)]; rfl⟩
  ·
    refine T_skip ?_
    refine hK2 _ _ ?_
    refine T_seq fun K5 hK5 => ?_
    refine T_region ?_
    refine L_y (y_fieldA 0 Try.underlying252 rfl sz9 rfl rfl rfl) rfl ?_
    refine L_y (y_ldc Try.underlying9 rfl rfl (((S1.blk 0 rfl).cell _).trans (by rfl))) rfl ?_
    refine L_y (y_assign rfl) rfl ?_
    refine L_nil ?_
    refine hK5 _ _ ?_
    refine T_ret ?_
    repeat (first | with_reducible refine up_then ?_ | with_reducible refine up_in ?_)
    refine ret1 rfl rfl ?_
    first | exact ⟨_, rfl, S1.like0, by unfold keyB; rw [if_pos (by omega)]⟩ | exact ⟨_, rfl, S1.like0, by unfold keyB; rw [if_neg (by omega)]; rfl⟩


set_option maxRecDepth 100000 in
theorem order (x y : EV) (w0 : World)  :
    Calls Try.prog 201 #[.agg (enf x).toArray, .agg (enf y).toArray] w0 fun e w' => ∃ u, e = .returned u ∧ Like w0 w' ∧ ∃ v : Int, u = .int .i64 v ∧ (v < 0 ↔ ltK x y = true) := by
  refine enter1 (env := [(0, .agg (enf x).toArray), (1, .agg (enf y).toArray)]) [.agg (enf x).toArray, .agg (enf y).toArray] Try.func201 rfl Try.ntmps201 rfl rfl ?_
  have S0 := St.start w0 noM
  refine T_seq fun K1 hK1 => ?_
  refine T_region ?_
  refine L_o (o_box rfl S0 rfl fun b1 w1 hb1 S1 => ?_)
  refine L_o (o_box rfl S1 rfl fun b2 w2 hb2 S2 => ?_)
  refine L_y (y_assign rfl) rfl ?_
  refine L_nil ?_
  refine hK1 _ _ ?_
  refine T_seq fun K2 hK2 => ?_
  refine T_drawnX (fun w => Blk w b1 252 (enf x).toArray ∧ Blk w b2 252 (enf y).toArray) hmix (by kernel_rfl) (fun w l => ⟨(S2.like l).blk 0 rfl, (S2.like l).blk 1 rfl⟩) fun w3 l3 => ?_
  have S3 := S2.like l3
  refine DX_y 0 (by kernel_rfl) rfl (y_of fun w hw => y_ldW Try.underlying252 rfl sz252 rfl (hw.1) (show _ = enf x ∧ _ from ⟨take_enf x, enf_len x⟩)) rfl ?_
  refine DX_y 2 (by kernel_rfl) rfl (y_of fun w hw => y_ldW Try.underlying252 rfl sz252 rfl (hw.2) (show _ = enf y ∧ _ from ⟨take_enf y, enf_len y⟩)) rfl ?_
  refine DX_o1 1 (by kernel_rfl) rfl ?_
  refine o_call Try.func207 rfl rfl (key x w3) rfl rfl ?_
  rintro e4 w4 ⟨v4, rfl, l4, rfl⟩
  refine ⟨_, rfl, ?_⟩
  have S4 := S3.like l4
  refine ⟨⟨S4.blk 0 rfl, S4.blk 1 rfl⟩, ?_⟩
  refine DX_o1 3 (by kernel_rfl) rfl ?_
  refine o_call Try.func207 rfl rfl (key y w4) rfl rfl ?_
  rintro e5 w5 ⟨v5, rfl, l5, rfl⟩
  refine ⟨_, rfl, ?_⟩
  have S5 := S4.like l5
  refine ⟨⟨S5.blk 0 rfl, S5.blk 1 rfl⟩, ?_⟩
  refine DX_o1 4 (by kernel_rfl) rfl ?_
  refine o_call Try.func206 rfl rfl (compar _ _ w5) rfl rfl ?_
  rintro e6 w6 ⟨v6, rfl, l6, v9, rfl, hv9⟩
  refine ⟨_, rfl, ?_⟩
  have S6 := S5.like l6
  refine ⟨⟨S6.blk 0 rfl, S6.blk 1 rfl⟩, ?_⟩
  refine DX_y 5 (by kernel_rfl) rfl (y_assign rfl) rfl ?_
  refine DX_nil (by kernel_rfl) ?_
  refine hK2 _ _ ?_
  refine T_ret ?_
  repeat (first | with_reducible refine up_then ?_ | with_reducible refine up_in ?_)
  refine ret1 rfl rfl ?_
  exact ⟨_, rfl, S6.like0, v9, rfl, hv9⟩


end Go.Proofs.Ytgaklngnfecdaaa.Tre


/-
  Names.
-/
namespace Go.Proofs.Ytgaklngnfecdaaa.Tre
open Go.RowKit Zk Zx
set_option linter.unusedVariables false
set_option linter.unusedSimpArgs false
def seenP (s : ByteArray) : Prop := ∀ k, k < s.size → 33 ≤ g8 s.data.toList k ∧ g8 s.data.toList k ≤ 126
instance (s : ByteArray) : Decidable (seenP s) := inferInstanceAs (Decidable (∀ k, k < s.size → 33 ≤ g8 s.data.toList k ∧ g8 s.data.toList k ≤ 126))
/-- May a text be a name? -/
def nmOk (s : ByteArray) : Bool := decide (1 ≤ s.size) && (decide (s.size ≤ 32) && (decide (seenP s) && (decide ((47 : UInt8) ∉ s.data.toList) && (decide (s ≠ ⟨#[46]⟩) && decide (s ≠ ⟨#[46, 46]⟩)))))
theorem idx_ge : ∀ (l : List UInt8) (c : UInt8), 0 ≤ Lib.indexByte l c ↔ c ∈ l
  | [], c => by unfold Lib.indexByte; simp
  | b :: l, c => by
    have ih := idx_ge l c
    have h0 := Lib.indexByte_ge l c
    unfold Lib.indexByte
    by_cases h : b = c
    · subst h; simp
    · have hb : (b == c) = false := by simp [h]
      rw [hb]
      simp only [Bool.false_eq_true, if_false, List.mem_cons, Ne.symm h, false_or]
      by_cases h1 : Lib.indexByte l c = -1
      · rw [h1]
        simp only [beq_self_eq_true, if_true]
        rw [← ih, h1]
      · have : (Lib.indexByte l c == -1) = false := by simp [h1]
        rw [this]
        simp only [Bool.false_eq_true, if_false]
        rw [← ih]
        omega
theorem strIdx (s : ByteArray) (w0 : World) : Calls Try.prog 189 #[.string s, .int .u8 47] w0 fun e w' => ∃ u, e = .returned u ∧ Like w0 w' ∧ u = .int .i64 (Lib.indexByte s.data.toList 47) :=
  (show Calls Try.prog 189 _ _ _ from Any.stringslite_IndexByte idxS s 47 w0).mono fun e w' ⟨h1, h2⟩ => by
    subst h2
    exact ⟨_, h1, Like.refl _, rfl⟩
theorem idx_self : Lib.indexByte (⟨#[47]⟩ : ByteArray).data.toList 47 = 0 := by decide +kernel
/-- How many strokes. -/
def cnSl (l : List UInt8) : Nat := l.count 47
theorem cn_step {l : List UInt8} {k : Nat} (hk : k < l.length) : cnSl (l.take (k + 1)) = cnSl (l.take k) + if g8 l k = 47 then 1 else 0 := by
  unfold cnSl
  rw [List.take_add_one, List.getElem?_eq_getElem hk, Option.toList_some, List.count_append]
  congr 1
  have e : g8 l k = ((l[k]).toNat : Int) := by simp [g8, List.getD_eq_getElem?_getD, List.getElem?_eq_getElem hk]
  rw [e]
  by_cases h : l[k] = 47
  · rw [h]; rfl
  · rw [if_neg (fun h2 => h (UInt8.toNat_inj.1 (by show _ = 47; omega))), List.count_eq_zero_of_not_mem (by simp; exact fun e => h e.symm)]
theorem cn_le (l : List UInt8) : cnSl l ≤ l.length := List.count_le_length


set_option maxRecDepth 100000 in
theorem plain_ (s : ByteArray) (w0 : World) (hs : s.size ≤ 1000) :
    Calls Try.prog 103 #[.string s] w0 fun e w' => ∃ u, e = .returned u ∧ Like w0 w' ∧ u = .bool (decide (seenP s)) := by
  refine enter1 (env := [(0, .string s)]) [.string s] Try.func103 rfl Try.ntmps103 rfl rfl ?_
  have S0 := St.start w0 noM
  refine T_seq fun K1 hK1 => ?_
  refine T_region ?_
  refine L_y (y_assign rfl) rfl ?_
  refine L_nil ?_
  refine hK1 _ _ ?_
  refine T_seq fun K2 hK2 => ?_
  refine T_seq fun K3 hK3 => ?_
  refine T_region ?_
  refine L_y (y_move rfl) rfl ?_
  refine L_y (y_lens Try.underlying9 rfl) rfl ?_
  refine L_y (y_move rfl) rfl ?_
  refine L_nil ?_
  refine hK3 _ _ ?_
  refine T_block ?_
  refine T_loop1 [(0, _), (5, _)] (fun (k : Nat) => [(6, .int .i64 (k : Int))]) (fun (k : Nat) => s.size - k) (fun (k : Nat) (w : World) => (k ≤ s.size ∧ (∀ j, j < k → 33 ≤ g8 s.data.toList j ∧ g8 s.data.toList j ≤ 126)) ∧ St w0 noM [] w) 0 (Sub.cons rfl (by first | rfl | exact congrArg (Value.int _) (by omega)) (Sub.nil _)) (Sub.cons rfl rfl (Sub.cons rfl rfl (Sub.nil _))) ?_ ?_
  ·
    exact ⟨⟨Nat.zero_le _, fun j hj => absurd hj (by omega)⟩, S0⟩
  ·
    intro k w1 hrel
    obtain ⟨⟨hk, hse⟩, S1⟩ := hrel
    refine T_seq fun K4 hK4 => ?_
    refine T_region ?_
    refine L_y (y_lss rfl rfl) rfl ?_
    refine L_nil ?_
    refine hK4 _ _ ?_
    refine T_seq fun K5 hK5 => ?_
    refine T_cond rfl (fun h7 => ?_) (fun h7 => ?_)
    ·
      refine T_skip ?_
      refine hK5 _ _ ?_
      refine T_seq fun K6 hK6 => ?_
      refine T_block ?_
      refine T_seq fun K7 hK7 => ?_
      refine T_region ?_
      refine L_y (y_move rfl) rfl ?_
      refine L_y (y_assign rfl) rfl ?_
      refine L_nil ?_
      refine hK7 _ _ ?_
      refine T_seq fun K8 hK8 => ?_
      refine T_region ?_
      refine L_y (y_move rfl) rfl ?_
      refine L_y (y_move rfl) rfl ?_
      refine L_y (y_idxS Try.underlying9 rfl rfl inferInstance (by omega)) rfl ?_
      refine L_y (y_lss rfl rfl) rfl ?_
      refine L_y (y_move rfl) rfl ?_
      refine L_split 13 rfl (fun h13 => ?_) (fun h13 => ?_)
      ·
        refine L_gno rfl rfl rfl ?_
        refine L_gno rfl rfl rfl ?_
        refine L_gno rfl rfl rfl ?_
        refine L_gno rfl rfl rfl ?_
        refine L_y ((by first | exact y_pickT rfl rfl | exact y_pickF rfl rfl)) rfl ?_
        refine L_nil ?_
        refine hK8 _ _ ?_
        refine T_true rfl ?_
        refine T_seq fun K9 hK9 => ?_
        refine T_region ?_
        refine L_y (y_assign rfl) rfl ?_
        refine L_nil ?_
        refine hK9 _ _ ?_
        refine T_ret ?_
        repeat (first | with_reducible refine up_then ?_ | with_reducible refine up_in ?_)
        refine ret1 rfl rfl ?_
        first | exact ⟨_, rfl, S1.like0, congrArg Value.bool (decide_eq_false (fun h => by have := h k (by omega); omega)).symm⟩ | exact ⟨_, rfl, S1.like0, congrArg Value.bool (decide_eq_true (fun j hj => hse j (by omega))).symm⟩
      ·
        refine L_gyes rfl rfl ?_
        refine L_y (y_move rfl) rfl ?_
        refine L_gyes rfl rfl ?_
        refine L_y (y_move rfl) rfl ?_
        refine L_gyes rfl rfl ?_
        refine L_y (y_idxS Try.underlying9 rfl rfl inferInstance (by omega)) rfl ?_
        refine L_gyes rfl rfl ?_
        refine L_y (y_gtr rfl rfl) rfl ?_
        refine L_y ((by first | exact y_pickT rfl rfl | exact y_pickF rfl rfl)) rfl ?_
        refine L_nil ?_
        refine hK8 _ _ ?_
        refine T_cond rfl (fun h18 => ?_) (fun h18 => ?_)
        ·
          refine T_seq fun K10 hK10 => ?_
          refine T_region ?_
          refine L_y (y_assign rfl) rfl ?_
          refine L_nil ?_
          refine hK10 _ _ ?_
          refine T_ret ?_
          repeat (first | with_reducible refine up_then ?_ | with_reducible refine up_in ?_)
          refine ret1 rfl rfl ?_
          first | exact ⟨_, rfl, S1.like0, congrArg Value.bool (decide_eq_false (fun h => by have := h k (by omega); omega)).symm⟩ | exact ⟨_, rfl, S1.like0, congrArg Value.bool (decide_eq_true (fun j hj => hse j (by omega))).symm⟩
        ·
          refine T_skip ?_
          refine hK6 _ _ ?_
          refine T_region ?_
          refine L_y (y_add rfl rfl (i64w (by omega))) rfl ?_
          refine L_y (y_move rfl) rfl ?_
          refine L_nil ?_
          refine ⟨k + 1, by omega, ⟨⟨by omega, fun j hj => by rcases Nat.lt_or_ge j k with q | q; exact hse j q; (have e9 : j = k := by omega); subst e9; omega⟩, S1⟩, ?_⟩
          exact (Sub.cons rfl (by first | rfl | exact congrArg (Value.int _) (by omega)) (Sub.cons rfl rfl (Sub.cons rfl rfl (Sub.nil _))))
    ·
      refine T_exit ?_
      refine hK2 _ _ ?_
      refine T_seq fun K11 hK11 => ?_
      refine T_region ?_
      refine L_y (y_assign rfl) rfl ?_
      refine L_nil ?_
      refine hK11 _ _ ?_
      refine T_ret ?_
      repeat (first | with_reducible refine up_then ?_ | with_reducible refine up_in ?_)
      refine ret1 rfl rfl ?_
      first | exact ⟨_, rfl, S1.like0, congrArg Value.bool (decide_eq_false (fun h => by have := h k (by omega); omega)).symm⟩ | exact ⟨_, rfl, S1.like0, congrArg Value.bool (decide_eq_true (fun j hj => hse j (by omega))).symm⟩


set_option maxRecDepth 100000 in
theorem sidx (s : ByteArray) (w0 : World)  :
    Calls Try.prog 166 #[.string s, .string ⟨#[47]⟩] w0 fun e w' => ∃ u, e = .returned u ∧ Like w0 w' ∧ u = .int .i64 (Lib.indexByte s.data.toList 47) := by
  refine enter1 (env := [(0, .string s), (1, .string ⟨#[47]⟩)]) [.string s, .string ⟨#[47]⟩] Try.func166 rfl Try.ntmps166 rfl rfl ?_
  have h1z : (⟨#[47]⟩ : ByteArray).size = 1 := rfl; have S0 := St.start w0 noM
  refine T_seq fun K1 hK1 => ?_
  refine T_region ?_
  refine L_y (y_assign rfl) rfl ?_
  refine L_nil ?_
  refine hK1 _ _ ?_
  refine T_seq fun K2 hK2 => ?_
  refine T_region ?_
  refine L_y (y_move rfl) rfl ?_
  refine L_y (y_lens Try.underlying9 rfl) rfl ?_
  refine L_y (y_assign rfl) rfl ?_
  refine L_nil ?_
  refine hK2 _ _ ?_
  refine T_seq fun K3 hK3 => ?_
  refine T_block ?_
  refine T_seq fun K4 hK4 => ?_
  refine T_region ?_
  refine L_y (y_move rfl) rfl ?_
  refine L_y (y_eql rfl rfl) rfl ?_
  refine L_y (y_move rfl) rfl ?_
  refine L_split 19 rfl (fun h19 => ?_) (fun h19 => ?_)
  ·
    omega
  ·
    refine L_gyes rfl rfl ?_
    refine L_y (y_move rfl) rfl ?_
    refine L_gyes rfl rfl ?_
    refine L_y (y_move rfl) rfl ?_
    refine L_gyes rfl rfl ?_
    refine L_y (y_seql rfl rfl) rfl ?_
    refine L_y ((by first | exact y_pickT rfl rfl | exact y_pickF rfl rfl)) rfl ?_
    refine L_y (y_assign rfl) rfl ?_
    refine L_nil ?_
    refine hK4 _ _ ?_
    refine T_cond rfl (fun h16 => ?_) (fun h16 => ?_)
    ·
      refine T_seq fun K5 hK5 => ?_
      refine T_region ?_
      refine L_y (y_assign rfl) rfl ?_
      refine L_nil ?_
      refine hK5 _ _ ?_
      refine T_ret ?_
      repeat (first | with_reducible refine up_then ?_ | with_reducible refine up_in ?_)
      refine ret1 rfl rfl ?_
      subst h16
      exact ⟨_, rfl, S0.like0, congrArg (Value.int _) idx_self.symm⟩
    ·
      refine T_seq fun K6 hK6 => ?_
      refine T_region ?_
      refine L_y (y_move rfl) rfl ?_
      refine L_y (y_eql rfl rfl) rfl ?_
      refine L_y (y_assign rfl) rfl ?_
      refine L_nil ?_
      refine hK6 _ _ ?_
      refine T_cond rfl (fun h24 => ?_) (fun h24 => ?_)
      ·
        refine T_seq fun K7 hK7 => ?_
        refine T_region ?_
        refine L_y (y_move rfl) rfl ?_
        refine L_y (y_move rfl) rfl ?_
        refine L_y (y_idxS Try.underlying9 rfl rfl inferInstance (by omega)) rfl ?_
        refine L_o (o_call Try.func189 rfl rfl (strIdx s w0) rfl rfl ?_)
        rintro e2 w2 ⟨v2, rfl, l2, rfl⟩
        refine ⟨_, rfl, ?_⟩
        have S2 := S0.like l2
        refine L_y (y_assign rfl) rfl ?_
        refine L_nil ?_
        refine hK7 _ _ ?_
        refine T_ret ?_
        repeat (first | with_reducible refine up_then ?_ | with_reducible refine up_in ?_)
        refine ret1 rfl rfl ?_
        exact ⟨_, rfl, S2.like0, rfl⟩
      ·
        omega


set_option maxRecDepth 100000 in
theorem sidx2 (s : ByteArray) (w0 : World)  :
    Calls Try.prog 143 #[.string s, .string ⟨#[47]⟩] w0 fun e w' => ∃ u, e = .returned u ∧ Like w0 w' ∧ u = .int .i64 (Lib.indexByte s.data.toList 47) := by
  refine enter1 (env := [(0, .string s), (1, .string ⟨#[47]⟩)]) [.string s, .string ⟨#[47]⟩] Try.func143 rfl Try.ntmps143 rfl rfl ?_
  have S0 := St.start w0 noM
  refine T_seq fun K1 hK1 => ?_
  refine T_region ?_
  refine L_y (y_assign rfl) rfl ?_
  refine L_nil ?_
  refine hK1 _ _ ?_
  refine T_seq fun K2 hK2 => ?_
  refine T_region ?_
  refine L_y (y_move rfl) rfl ?_
  refine L_y (y_move rfl) rfl ?_
  refine L_o (o_call Try.func166 rfl rfl (sidx s w0) rfl rfl ?_)
  rintro e1 w1 ⟨v1, rfl, l1, rfl⟩
  refine ⟨_, rfl, ?_⟩
  have S1 := S0.like l1
  refine L_y (y_assign rfl) rfl ?_
  refine L_nil ?_
  refine hK2 _ _ ?_
  refine T_ret ?_
  repeat (first | with_reducible refine up_then ?_ | with_reducible refine up_in ?_)
  refine ret1 rfl rfl ?_
  exact ⟨_, rfl, S1.like0, rfl⟩


set_option maxRecDepth 100000 in
theorem contai (s : ByteArray) (w0 : World)  :
    Calls Try.prog 104 #[.string s, .string ⟨#[47]⟩] w0 fun e w' => ∃ u, e = .returned u ∧ Like w0 w' ∧ u = .bool (decide ((47 : UInt8) ∈ s.data.toList)) := by
  refine enter1 (env := [(0, .string s), (1, .string ⟨#[47]⟩)]) [.string s, .string ⟨#[47]⟩] Try.func104 rfl Try.ntmps104 rfl rfl ?_
  have S0 := St.start w0 noM
  refine T_seq fun K1 hK1 => ?_
  refine T_region ?_
  refine L_y (y_assign rfl) rfl ?_
  refine L_nil ?_
  refine hK1 _ _ ?_
  refine T_seq fun K2 hK2 => ?_
  refine T_region ?_
  refine L_y (y_move rfl) rfl ?_
  refine L_y (y_move rfl) rfl ?_
  refine L_o (o_call Try.func143 rfl rfl (sidx2 s w0) rfl rfl ?_)
  rintro e1 w1 ⟨v1, rfl, l1, rfl⟩
  refine ⟨_, rfl, ?_⟩
  have S1 := S0.like l1
  refine L_y (y_geq rfl rfl) rfl ?_
  refine L_y (y_assign rfl) rfl ?_
  refine L_nil ?_
  refine hK2 _ _ ?_
  refine T_ret ?_
  repeat (first | with_reducible refine up_then ?_ | with_reducible refine up_in ?_)
  refine ret1 rfl rfl ?_
  exact ⟨_, rfl, S1.like0, congrArg Value.bool (decide_eq_decide.2 (idx_ge _ _))⟩


set_option maxRecDepth 100000 in
theorem pname (s : ByteArray) (w0 : World)  :
    Calls Try.prog 59 #[.string s] w0 fun e w' => ∃ u, e = .returned u ∧ Like w0 w' ∧ u = .bool (nmOk s) := by
  refine enter1 (env := [(0, .string s)]) [.string s] Try.func59 rfl Try.ntmps59 rfl rfl ?_
  have S0 := St.start w0 noM
  refine T_seq fun K1 hK1 => ?_
  refine T_region ?_
  refine L_y (y_assign rfl) rfl ?_
  refine L_nil ?_
  refine hK1 _ _ ?_
  refine T_seq fun K2 hK2 => ?_
  refine T_region ?_
  refine L_y (y_move rfl) rfl ?_
  refine L_y (y_lens Try.underlying9 rfl) rfl ?_
  refine L_y (y_gtr rfl rfl) rfl ?_
  refine L_y (y_move rfl) rfl ?_
  refine L_split 6 rfl (fun h6 => ?_) (fun h6 => ?_)
  ·
    have q6 : 1 ≤ s.size := by omega
    refine L_gyes rfl rfl ?_
    refine L_y (y_move rfl) rfl ?_
    refine L_gyes rfl rfl ?_
    refine L_y (y_lens Try.underlying9 rfl) rfl ?_
    refine L_gyes rfl rfl ?_
    refine L_y (y_leq rfl rfl) rfl ?_
    refine L_y ((by first | exact y_pickT rfl rfl | exact y_pickF rfl rfl)) rfl ?_
    refine L_y (y_move rfl) rfl ?_
    refine L_split 11 rfl (fun h11 => ?_) (fun h11 => ?_)
    ·
      have q11 : s.size ≤ 32 := by omega
      refine L_gyes rfl rfl ?_
      refine L_y (y_move rfl) rfl ?_
      refine L_gyes rfl rfl ?_
      refine L_o (o_call Try.func103 rfl rfl (plain_ s w0 (by omega)) rfl rfl ?_)
      rintro e3 w3 ⟨v3, rfl, l3, rfl⟩
      refine ⟨_, rfl, ?_⟩
      have S3 := S0.like l3
      refine L_y ((by first | exact y_pickT rfl rfl | exact y_pickF rfl rfl)) rfl ?_
      refine L_y (y_move rfl) rfl ?_
      refine L_split 15 rfl (fun h15 => ?_) (fun h15 => ?_)
      ·
        have q15 : seenP s := by first | exact of_decide_eq_true h15 | exact of_decide_eq_false h15 | simpa using h15
        refine L_gyes rfl rfl ?_
        refine L_y (y_move rfl) rfl ?_
        refine L_gyes rfl rfl ?_
        refine L_o (o_call Try.func104 rfl rfl (contai s w3) rfl rfl ?_)
        rintro e5 w5 ⟨v5, rfl, l5, rfl⟩
        refine ⟨_, rfl, ?_⟩
        have S5 := S3.like l5
        refine L_gyes rfl rfl ?_
        refine L_y ((by first | exact y_notD rfl | exact y_not rfl)) rfl ?_
        refine L_y ((by first | exact y_pickT rfl rfl | exact y_pickF rfl rfl)) rfl ?_
        refine L_y (y_move rfl) rfl ?_
        refine L_split 20 rfl (fun h20 => ?_) (fun h20 => ?_)
        ·
          have q20 : (47 : UInt8) ∉ s.data.toList := by simpa using h20
          refine L_gyes rfl rfl ?_
          refine L_y (y_move rfl) rfl ?_
          refine L_gyes rfl rfl ?_
          refine L_y (y_sneq rfl rfl) rfl ?_
          refine L_y ((by first | exact y_pickT rfl rfl | exact y_pickF rfl rfl)) rfl ?_
          refine L_y (y_move rfl) rfl ?_
          refine L_split 24 rfl (fun h24 => ?_) (fun h24 => ?_)
          ·
            have q24 : s ≠ ⟨#[46]⟩ := by simpa using h24
            refine L_gyes rfl rfl ?_
            refine L_y (y_move rfl) rfl ?_
            refine L_gyes rfl rfl ?_
            refine L_y (y_sneq rfl rfl) rfl ?_
            refine L_y ((by first | exact y_pickT rfl rfl | exact y_pickF rfl rfl)) rfl ?_
            refine L_y (y_assign rfl) rfl ?_
            refine L_nil ?_
            refine hK2 _ _ ?_
            refine T_ret ?_
            repeat (first | with_reducible refine up_then ?_ | with_reducible refine up_in ?_)
            refine ret1 rfl rfl ?_
            exact ⟨_, rfl, S5.like0, congrArg Value.bool (by unfold nmOk; simp [q24, q20, q15, q11, q6])⟩
          ·
            have q24 : ¬ s ≠ ⟨#[46]⟩ := by simpa using h24
            refine L_gno rfl rfl rfl ?_
            refine L_gno rfl rfl rfl ?_
            refine L_y ((by first | exact y_pickT rfl rfl | exact y_pickF rfl rfl)) rfl ?_
            refine L_y (y_assign rfl) rfl ?_
            refine L_nil ?_
            refine hK2 _ _ ?_
            refine T_ret ?_
            repeat (first | with_reducible refine up_then ?_ | with_reducible refine up_in ?_)
            refine ret1 rfl rfl ?_
            exact ⟨_, rfl, S5.like0, congrArg Value.bool (by unfold nmOk; simp [q24, q20, q15, q11, q6])⟩
        ·
          have q20 : (47 : UInt8) ∈ s.data.toList := Decidable.not_not.1 h20
          refine L_gno rfl rfl rfl ?_
          refine L_gno rfl rfl rfl ?_
          refine L_y ((by first | exact y_pickT rfl rfl | exact y_pickF rfl rfl)) rfl ?_
          refine L_y (y_move rfl) rfl ?_
          refine L_gno rfl rfl rfl ?_
          refine L_gno rfl rfl rfl ?_
          refine L_y ((by first | exact y_pickT rfl rfl | exact y_pickF rfl rfl)) rfl ?_
          refine L_y (y_assign rfl) rfl ?_
          refine L_nil ?_
          refine hK2 _ _ ?_
          refine T_ret ?_
          repeat (first | with_reducible refine up_then ?_ | with_reducible refine up_in ?_)
          refine ret1 rfl rfl ?_
          exact ⟨_, rfl, S5.like0, congrArg Value.bool (by unfold nmOk; simp [q20, q15, q11, q6])⟩
      ·
        have q15 : ¬ seenP s := by first | exact of_decide_eq_true h15 | exact of_decide_eq_false h15 | simpa using h15
        refine L_gno rfl rfl rfl ?_
        refine L_gno rfl rfl rfl ?_
        refine L_gno rfl rfl rfl ?_
        refine L_y ((by first | exact y_pickT rfl rfl | exact y_pickF rfl rfl)) rfl ?_
        refine L_y (y_move rfl) rfl ?_
        refine L_gno rfl rfl rfl ?_
        refine L_gno rfl rfl rfl ?_
        refine L_y ((by first | exact y_pickT rfl rfl | exact y_pickF rfl rfl)) rfl ?_
        refine L_y (y_move rfl) rfl ?_
        refine L_gno rfl rfl rfl ?_
        refine L_gno rfl rfl rfl ?_
        refine L_y ((by first | exact y_pickT rfl rfl | exact y_pickF rfl rfl)) rfl ?_
        refine L_y (y_assign rfl) rfl ?_
        refine L_nil ?_
        refine hK2 _ _ ?_
        refine T_ret ?_
        repeat (first | with_reducible refine up_then ?_ | with_reducible refine up_in ?_)
        refine ret1 rfl rfl ?_
        exact ⟨_, rfl, S3.like0, congrArg Value.bool (by unfold nmOk; simp [q15, q11, q6])⟩
    ·
      have q11 : ¬ s.size ≤ 32 := by omega
      refine L_gno rfl rfl rfl ?_
      refine L_gno rfl rfl rfl ?_
      refine L_y ((by first | exact y_pickT rfl rfl | exact y_pickF rfl rfl)) rfl ?_
      refine L_y (y_move rfl) rfl ?_
      refine L_gno rfl rfl rfl ?_
      refine L_gno rfl rfl rfl ?_
      refine L_gno rfl rfl rfl ?_
      refine L_y ((by first | exact y_pickT rfl rfl | exact y_pickF rfl rfl)) rfl ?_
      refine L_y (y_move rfl) rfl ?_
      refine L_gno rfl rfl rfl ?_
      refine L_gno rfl rfl rfl ?_
      refine L_y ((by first | exact y_pickT rfl rfl | exact y_pickF rfl rfl)) rfl ?_
      refine L_y (y_move rfl) rfl ?_
      refine L_gno rfl rfl rfl ?_
      refine L_gno rfl rfl rfl ?_
      refine L_y ((by first | exact y_pickT rfl rfl | exact y_pickF rfl rfl)) rfl ?_
      refine L_y (y_assign rfl) rfl ?_
      refine L_nil ?_
      refine hK2 _ _ ?_
      refine T_ret ?_
      repeat (first | with_reducible refine up_then ?_ | with_reducible refine up_in ?_)
      refine ret1 rfl rfl ?_
      exact ⟨_, rfl, S0.like0, congrArg Value.bool (by unfold nmOk; simp [q11, q6])⟩
  ·
    have q6 : ¬ 1 ≤ s.size := by omega
    refine L_gno rfl rfl rfl ?_
    refine L_gno rfl rfl rfl ?_
    refine L_gno rfl rfl rfl ?_
    refine L_y ((by first | exact y_pickT rfl rfl | exact y_pickF rfl rfl)) rfl ?_
    refine L_y (y_move rfl) rfl ?_
    refine L_gno rfl rfl rfl ?_
    refine L_gno rfl rfl rfl ?_
    refine L_y ((by first | exact y_pickT rfl rfl | exact y_pickF rfl rfl)) rfl ?_
    refine L_y (y_move rfl) rfl ?_
    refine L_gno rfl rfl rfl ?_
    refine L_gno rfl rfl rfl ?_
    refine L_gno rfl rfl rfl ?_
    refine L_y ((by first | exact y_pickT rfl rfl | exact y_pickF rfl rfl)) rfl ?_
    refine L_y (y_move rfl) rfl ?_
    refine L_gno rfl rfl rfl ?_
    refine L_gno rfl rfl rfl ?_
    refine L_y ((by first | exact y_pickT rfl rfl | exact y_pickF rfl rfl)) rfl ?_
    refine L_y (y_move rfl) rfl ?_
    refine L_gno rfl rfl rfl ?_
    refine L_gno rfl rfl rfl ?_
    refine L_y ((by first | exact y_pickT rfl rfl | exact y_pickF rfl rfl)) rfl ?_
    refine L_y (y_assign rfl) rfl ?_
    refine L_nil ?_
    refine hK2 _ _ ?_
    refine T_ret ?_
    repeat (first | with_reducible refine up_then ?_ | with_reducible refine up_in ?_)
    refine ret1 rfl rfl ?_
    exact ⟨_, rfl, S0.like0, congrArg Value.bool (by unfold nmOk; simp [q6])⟩


set_option maxRecDepth 100000 in
theorem parts (s : ByteArray) (w0 : World) (hs : s.size ≤ 1000) :
    Calls Try.prog 106 #[.string s] w0 fun e w' => ∃ u, e = .returned u ∧ Like w0 w' ∧ ∃ A' c', u = .slice A' (if s.size = 0 then 0 else cnSl s.data.toList + 1) c' := by
  refine enter1 (env := [(0, .string s)]) [.string s] Try.func106 rfl Try.ntmps106 rfl rfl ?_
  have S0 := St.start w0 noM
  refine T_seq fun K1 hK1 => ?_
  refine T_region ?_
  refine L_y (y_assign rfl) rfl ?_
  refine L_nil ?_
  refine hK1 _ _ ?_
  refine T_seq fun K2 hK2 => ?_
  refine T_region ?_
  have S1 := S0.nilrow 9 1
  refine L_y (y_assign rfl) rfl ?_
  refine L_nil ?_
  refine hK2 _ _ ?_
  refine T_seq fun K3 hK3 => ?_
  refine T_seq fun K4 hK4 => ?_
  refine T_region ?_
  refine L_y (y_move rfl) rfl ?_
  refine L_y (y_seql rfl rfl) rfl ?_
  refine L_nil ?_
  refine hK4 _ _ ?_
  refine T_cond rfl (fun h7 => ?_) (fun h7 => ?_)
  ·
    refine T_seq fun K5 hK5 => ?_
    refine T_region ?_
    refine L_y (y_move rfl) rfl ?_
    refine L_y (y_assign rfl) rfl ?_
    refine L_nil ?_
    refine hK5 _ _ ?_
    refine T_ret ?_
    repeat (first | with_reducible refine up_then ?_ | with_reducible refine up_in ?_)
    refine ret1 rfl rfl ?_
    have hz : s.size = 0 := by rw [h7]; rfl
    exact ⟨_, rfl, S1.like0, none, 0, by rw [if_pos hz]⟩
  ·
    refine T_skip ?_
    refine hK3 _ _ ?_
    refine T_seq fun K6 hK6 => ?_
    refine T_region ?_
    refine L_y (y_assign rfl) rfl ?_
    refine L_nil ?_
    refine hK6 _ _ ?_
    refine T_seq fun K7 hK7 => ?_
    refine T_seq fun K8 hK8 => ?_
    refine T_region ?_
    refine L_y (y_assign rfl) rfl ?_
    refine L_nil ?_
    refine hK8 _ _ ?_
    refine T_block ?_
    refine T_loop5 [(0, _)] (fun (k : Nat) (nw : ByteArray) (A1 : Option Addr) (c1 : Nat) (xs : List Value) => [(3, .slice A1 (cnSl (s.data.toList.take k)) c1), (4, .string nw), (5, .int .i64 (k : Int))]) (fun (k : Nat) (nw : ByteArray) (A1 : Option Addr) (c1 : Nat) (xs : List Value) => s.size - k) (fun (k : Nat) (nw : ByteArray) (A1 : Option Addr) (c1 : Nat) (xs : List Value) (w : World) => (k ≤ s.size ∧ nw.size ≤ k) ∧ St w0 noM [row 9 1 A1 (cnSl (s.data.toList.take k)) c1 xs] w) 0 ⟨#[]⟩ none 0 [] (Sub.cons rfl (by first | rfl | exact congrArg (Value.int _) (by omega)) (Sub.cons rfl (by first | rfl | exact congrArg (Value.int _) (by omega)) (Sub.cons rfl (by first | rfl | exact congrArg (Value.int _) (by omega)) (Sub.nil _)))) (Sub.cons rfl rfl (Sub.nil _)) ?_ ?_
    ·
      exact ⟨⟨Nat.zero_le _, Nat.le_refl _⟩, S1⟩
    ·
      intro k nw A1 c1 xs w2 hrel
      obtain ⟨⟨hk, hnw⟩, S2⟩ := hrel
      have hcl := cn_le (s.data.toList.take k)
      rw [List.length_take, size_toList] at hcl
      have hex : (s.extract k (k + 1)).size ≤ 1 := by rw [ByteArray.size_extract]; omega
      refine T_seq fun K9 hK9 => ?_
      refine T_seq fun K10 hK10 => ?_
      refine T_region ?_
      refine L_y (y_move rfl) rfl ?_
      refine L_y (y_move rfl) rfl ?_
      refine L_y (y_lens Try.underlying9 rfl) rfl ?_
      refine L_y (y_lss rfl rfl) rfl ?_
      refine L_nil ?_
      refine hK10 _ _ ?_
      refine T_cond rfl (fun h12 => ?_) (fun h12 => ?_)
      ·
        refine T_skip ?_
        refine hK9 _ _ ?_
        refine T_seq fun K11 hK11 => ?_
        refine T_block ?_
        refine T_seq fun K12 hK12 => ?_
        refine T_region ?_
        refine L_y (y_move rfl) rfl ?_
        refine L_y (y_move rfl) rfl ?_
        refine L_y (y_idxS Try.underlying9 rfl rfl inferInstance (by omega)) rfl ?_
        refine L_y (y_eql rfl rfl) rfl ?_
        refine L_nil ?_
        refine hK12 _ _ ?_
        refine T_cond rfl (fun h18 => ?_) (fun h18 => ?_)
        ·
          refine T_seq fun K13 hK13 => ?_
          refine T_region ?_
          refine L_y (y_move rfl) rfl ?_
          refine L_y (y_move rfl) rfl ?_
          refine L_o (o_bsl [_] te169 zz9 S2 rfl rfl rfl rfl rfl rfl rfl rfl fun b3 w3 S3 => ?_)
          refine L_o (o_app te169 S3 0 rfl rfl rfl (by first | exact S3.row 0 rfl | exact S3.row 1 rfl) (by first | exact bL_one _ | exact iL_one _ | (intro u hu; simp at hu; subst hu; rfl) | (simp; done) | (simp [Value.oneCell']; done)) rfl (by omega) (by omega) fun A4 c4 w4 S4 => ?_)
          have S4d := S4.drop (rs' := [_]) (.cons_cons _ (.cons _ (.refl _)))
          refine L_y (y_assign rfl) rfl ?_
          refine L_nil ?_
          refine hK13 _ _ ?_
          refine T_region ?_
          refine L_y (y_assign rfl) rfl ?_
          refine L_nil ?_
          refine hK11 _ _ ?_
          refine T_region ?_
          refine L_y (y_move rfl) rfl ?_
          refine L_y (y_add rfl rfl (i64w (by omega))) rfl ?_
          refine L_y (y_assign rfl) rfl ?_
          refine L_nil ?_
          have hcs := cn_step (l := s.data.toList) (k := k) (by rw [size_toList]; omega)
          rw [if_pos (by omega)] at hcs
          refine ⟨k + 1, ⟨#[]⟩, A4, c4, _, by omega, ⟨⟨by omega, by show 0 ≤ _; omega⟩, by rw [hcs]; exact S4d⟩, ?_⟩
          exact (Sub.cons rfl (by first | (rw [hcs]; rfl) | (rw [hcs, Nat.add_zero])) (Sub.cons rfl (by first | rfl | exact congrArg (Value.int _) (by omega)) (Sub.cons rfl (by first | rfl | exact congrArg (Value.int _) (by omega)) (Sub.cons rfl rfl (Sub.nil _)))))
        ·
          refine T_region ?_
          refine L_y (y_move rfl) rfl ?_
          refine L_y (y_move rfl) rfl ?_
          refine L_y (y_move rfl) rfl ?_
          refine L_y (y_move rfl) rfl ?_
          refine L_y (y_add rfl rfl (i64w (by omega))) rfl ?_
          refine L_y (y_sslice Try.underlying9 rfl rfl rfl inferInstance inferInstance (by omega) (by omega)) rfl ?_
          refine L_y (y_cat rfl rfl (by omega)) rfl ?_
          refine L_y (y_assign rfl) rfl ?_
          refine L_nil ?_
          refine hK11 _ _ ?_
          refine T_region ?_
          refine L_y (y_move rfl) rfl ?_
          refine L_y (y_add rfl rfl (i64w (by omega))) rfl ?_
          refine L_y (y_assign rfl) rfl ?_
          refine L_nil ?_
          have hcs := cn_step (l := s.data.toList) (k := k) (by rw [size_toList]; omega)
          rw [if_neg (by omega)] at hcs
          refine ⟨k + 1, nw ++ s.extract k (k + 1), A1, c1, xs, by omega, ⟨⟨by omega, by rw [ByteArray.size_append]; omega⟩, by rw [hcs]; exact S2⟩, ?_⟩
          exact (Sub.cons rfl (by first | (rw [hcs]; rfl) | (rw [hcs, Nat.add_zero])) (Sub.cons rfl (by first | rfl | exact congrArg (Value.int _) (by omega)) (Sub.cons rfl (by first | rfl | exact congrArg (Value.int _) (by omega)) (Sub.cons rfl rfl (Sub.nil _)))))
      ·
        refine T_exit ?_
        refine hK7 _ _ ?_
        refine T_seq fun K14 hK14 => ?_
        refine T_region ?_
        refine L_y (y_move rfl) rfl ?_
        refine L_y (y_move rfl) rfl ?_
        refine L_o (o_bsl [_] te169 zz9 S2 rfl rfl rfl rfl rfl rfl rfl rfl fun b5 w5 S5 => ?_)
        refine L_o (o_app te169 S5 0 rfl rfl rfl (by first | exact S5.row 0 rfl | exact S5.row 1 rfl) (by first | exact bL_one _ | exact iL_one _ | (intro u hu; simp at hu; subst hu; rfl) | (simp; done) | (simp [Value.oneCell']; done)) rfl (by omega) (by omega) fun A6 c6 w6 S6 => ?_)
        have S6d := S6.drop (rs' := [_]) (.cons_cons _ (.cons _ (.refl _)))
        refine L_y (y_assign rfl) rfl ?_
        refine L_nil ?_
        refine hK14 _ _ ?_
        refine T_ret ?_
        repeat (first | with_reducible refine up_then ?_ | with_reducible refine up_in ?_)
        refine ret1 rfl rfl ?_
        have hz : ¬ s.size = 0 := fun e => h7 (by apply ByteArray.ext; exact Array.eq_empty_of_size_eq_zero e)
        have hkn : k = s.size := by omega
        rw [List.take_of_length_le (by rw [size_toList]; omega)] at *
        exact ⟨_, rfl, S6d.like0, _, _, by rw [if_neg hz]⟩
end Go.Proofs.Ytgaklngnfecdaaa.Tre


/-
  Check.
-/
namespace Go.Proofs.Ytgaklngnfecdaaa.Tre
open Go.RowKit Zk Zx
set_option linter.unusedVariables false
set_option linter.unusedSimpArgs false

def mdOk (m : Int) : Prop := m = 1 ∨ m = 2 ∨ m = 3
instance (m : Int) : Decidable (mdOk m) := inferInstanceAs (Decidable (m = 1 ∨ m = 2 ∨ m = 3))
/-- Is no name there twice? -/
def once (l : List EV) : Prop := (l.map EV.nm).Nodup
instance (l : List EV) : Decidable (once l) := inferInstanceAs (Decidable (l.map EV.nm).Nodup)
end Go.Proofs.Ytgaklngnfecdaaa.Tre


/-
  What Begin, Read and Hex of package oid and of its reference return, said of bytes.
-/
namespace Go.Proofs.Ytgaklngnfecdaaa.Oid
open Go.RowKit Zk
set_option linter.unusedVariables false
set_option maxRecDepth 100000

theorem info5 : (Try.prog.info? 5).map (fun i => (i.zero, i.size, i.bytes)) = some (some (.int .u8 0), 1, 1) := by kernel_rfl
theorem size5 : (Try.prog.info? 5).map (·.size) = some 1 := by kernel_rfl
theorem size23 : (Try.prog.info? 23).map (·.size) = some 32 := by kernel_rfl
theorem size30 : (Try.prog.info? 85).map (·.size) = some 33 := by kernel_rfl

/-! ### plain words -/
def hexD (n : Nat) : UInt8 := if n < 10 then UInt8.ofNat (48 + n) else UInt8.ofNat (87 + n)
def hexL (z : List UInt8) : List UInt8 := z.flatMap fun c => [hexD (c.toNat / 16), hexD (c.toNat % 16)]
theorem hexL_snoc (z : List UInt8) (k : Nat) (c : UInt8) (h : z[k]? = some c) : hexL (z.take (k + 1)) = hexL (z.take k) ++ [hexD (c.toNat / 16), hexD (c.toNat % 16)] := by
  rw [List.take_add_one, h]
  simp [hexL]
def worthZ (c : Int) : Int := if 48 ≤ c ∧ c ≤ 57 then c - 48 else if 97 ≤ c ∧ c ≤ 102 then c - 97 + 10 else -1
theorem worthZ_le (c : Int) : worthZ c ≤ 15 ∧ -1 ≤ worthZ c := by
  unfold worthZ
  split
  · omega
  · split <;> omega
/-- Is it a digit? -/
def isD (c : UInt8) : Bool := decide (0 ≤ worthZ (c.toNat : Int))
/-- What it is worth. -/
def dN (c : UInt8) : Nat := (worthZ (c.toNat : Int)).toNat
theorem dN_lt (c : UInt8) : dN c < 16 := by have := worthZ_le (c.toNat : Int); unfold dN; omega
theorem worth_dN (c : UInt8) (h : isD c = true) : worthZ (c.toNat : Int) = (dN c : Int) := by
  have : 0 ≤ worthZ (c.toNat : Int) := by simpa [isD] using h
  unfold dN; omega
theorem worth_no (c : UInt8) (h : isD c = false) : worthZ (c.toNat : Int) = -1 := by
  have : ¬ 0 ≤ worthZ (c.toNat : Int) := by simpa [isD] using h
  have := worthZ_le (c.toNat : Int)
  omega
/-- The i-th digit, 0 where there is none. -/
def dg (s : List UInt8) (i : Nat) : Nat := (s[i]?.map dN).getD 0
theorem dg_lt (s : List UInt8) (i : Nat) : dg s i < 16 := by
  unfold dg
  cases s[i]? with
  | none => simp
  | some c => simpa using dN_lt c
/-- The id of digits. -/
def idOf (s : List UInt8) : List UInt8 := (List.range 32).map fun j => UInt8.ofNat (16 * dg s (2 * j) + dg s (2 * j + 1))
@[simp] theorem length_idOf (s : List UInt8) : (idOf s).length = 32 := by simp [idOf]
def z32 : List UInt8 := List.replicate 32 0
/-- A prefix as a value's cells. -/
def pfA (z : List UInt8) (n : Int) : Array Value := (bL z ++ [Value.int .i64 n]).toArray
theorem size_pfA (z : List UInt8) (n : Int) (h : z.length = 32) : (pfA z n).size = 33 := by simp [pfA, h]
def okS (s : List UInt8) : Bool := s.all isD
/-- What Begin returns. -/
def beginR (s : List UInt8) : List UInt8 × Int × Int := if 64 < s.length then (z32, 0, 3) else if okS s then (idOf s, s.length, 0) else (z32, 0, 14)

theorem toNat_ofNat (n : Nat) (h : n < 256) : (UInt8.ofNat n).toNat = n := by
  simp [UInt8.toNat_ofNat']
  omega
theorem idOf_get (s : List UInt8) (j : Nat) (h : j < 32) : (idOf s)[j]? = some (UInt8.ofNat (16 * dg s (2 * j) + dg s (2 * j + 1))) := by
  simp [idOf, h]
theorem dg_take (s : List UInt8) (k i : Nat) (h : i < k) : dg (s.take k) i = dg s i := by
  unfold dg; rw [List.getElem?_take, if_pos h]
theorem dg_take_ge (s : List UInt8) (k i : Nat) (h : k ≤ i) : dg (s.take k) i = 0 := by
  unfold dg; rw [List.getElem?_take, if_neg (by omega)]; rfl
theorem dg_at (s : List UInt8) (k : Nat) (c : UInt8) (h : s[k]? = some c) : dg s k = dN c := by simp [dg, h]
theorem idOf_even (s : List UInt8) (k : Nat) (c : UInt8) (h : s[k]? = some c) (hp : k % 2 = 0) :
    (idOf s |>.length) = 32 ∧ idOf (s.take (k + 1)) = (idOf (s.take k)).set (k / 2) (UInt8.ofNat (16 * dN c)) ∧ (k < 64 → (idOf (s.take k))[k / 2]? = some 0) := by
  refine ⟨by simp, ?_, fun hk => ?_⟩
  · apply List.ext_getElem?
    intro j
    rw [List.getElem?_set]
    by_cases hj : j < 32
    · rw [idOf_get _ j hj, idOf_get _ j hj]
      by_cases e : k / 2 = j
      · have e1 : 2 * j = k := by omega
        rw [if_pos e, if_pos (by simp; omega), e1, dg_take _ _ _ (by omega), dg_take_ge _ _ _ (by omega), dg_at s k c h]
        simp
      · rw [if_neg e]
        by_cases hlt : 2 * j < k
        · rw [dg_take _ _ _ (by omega), dg_take _ _ _ (by omega), dg_take _ _ _ (by omega), dg_take _ _ _ (by omega)]
        · rw [dg_take_ge _ _ _ (by omega), dg_take_ge _ _ _ (by omega), dg_take_ge _ _ _ (by omega), dg_take_ge _ _ _ (by omega)]
    · rw [List.getElem?_eq_none (by simp; omega), List.getElem?_eq_none (by simp; omega)]
      split
      · rw [if_neg (by simp; omega)]
      · rfl
  · rw [idOf_get _ _ (by omega), dg_take_ge _ _ _ (by omega), dg_take_ge _ _ _ (by omega)]
    rfl
theorem idOf_odd (s : List UInt8) (k : Nat) (c : UInt8) (h : s[k]? = some c) (hp : k % 2 = 1) :
    idOf (s.take (k + 1)) = (idOf (s.take k)).set (k / 2) (UInt8.ofNat (16 * dg s (k - 1) + dN c)) ∧ (k < 64 → (idOf (s.take k))[k / 2]? = some (UInt8.ofNat (16 * dg s (k - 1)))) := by
  refine ⟨?_, fun hk => ?_⟩
  · apply List.ext_getElem?
    intro j
    rw [List.getElem?_set]
    by_cases hj : j < 32
    · rw [idOf_get _ j hj, idOf_get _ j hj]
      by_cases e : k / 2 = j
      · have e1 : 2 * j = k - 1 := by omega
        have e2 : 2 * j + 1 = k := by omega
        rw [if_pos e, if_pos (by simp; omega), e2, e1, dg_take _ _ _ (by omega), dg_take _ _ _ (by omega), dg_at s k c h]
      · rw [if_neg e]
        by_cases hlt : 2 * j < k
        · rw [dg_take _ _ _ (by omega), dg_take _ _ _ (by omega), dg_take _ _ _ (by omega), dg_take _ _ _ (by omega)]
        · rw [dg_take_ge _ _ _ (by omega), dg_take_ge _ _ _ (by omega), dg_take_ge _ _ _ (by omega), dg_take_ge _ _ _ (by omega)]
    · rw [List.getElem?_eq_none (by simp; omega), List.getElem?_eq_none (by simp; omega)]
      split
      · rw [if_neg (by simp; omega)]
      · rfl
  · rw [idOf_get _ _ (by omega), dg_take _ _ _ (by omega), dg_take_ge _ _ _ (by omega)]
    have e1 : 2 * (k / 2) = k - 1 := by omega
    rw [e1]
    rfl
theorem okS_snoc (s : List UInt8) (k : Nat) (c : UInt8) (h : s[k]? = some c) : okS (s.take (k + 1)) = (okS (s.take k) && isD c) := by
  rw [List.take_add_one, h]
  simp [okS]
theorem okS_not (s : List UInt8) (k : Nat) (c : UInt8) (h : s[k]? = some c) (hc : isD c = false) : okS s = false := by
  simp only [okS, List.all_eq_false]
  exact ⟨c, List.mem_of_getElem? h, by simp [hc]⟩

/-! ### the walks -/
theorem run_index_hex (W : World) (n : Nat) (h : n < 16) : (Instr.index 9 (.string { data := #[48, 49, 50, 51, 52, 53, 54, 55, 56, 57, 97, 98, 99, 100, 101, 102] }) (.int .u8 (n : Int))).run Try.prog W = .ok (.int .u8 ((hexD n).toNat : Int)) W := by
  match n, h with
  | 0, _ => show _ = _; kernel_rfl
  | 1, _ => show _ = _; kernel_rfl
  | 2, _ => show _ = _; kernel_rfl
  | 3, _ => show _ = _; kernel_rfl
  | 4, _ => show _ = _; kernel_rfl
  | 5, _ => show _ = _; kernel_rfl
  | 6, _ => show _ = _; kernel_rfl
  | 7, _ => show _ = _; kernel_rfl
  | 8, _ => show _ = _; kernel_rfl
  | 9, _ => show _ = _; kernel_rfl
  | 10, _ => show _ = _; kernel_rfl
  | 11, _ => show _ = _; kernel_rfl
  | 12, _ => show _ = _; kernel_rfl
  | 13, _ => show _ = _; kernel_rfl
  | 14, _ => show _ = _; kernel_rfl
  | 15, _ => show _ = _; kernel_rfl
  | n + 16, h => exact absurd h (by omega)

set_option maxHeartbeats 400000 in
theorem hex_any (z : List UInt8) (w : World) (h0 : z.length = 32) :
    Calls Try.prog 55 #[.agg (bA z)] w fun e w' => e = .returned (.string ⟨(hexL z).toArray⟩) ∧ Below w.heap.size w w' := by
  obtain ⟨i0, hi, hz0, hz1, hz2⟩ := info_parts info5
  have H0 := Lib.hid h0
  clear h0
  go_enter Try.func55, Try.ntmps55
  go_wp2_with (first
    | (at_make; refine wpList_make_own _ rfl _ _ 27 rfl w.heap.size 5 i0 _ 1 Try.underlying27 hi hz0 hz1 _ _ _ 64 rfl rfl rfl (by rw [hz2]; omega) (by unfold maxLen; omega) (by simp) ?_; intro w1 hown hgrow)
    | (refine wpList_load_row rfl 23 _ rfl w.heap.size rfl 23 (bA z) (0,0) _ (hgrow.block _ (by simp) (by simp) |>.trans (heap_alloc_new _ _)) Try.underlying23 rfl (by rw [size_bA, H0.out]; exact size23) ?_))
  have hb0 : Below w.heap.size w w1 := ((Below.refl _ _).alloc (Nat.le_refl _) _).grown hgrow (by simp) (by simp)
  go_loopw [3, 8] (fun v3 v8 wr => ∃ k : Nat, k ≤ 32 ∧ v8 = .int .i64 k ∧ v3 = .slice (some ⟨w.heap.size + 1, 0, none⟩) (2 * k) 64 ∧ wr.ownsRow w.heap.size 5 1 (.slice (some ⟨w.heap.size + 1, 0, none⟩) (2 * k) 64) (2 * k) (bL (hexL (z.take k))) ∧ Below w.heap.size w wr) (fun _ v8 _ => 32 - (intOf v8).toNat)
  case atStart => exact ⟨0, by omega, rfl, rfl, by simpa [hexL, bL] using hown, hb0⟩
  case round =>
    obtain ⟨k, hk, rfl, rfl, ho, hb⟩ := hrel
    by_cases hlt : k < 32
    · obtain ⟨c, hc⟩ : ∃ c, z[k]? = some c := ⟨z[k]'(by rw [H0.out]; exact hlt), List.getElem?_eq_getElem _⟩
      have hix : ∀ W, (Instr.index 23 (.agg (bA z)) (.int .i64 (k : Int))).run Try.prog W = .ok (.int .u8 (c.toNat : Int)) W := run_index_agg Try.underlying23 _ Try.underlying5 rfl size5 _ k hlt _ (bA_get z k c hc) _
      have hcl := toNat_le c
      have hx1 : ∀ W, (Instr.index 9 (.string { data := #[48, 49, 50, 51, 52, 53, 54, 55, 56, 57, 97, 98, 99, 100, 101, 102] }) (.int .u8 ((c.toNat : Int) / 16))).run Try.prog W = .ok (.int .u8 ((hexD (c.toNat / 16)).toNat : Int)) W := fun W => by
        have := run_index_hex W (c.toNat / 16) (by have := c.toNat_lt; omega)
        simpa using this
      have hx2 : ∀ W, (Instr.index 9 (.string { data := #[48, 49, 50, 51, 52, 53, 54, 55, 56, 57, 97, 98, 99, 100, 101, 102] }) (.int .u8 ((c.toNat : Int) % 16))).run Try.prog W = .ok (.int .u8 ((hexD (c.toNat % 16)).toNat : Int)) W := fun W => by
        have := run_index_hex W (c.toNat % 16) (by omega)
        simpa using this
      have hb15 : bits .and .u8 (c.toNat : Int) 15 = (c.toNat : Int) % 16 := u8_and15 _ (toNat_ge c) (by omega)
      have HC := Lib.hid hc
      clear hc
      have hfit : 2 * k + 2 ≤ 64 := by omega
      go_wp2_with fail
      go_region_held3 (fun _ => True) (trivial) ((refine step_of_wp (by rfl) ?_; refine wp_append_fits _ _ _ _ (by rfl) w.heap.size 5 i0 1 Try.underlying27 hi hz1 (w.heap.size + 1) (2 * k) 64 (bL (hexL (z.take k))) (by rfl) ((ho.alloc _).drew) ⟨wr.heap.size, 0, none⟩ 2 2 (bL [hexD (c.toNat / 16), hexD (c.toNat % 16)]) (by rfl) (by rfl) (World.news_of_block (cs := (bL [hexD (c.toNat / 16), hexD (c.toNat % 16)]).toArray) (t := 5) (fr := (0, 0)) (heap_alloc_new wr _)) (bL_one _) hfit ?_; intro w2 hown2 hgrow2))
      all_goals
        go_wp2
        go_roundw
        case rel => exact ⟨k + 1, by omega, by go_num, by simp [Nat.mul_add], by rw [hexL_snoc z k c HC.out, bL_app]; simpa [Nat.mul_add] using hown2, (hb.alloc hb.size _).drew.grown hgrow2 (by simp; have := hb.size; omega) (by simp)⟩
        case measure => simp [intOf]; omega
    · obtain rfl : k = 32 := by omega
      have hcv : (convert 27 9 (.slice (some ⟨w.heap.size + 1, 0, none⟩) 64 64)).run Try.prog wr = .ok (.string ⟨(hexL z).toArray⟩) wr := by
        have ht : z.take 32 = z := List.take_of_length_le (by rw [H0.out]; omega)
        rw [ht] at ho
        exact run_conv_reads 64 Try.underlying27 Try.underlying5 Try.underlying9 (Reads.of_own ho)
      go_wp2
      go_ret
      exact ⟨rfl, hb⟩

theorem worth_any (c : Int) (w : World) (h0 : 0 ≤ c) (h1 : c ≤ 255) :
    Calls Try.prog 198 #[.int .u8 c] w fun e w' => e = .returned (.int .i64 (worthZ c)) ∧ w = w' := by
  by_cases a : 48 ≤ c
  · by_cases b : c ≤ 57
    · go_enter Try.func198, Try.ntmps198
      go_wp2
      go_ret
      exact ⟨ret_int (by unfold worthZ; split <;> first | rfl | omega | (split <;> first | rfl | omega)), rfl⟩
    · have b' : 57 < c := by omega
      by_cases d : 97 ≤ c
      · by_cases f : c ≤ 102
        · go_enter Try.func198, Try.ntmps198
          go_wp2
          go_ret
          exact ⟨ret_int (by unfold worthZ; split <;> first | rfl | omega | (split <;> first | rfl | omega)), rfl⟩
        · go_enter Try.func198, Try.ntmps198
          go_wp2
          go_ret
          exact ⟨ret_int (by unfold worthZ; split <;> first | rfl | omega | (split <;> first | rfl | omega)), rfl⟩
      · go_enter Try.func198, Try.ntmps198
        go_wp2
        go_ret
        exact ⟨ret_int (by unfold worthZ; split <;> first | rfl | omega | (split <;> first | rfl | omega)), rfl⟩
  · have d : ¬ 97 ≤ c := by omega
    go_enter Try.func198, Try.ntmps198
    go_wp2
    go_ret
    exact ⟨ret_int (by unfold worthZ; split <;> first | rfl | omega | (split <;> first | rfl | omega)), rfl⟩
end Go.Proofs.Ytgaklngnfecdaaa.Oid


/-
  What Begin and Read return.
-/
namespace Go.Proofs.Ytgaklngnfecdaaa.Oid
open Go.RowKit Zk
set_option linter.unusedVariables false
set_option maxRecDepth 100000

theorem zero30 (W : World) : (zeroValue 85).run Try.prog W = .ok (.agg (pfA z32 0)) W := by kernel_rfl
theorem zero23 (W : World) : (zeroValue 23).run Try.prog W = .ok (.agg (bA z32)) W := by kernel_rfl
theorem pfA_one (z : List UInt8) (n : Int) : ∀ u ∈ (pfA z n).toList, u.oneCell' = true := by
  intro u hu
  simp only [pfA, List.toList_toArray, List.mem_append, List.mem_singleton] at hu
  rcases hu with hu | rfl
  · exact bL_one z u hu
  · rfl
theorem pfA_set (z : List UInt8) (n : Int) (j : Nat) (c : UInt8) (hj : j < z.length) : (pfA z n).setIfInBounds j (.int .u8 (c.toNat : Int)) = pfA (z.set j c) n := by
  simp only [pfA, bL, List.setIfInBounds_toArray, List.map_set]
  rw [List.set_append_left _ _ (by simpa using hj)]
  rfl
theorem pfA_get (z : List UInt8) (n : Int) (j : Nat) (c : UInt8) (h : z[j]? = some c) : (pfA z n)[j]? = some (.int .u8 (c.toNat : Int)) := by
  have hl : j < z.length := (List.getElem?_eq_some_iff.1 h).1
  simp only [pfA, List.getElem?_toArray]
  rw [List.getElem?_append_left (by simpa using hl)]
  exact bL_get z j c h

theorem or_even (d : Nat) (h : d < 16) : bits .or .u8 0 ((d : Int) * 16) = ((UInt8.ofNat (16 * d)).toNat : Int) := by
  have := u8_or_nat 0 (d * 16) (by omega) (by omega)
  simp only [Nat.zero_or] at this
  rw [toNat_ofNat _ (by omega)]
  have e : ((0 : Nat) : Int) = 0 := rfl
  rw [e] at this
  rw [show ((d : Int) * 16) = ((d * 16 : Nat) : Int) by omega, this]
  omega
theorem or_nib (p d : Nat) (hd : d < 16) : (16 * p) ||| d = 16 * p + d := by
  have := Nat.two_pow_add_eq_or_of_lt (i := 4) hd p
  simpa using this.symm
theorem or_odd (p d : Nat) (hp : p < 16) (hd : d < 16) : bits .or .u8 ((UInt8.ofNat (16 * p)).toNat : Int) (d : Int) = ((UInt8.ofNat (16 * p + d)).toNat : Int) := by
  rw [toNat_ofNat _ (by omega), toNat_ofNat _ (by omega), u8_or_nat _ _ (by omega) (by omega), or_nib p d hd]

set_option maxHeartbeats 400000 in
theorem begin_long (s : ByteArray) (w : World) (h : 64 < s.size) :
    Calls Try.prog 184 #[.string s] w fun e w' => e = .returned (.tuple #[.agg (pfA z32 0), .int .i64 3]) ∧ Below w.heap.size w w' := by
  go_enter Try.func184, Try.ntmps184
  go_wp2_with (first
    | (refine wpList_alB rfl 85 rfl _ zero30 ?_; intro w1 hb1 hg1)
    | (refine wpList_stW rfl 85 _ _ rfl w.heap.size rfl (pfA z32 0) rfl 85 (pfA z32 0) hb1 size30 (by rfl) (pfA_one _ _) ?_; intro w2 hb2 hg2))
  refine bodyPost_ret (resB_t rfl _ rfl hb2 _ Try.underlying85 rfl size30) rfl ⟨rfl, ?_⟩
  exact ((Below.refl _ _).grown hg1 (Nat.le_refl _) (by simp)).grown hg2 hg1.size (by simp)

set_option maxHeartbeats 400000 in
theorem begin_short (s : ByteArray) (w : World) (h : s.size ≤ 64) :
    Calls Try.prog 184 #[.string s] w fun e w' => ((okS s.data.toList = true ∧ e = .returned (.tuple #[.agg (pfA (idOf s.data.toList) s.size), .int .i64 0])) ∨ (okS s.data.toList = false ∧ e = .returned (.tuple #[.agg (pfA z32 0), .int .i64 14]))) ∧ Below w.heap.size w w' := by
  go_enter Try.func184, Try.ntmps184
  go_wp2_with (first
    | (refine wpList_alB (o := ⟨some 2, _, _, _, _, _⟩) rfl 85 rfl _ zero30 ?_; intro w1 hb1 hg1)
    | (refine wpList_alB (o := ⟨some 4, _, _, _, _, _⟩) rfl 85 rfl _ zero30 ?_; intro w2 hb2 hg2)
    | (refine wpList_stW rfl 85 _ _ rfl w1.heap.size rfl (pfA z32 s.size) rfl 85 (pfA z32 0) hb2 size30 (by rfl) (pfA_one _ _) ?_; intro w3 hb3 hg3))
  have hB3 : Below w.heap.size w w3 := (((Below.refl _ _).grown hg1 (Nat.le_refl _) (by simp)).grown hg2 hg1.size (by simp)).grown hg3 (Nat.le_trans hg1.size hg2.size) (by have := hg1.size; simp; omega)
  have hlt1 : w.heap.size < w1.heap.size := hb1.lt
  have hr3 : Blk w3 w.heap.size 85 (pfA z32 0) := (hb1.grown hg2 (by simp)).grown hg3 (by simp; omega)
  go_loopw [16] (fun v16 wr => ∃ k : Nat, k ≤ s.size ∧ v16 = .int .i64 k ∧ okS (s.data.toList.take k) = true ∧ Blk wr w.heap.size 85 (pfA z32 0) ∧ Blk wr w1.heap.size 85 (pfA (idOf (s.data.toList.take k)) s.size) ∧ Below w.heap.size w wr) (fun v16 _ => s.size - (intOf v16).toNat)
  case atStart => exact ⟨0, by omega, rfl, rfl, hr3, hb3, hB3⟩
  case round =>
    obtain ⟨k, hk, rfl, hok, hr, hbk, hB⟩ := hrel
    have HK := Lib.hid hok
    clear hok
    by_cases hlt : k < s.size
    · obtain ⟨c, hc⟩ : ∃ c, s.data.toList[k]? = some c := ⟨s.data.toList[k]'(by rw [size_toList]; exact hlt), List.getElem?_eq_getElem _⟩
      have hix := run_index_str Try.underlying9 s k c hc .i64
      have hcl := toNat_le c
      by_cases hd : isD c = true
      · have hw := worth_dN c hd
        have hdl := dN_lt c
        have hok2 : okS (s.data.toList.take (k + 1)) = true := by rw [okS_snoc _ k c hc, HK.out, hd]; rfl
        have HO2 := Lib.hid hok2
        have HW := Lib.hid hw
        have HD := Lib.hid hd
        clear hok2 hw hd
        by_cases hp : k % 2 = 0
        · obtain ⟨_, h1, h2⟩ := idOf_even _ k c hc hp
          have hget := pfA_get (idOf (s.data.toList.take k)) s.size (k / 2) 0 (h2 (by omega))
          have hcell := (hbk.cell (k / 2)).trans hget
          have hfr := hbk.frozen (k / 2)
          have hp' : (k : Int) % 2 = 0 := by omega
          have H1 := Lib.hid h1
          have HC := Lib.hid hc
          clear h1 h2 hget hc hp
          go_wp2_with (go_at_call 198; refine (worth_any _ _ (by omega) (by omega)).mono ?_; rw [HW.out]; rintro e w' ⟨rfl, rfl⟩)
          go_roundw
          case rel => exact ⟨k + 1, by omega, by go_num, HO2.out, hr.far (by simp; omega) _, by rw [or_even _ hdl, H1.out, ← pfA_set _ _ _ _ (by simp; omega)]; exact hbk.set_ _ _, hB.setCell (by simp; omega) _⟩
          case measure => simp [intOf]; omega
        · have hp1 : k % 2 = 1 := by omega
          obtain ⟨h1, h2⟩ := idOf_odd _ k c hc hp1
          have hget := pfA_get (idOf (s.data.toList.take k)) s.size (k / 2) _ (h2 (by omega))
          have hdl2 := dg_lt s.data.toList (k - 1)
          have hcell := (hbk.cell (k / 2)).trans hget
          have hfr := hbk.frozen (k / 2)
          have hp' : (k : Int) % 2 = 1 := by omega
          have H1 := Lib.hid h1
          have HC := Lib.hid hc
          clear h1 h2 hget hc hp hp1
          generalize hold : UInt8.ofNat (16 * dg s.data.toList (k - 1)) = old at hcell
          have HOL := Lib.hid hold
          clear hold
          go_wp2_with (go_at_call 198; refine (worth_any _ _ (by omega) (by omega)).mono ?_; rw [HW.out]; rintro e w' ⟨rfl, rfl⟩)
          go_roundw
          case rel => exact ⟨k + 1, by omega, by go_num, HO2.out, hr.far (by simp; omega) _, by rw [← HOL.out, or_odd _ _ hdl2 hdl, H1.out, ← pfA_set _ _ _ _ (by simp; omega)]; exact hbk.set_ _ _, hB.setCell (by simp; omega) _⟩
          case measure => simp [intOf]; omega
      · have hd' : isD c = false := by simpa using hd
        have hno := okS_not _ k c hc hd'
        have hw := worth_no c hd'
        have HNO := Lib.hid hno
        have HW := Lib.hid hw
        have HC := Lib.hid hc
        clear hno hw hd hd' hc
        go_wp2_with (first
          | (go_at_call 198; refine (worth_any _ _ (by omega) (by omega)).mono ?_; rw [HW.out]; rintro e w' ⟨rfl, rfl⟩)
          | (refine wpList_stW rfl 85 _ _ rfl w.heap.size rfl (pfA z32 0) rfl 85 (pfA z32 0) hr size30 (by rfl) (pfA_one _ _) ?_; intro w4 hb4 hg4))
        refine bodyPost_ret (resB_t rfl _ rfl hb4 _ Try.underlying85 rfl size30) rfl ⟨.inr ⟨HNO.out, rfl⟩, hB.grown hg4 hB.size (by simp)⟩
    · obtain rfl : k = s.size := by omega
      have ht : s.data.toList.take s.size = s.data.toList := List.take_of_length_le (by rw [size_toList]; omega)
      have HT := Lib.hid ht
      have hsz := size_pfA (idOf (s.data.toList.take s.size)) s.size (by simp)
      have HS := Lib.hid hsz
      clear ht hsz
      go_wp2_with (first
        | (refine wpList_load_row rfl 85 _ rfl w1.heap.size rfl 85 _ (0,0) _ hbk Try.underlying85 rfl (by rw [HS.out]; exact size30) ?_)
        | (refine wpList_stW rfl 85 _ _ rfl w.heap.size rfl _ rfl 85 (pfA z32 0) hr (by rw [HS.out]; exact size30) (by rw [HS.out]; rfl) (pfA_one _ _) ?_; intro w4 hb4 hg4))
      refine bodyPost_ret (resB_t rfl _ rfl hb4 _ Try.underlying85 rfl (by rw [HS.out]; exact size30)) rfl ⟨.inl ⟨by rw [← HK.out, HT.out], ?_⟩, hB.grown hg4 hB.size (by simp)⟩
      simp [HT.out]
end Go.Proofs.Ytgaklngnfecdaaa.Oid


/-
  The reference's Begin and Read; Read of package oid.
-/
namespace Go.Proofs.Ytgaklngnfecdaaa.Oid
open Go.RowKit Zk
set_option linter.unusedVariables false
set_option maxRecDepth 100000

theorem worth_hexD (n : Nat) (h : n < 16) : worthZ ((hexD n).toNat : Int) = n := by
  match n, h with
  | 0, _ => rfl
  | 1, _ => rfl
  | 2, _ => rfl
  | 3, _ => rfl
  | 4, _ => rfl
  | 5, _ => rfl
  | 6, _ => rfl
  | 7, _ => rfl
  | 8, _ => rfl
  | 9, _ => rfl
  | 10, _ => rfl
  | 11, _ => rfl
  | 12, _ => rfl
  | 13, _ => rfl
  | 14, _ => rfl
  | 15, _ => rfl
  | n + 16, h => exact absurd h (by omega)
theorem worth_of (c : UInt8) (n : Nat) (h : worthZ (c.toNat : Int) = n) : c = hexD n ∧ n < 16 := by
  unfold worthZ at h
  have hc := c.toNat_lt
  split at h
  · have hn : n = c.toNat - 48 := by omega
    refine ⟨?_, by omega⟩
    apply UInt8.toNat_inj.1
    unfold hexD
    rw [if_pos (by omega), toNat_ofNat _ (by omega)]
    omega
  · split at h
    · have hn : n = c.toNat - 87 := by omega
      refine ⟨?_, by omega⟩
      apply UInt8.toNat_inj.1
      unfold hexD
      rw [if_neg (by omega), toNat_ofNat _ (by omega)]
      omega
    · omega

theorem bA_set (z : List UInt8) (j : Nat) (c : UInt8) : (bA z).setIfInBounds j (.int .u8 (c.toNat : Int)) = bA (z.set j c) := by
  simp only [bA, bL, List.setIfInBounds_toArray, List.map_set]
  rfl

end Go.Proofs.Ytgaklngnfecdaaa.Oid


/-
  Read of package oid and of the reference; the reference's Digits and Hex.
-/
namespace Go.Proofs.Ytgaklngnfecdaaa.Oid
open Go.RowKit Zk
set_option linter.unusedVariables false
set_option maxRecDepth 100000

theorem begin_any (s : ByteArray) (w : World) :
    Calls Try.prog 184 #[.string s] w fun e w' => e = .returned (.tuple #[.agg (pfA (beginR s.data.toList).1 (beginR s.data.toList).2.1), .int .i64 (beginR s.data.toList).2.2]) ∧ Below w.heap.size w w' := by
  by_cases h : 64 < s.size
  · refine (begin_long s w h).mono ?_
    rintro e w' ⟨rfl, hb⟩
    exact ⟨by simp [beginR, h], hb⟩
  · refine (begin_short s w (by omega)).mono ?_
    rintro e w' ⟨⟨hk, rfl⟩ | ⟨hk, rfl⟩, hb⟩
    · exact ⟨by simp [beginR, h, hk], hb⟩
    · exact ⟨by simp [beginR, h, hk], hb⟩
@[simp] theorem length_z32 : z32.length = 32 := by simp [z32]
theorem length_beginR (s : List UInt8) : (beginR s).1.length = 32 := by
  unfold beginR
  split
  · rfl
  · split
    · simp
    · rfl
/-- What Read returns. -/
def readR (s : List UInt8) : List UInt8 × Int := if s.length = 64 then ((beginR s).1, (beginR s).2.2) else (z32, 3)


theorem pfA_take (z : List UInt8) (n : Int) (h : z.length = 32) : ((pfA z n).toList.drop 0).take (bL z).length = bL z := by
  simp [pfA]
theorem size23L (z : List UInt8) (h : z.length = 32) : (Try.prog.info? 23).map (·.size) = some (bL z).length := by rw [length_bL, h]; exact size23
theorem size23A (z : List UInt8) (h : z.length = 32) : (Try.prog.info? 23).map (·.size) = some (bA z).size := by rw [size_bA, h]; exact size23
theorem size30A (z : List UInt8) (n : Int) (h : z.length = 32) : (Try.prog.info? 85).map (·.size) = some (pfA z n).size := by rw [size_pfA z n h]; exact size30
theorem bA_z32 (z : List UInt8) (h : z.length = 32) : (bA z).size = (bA z32).size := by simp [h]
theorem pfA_z32 (z : List UInt8) (n m : Int) (h : z.length = 32) : (pfA z n).size = (pfA z32 m).size := by rw [size_pfA z n h, size_pfA _ _ rfl]

set_option maxHeartbeats 400000 in
theorem read_any (s : ByteArray) (w : World) :
    Calls Try.prog 160 #[.string s] w fun e w' => e = .returned (.tuple #[.agg (bA (readR s.data.toList).1), .int .i64 (readR s.data.toList).2]) ∧ Below w.heap.size w w' := by
  by_cases h : s.size = 64
  · have h1 : ((s.size : Int) != 64) = false := by simp [h]
    have HR : Hid (readR s.data.toList = ((beginR s.data.toList).1, (beginR s.data.toList).2.2)) := by
      show readR s.data.toList = _
      unfold readR
      rw [if_pos (by rw [size_toList]; exact h)]
    have HL := Lib.hid (length_beginR s.data.toList)
    clear h
    go_enter Try.func160, Try.ntmps160
    go_wp2_with (first
      | (refine wpList_alB (o := ⟨some 2, _, _, _, _, _⟩) rfl 23 rfl _ zero23 ?_; intro w1 hb1 hg1)
      | (go_at_call 184; refine (begin_any s w1).mono ?_; rintro e w2 ⟨rfl, hB2⟩)
      | (refine wpList_alB (o := ⟨some 4, _, _, _, _, _⟩) rfl 85 rfl _ zero30 ?_; intro w3 hb3 hg3)
      | (refine wpList_stW rfl 85 _ _ rfl w2.heap.size rfl (pfA _ _) rfl 85 (pfA z32 0) hb3 (size30A _ _ HL.out) (pfA_z32 _ _ _ HL.out) (pfA_one _ _) ?_; intro w4 hb4 hg4)
      | (refine wpList_ldB rfl 23 _ rfl w2.heap.size 0 rfl 85 _ hb4 (bL _) (pfA_take _ _ HL.out) _ Try.underlying23 rfl (size23L _ HL.out) ?_)
      | (refine wpList_stW rfl 23 _ _ rfl w.heap.size rfl (bA (beginR s.data.toList).1) rfl 23 (bA z32) (((hb1.below hB2 hb1.lt).grown hg3 (by simp)).grown hg4 (by have := hb1.lt; have := hB2.size; simp; omega)) (size23A _ HL.out) (bA_z32 _ HL.out) (bL_one _) ?_; intro w5 hb5 hg5))
    refine bodyPost_ret (resB_t rfl _ rfl hb5 _ Try.underlying23 rfl (size23A _ HL.out)) rfl ⟨by rw [HR.out]; rfl, ?_⟩
    have hs1 := hg1.size
    have hs2 := hB2.size
    have hs3 := hg3.size
    have hs4 := hg4.size
    exact (((((Below.refl _ _).grown hg1 (Nat.le_refl _) (by simp)).trans (hB2.mono hs1)).grown hg3 (by omega) (by simp)).grown hg4 (by omega) (by simp; omega)).grown hg5 (by omega) (by simp)
  · have h1 : ((s.size : Int) != 64) = true := by rw [bne_iff_ne]; omega
    have HR : Hid (readR s.data.toList = (z32, 3)) := by
      show readR s.data.toList = _
      unfold readR
      rw [if_neg (by rw [size_toList]; exact h)]
    clear h
    go_enter Try.func160, Try.ntmps160
    go_wp2_with (first
      | (refine wpList_alB (o := ⟨some 2, _, _, _, _, _⟩) rfl 23 rfl _ zero23 ?_; intro w1 hb1 hg1)
      | (refine wpList_stW rfl 23 _ _ rfl w.heap.size rfl (bA z32) rfl 23 (bA z32) hb1 size23 rfl (bL_one _) ?_; intro w5 hb5 hg5))
    refine bodyPost_ret (resB_t rfl _ rfl hb5 _ Try.underlying23 rfl size23) rfl ⟨by rw [HR.out]; rfl, ?_⟩
    exact ((Below.refl _ _).grown hg1 (Nat.le_refl _) (by simp)).grown hg5 hg1.size (by simp)

def digL (z : List UInt8) : List Int := z.flatMap fun c => [(c.toNat : Int) / 16, (c.toNat : Int) % 16]
end Go.Proofs.Ytgaklngnfecdaaa.Oid


/-
  The reference's Hex; cut, Right and Fits of package oid; works.
-/
namespace Go.Proofs.Ytgaklngnfecdaaa.Oid
open Go.RowKit Zk
set_option linter.unusedVariables false
set_option maxRecDepth 100000

theorem length_hexL (z : List UInt8) : (hexL z).length = 2 * z.length := by
  induction z with
  | nil => rfl
  | cons c z ih => simp [hexL] at ih ⊢; omega
def cutL (z : List UInt8) (n : Nat) : List UInt8 := (List.range 32).map fun j => if j < n / 2 then z.getD j 0 else if j = n / 2 ∧ n % 2 = 1 then UInt8.ofNat ((z.getD j 0).toNat / 16 * 16) else 0
@[simp] theorem length_cutL (z : List UInt8) (n : Nat) : (cutL z n).length = 32 := by simp [cutL]

theorem and_240 : ∀ x : Fin 256, x.val &&& 240 = x.val / 16 * 16 := by decide +kernel
theorem and240 (c : UInt8) : bits .and .u8 (c.toNat : Int) 240 = ((UInt8.ofNat (c.toNat / 16 * 16)).toNat : Int) := by
  have hc := c.toNat_lt
  have := u8_and_nat c.toNat 240 hc (by omega)
  have e : ((240 : Nat) : Int) = 240 := rfl
  rw [e] at this
  rw [this, and_240 ⟨c.toNat, hc⟩, toNat_ofNat _ (by omega)]
theorem cutL_get (z : List UInt8) (n j : Nat) (h : j < 32) : (cutL z n)[j]? = some (if j < n / 2 then z.getD j 0 else if j = n / 2 ∧ n % 2 = 1 then UInt8.ofNat ((z.getD j 0).toNat / 16 * 16) else 0) := by
  simp only [cutL, List.getElem?_map, List.getElem?_range h, Option.map_some]
theorem z32_drop (m i : Nat) (h : m + i < 32) : (z32.drop m)[i]? = some 0 := by
  rw [List.getElem?_drop]
  unfold z32
  rw [List.getElem?_replicate, if_pos h]
theorem cutL_even (z : List UInt8) (n : Nat) (h : z.length = 32) (hn : n ≤ 64) (hp : n % 2 = 0) : z.take (n / 2) ++ z32.drop (n / 2) = cutL z n := by
  apply List.ext_getElem?
  intro j
  by_cases hj : j < 32
  · rw [cutL_get z n j hj]
    by_cases h1 : j < n / 2
    · rw [if_pos h1, List.getElem?_append_left (by simp; omega), List.getElem?_take, if_pos h1]
      simp [h, hj]
    · rw [if_neg h1, if_neg (by omega), List.getElem?_append_right (by simp; omega)]
      rw [z32_drop _ _ (by simp; omega)]
  · rw [List.getElem?_eq_none (by simp; omega), List.getElem?_eq_none (by simp; omega)]
theorem cutL_odd (z : List UInt8) (n : Nat) (c : UInt8) (h : z.length = 32) (hn : n ≤ 64) (hp : n % 2 = 1) (hc : z[n / 2]? = some c) :
    (z.take (n / 2) ++ z32.drop (n / 2)).set (n / 2) (UInt8.ofNat (c.toNat / 16 * 16)) = cutL z n := by
  apply List.ext_getElem?
  intro j
  rw [List.getElem?_set]
  by_cases hj : j < 32
  · rw [cutL_get z n j hj]
    by_cases h1 : j < n / 2
    · rw [if_pos h1, if_neg (by omega), List.getElem?_append_left (by simp; omega), List.getElem?_take, if_pos h1]
      simp [h, hj]
    · rw [if_neg h1]
      by_cases h2 : n / 2 = j
      · rw [if_pos h2, if_pos (by simp; omega), if_pos ⟨h2.symm, hp⟩]
        subst h2
        simp [List.getD, hc]
      · rw [if_neg h2, if_neg (by omega), List.getElem?_append_right (by simp; omega)]
        rw [z32_drop _ _ (by simp; omega)]
  · rw [List.getElem?_eq_none (by simp; omega), List.getElem?_eq_none (by simp; omega)]
    split
    · rw [if_neg (by simp; omega)]
    · rfl
theorem slice23 (g h : Nat) (hh : h ≤ 32) (W : World) : (Instr.sliceAt 23 (.pointer (some ⟨g, 0, none⟩)) none (some (.int .i64 (h : Int))) none).run Try.prog W = .ok (.slice (some ⟨g, 0, none⟩) h 32) W := by
  have hal : Try.prog.arrayLen 23 = 32 := by kernel_rfl
  have := run_sliceAt_array_h (P := Try.prog) W 23 ⟨g, 0, none⟩ (by rw [hal]; exact Try.underlying23) .i64 (h : Int) (by omega) (by rw [hal]; omega)
  rw [this, hal]
  have hs : (sizeOf (Try.prog.elem 23)).run Try.prog W = .ok 1 W := by kernel_rfl
  rw [hs]
  simp [slicedAt, Result.andThen, Addr.add]
theorem cut_src (z : List UInt8) (n g : Nat) (w : World) (h : z.length = 32) (hn : n ≤ 64) (hb : Blk w g 23 (bA z)) : Reads w (g + 1) 1 (some ⟨g, 0, none⟩) (bL (z.take (n / 2))).length (bL (z.take (n / 2))) := by
  have := hb.reads 0 (n / 2) (by simp; omega)
  have e : ((bA z).toList.drop 0).take (n / 2) = bL (z.take (n / 2)) := by simp [bA, bL, List.map_take]
  rw [e] at this
  have e2 : (bL (z.take (n / 2))).length = n / 2 := by simp; omega
  rw [e2]
  exact this

set_option maxHeartbeats 400000 in
theorem cut_any (z : List UInt8) (n : Nat) (w : World) (h0 : z.length = 32) (hn : n ≤ 64) :
    Calls Try.prog 164 #[.agg (bA z), .int .i64 (n : Int)] w fun e w' => e = .returned (.agg (bA (cutL z n))) ∧ Below w.heap.size w w' := by
  have H0 := Lib.hid h0
  clear h0
  go_enter Try.func164, Try.ntmps164
  go_wp2_with (first
    | (refine wpList_bxB rfl 23 _ rfl (bA z) rfl ?_; intro w1 hb1 hg1)
    | (refine wpList_alB (o := ⟨some 4, _, _, _, _, _⟩) rfl 23 rfl _ zero23 ?_; intro w2 hb2 hg2)
    | (refine wpList_alB (o := ⟨some 5, _, _, _, _, _⟩) rfl 23 rfl _ zero23 ?_; intro w3 hb3 hg3))
  have hw2 : IntKind.i64.wrap ((n : Int) / 2) = (n : Int) / 2 := IntWalk.i64_in _ (by omega)
  have hsl : ∀ (g : Nat) (W : World), (Instr.sliceAt 23 (.pointer (some ⟨g, 0, none⟩)) none (some (.int .i64 ((n : Int) / 2))) none).run Try.prog W = .ok (.slice (some ⟨g, 0, none⟩) (n / 2) 32) W := fun g W => by simpa using slice23 g (n / 2) (by omega) W
  go_region_held3 (fun _ => True) (trivial) (first | (refine step_of_wp (by rfl) ?_; refine wp_copyB _ _ _ 27 27 (by rfl) 5 Try.underlying27 size5 w2.heap.size 0 (n / 2) 32 (by rfl) (by rfl) (hb3.drew) (bL (z.take (n / 2))) (by simp; have := H0.out; omega) (cut_src z n _ _ H0.out hn ((hb1.grown hg2 (by simp)).grown hg3 (by simp)).drew) (by show _ ≤ (bA z32).size; simp; omega) (bL_one _) ?_; intro w4 hb4 hg4))
  all_goals
    replace hb4 : Blk w4 w2.heap.size 23 (bA (z.take (n / 2) ++ z32.drop (n / 2))) := by
      have e : ((bA z32).toList.take 0 ++ bL (z.take (n / 2)) ++ (bA z32).toList.drop (0 + (bL (z.take (n / 2))).length)).toArray = bA (z.take (n / 2) ++ z32.drop (n / 2)) := by
        have hl : (bL (z.take (n / 2))).length = n / 2 := by simp; have := H0.out; omega
        rw [hl]
        simp [bA, bL, List.map_drop]
      rw [← e]
      exact hb4
    have hz4 : Blk w4 w.heap.size 23 (bA z) := (((hb1.grown hg2 (by simp)).grown hg3 (by simp)).drew).grown hg4 (by have := hb1.lt; have := hb2.lt; simp; omega)
    have hr4 : Blk w4 w1.heap.size 23 (bA z32) := ((hb2.grown hg3 (by simp)).drew).grown hg4 (by have := hb2.lt; simp; omega)
    have hB4 : Below w.heap.size w w4 := (((((Below.refl _ _).grown hg1 (Nat.le_refl _) (by simp)).grown hg2 hg1.size (by simp)).grown hg3 (Nat.le_trans hg1.size hg2.size) (by simp)).drew).grown hg4 (by simp; have := hg1.size; have := hg2.size; have := hg3.size; omega) (by simp; have := hg1.size; have := hg2.size; omega)
    have hs2 : w.heap.size ≤ w1.heap.size := hg1.size
    have hs3 : w.heap.size < w2.heap.size := Nat.lt_of_lt_of_le hb1.lt hg2.size
    have hs4 : w1.heap.size < w2.heap.size := hb2.lt
    by_cases hp : n % 2 = 1
    · have hp' : (n : Int) % 2 = 1 := by omega
      obtain ⟨c, hc⟩ : ∃ c, z[n / 2]? = some c := ⟨z[n / 2]'(by rw [H0.out]; omega), List.getElem?_eq_getElem _⟩
      have hcl := toNat_le c
      have hcell := (hz4.cell (n / 2)).trans (bA_get z _ c hc)
      have h240 := and240 c
      obtain ⟨c2, hc2⟩ : ∃ v, (bA (z.take (n / 2) ++ z32.drop (n / 2)))[n / 2]? = some v := ⟨_, Array.getElem?_eq_getElem (by simp; have := H0.out; omega)⟩
      have hcell2 := (hb4.cell (n / 2)).trans hc2
      have hfr := hb4.frozen (n / 2)
      have hq0 : 0 ≤ (n : Int) / 2 := by omega
      have hq1 : (n : Int) / 2 < 32 := by omega
      have HC := Lib.hid hc
      have HP := Lib.hid hp
      have hset := hb4.set_ (n / 2) (.int .u8 ((UInt8.ofNat (c.toNat / 16 * 16)).toNat : Int))
      rw [bA_set, cutL_odd z n c H0.out hn hp hc] at hset
      clear hc hp hc2
      go_wp2_with (first
        | (refine wpList_load_row rfl 23 _ rfl w2.heap.size rfl 23 _ (0,0) _ hset Try.underlying23 rfl (size23A _ (length_cutL _ _)) ?_)
        | (refine wpList_stW rfl 23 _ _ rfl w1.heap.size rfl (bA (cutL z n)) rfl 23 (bA z32) (hr4.far (by simp; omega) _) (size23A _ (length_cutL _ _)) (bA_z32 _ (length_cutL _ _)) (bL_one _) ?_; intro w5 hb5 hg5))
      refine bodyPost_ret (resB rfl _ rfl hb5 _ Try.underlying23 rfl (size23A _ (length_cutL _ _))) rfl ⟨rfl, ?_⟩
      exact (hB4.setCell (by simp; omega) _).grown hg5 (by simp; exact hB4.size) (by simp; omega)
    · have hp0 : n % 2 = 0 := by omega
      have hp' : (n : Int) % 2 = 0 := by omega
      rw [cutL_even z n H0.out hn hp0] at hb4
      clear hp hp0
      go_wp2_with (first
        | (refine wpList_load_row rfl 23 _ rfl w2.heap.size rfl 23 _ (0,0) _ hb4 Try.underlying23 rfl (size23A _ (length_cutL _ _)) ?_)
        | (refine wpList_stW rfl 23 _ _ rfl w1.heap.size rfl (bA (cutL z n)) rfl 23 (bA z32) hr4 (size23A _ (length_cutL _ _)) (bA_z32 _ (length_cutL _ _)) (bL_one _) ?_; intro w5 hb5 hg5))
      refine bodyPost_ret (resB rfl _ rfl hb5 _ Try.underlying23 rfl (size23A _ (length_cutL _ _))) rfl ⟨rfl, ?_⟩
      exact hB4.grown hg5 (by exact hB4.size) (by simp; omega)
end Go.Proofs.Ytgaklngnfecdaaa.Oid


/-
  Right and Fits of package oid; works.
-/
namespace Go.Proofs.Ytgaklngnfecdaaa.Oid
open Go.RowKit Zk
set_option linter.unusedVariables false
set_option maxRecDepth 100000

theorem fields30 : (Try.prog.fieldsOf 85).toList = [{ name := "ID", type := 23, offset := 0, embedded := false, tag := "", pkgPath := "", byteOffset := 0 }, { name := "N", type := 3, offset := 32, embedded := false, tag := "", pkgPath := "", byteOffset := 32 }] := by kernel_rfl
theorem guard23 : Try.prog.eqGuardType Try.prog.depth 23 = false := by kernel_rfl
theorem guard30 : Try.prog.eqGuardType Try.prog.depth 85 = false := by kernel_rfl
theorem part30_0 (z : List UInt8) (n : Int) (h : z.length = 32) (W : World) : (part 23 (pfA z n) 0).run Try.prog W = .ok (.agg (bA z)) W := by
  have hagg : (isAgg 23).run Try.prog W = .ok true W := by kernel_rfl
  have e : (pfA z n).extract 0 32 = bA z := by
    simp only [pfA, bA, List.extract_toArray, List.extract_eq_take_drop]
    congr 1
    simp [h]
  simp [part, Sem.run_bind, hagg, e]
theorem part30_1 (z : List UInt8) (n : Int) (h : z.length = 32) (W : World) : (part 3 (pfA z n) 32).run Try.prog W = .ok (.int .i64 n) W := by
  have hagg : (isAgg 3).run Try.prog W = .ok false W := by kernel_rfl
  have e : (pfA z n)[32]? = some (.int .i64 n) := by
    simp only [pfA, List.getElem?_toArray]
    rw [List.getElem?_append_right (by simp [h])]
    simp [h]
  simp [part, Sem.run_bind, hagg, e]
theorem eq30 (a b : List UInt8) (n m : Int) (ha : a.length = 32) (hb : b.length = 32) (W : World) : (Op.equalIn 10000 85 (.agg (pfA a n)) (.agg (pfA b m))).run Try.prog W = .ok (a == b && n == m) W := by
  rw [run_equalIn_struct W 9999 85 _ _ (by kernel_rfl) (by kernel_rfl), fields30]
  have h1 := run_equalIn_bytes W 9997 Try.underlying23 Try.underlying5 size5 a b ha hb _ _ (bA_get a) (bA_get b)
  have h2 := run_equalIn_int W 9998 3 .i64 .i64 n m Try.underlying3
  simp only [Op.eqFields, Sem.run_bind, Sem.run_ite, part30_0 _ _ ha, part30_0 _ _ hb, part30_1 _ _ ha, part30_1 _ _ hb, Result.andThen_ok]
  rw [h1]
  simp only [Result.andThen_ok]
  cases a == b
  · simp
  · simp
    rw [h2]
    cases n == m <;> simp
theorem eql30 (a b : List UInt8) (n m : Int) (ha : a.length = 32) (hb : b.length = 32) (W : World) : (binOp .eql 85 (.agg (pfA a n)) (.agg (pfA b m))).run Try.prog W = .ok (.bool (a == b && n == m)) W := by
  rw [run_eql_struct, eq30 a b n m ha hb]
  rfl
theorem build30_2 (z : List UInt8) (n : Int) (h : z.length = 32) (W : World) : (Instr.build 85 #[(0, .agg (bA z)), (1, .int .i64 n)]).run Try.prog W = .ok (.agg (pfA z n)) W := by
  have hz := zero30 W
  have hf : Instr.fill ((#[(0, 32), (32, 1)] : Array (Nat × Nat))[·]?) (pfA z32 0) [(0, .agg (bA z)), (1, .int .i64 n)] = some (pfA z n) := by
    rw [fill_part _ _ 0 0 32 (bA z) _ rfl _ rfl (by simp [h]) (by rw [size_pfA _ _ rfl]; omega), fill_part _ _ 1 32 1 #[.int .i64 n] _ rfl _ rfl rfl (by simp [h, pfA])]
    simp only [Instr.fill]
    congr 1
    simp [bA, pfA, h]
  simp only [List.getElem?_toArray] at hf
  simp [Instr.build, hz, Value.cells, Sem.run_bind, hf]
def rightB (z : List UInt8) (n : Int) : Bool := decide (0 ≤ n) && (decide (n ≤ 64) && (cutL z n.toNat == z))

theorem pfA_takeA (z : List UInt8) (n : Int) (h : z.length = 32) : ((pfA z n).toList.drop 0).take (bA z).toList.length = (bA z).toList := pfA_take z n h
theorem size23T (z : List UInt8) (h : z.length = 32) : (Try.prog.info? 23).map (·.size) = some (bA z).toList.length := size23L z h
theorem size30T (z : List UInt8) (n : Int) (h : z.length = 32) : (Try.prog.info? 85).map (·.size) = some (pfA z n).toList.length := by rw [Array.length_toList]; exact size30A z n h
theorem pfA_n (z : List UInt8) (n : Int) (h : z.length = 32) : (pfA z n)[32]? = some (.int .i64 n) := by
  simp only [pfA, List.getElem?_toArray]
  rw [List.getElem?_append_right (by simp [h])]
  simp [h]

set_option maxHeartbeats 1000000 in
theorem right_any (z : List UInt8) (n : Int) (w : World) (h0 : z.length = 32) :
    Calls Try.prog 132 #[.agg (pfA z n)] w fun e w' => e = .returned (.bool (rightB z n)) ∧ Below w.heap.size w w' := by
  have H0 := Lib.hid h0
  clear h0
  by_cases a : 0 ≤ n
  · by_cases b : n ≤ 64
    · obtain ⟨m, rfl⟩ := Int.eq_ofNat_of_zero_le a
      have hm : m ≤ 64 := by omega
      have hd2 : decide ((m : Int) ≤ 64) = true := by simpa using b
      go_enter Try.func132, Try.ntmps132
      go_wp2_with (first
        | (refine wpList_bxB rfl 85 _ rfl (pfA z m) rfl ?_; intro w1 hb1 hg1))
      have hc := cell_ext ((hb1.cell 32).trans (pfA_n z m H0.out))
      have hbd := build30_2 (cutL z m) m (length_cutL _ _)
      have hg30 := guard30
      have heq := eql30 z (cutL z m) m m H0.out (length_cutL _ _)
      have heq2 := eq30 z (cutL z m) m m H0.out (length_cutL _ _)
      refine wp_region_ext (by kernel_rfl) (by kernel_rfl) ?_
      repeat (first
        | (refine quiet_ldB (o := ⟨some 12, _, _, _, _, _⟩) (by rfl) 85 _ rfl w.heap.size 0 rfl 85 _ hb1 (pfA z m).toList (whole_take _) _ Try.underlying85 rfl (size30T z m H0.out) ?_; go_frame; simp only [Array.toArray_toList])
        | (refine quiet_ldB (o := ⟨some 14, _, _, _, _, _⟩) (by rfl) 23 _ rfl w.heap.size 0 rfl 85 _ hb1 (bA z).toList (pfA_takeA z m H0.out) _ Try.underlying23 rfl (size23T z H0.out) ?_; go_frame; simp only [Array.toArray_toList])
        | (refine quiet_bd (o := ⟨some 20, _, _, _, _, _⟩) (by rfl) 85 [(0, .tmp 17), (1, .tmp 19)] rfl [(0, .agg (bA (cutL z m))), (1, .int .i64 (m : Int))] rfl (.agg (pfA (cutL z m) m)) hbd ?_; go_frame)
        | go_big_quiet_step ((go_at_call 164; exact calls_ext (cut_any z m _ H0.out hm))))
      refine wpQuiet_nil ?_
      rintro _ ⟨x, rfl⟩
      have hx := ext_below w1 x
      go_wp2
      go_ret
      refine ⟨ret_bool ?_, ((Below.refl _ _).grown hg1 (Nat.le_refl _) (by simp)).trans (hx.mono hg1.size)⟩
      simp only [rightB, a, b, decide_true, Bool.true_and, Int.toNat_natCast]
      rw [Bool.eq_iff_iff, beq_iff_eq, beq_iff_eq, eq_comm]
    · have b' : 64 < n := by omega
      have hd2 : decide (n ≤ 64) = false := by simpa using b'
      have hd1 : decide (0 ≤ n) = true := by simpa using a
      go_enter Try.func132, Try.ntmps132
      go_wp2_with (first
        | (refine wpList_bxB rfl 85 _ rfl (pfA z n) rfl ?_; intro w1 hb1 hg1))
      have hc := cell_ext ((hb1.cell 32).trans (pfA_n z n H0.out))
      refine wp_region_ext (by kernel_rfl) (by kernel_rfl) ?_
      repeat (go_big_quiet_step (fail))
      refine wpQuiet_nil ?_
      rintro _ ⟨x, rfl⟩
      have hx := ext_below w1 x
      go_wp2
      go_ret
      exact ⟨ret_bool (by simp only [rightB, hd1, hd2, Bool.false_and, Bool.and_false]), ((Below.refl _ _).grown hg1 (Nat.le_refl _) (by simp)).trans (hx.mono hg1.size)⟩
  · have a' : n < 0 := by omega
    have hd1 : decide (0 ≤ n) = false := by simpa using a'
    go_enter Try.func132, Try.ntmps132
    go_wp2_with (first
      | (refine wpList_bxB rfl 85 _ rfl (pfA z n) rfl ?_; intro w1 hb1 hg1))
    have hc := cell_ext ((hb1.cell 32).trans (pfA_n z n H0.out))
    refine wp_region_ext (by kernel_rfl) (by kernel_rfl) ?_
    repeat (go_big_quiet_step (fail))
    refine wpQuiet_nil ?_
    rintro _ ⟨x, rfl⟩
    have hx := ext_below w1 x
    go_wp2
    go_ret
    exact ⟨ret_bool (by simp only [rightB, hd1, Bool.false_and]), ((Below.refl _ _).grown hg1 (Nat.le_refl _) (by simp)).trans (hx.mono hg1.size)⟩

def fitsB (z : List UInt8) (n : Int) (id : List UInt8) : Bool := rightB z n && (cutL id n.toNat == z)

set_option maxHeartbeats 2000000 in
theorem fits_any (z : List UInt8) (n : Int) (id : List UInt8) (w : World) (h0 : z.length = 32) (h1 : id.length = 32) :
    Calls Try.prog 135 #[.agg (pfA z n), .agg (bA id)] w fun e w' => e = .returned (.bool (fitsB z n id)) ∧ Below w.heap.size w w' := by
  have H0 := Lib.hid h0
  have H1 := Lib.hid h1
  clear h0 h1
  by_cases hr : rightB z n = true
  · have hn : 0 ≤ n ∧ n ≤ 64 := by simp [rightB] at hr; exact ⟨hr.1, hr.2.1⟩
    obtain ⟨m, rfl⟩ := Int.eq_ofNat_of_zero_le hn.1
    have hm : m ≤ 64 := by omega
    have hra : ∀ W, Calls Try.prog 132 #[.agg (pfA z m)] W fun e w' => e = .returned (.bool true) ∧ Below W.heap.size W w' := fun W => by
      have := right_any z m W H0.out
      rwa [hr] at this
    have hg23 := guard23
    have heq := run_eql_bytes Try.underlying23 Try.underlying5 size5 (cutL id m) z (length_cutL _ _) H0.out
    have heq2 := fun W => run_equalIn_bytes W 9998 Try.underlying23 Try.underlying5 size5 (cutL id m) z (length_cutL _ _) H0.out _ _ (bA_get (cutL id m)) (bA_get z)
    have HR := Lib.hid hr
    have HRA := Lib.hid hra
    clear hr hra
    go_enter Try.func135, Try.ntmps135
    go_wp2_with (first
      | (refine wpList_bxB (o := ⟨some 2, _, _, _, _, _⟩) rfl 85 _ rfl (pfA z m) rfl ?_; intro w1 hb1 hg1)
      | (refine wpList_bxB (o := ⟨some 3, _, _, _, _, _⟩) rfl 23 _ rfl (bA id) rfl ?_; intro w2 hb2 hg2))
    have hb1' := hb1.grown hg2 (by simp)
    have hc := cell_ext ((hb1'.cell 32).trans (pfA_n z m H0.out))
    refine wp_region_ext (by kernel_rfl) (by kernel_rfl) ?_
    repeat (first
      | (refine quiet_ldB (o := ⟨some 5, _, _, _, _, _⟩) (by rfl) 85 _ rfl w.heap.size 0 rfl 85 _ hb1' (pfA z m).toList (whole_take _) _ Try.underlying85 rfl (size30T z m H0.out) ?_; go_frame; simp only [Array.toArray_toList])
      | (refine quiet_ldB (o := ⟨some 8, _, _, _, _, _⟩) (by rfl) 23 _ rfl w1.heap.size 0 rfl 23 _ hb2 (bA id).toList (whole_take _) _ Try.underlying23 rfl (size23T id H1.out) ?_; go_frame; simp only [Array.toArray_toList])
      | (refine quiet_ldB (o := ⟨some 13, _, _, _, _, _⟩) (by rfl) 23 _ rfl w.heap.size 0 rfl 85 _ hb1' (bA z).toList (pfA_takeA z m H0.out) _ Try.underlying23 rfl (size23T z H0.out) ?_; go_frame; simp only [Array.toArray_toList])
      | go_big_quiet_step ((first | (go_at_call 132; exact calls_ext (HRA.out _)) | (go_at_call 164; exact calls_ext (cut_any id m _ H1.out hm)))))
    refine wpQuiet_nil ?_
    rintro _ ⟨x, rfl⟩
    have hx := ext_below w2 x
    go_wp2
    go_ret
    refine ⟨ret_bool ?_, (((Below.refl _ _).grown hg1 (Nat.le_refl _) (by simp)).grown hg2 hg1.size (by simp)).trans (hx.mono (Nat.le_trans hg1.size hg2.size))⟩
    simp only [fitsB, HR.out, Bool.true_and, Int.toNat_natCast]
  · have hr' : rightB z n = false := by simpa using hr
    have hra : ∀ W, Calls Try.prog 132 #[.agg (pfA z n)] W fun e w' => e = .returned (.bool false) ∧ Below W.heap.size W w' := fun W => by
      have := right_any z n W H0.out
      rwa [hr'] at this
    have HR := Lib.hid hr'
    have HRA := Lib.hid hra
    clear hr hr' hra
    go_enter Try.func135, Try.ntmps135
    go_wp2_with (first
      | (refine wpList_bxB (o := ⟨some 2, _, _, _, _, _⟩) rfl 85 _ rfl (pfA z n) rfl ?_; intro w1 hb1 hg1)
      | (refine wpList_bxB (o := ⟨some 3, _, _, _, _, _⟩) rfl 23 _ rfl (bA id) rfl ?_; intro w2 hb2 hg2))
    have hb1' := hb1.grown hg2 (by simp)
    refine wp_region_ext (by kernel_rfl) (by kernel_rfl) ?_
    repeat (first
      | (refine quiet_ldB (o := ⟨some 5, _, _, _, _, _⟩) (by rfl) 85 _ rfl w.heap.size 0 rfl 85 _ hb1' (pfA z n).toList (whole_take _) _ Try.underlying85 rfl (size30T z n H0.out) ?_; go_frame; simp only [Array.toArray_toList])
      | go_big_quiet_step ((first | (go_at_call 132; exact calls_ext (HRA.out _)))))
    refine wpQuiet_nil ?_
    rintro _ ⟨x, rfl⟩
    have hx := ext_below w2 x
    go_wp2
    go_ret
    refine ⟨ret_bool ?_, (((Below.refl _ _).grown hg1 (Nat.le_refl _) (by simp)).grown hg2 hg1.size (by simp)).trans (hx.mono (Nat.le_trans hg1.size hg2.size))⟩
    simp only [fitsB, HR.out, Bool.false_and]
end Go.Proofs.Ytgaklngnfecdaaa.Oid


/-
  works.
-/
namespace Go.Proofs.Ytgaklngnfecdaaa.Oid
open Go.RowKit Zk
set_option linter.unusedVariables false
set_option maxRecDepth 100000

end Go.Proofs.Ytgaklngnfecdaaa.Oid


/-
  OidBack: the walk.
-/
namespace Go.Proofs.Ytgaklngnfecdaaa.Oid
open Go.RowKit Zk
set_option linter.unusedVariables false
set_option maxRecDepth 100000

theorem isD_hexD (n : Nat) (h : n < 16) : isD (hexD n) = true := by
  simp [isD, worth_hexD n h]
theorem dN_hexD (n : Nat) (h : n < 16) : dN (hexD n) = n := by
  simp [dN, worth_hexD n h]
theorem hexL_get (z : List UInt8) : ∀ k, k < 2 * z.length → ∃ n, n < 16 ∧ (hexL z)[k]? = some (hexD n) ∧ ∀ c, z[k / 2]? = some c → n = if k % 2 = 0 then c.toNat / 16 else c.toNat % 16 := by
  induction z with
  | nil => intro k h; simp at h
  | cons c z ih =>
    intro k h
    match k with
    | 0 => exact ⟨c.toNat / 16, by have := c.toNat_lt; omega, by simp [hexL], fun d hd => by simp at hd; subst hd; simp⟩
    | 1 => exact ⟨c.toNat % 16, by omega, by simp [hexL], fun d hd => by simp at hd; subst hd; simp⟩
    | k + 2 =>
      obtain ⟨n, h1, h2, h3⟩ := ih k (by simp at h; omega)
      refine ⟨n, h1, by simpa [hexL] using h2, fun d hd => ?_⟩
      have e : (k + 2) / 2 = k / 2 + 1 := by omega
      rw [e, List.getElem?_cons_succ] at hd
      have := h3 d hd
      rw [this]
      have e2 : (k + 2) % 2 = k % 2 := by omega
      rw [e2]
theorem okS_hexL (z : List UInt8) : okS (hexL z) = true := by
  simp only [okS, List.all_eq_true]
  intro x hx
  obtain ⟨k, hk⟩ := List.getElem?_of_mem hx
  have hl : k < (hexL z).length := (List.getElem?_eq_some_iff.1 hk).1
  rw [length_hexL] at hl
  obtain ⟨n, h1, h2, _⟩ := hexL_get z k hl
  rw [h2] at hk
  cases hk
  exact isD_hexD n h1
theorem idOf_hexL (z : List UInt8) (h : z.length = 32) : idOf (hexL z) = z := by
  apply List.ext_getElem?
  intro j
  by_cases hj : j < 32
  · have hz : z[j]? = some (z[j]'(by omega)) := List.getElem?_eq_getElem _
    rw [idOf_get _ _ hj, hz]
    obtain ⟨n, h1, h2, h3⟩ := hexL_get z (2 * j) (by omega)
    obtain ⟨m, g1, g2, g3⟩ := hexL_get z (2 * j + 1) (by omega)
    have e1 : 2 * j / 2 = j := by omega
    have e2 : (2 * j + 1) / 2 = j := by omega
    rw [e1] at h3
    rw [e2] at g3
    have a1 := h3 _ hz
    have a2 := g3 _ hz
    rw [if_pos (by omega)] at a1
    rw [if_neg (by omega)] at a2
    rw [dg_at _ _ _ h2, dg_at _ _ _ g2, dN_hexD n h1, dN_hexD m g1]
    congr 1
    apply UInt8.toNat_inj.1
    have := (z[j]'(by omega)).toNat_lt
    rw [toNat_ofNat _ (by omega)]
    omega
  · rw [List.getElem?_eq_none (by simp; omega), List.getElem?_eq_none (by omega)]
theorem read_hex (z : List UInt8) (h : z.length = 32) : readR (hexL z) = (z, 0) := by
  have hl : (hexL z).length = 64 := by rw [length_hexL, h]
  unfold readR beginR
  rw [if_pos hl, if_neg (by omega), if_pos (okS_hexL z), idOf_hexL z h]
theorem hex_read (s : List UInt8) (h : (readR s).2 = 0) : hexL (readR s).1 = s := by
  unfold readR at h ⊢
  by_cases hl : s.length = 64
  · rw [if_pos hl] at h ⊢
    unfold beginR at h ⊢
    rw [if_neg (by omega)] at h ⊢
    by_cases ho : okS s = true
    · rw [if_pos ho] at h ⊢
      apply List.ext_getElem?
      intro k
      by_cases hk : k < 64
      · obtain ⟨n, h1, h2, h3⟩ := hexL_get (idOf s) k (by simp; omega)
        have hs : s[k]? = some (s[k]'(by omega)) := List.getElem?_eq_getElem _
        show (hexL (idOf s))[k]? = s[k]?
        rw [h2, hs]
        have h4 := h3 _ (idOf_get s (k / 2) (by omega))
        have hd1 := dg_lt s (2 * (k / 2))
        have hd2 := dg_lt s (2 * (k / 2) + 1)
        rw [toNat_ofNat _ (by omega)] at h4
        have hc : isD (s[k]'(by omega)) = true := by
          simp only [okS, List.all_eq_true] at ho
          exact ho _ (List.getElem_mem _)
        have hw := worth_of _ _ (worth_dN _ hc)
        have hdk := dg_at s k _ hs
        congr 1
        rw [hw.1]
        congr 1
        rcases Nat.mod_two_eq_zero_or_one k with hp | hp
        · have e : 2 * (k / 2) = k := by omega
          rw [if_pos hp] at h4
          have h5 : dg s (2 * (k / 2)) = dN (s[k]'(by omega)) := by rw [e]; exact hdk
          have := dN_lt (s[k]'(by omega))
          omega
        · have e : 2 * (k / 2) + 1 = k := by omega
          rw [if_neg (by omega)] at h4
          have h5 : dg s (2 * (k / 2) + 1) = dN (s[k]'(by omega)) := by rw [e]; exact hdk
          have := dN_lt (s[k]'(by omega))
          omega
      · rw [List.getElem?_eq_none (by rw [length_hexL]; simp; omega), List.getElem?_eq_none (by omega)]
    · rw [if_neg ho] at h
      cases h
  · rw [if_neg hl] at h
    cases h
theorem length_readR (s : List UInt8) : (readR s).1.length = 32 := by
  unfold readR
  split
  · exact length_beginR s
  · rfl

end Go.Proofs.Ytgaklngnfecdaaa.Oid


/-
  OidReads: the walk.
-/
namespace Go.Proofs.Ytgaklngnfecdaaa.Oid
open Go.RowKit Zk
set_option linter.unusedVariables false
set_option maxRecDepth 100000

end Go.Proofs.Ytgaklngnfecdaaa.Oid


/-
  Which id is above: Compare of package oid and of the reference. Right and Fits of the reference.
-/
namespace Go.Proofs.Ytgaklngnfecdaaa.Oid
open Go.RowKit Zk
set_option linter.unusedVariables false
set_option maxRecDepth 100000

/-! ### plain words -/
def belowL : List UInt8 → List UInt8 → Bool
  | x :: xs, y :: ys => if x = y then belowL xs ys else decide (x.toNat < y.toNat)
  | _, _ => false
def cmpL (a b : List UInt8) : Int := if belowL a b = true then -1 else if belowL b a = true then 1 else 0
theorem belowL_irrefl : ∀ a, belowL a a = false
  | [] => rfl
  | x :: xs => by simp [belowL, belowL_irrefl xs]
theorem belowL_same (x : UInt8) (a b : List UInt8) : belowL (x :: a) (x :: b) = belowL a b := by simp [belowL]
theorem drop_at (a : List UInt8) (k : Nat) (x : UInt8) (h : a[k]? = some x) : a.drop k = x :: a.drop (k + 1) := by
  obtain ⟨hl, he⟩ := List.getElem?_eq_some_iff.1 h
  rw [List.drop_eq_getElem_cons hl, he]
def cmpZ (x y : Int) : Int := if x < y then -1 else if y < x then 1 else 0

theorem nan_any (x : Int) (w : World) : Calls Try.prog 196 #[.int .u8 x] w fun e w' => e = .returned (.bool false) ∧ w = w' := by
  go_enter Try.func196, Try.ntmps196
  go_wp2
  go_ret
  exact ⟨ret_bool (by simp), rfl⟩

set_option maxHeartbeats 400000 in
theorem cmp_any (x y : Int) (w : World) : Calls Try.prog 175 #[.int .u8 x, .int .u8 y] w fun e w' => e = .returned (.int .i64 (cmpZ x y)) ∧ w = w' := by
  by_cases h1 : x < y
  · go_enter Try.func175, Try.ntmps175
    go_wp2_with (go_at_call 196; refine (nan_any _ _).mono ?_; rintro e w' ⟨rfl, rfl⟩)
    go_ret
    exact ⟨ret_int (by simp [cmpZ, h1]), rfl⟩
  · by_cases h2 : y < x
    · go_enter Try.func175, Try.ntmps175
      go_wp2_with (go_at_call 196; refine (nan_any _ _).mono ?_; rintro e w' ⟨rfl, rfl⟩)
      go_ret
      exact ⟨ret_int (by unfold cmpZ; rw [if_neg (by omega), if_pos (by omega)]), rfl⟩
    · go_enter Try.func175, Try.ntmps175
      go_wp2_with (go_at_call 196; refine (nan_any _ _).mono ?_; rintro e w' ⟨rfl, rfl⟩)
      go_ret
      exact ⟨ret_int (by unfold cmpZ; rw [if_neg (by omega), if_neg (by omega)]), rfl⟩

theorem cmpL_at (a b : List UInt8) (k : Nat) (x y : UInt8) (ha : a[k]? = some x) (hb : b[k]? = some y) (h : belowL (a.drop k) (b.drop k) = belowL a b) (h' : belowL (b.drop k) (a.drop k) = belowL b a) (hne : x ≠ y) :
    cmpZ x.toNat y.toNat = cmpL a b ∧ cmpZ x.toNat y.toNat ≠ 0 := by
  rw [drop_at a k x ha, drop_at b k y hb] at h h'
  have hn : x.toNat ≠ y.toNat := fun e => hne (UInt8.toNat_inj.1 e)
  have hne' : ¬ y = x := fun e => hne e.symm
  unfold cmpL cmpZ
  rw [← h, ← h']
  simp only [belowL, hne, hne', if_false, decide_eq_true_eq]
  rcases Nat.lt_or_ge x.toNat y.toNat with h1 | h1
  · rw [if_pos (by omega), if_pos h1]
    exact ⟨rfl, by omega⟩
  · rw [if_neg (by omega), if_pos (by omega), if_neg (by omega), if_pos (by omega)]
    exact ⟨rfl, by omega⟩

set_option maxHeartbeats 400000 in
theorem scompare_any (a b : List UInt8) (g h : Nat) (w : World) (ha : a.length = 32) (hb : b.length = 32) (hbg : Blk w g 23 (bA a)) (hbh : Blk w h 23 (bA b)) :
    Calls Try.prog 142 #[.slice (some ⟨g, 0, none⟩) 32 32, .slice (some ⟨h, 0, none⟩) 32 32] w fun e w' => e = .returned (.int .i64 (cmpL a b)) ∧ w = w' := by
  have HA := Lib.hid ha
  have HB := Lib.hid hb
  clear ha hb
  go_enter Try.func142, Try.ntmps142
  go_wp2_with fail
  go_loop [11] (fun v11 => ∃ k : Nat, k ≤ 32 ∧ v11 = .int .i64 k ∧ Hid (belowL (a.drop k) (b.drop k) = belowL a b) ∧ Hid (belowL (b.drop k) (a.drop k) = belowL b a)) (fun v11 => 32 - (intOf v11).toNat)
  case atStart => exact ⟨0, by omega, rfl, Lib.hid rfl, Lib.hid rfl⟩
  case round =>
    obtain ⟨k, hk, rfl, HS, HT⟩ := hrel
    by_cases hlt : k < 32
    · obtain ⟨x, hx⟩ : ∃ x, a[k]? = some x := ⟨a[k]'(by rw [HA.out]; exact hlt), List.getElem?_eq_getElem _⟩
      obtain ⟨y, hy⟩ : ∃ y, b[k]? = some y := ⟨b[k]'(by rw [HB.out]; exact hlt), List.getElem?_eq_getElem _⟩
      have hc1 := (hbg.cell k).trans (bA_get a k x hx)
      have hc2 := (hbh.cell k).trans (bA_get b k y hy)
      have hk1 : (k : Int) < 32 := by omega
      have HX := Lib.hid hx
      have HY := Lib.hid hy
      clear hx hy
      by_cases hxy : x = y
      · have hz : Hid (cmpZ (x.toNat : Int) (y.toNat : Int) = 0) := by show _ = _; rw [hxy]; unfold cmpZ; rw [if_neg (by omega), if_neg (by omega)]
        have hs2 : Hid (belowL (a.drop (k + 1)) (b.drop (k + 1)) = belowL a b) := by
          show _ = _
          have := HS.out
          rw [drop_at a k x HX.out, drop_at b k y HY.out, hxy, belowL_same] at this
          exact this
        have hs3 : Hid (belowL (b.drop (k + 1)) (a.drop (k + 1)) = belowL b a) := by
          show _ = _
          have := HT.out
          rw [drop_at a k x HX.out, drop_at b k y HY.out, hxy, belowL_same] at this
          exact this
        clear hxy
        go_wp2_with (go_at_call 175; refine (cmp_any _ _ _).mono ?_; rw [hz.out]; rintro e w' ⟨rfl, rfl⟩)
        go_round
        case rel => exact ⟨k + 1, by omega, by go_num, hs2, hs3⟩
        case measure => simp [intOf]; omega
      · obtain ⟨h1, h2⟩ := cmpL_at a b k x y HX.out HY.out HS.out HT.out hxy
        have hz : (cmpZ (x.toNat : Int) (y.toNat : Int) != 0) = true := by rw [bne_iff_ne]; exact h2
        have HR := Lib.hid h1
        clear h1 h2 hxy
        go_wp2_with (go_at_call 175; refine (cmp_any _ _ _).mono ?_; rintro e w' ⟨rfl, rfl⟩)
        go_ret
        exact ⟨ret_int HR.out, rfl⟩
    · obtain rfl : k = 32 := by omega
      go_wp2
      go_ret
      refine ⟨ret_int ?_, rfl⟩
      have h1 := HS.out
      have h2 := HT.out
      rw [List.drop_of_length_le (l := a) (by rw [HA.out]; omega)] at h1
      rw [List.drop_of_length_le (l := b) (by rw [HB.out]; omega)] at h2
      simp [cmpL, ← h1, ← h2, belowL]

theorem slice23all (g : Nat) (W : World) : (Instr.sliceAt 23 (.pointer (some ⟨g, 0, none⟩)) none none none).run Try.prog W = .ok (.slice (some ⟨g, 0, none⟩) 32 32) W := by
  have hal : Try.prog.arrayLen 23 = 32 := by kernel_rfl
  have := run_sliceAt_array_all (P := Try.prog) W 23 ⟨g, 0, none⟩ (by rw [hal]; exact Try.underlying23)
  rw [this, hal]
  have hs : (sizeOf (Try.prog.elem 23)).run Try.prog W = .ok 1 W := by kernel_rfl
  rw [hs]
  simp [slicedAt, Result.andThen, Addr.add]

set_option maxHeartbeats 400000 in
theorem compare_any (a b : List UInt8) (w : World) (ha : a.length = 32) (hb : b.length = 32) :
    Calls Try.prog 101 #[.agg (bA a), .agg (bA b)] w fun e w' => e = .returned (.int .i64 (cmpL a b)) ∧ Below w.heap.size w w' := by
  have HA := Lib.hid ha
  have HB := Lib.hid hb
  clear ha hb
  have hsl := slice23all
  go_enter Try.func101, Try.ntmps101
  go_wp2_with (first
    | ((with_reducible refine at_dst 2 ?_); refine wpList_bxB rfl 23 _ rfl (bA a) rfl ?_; intro w1 hb1 hg1)
    | ((with_reducible refine at_dst 3 ?_); refine wpList_bxB rfl 23 _ rfl (bA b) rfl ?_; intro w2 hb2 hg2))
  have hb1' := hb1.grown hg2 (by simp)
  refine wp_region_ext (by kernel_rfl) (by kernel_rfl) ?_
  repeat (go_big_quiet_step ((go_at_call 142; exact calls_ext_same (scompare_any a b _ _ _ HA.out HB.out (blk_ext hb1' _) (blk_ext hb2 _)))))
  refine wpQuiet_nil ?_
  rintro _ ⟨x, rfl⟩
  have hx := ext_below w2 x
  go_wp2
  go_ret
  exact ⟨rfl, bT (bN (bN (Below.refl _ w) hg1) hg2) hx⟩
end Go.Proofs.Ytgaklngnfecdaaa.Oid


/-
  Right and Fits of the reference; the walk of OidFits.
-/
namespace Go.Proofs.Ytgaklngnfecdaaa.Oid
open Go.RowKit Zk
set_option linter.unusedVariables false
set_option maxRecDepth 100000

/-! ### plain words -/
def nibN (z : List UInt8) (k : Nat) : Nat := if k % 2 = 0 then (z.getD (k / 2) 0).toNat / 16 else (z.getD (k / 2) 0).toNat % 16
theorem digL_nib (z : List UInt8) : ∀ k, k < 2 * z.length → (digL z)[k]? = some (nibN z k : Int) := by
  induction z with
  | nil => intro k h; simp at h
  | cons c z ih =>
    intro k h
    match k with
    | 0 => simp [digL, nibN]
    | 1 => simp [digL, nibN]
    | k + 2 =>
      have := ih k (by simp at h; omega)
      have e : (k + 2) / 2 = k / 2 + 1 := by omega
      have e2 : (k + 2) % 2 = k % 2 := by omega
      simp only [nibN, e, e2, List.getD_cons_succ]
      simpa [digL, nibN] using this
theorem nib_ext (a b : List UInt8) (ha : a.length = 32) (hb : b.length = 32) (h : ∀ k, k < 64 → nibN a k = nibN b k) : a = b := by
  apply List.ext_getElem (by omega)
  intro i h1 h2
  have x := h (2 * i) (by omega)
  have y := h (2 * i + 1) (by omega)
  have e1 : 2 * i / 2 = i := by omega
  have e2 : (2 * i + 1) / 2 = i := by omega
  simp only [nibN, e1, e2] at x y
  rw [if_pos (by omega), if_pos (by omega)] at x
  rw [if_neg (by omega), if_neg (by omega)] at y
  simp only [List.getD_eq_getElem?_getD, List.getElem?_eq_getElem h1, List.getElem?_eq_getElem h2, Option.getD_some] at x y
  exact UInt8.toNat_inj.1 (by omega)
theorem nib_cut (z : List UInt8) (m k : Nat) (hk : k < 64) : nibN (cutL z m) k = if k < m then nibN z k else 0 := by
  have hg : (cutL z m).getD (k / 2) 0 = if k / 2 < m / 2 then z.getD (k / 2) 0 else if k / 2 = m / 2 ∧ m % 2 = 1 then UInt8.ofNat ((z.getD (k / 2) 0).toNat / 16 * 16) else 0 := by
    rw [List.getD_eq_getElem?_getD, cutL_get z m (k / 2) (by omega)]
    rfl
  have hc := (z.getD (k / 2) 0).toNat_lt
  have e0 : (0 : UInt8).toNat = 0 := rfl
  unfold nibN
  rw [hg]
  by_cases h1 : k / 2 < m / 2
  · rw [if_pos h1, if_pos (show k < m by omega)]
  · rw [if_neg h1]
    by_cases h2 : k / 2 = m / 2 ∧ m % 2 = 1
    · rw [if_pos h2, toNat_ofNat _ (by omega)]
      by_cases hp : k % 2 = 0
      · rw [if_pos hp, if_pos hp, if_pos (by omega)]
        omega
      · rw [if_neg hp, if_neg (by omega)]
        omega
    · rw [if_neg h2, e0]
      have : ¬ k < m := by omega
      rw [if_neg this]
      split <;> rfl
theorem cut_self (z : List UInt8) (m : Nat) (h : z.length = 32) : cutL z m = z ↔ ∀ k, m ≤ k → k < 64 → nibN z k = 0 := by
  constructor
  · intro e k h1 h2
    have := nib_cut z m k h2
    rw [e, if_neg (by omega)] at this
    exact this
  · intro g
    refine nib_ext _ _ (length_cutL _ _) h fun k hk => ?_
    rw [nib_cut z m k hk]
    split
    · rfl
    · exact (g k (by omega) hk).symm
theorem cut_fits (z id : List UInt8) (m : Nat) (h : z.length = 32) (hs : cutL z m = z) : cutL id m = z ↔ ∀ k, k < m → k < 64 → nibN z k = nibN id k := by
  have hz := (cut_self z m h).1 hs
  constructor
  · intro e k h1 h2
    have := nib_cut id m k h2
    rw [e, if_pos h1] at this
    exact this
  · intro g
    refine nib_ext _ _ (length_cutL _ _) h fun k hk => ?_
    rw [nib_cut id m k hk]
    split
    · rename_i h1; exact (g k h1 hk).symm
    · exact (hz k (by omega) hk).symm
/-! ### walks -/
end Go.Proofs.Ytgaklngnfecdaaa.Oid


/-
  Fits of the reference; the walk of OidFits.
-/
namespace Go.Proofs.Ytgaklngnfecdaaa.Oid
open Go.RowKit Zk
set_option linter.unusedVariables false
set_option maxRecDepth 100000

theorem own_cells {w : World} {base g c : Nat} {z : List UInt8} (ho : w.ownsRow base 3 1 (.slice (some ⟨g, 0, none⟩) 64 c) 64 (iL (digL z))) (h : z.length = 32) :
    ∀ k, k < 64 → w.cell? ⟨g, k, none⟩ = some (.int .i64 (nibN z k : Int)) := fun k hk => by
  rw [ho.cellAt k (by omega)]
  exact iL_get _ _ _ (digL_nib z k (by rw [h]; omega))
end Go.Proofs.Ytgaklngnfecdaaa.Oid


/-
  The walk of OidFits; a struct of an id and a number among the arguments.
-/
namespace Go.Proofs.Ytgaklngnfecdaaa.Oid
open Go.RowKit Zk
set_option linter.unusedVariables false
set_option maxRecDepth 100000

end Go.Proofs.Ytgaklngnfecdaaa.Oid


/-
  Ids in order: plain laws.
-/
namespace Go.Proofs.Ytgaklngnfecdaaa.Oid
open Go.RowKit Zk
set_option linter.unusedVariables false
set_option maxRecDepth 100000
structure Id where
  l : List UInt8
  h : l.length = 32
theorem Id.ext {a b : Id} (h : a.l = b.l) : a = b := by cases a; cases b; simp_all
def nib (a : Id) (k : Nat) : Nat := nibN a.l k
theorem nib_c0 (c : UInt8) (x : List UInt8) : nibN (c :: x) 0 = c.toNat / 16 := by simp [nibN]
theorem nib_c1 (c : UInt8) (x : List UInt8) : nibN (c :: x) 1 = c.toNat % 16 := by simp [nibN]
theorem nib_c2 (c : UInt8) (x : List UInt8) (k : Nat) : nibN (c :: x) (k + 2) = nibN x k := by
  have e : (k + 2) / 2 = k / 2 + 1 := by omega
  have e2 : (k + 2) % 2 = k % 2 := by omega
  simp only [nibN, e, e2, List.getD_cons_succ]
theorem below_nib : ∀ (x y : List UInt8), x.length = y.length → (belowL x y = true ↔ ∃ i, i < 2 * x.length ∧ (∀ j, j < i → nibN x j = nibN y j) ∧ nibN x i < nibN y i)
  | [], [], _ => ⟨(fun h => by cases h), fun ⟨i, h, _⟩ => by simp at h⟩
  | [], _ :: _, h => by cases h
  | _ :: _, [], h => by cases h
  | c :: x, d :: y, h => by
    have ih := below_nib x y (by simpa using h)
    have hc := c.toNat_lt
    have hd := d.toNat_lt
    simp only [belowL, List.length_cons]
    by_cases e : c = d
    · subst e
      rw [if_pos rfl, ih]
      constructor
      · rintro ⟨i, h1, h2, h3⟩
        refine ⟨i + 2, by omega, fun j hj => ?_, by rw [nib_c2, nib_c2]; exact h3⟩
        match j with
        | 0 => rw [nib_c0, nib_c0]
        | 1 => rw [nib_c1, nib_c1]
        | j + 2 => rw [nib_c2, nib_c2]; exact h2 j (by omega)
      · rintro ⟨i, h1, h2, h3⟩
        match i with
        | 0 => rw [nib_c0, nib_c0] at h3; omega
        | 1 => rw [nib_c1, nib_c1] at h3; omega
        | i + 2 =>
          rw [nib_c2, nib_c2] at h3
          exact ⟨i, by omega, fun j hj => by have := h2 (j + 2) (by omega); rwa [nib_c2, nib_c2] at this, h3⟩
    · rw [if_neg e, decide_eq_true_iff]
      have hne : c.toNat ≠ d.toNat := fun q => e (UInt8.toNat_inj.1 q)
      constructor
      · intro hlt
        by_cases h1 : c.toNat / 16 < d.toNat / 16
        · exact ⟨0, by omega, fun j hj => by omega, by rw [nib_c0, nib_c0]; exact h1⟩
        · refine ⟨1, by omega, fun j hj => ?_, by rw [nib_c1, nib_c1]; omega⟩
          have : j = 0 := by omega
          subst this
          rw [nib_c0, nib_c0]; omega
      · rintro ⟨i, h1, h2, h3⟩
        match i with
        | 0 => rw [nib_c0, nib_c0] at h3; omega
        | 1 =>
          have := h2 0 (by omega)
          rw [nib_c0, nib_c0] at this
          rw [nib_c1, nib_c1] at h3
          omega
        | i + 2 =>
          have g0 := h2 0 (by omega)
          have g1 := h2 1 (by omega)
          rw [nib_c0, nib_c0] at g0
          rw [nib_c1, nib_c1] at g1
          omega
def lt (a b : Id) : Bool := belowL a.l b.l
theorem lt_iff (a b : Id) : lt a b = true ↔ ∃ i, i < 64 ∧ (∀ j, j < i → nib a j = nib b j) ∧ nib a i < nib b i := by
  have := below_nib a.l b.l (by rw [a.h, b.h])
  rw [a.h] at this
  exact this
theorem lt_irr (a : Id) : lt a a = false := belowL_irrefl _
theorem lt_trans (a b c : Id) (h1 : lt a b = true) (h2 : lt b c = true) : lt a c = true := by
  obtain ⟨i, a1, a2, a3⟩ := (lt_iff a b).1 h1
  obtain ⟨j, b1, b2, b3⟩ := (lt_iff b c).1 h2
  refine (lt_iff a c).2 ?_
  rcases Nat.lt_trichotomy i j with h | h | h
  · exact ⟨i, a1, fun k hk => (a2 k hk).trans (b2 k (by omega)), by rw [← b2 i h]; exact a3⟩
  · subst h; exact ⟨i, a1, fun k hk => (a2 k hk).trans (b2 k hk), by omega⟩
  · exact ⟨j, b1, fun k hk => (a2 k (by omega)).trans (b2 k hk), by rw [a2 j h]; exact b3⟩
/-- The first digit that is not the same. -/
theorem first_diff (a b : Id) (n : Nat) : (∀ j, j < n → nib a j = nib b j) ∨ ∃ i, i < n ∧ (∀ j, j < i → nib a j = nib b j) ∧ nib a i ≠ nib b i := by
  induction n with
  | zero => exact .inl fun j hj => by omega
  | succ n ih =>
    rcases ih with h | ⟨i, h1, h2, h3⟩
    · by_cases e : nib a n = nib b n
      · exact .inl fun j hj => by
          rcases Nat.lt_or_ge j n with h4 | h4
          · exact h j h4
          · rw [show j = n by omega]; exact e
      · exact .inr ⟨n, by omega, h, e⟩
    · exact .inr ⟨i, by omega, h2, h3⟩
theorem lt_total (a b : Id) (h : lt a b = false) (hne : a ≠ b) : lt b a = true := by
  rcases first_diff a b 64 with h1 | ⟨i, h1, h2, h3⟩
  · exact (hne (Id.ext (nib_ext _ _ a.h b.h h1))).elim
  · rcases Nat.lt_or_gt_of_ne h3 with h4 | h4
    · rw [(lt_iff a b).2 ⟨i, h1, h2, h4⟩] at h; cases h
    · exact (lt_iff b a).2 ⟨i, h1, fun j hj => (h2 j hj).symm, h4⟩
/-- What stands between two that begin alike begins so. -/
theorem between (x y z : Id) (n : Nat) (hn : n ≤ 64) (h1 : lt y x = false) (h2 : lt z y = false) (h : ∀ j, j < n → nib x j = nib z j) : ∀ j, j < n → nib x j = nib y j := by
  rcases first_diff x y n with h3 | ⟨i, h3, h4, h5⟩
  · exact h3
  · exfalso
    rcases Nat.lt_or_gt_of_ne h5 with h6 | h6
    · have : lt z y = true := (lt_iff z y).2 ⟨i, by omega, fun j hj => by rw [← h j (by omega)]; exact h4 j hj, by rw [← h i h3]; exact h6⟩
      rw [h2] at this; cases this
    · have : lt y x = true := (lt_iff y x).2 ⟨i, by omega, fun j hj => (h4 j hj).symm, h6⟩
      rw [h1] at this; cases this
def ris : List Id → Bool
  | a :: b :: r => lt a b && ris (b :: r)
  | _ => true
theorem ris_pair : ∀ l : List Id, ris l = true → l.Pairwise fun a b => lt a b = true
  | [], _ => List.Pairwise.nil
  | [a], _ => List.pairwise_singleton _ _
  | a :: b :: r, h => by
    simp only [ris, Bool.and_eq_true] at h
    have ih := ris_pair (b :: r) h.2
    rw [List.pairwise_cons]
    refine ⟨fun c hc => ?_, ih⟩
    rcases List.mem_cons.1 hc with rfl | hc
    · exact h.1
    · rw [List.pairwise_cons] at ih
      exact lt_trans _ _ _ h.1 (ih.1 c hc)
theorem pair_ris : ∀ l : List Id, (l.Pairwise fun a b => lt a b = true) → ris l = true
  | [], _ => rfl
  | [a], _ => rfl
  | a :: b :: r, h => by
    rw [List.pairwise_cons] at h
    simp only [ris, Bool.and_eq_true]
    exact ⟨h.1 b List.mem_cons_self, pair_ris (b :: r) h.2⟩
theorem ris_at {l : List Id} (h : ris l = true) {i j : Nat} {x y : Id} (hi : l[i]? = some x) (hj : l[j]? = some y) (hij : i < j) : lt x y = true := by
  obtain ⟨i1, i2⟩ := List.getElem?_eq_some_iff.1 hi
  obtain ⟨j1, j2⟩ := List.getElem?_eq_some_iff.1 hj
  subst i2; subst j2
  exact List.pairwise_iff_getElem.1 (ris_pair l h) i j i1 j1 hij
theorem ris_drop {l : List Id} {k : Nat} {a b : Id} (ha : l[k]? = some a) (hb : l[k + 1]? = some b) : ris (l.drop k) = (lt a b && ris (l.drop (k + 1))) := by
  obtain ⟨i1, i2⟩ := List.getElem?_eq_some_iff.1 ha
  obtain ⟨j1, j2⟩ := List.getElem?_eq_some_iff.1 hb
  rw [List.drop_eq_getElem_cons i1, List.drop_eq_getElem_cons j1, i2, j2]
  rfl
theorem ris_short {l : List Id} {k : Nat} (h : l.length ≤ k + 1) : ris (l.drop k) = true := by
  have hl : (l.drop k).length ≤ 1 := by rw [List.length_drop]; omega
  match l.drop k, hl with
  | [], _ => rfl
  | [a], _ => rfl
/-- How many are below. -/
def posOk (l : List Id) (x : Id) (n : Nat) : Prop := n ≤ l.length ∧ ∀ i y, l[i]? = some y → lt y x = decide (i < n)
theorem posOk.of {l : List Id} (hr : ris l = true) {x : Id} {n : Nat} (h1 : n ≤ l.length) (h2 : ∀ i y, i < n → l[i]? = some y → lt y x = true) (h3 : ∀ y, l[n]? = some y → lt y x = false) : posOk l x n :=
  ⟨h1, fun i y hy => by
    rcases Nat.lt_or_ge i n with h | h
    · rw [decide_eq_true h]; exact h2 i y h hy
    · rw [decide_eq_false (by omega)]
      have hl : n < l.length := by have := (List.getElem?_eq_some_iff.1 hy).1; omega
      have hn := h3 _ (List.getElem?_eq_getElem hl)
      rcases Nat.lt_or_ge n i with h4 | h4
      · have h5 := ris_at hr (List.getElem?_eq_getElem hl) hy h4
        cases h6 : lt y x
        · rfl
        · rw [lt_trans _ _ _ h5 h6] at hn; cases hn
      · have e : i = n := by omega
        subst e
        rw [List.getElem?_eq_getElem hl] at hy
        cases hy
        exact hn⟩
/-- Does an id begin so? -/
def fit (z : Id) (n : Int) (x : Id) : Bool := fitsB z.l n x.l
theorem fit_iff {z : Id} {n : Int} (hr : rightB z.l n = true) (x : Id) : 0 ≤ n ∧ n ≤ 64 ∧ (fit z n x = true ↔ ∀ k : Nat, (k : Int) < n → nib z k = nib x k) := by
  have hr' := hr
  simp only [rightB, Bool.and_eq_true, decide_eq_true_eq, beq_iff_eq] at hr'
  obtain ⟨h1, h2, h3⟩ := hr'
  obtain ⟨m, rfl⟩ := Int.eq_ofNat_of_zero_le h1
  rw [Int.toNat_natCast] at h3
  refine ⟨h1, h2, ?_⟩
  unfold fit fitsB
  rw [hr, Bool.true_and, beq_iff_eq, Int.toNat_natCast, cut_fits z.l x.l m z.h h3]
  exact ⟨fun g k hk => g k (by omega) (by omega), fun g k hk h64 => g k (by omega)⟩
/-- Those that begin so stand side by side. -/
theorem run_ok {l : List Id} (hr : ris l = true) {z : Id} {n : Int} (hz : rightB z.l n = true) {f t : Nat} (hf : posOk l z f) (hft : f ≤ t) (htl : t ≤ l.length) (hin : ∀ i y, f ≤ i → i < t → l[i]? = some y → fit z n y = true)
    (hout : ∀ y, l[t]? = some y → fit z n y = false) {i : Nat} {y : Id} (hy : l[i]? = some y) : fit z n y = decide (f ≤ i ∧ i < t) := by
  have hzl := (cut_self z.l n.toNat z.h).1 (by
    simp only [rightB, Bool.and_eq_true, decide_eq_true_eq, beq_iff_eq] at hz
    exact hz.2.2)
  obtain ⟨h0, h64, hy2⟩ := fit_iff hz y
  rcases Nat.lt_or_ge i f with h1 | h1
  · rw [decide_eq_false (by omega)]
    have hb := hf.2 i y hy
    rw [decide_eq_true h1] at hb
    obtain ⟨k, k1, k2, k3⟩ := (lt_iff y z).1 hb
    cases h4 : fit z n y
    · rfl
    · exfalso
      have h5 := hy2.1 h4
      rcases Int.lt_or_le (k : Int) n with h6 | h6
      · have := h5 k h6; omega
      · have : nib z k = 0 := hzl k (by omega) k1
        omega
  · rcases Nat.lt_or_ge i t with h2 | h2
    · rw [decide_eq_true ⟨h1, h2⟩]; exact hin i y h1 h2 hy
    · rw [decide_eq_false (by omega)]
      have htl2 : t < l.length := by have := (List.getElem?_eq_some_iff.1 hy).1; omega
      have ht := List.getElem?_eq_getElem htl2
      have ho := hout _ ht
      rcases Nat.lt_or_ge t i with h3 | h3
      · cases h4 : fit z n y
        · rfl
        · exfalso
          have h5 := hy2.1 h4
          have h6 := ris_at hr ht hy h3
          have h7 := hf.2 t _ ht
          rw [decide_eq_false (by omega)] at h7
          have h8 : lt y l[t] = false := by
            cases h9 : lt y l[t]
            · rfl
            · have := lt_trans _ _ _ h6 h9; rw [lt_irr] at this; cases this
          have h9 := between z l[t] y n.toNat (by omega) h7 h8 (fun j hj => h5 j (by omega))
          have := ((fit_iff hz l[t]).2.2).2 fun k hk => h9 k (by omega)
          rw [ho] at this
          cases this
      · have e : i = t := by omega
        subst e
        rw [ht] at hy
        cases hy
        exact ho
end Go.Proofs.Ytgaklngnfecdaaa.Oid


/-
  Rising, below, Find.
-/
namespace Go.Proofs.Ytgaklngnfecdaaa.Oid
open Go.RowKit Zk Zx
set_option linter.unusedVariables false
set_option linter.unusedSimpArgs false

instance : DecidableEq Id := fun a b => decidable_of_iff (a.l = b.l) ⟨Id.ext, fun h => by rw [h]⟩
def idf (x : Id) : List Value := bL x.l
theorem idf_len (x : Id) : (idf x).length = 32 := by simp [idf, x.h]
theorem ids_len (l : List Id) : (l.flatMap idf).length = l.length * 32 := by
  induction l with
  | nil => rfl
  | cons x l ih => rw [List.flatMap_cons, List.length_append, ih, idf_len, List.length_cons]; omega
theorem ids_n {w : World} {A : Option Addr} {n c : Nat} {l : List Id} (h : Rs w 32 A n c (l.flatMap idf)) : n = l.length := by
  have := h.len
  rw [ids_len] at this
  omega
theorem ids_one (l : List Id) : ∀ u ∈ l.flatMap idf, u.oneCell' = true := fun u hu => by
  obtain ⟨p, _, hp⟩ := List.mem_flatMap.1 hu
  exact bL_one _ u hp
theorem whole32 (x : Id) : ((bA x.l).toList.drop 0).take 32 = bL x.l ∧ (bL x.l).length = 32 := by
  have h : (bL x.l).length = 32 := by simp [x.h]
  exact ⟨by rw [List.drop_zero]; exact List.take_of_length_le (by show (bL x.l).length ≤ 32; omega), h⟩
theorem whole33 (x : Id) (n : Int) : ((pfA x.l n).toList.drop 0).take 33 = bL x.l ++ [Value.int .i64 n] ∧ (bL x.l ++ [Value.int .i64 n]).length = 33 := by
  have h : (bL x.l ++ [Value.int .i64 n]).length = 33 := by simp [x.h]
  exact ⟨by rw [List.drop_zero]; exact List.take_of_length_le (by show (bL x.l ++ [Value.int .i64 n]).length ≤ 33; omega), h⟩
theorem part33 (x : Id) (n : Int) : ((pfA x.l n).toList.drop 0).take 32 = bL x.l ∧ (bL x.l).length = 32 := by
  have h : (bL x.l).length = 32 := by simp [x.h]
  refine ⟨?_, h⟩
  show ((bL x.l ++ [Value.int .i64 n]).drop 0).take 32 = bL x.l
  rw [List.drop_zero, List.take_append_of_le_length (by omega)]
  exact List.take_of_length_le (by omega)
theorem cRight (z : Id) (n : Int) (w : World) : Calls Try.prog 132 #[.agg (pfA z.l n)] w fun e w' => ∃ u, e = .returned u ∧ Like w w' ∧ u = .bool (rightB z.l n) := (right_any z.l n w z.h).mono fun e w' ⟨h1, h2⟩ => ⟨_, h1, h2, rfl⟩
theorem cFits (z : Id) (n : Int) (x : Id) (w : World) : Calls Try.prog 135 #[.agg (pfA z.l n), .agg (bA x.l)] w fun e w' => ∃ u, e = .returned u ∧ Like w w' ∧ u = .bool (fit z n x) := (fits_any z.l n x.l w z.h x.h).mono fun e w' ⟨h1, h2⟩ => ⟨_, h1, h2, rfl⟩
theorem cCmp (a b : Id) (w : World) : Calls Try.prog 101 #[.agg (bA a.l), .agg (bA b.l)] w fun e w' => ∃ u, e = .returned u ∧ Like w w' ∧ u = .int .i64 (cmpL a.l b.l) := (compare_any a.l b.l w a.h b.h).mono fun e w' ⟨h1, h2⟩ => ⟨_, h1, h2, rfl⟩
theorem cmp_lt (a b : Id) : cmpL a.l b.l < 0 ↔ lt a b = true := by
  unfold cmpL lt
  by_cases h : belowL a.l b.l = true
  · simp [h]
  · rw [if_neg h]
    constructor
    · intro h2; split at h2 <;> omega
    · intro h2; exact (h h2).elim
theorem cmp_ge (a b : Id) : 0 ≤ cmpL a.l b.l ↔ lt a b = false := by
  have h := cmp_lt a b
  constructor
  · intro h1
    cases h2 : lt a b
    · rfl
    · have := h.2 h2; omega
  · intro h1
    apply Int.not_lt.1
    intro h2
    rw [h.1 h2] at h1
    cases h1
set_option maxRecDepth 100000 in
theorem prising (A : Option Addr) (n c : Nat) (l : List Id) (w0 : World) (hl : Rs w0 32 A n c (l.flatMap idf)) :
    Calls Try.prog 133 #[.slice A n c] w0 fun e w' => ∃ u, e = .returned u ∧ Like w0 w' ∧ u = .bool (ris l) := by
  refine enter1 (env := [(0, .slice A n c)]) [.slice A n c] Try.func133 rfl Try.ntmps133 rfl rfl ?_
  have hn := ids_n hl; have hcap := hl.cap; have hmax := hl.max; have S0 := St.start w0 noM
  refine T_seq fun K1 hK1 => ?_
  refine T_region ?_
  refine L_y (y_assign rfl) rfl ?_
  refine L_nil ?_
  refine hK1 _ _ ?_
  refine T_seq fun K2 hK2 => ?_
  refine T_seq fun K3 hK3 => ?_
  refine T_region ?_
  refine L_y (y_assign rfl) rfl ?_
  refine L_nil ?_
  refine hK3 _ _ ?_
  refine T_block ?_
  refine T_loop1 [(0, _)] (fun (k : Nat) => [(3, .int .i64 ((k : Int) + 1))]) (fun (k : Nat) => n - k) (fun (k : Nat) (w : World) => ((k + 1 ≤ n ∨ (k = 0 ∧ n = 0)) ∧ ris l = ris (l.drop k)) ∧ St w0 noM [] w) 0 (Sub.cons rfl (by first | rfl | exact congrArg (Value.int _) (by omega)) (Sub.nil _)) (Sub.cons rfl rfl (Sub.nil _)) ?_ ?_
  ·
    exact ⟨⟨by omega, by rw [List.drop_zero]⟩, S0⟩
  ·
    intro k w1 hrel
    obtain ⟨⟨hk, hris⟩, S1⟩ := hrel
    refine T_seq fun K4 hK4 => ?_
    refine T_seq fun K5 hK5 => ?_
    refine T_region ?_
    refine L_y (y_move rfl) rfl ?_
    refine L_y (y_move rfl) rfl ?_
    refine L_y (y_len Try.underlying24 rfl) rfl ?_
    refine L_y (y_lss rfl rfl) rfl ?_
    refine L_nil ?_
    refine hK5 _ _ ?_
    refine T_cond rfl (fun h7 => ?_) (fun h7 => ?_)
    ·
      obtain ⟨x, hx⟩ : ∃ x, l[k]? = some x := ⟨_, List.getElem?_eq_getElem (by omega)⟩
      obtain ⟨y, hy⟩ : ∃ y, l[k + 1]? = some y := ⟨_, List.getElem?_eq_getElem (by omega)⟩
      refine T_skip ?_
      refine hK4 _ _ ?_
      refine T_seq fun K6 hK6 => ?_
      refine T_block ?_
      refine T_seq fun K7 hK7 => ?_
      refine T_tail 9 hmix (by kernel_rfl) fun w2 l2 K8 hK8 => ?_
      have S2 := S1.like l2
      refine HL_y (y_move rfl) rfl ?_
      refine HL_y (y_move rfl) rfl ?_
      refine HL_y (y_sub rfl rfl (i64w (by omega))) rfl ?_
      refine HL_y (y_idx Try.underlying24 sz23 rfl rfl (S2.rd hl) (Nt.mk (by omega) : Nt _ (k)) (by omega)) rfl ?_
      refine HL_y (y_ldp (f := idf) idf_len Try.underlying23 rfl sz23 rfl (S2.rd hl) (by omega) hx) rfl ?_
      refine HL_y (y_move rfl) rfl ?_
      refine HL_y (y_move rfl) rfl ?_
      refine HL_y (y_idx Try.underlying24 sz23 rfl rfl (S2.rd hl) (Nt.mk (by omega) : Nt _ (k + 1)) (by omega)) rfl ?_
      refine HL_y (y_ldp (f := idf) idf_len Try.underlying23 rfl sz23 rfl (S2.rd hl) (by omega) hy) rfl ?_
      refine HL_nil ?_
      refine hK8 _ ?_
      refine L_o (o_call Try.func101 rfl rfl (cCmp x y w2) rfl rfl ?_)
      rintro e3 w3 ⟨v3, rfl, l3, rfl⟩
      refine ⟨_, rfl, ?_⟩
      have S3 := S2.like l3
      refine L_y (y_geq rfl rfl) rfl ?_
      refine L_nil ?_
      refine hK7 _ _ ?_
      refine T_cond rfl (fun h20 => ?_) (fun h20 => ?_)
      ·
        have hlt := (cmp_ge x y).1 h20
        refine T_seq fun K9 hK9 => ?_
        refine T_region ?_
        refine L_y (y_assign rfl) rfl ?_
        refine L_nil ?_
        refine hK9 _ _ ?_
        refine T_ret ?_
        repeat (first | with_reducible refine up_then ?_ | with_reducible refine up_in ?_)
        refine ret1 rfl rfl ?_
        first | exact ⟨_, rfl, S3.like0, congrArg Value.bool (by rw [hris, ris_drop hx hy, hlt]; rfl)⟩ | exact ⟨_, rfl, S3.like0, congrArg Value.bool (by rw [hris, ris_short (by omega)])⟩
      ·
        have hlt := (cmp_lt x y).1 (by omega)
        refine T_skip ?_
        refine hK6 _ _ ?_
        refine T_region ?_
        refine L_y (y_move rfl) rfl ?_
        refine L_y (y_add rfl rfl (i64w (by omega))) rfl ?_
        refine L_y (y_assign rfl) rfl ?_
        refine L_nil ?_
        refine ⟨k + 1, by omega, ⟨⟨by omega, by rw [hris, ris_drop hx hy, hlt, Bool.true_and]⟩, S3⟩, ?_⟩
        exact (Sub.cons rfl (by first | rfl | exact congrArg (Value.int _) (by omega)) (Sub.cons rfl rfl (Sub.nil _)))
    ·
      refine T_exit ?_
      refine hK2 _ _ ?_
      refine T_seq fun K10 hK10 => ?_
      refine T_region ?_
      refine L_y (y_assign rfl) rfl ?_
      refine L_nil ?_
      refine hK10 _ _ ?_
      refine T_ret ?_
      repeat (first | with_reducible refine up_then ?_ | with_reducible refine up_in ?_)
      refine ret1 rfl rfl ?_
      first | exact ⟨_, rfl, S1.like0, congrArg Value.bool (by rw [hris, ris_drop hx hy, hlt]; rfl)⟩ | exact ⟨_, rfl, S1.like0, congrArg Value.bool (by rw [hris, ris_short (by omega)])⟩


set_option maxRecDepth 100000 in
theorem pbelow (A : Option Addr) (n c : Nat) (l : List Id) (x : Id) (w0 : World) (hl : Rs w0 32 A n c (l.flatMap idf)) (hr : ris l = true) :
    Calls Try.prog 134 #[.slice A n c, .agg (bA x.l)] w0 fun e w' => ∃ u, e = .returned u ∧ Like w0 w' ∧ ∃ k : Nat, u = .int .i64 (k : Int) ∧ posOk l x k := by
  refine enter1 (env := [(0, .slice A n c), (1, .agg (bA x.l))]) [.slice A n c, .agg (bA x.l)] Try.func134 rfl Try.ntmps134 rfl rfl ?_
  have hn := ids_n hl; have hcap := hl.cap; have hmax := hl.max; have S0 := St.start w0 noM
  refine T_seq fun K1 hK1 => ?_
  refine T_region ?_
  refine L_o (o_box rfl S0 rfl fun b1 w1 hb1 S1 => ?_)
  refine L_y (y_assign rfl) rfl ?_
  refine L_nil ?_
  refine hK1 _ _ ?_
  refine T_seq fun K2 hK2 => ?_
  refine T_region ?_
  refine L_y (y_move rfl) rfl ?_
  refine L_y (y_len Try.underlying24 rfl) rfl ?_
  refine L_y (y_assign rfl) rfl ?_
  refine L_y (y_assign rfl) rfl ?_
  refine L_nil ?_
  refine hK2 _ _ ?_
  refine T_seq fun K3 hK3 => ?_
  refine T_block ?_
  refine T_loop2 [(0, _), (3, _)] (fun (f : Nat) (t : Nat) => [(5, .int .i64 (f : Int)), (6, .int .i64 (t : Int))]) (fun (f : Nat) (t : Nat) => t - f) (fun (f : Nat) (t : Nat) (w : World) => (f ≤ t ∧ t ≤ n ∧ (∀ i z, i < f → l[i]? = some z → lt z x = true) ∧ ∀ i z, t ≤ i → l[i]? = some z → lt z x = false) ∧ St w0 noM [blk b1 23 (bA x.l)] w) 0 n (Sub.cons rfl (by first | rfl | exact congrArg (Value.int _) (by omega)) (Sub.cons rfl (by first | rfl | exact congrArg (Value.int _) (by omega)) (Sub.nil _))) (Sub.cons rfl rfl (Sub.cons rfl rfl (Sub.nil _))) ?_ ?_
  ·
    exact ⟨⟨Nat.zero_le _, Nat.le_refl _, fun i z hi => by omega, fun i z hi hz => by have := (List.getElem?_eq_some_iff.1 hz).1; omega⟩, S1⟩
  ·
    intro f t w2 hrel
    obtain ⟨⟨hft, htn, hlo, hhi⟩, S2⟩ := hrel
    refine T_seq fun K4 hK4 => ?_
    refine T_seq fun K5 hK5 => ?_
    refine T_region ?_
    refine L_y (y_move rfl) rfl ?_
    refine L_y (y_move rfl) rfl ?_
    refine L_y (y_lss rfl rfl) rfl ?_
    refine L_nil ?_
    refine hK5 _ _ ?_
    refine T_cond rfl (fun h12 => ?_) (fun h12 => ?_)
    ·
      refine T_skip ?_
      refine hK4 _ _ ?_
      refine T_block ?_
      refine T_seq fun K6 hK6 => ?_
      refine T_region ?_
      refine L_y (y_move rfl) rfl ?_
      refine L_y (y_move rfl) rfl ?_
      refine L_y (y_move rfl) rfl ?_
      refine L_y (y_sub rfl rfl (i64w (by omega))) rfl ?_
      refine L_y (y_quo rfl rfl (by omega) (quoI (by omega) (by omega))) rfl ?_
      refine L_y (y_add rfl rfl (i64w (by omega))) rfl ?_
      refine L_y (y_assign rfl) rfl ?_
      refine L_nil ?_
      refine hK6 _ _ ?_
      refine T_seq fun K7 hK7 => ?_
      obtain ⟨mid, hmid⟩ : ∃ mid : Nat, (f : Int) + ((t : Int) - f) / 2 = mid := ⟨((f : Int) + ((t : Int) - f) / 2).toNat, by omega⟩
      obtain ⟨y, hy⟩ : ∃ y, l[mid]? = some y := ⟨_, List.getElem?_eq_getElem (by omega)⟩
      refine T_tail 5 hmix (by kernel_rfl) fun w3 l3 K8 hK8 => ?_
      have S3 := S2.like l3
      refine HL_y (y_move rfl) rfl ?_
      refine HL_y (y_move rfl) rfl ?_
      refine HL_y (y_idx Try.underlying24 sz23 rfl rfl (S3.rd hl) (Nt.mk (by omega) : Nt _ (mid)) (by omega)) rfl ?_
      refine HL_y (y_ldp (f := idf) idf_len Try.underlying23 rfl sz23 rfl (S3.rd hl) (by omega) hy) rfl ?_
      refine HL_y (y_ldW Try.underlying23 rfl sz23 rfl (S3.blk 0 rfl) (whole32 x)) rfl ?_
      refine HL_nil ?_
      refine hK8 _ ?_
      refine L_o (o_call Try.func101 rfl rfl (cCmp y x w3) rfl rfl ?_)
      rintro e4 w4 ⟨v4, rfl, l4, rfl⟩
      refine ⟨_, rfl, ?_⟩
      have S4 := S3.like l4
      refine L_y (y_lss rfl rfl) rfl ?_
      refine L_nil ?_
      refine hK7 _ _ ?_
      refine T_cond rfl (fun h25 => ?_) (fun h25 => ?_)
      ·
        have hlt := (cmp_lt y x).1 h25
        refine T_region ?_
        refine L_y (y_move rfl) rfl ?_
        refine L_y (y_add rfl rfl (i64w (by omega))) rfl ?_
        refine L_y (y_assign rfl) rfl ?_
        refine L_nil ?_
        refine ⟨mid + 1, t, by omega, ⟨⟨by omega, by omega, fun i z hi hz => by rcases Nat.lt_or_ge i mid with h9 | h9; exact lt_trans _ _ _ (ris_at hr hz hy h9) hlt; (have e9 : i = mid := by omega); subst e9; rw [hy] at hz; cases hz; exact hlt, hhi⟩, S4⟩, ?_⟩
        exact (Sub.cons rfl (by first | rfl | exact congrArg (Value.int _) (by omega)) (Sub.cons rfl (by first | rfl | exact congrArg (Value.int _) (by omega)) (Sub.cons rfl rfl (Sub.cons rfl rfl (Sub.nil _)))))
      ·
        have hlt := (cmp_ge y x).1 (by omega)
        refine T_region ?_
        refine L_y (y_move rfl) rfl ?_
        refine L_y (y_assign rfl) rfl ?_
        refine L_nil ?_
        refine ⟨f, mid, by omega, ⟨⟨by omega, by omega, hlo, fun i z hi hz => by rcases Nat.lt_or_ge mid i with h9 | h9; (cases h8 : lt z x; rfl; (have h7 := lt_trans _ _ _ (ris_at hr hy hz h9) h8); rw [hlt] at h7; cases h7); (have e9 : i = mid := by omega); subst e9; rw [hy] at hz; cases hz; exact hlt⟩, S4⟩, ?_⟩
        exact (Sub.cons rfl (by first | rfl | exact congrArg (Value.int _) (by omega)) (Sub.cons rfl (by first | rfl | exact congrArg (Value.int _) (by omega)) (Sub.cons rfl rfl (Sub.cons rfl rfl (Sub.nil _)))))
    ·
      refine T_exit ?_
      refine hK3 _ _ ?_
      refine T_seq fun K9 hK9 => ?_
      refine T_region ?_
      refine L_y (y_move rfl) rfl ?_
      refine L_y (y_assign rfl) rfl ?_
      refine L_nil ?_
      refine hK9 _ _ ?_
      refine T_ret ?_
      repeat (first | with_reducible refine up_then ?_ | with_reducible refine up_in ?_)
      refine ret1 rfl rfl ?_
      have e9 : t = f := by omega
      exact ⟨_, rfl, S2.like0, f, rfl, posOk.of hr (by omega) (fun i z hi hz => hlo i z hi hz) (fun z hz => hhi f z (by omega) hz)⟩


end Go.Proofs.Ytgaklngnfecdaaa.Oid


/-
  Range, alike.
-/
namespace Go.Proofs.Ytgaklngnfecdaaa.Oid
open Go.RowKit Zk Zx
set_option linter.unusedVariables false
set_option linter.unusedSimpArgs false

def rangeOk (l : List Id) (z : Id) (nn : Int) (u : Value) : Prop := ((rightB z.l nn = false ∨ ris l = false) ∧ u = .tuple #[.int .i64 0, .int .i64 0]) ∨
  (rightB z.l nn = true ∧ ris l = true ∧ ∃ f t : Nat, posOk l z f ∧ f ≤ t ∧ t ≤ l.length ∧ (∀ i y, l[i]? = some y → fit z nn y = decide (f ≤ i ∧ i < t)) ∧ u = .tuple #[.int .i64 (f : Int), .int .i64 (t : Int)])
def AL (a b : Id) (m : Nat) : Prop := m ≤ 64 ∧ (∀ j, j < m → nib a j = nib b j) ∧ (m < 64 → nib a m ≠ nib b m)


set_option maxRecDepth 100000 in
theorem prange (A : Option Addr) (n c : Nat) (l : List Id) (z : Id) (nn : Int) (w0 : World) (hl : Rs w0 32 A n c (l.flatMap idf)) :
    Calls Try.prog 88 #[.slice A n c, .agg (pfA z.l nn)] w0 fun e w' => ∃ u, e = .returned u ∧ Like w0 w' ∧ rangeOk l z nn u := by
  refine enter1 (env := [(0, .slice A n c), (1, .agg (pfA z.l nn))]) [.slice A n c, .agg (pfA z.l nn)] Try.func88 rfl Try.ntmps88 rfl rfl ?_
  have hn := ids_n hl; have hcap := hl.cap; have hmax := hl.max; have S0 := St.start w0 noM
  refine T_seq fun K1 hK1 => ?_
  refine T_region ?_
  refine L_o (o_box rfl S0 rfl fun b1 w1 hb1 S1 => ?_)
  refine L_y (y_assign rfl) rfl ?_
  refine L_y (y_assign rfl) rfl ?_
  refine L_nil ?_
  refine hK1 _ _ ?_
  refine T_seq fun K2 hK2 => ?_
  refine T_seq fun K3 hK3 => ?_
  refine T_region ?_
  refine L_y (y_ldW Try.underlying85 rfl sz85 rfl (S1.blk 0 rfl) (whole33 z nn)) rfl ?_
  refine L_o (o_call Try.func132 rfl rfl (cRight z nn w1) rfl rfl ?_)
  rintro e2 w2 ⟨v2, rfl, l2, rfl⟩
  refine ⟨_, rfl, ?_⟩
  have S2 := S1.like l2
  refine L_y ((by first | exact y_notD rfl | exact y_not rfl)) rfl ?_
  refine L_y (y_move rfl) rfl ?_
  refine L_splitB 11 rfl (fun h11 => ?_) (fun h11 => ?_)
  ·
    have hz : rightB z.l nn = false := by simpa using h11
    refine L_gno rfl rfl rfl ?_
    refine L_gno rfl rfl rfl ?_
    refine L_gno rfl rfl rfl ?_
    refine L_y ((by first | exact y_pickT rfl rfl | exact y_pickF rfl rfl)) rfl ?_
    refine L_nil ?_
    refine hK3 _ _ ?_
    refine T_true rfl ?_
    refine T_seq fun K4 hK4 => ?_
    refine T_region ?_
    refine L_y (y_assign rfl) rfl ?_
    refine L_y (y_assign rfl) rfl ?_
    refine L_nil ?_
    refine hK4 _ _ ?_
    refine T_ret ?_
    repeat (first | with_reducible refine up_then ?_ | with_reducible refine up_in ?_)
    refine ret2 rfl rfl rfl ?_
    first | exact ⟨_, rfl, S2.like0, .inl ⟨.inl hz, rfl⟩⟩ | exact ⟨_, rfl, S2.like0, .inl ⟨.inr hr, rfl⟩⟩ | exact ⟨_, rfl, S2.like0, .inr ⟨hz, hr, f, t, hf, hft, by omega, fun i q hq => run_ok hr hz hf hft (by omega) hin (fun q2 hq2 => by rw [hy] at hq2; cases hq2; exact h32) hq, rfl⟩⟩ | exact ⟨_, rfl, S2.like0, .inr ⟨hz, hr, f, t, hf, hft, by omega, fun i q hq => run_ok hr hz hf hft (by omega) hin (fun q2 hq2 => by have := (List.getElem?_eq_some_iff.1 hq2).1; omega) hq, rfl⟩⟩
  ·
    have hz : rightB z.l nn = true := by simpa using h11
    refine L_gyes rfl rfl ?_
    refine L_y (y_move rfl) rfl ?_
    refine L_gyes rfl rfl ?_
    refine L_o (o_call Try.func133 rfl rfl (prising A n c l w2 (S2.rd hl)) rfl rfl ?_)
    rintro e4 w4 ⟨v4, rfl, l4, rfl⟩
    refine ⟨_, rfl, ?_⟩
    have S4 := S2.like l4
    refine L_gyes rfl rfl ?_
    refine L_y ((by first | exact y_notD rfl | exact y_not rfl)) rfl ?_
    refine L_y ((by first | exact y_pickT rfl rfl | exact y_pickF rfl rfl)) rfl ?_
    refine L_nil ?_
    refine hK3 _ _ ?_
    refine T_condB rfl (fun h15 => ?_) (fun h15 => ?_)
    ·
      have hr : ris l = false := by simpa using h15
      refine T_seq fun K5 hK5 => ?_
      refine T_region ?_
      refine L_y (y_assign rfl) rfl ?_
      refine L_y (y_assign rfl) rfl ?_
      refine L_nil ?_
      refine hK5 _ _ ?_
      refine T_ret ?_
      repeat (first | with_reducible refine up_then ?_ | with_reducible refine up_in ?_)
      refine ret2 rfl rfl rfl ?_
      first | exact ⟨_, rfl, S4.like0, .inl ⟨.inl hz, rfl⟩⟩ | exact ⟨_, rfl, S4.like0, .inl ⟨.inr hr, rfl⟩⟩ | exact ⟨_, rfl, S4.like0, .inr ⟨hz, hr, f, t, hf, hft, by omega, fun i q hq => run_ok hr hz hf hft (by omega) hin (fun q2 hq2 => by rw [hy] at hq2; cases hq2; exact h32) hq, rfl⟩⟩ | exact ⟨_, rfl, S4.like0, .inr ⟨hz, hr, f, t, hf, hft, by omega, fun i q hq => run_ok hr hz hf hft (by omega) hin (fun q2 hq2 => by have := (List.getElem?_eq_some_iff.1 hq2).1; omega) hq, rfl⟩⟩
    ·
      have hr : ris l = true := by simpa using h15
      refine T_skip ?_
      refine hK2 _ _ ?_
      refine T_seq fun K6 hK6 => ?_
      refine T_region ?_
      refine L_y (y_move rfl) rfl ?_
      refine L_y (y_fieldA 0 Try.underlying85 rfl sz23 rfl rfl rfl) rfl ?_
      refine L_y (y_ldW Try.underlying23 rfl sz23 rfl (S4.blk 0 rfl) (part33 z nn)) rfl ?_
      refine L_o (o_call Try.func134 rfl rfl (pbelow A n c l z w4 (S4.rd hl) hr) rfl rfl ?_)
      rintro e5 w5 ⟨v5, rfl, l5, f, rfl, hf⟩
      refine ⟨_, rfl, ?_⟩
      have S5 := S4.like l5
      have hfn := hf.1
      refine L_y (y_assign rfl) rfl ?_
      refine L_nil ?_
      refine hK6 _ _ ?_
      refine T_seq fun K7 hK7 => ?_
      refine T_region ?_
      refine L_y (y_move rfl) rfl ?_
      refine L_y (y_assign rfl) rfl ?_
      refine L_nil ?_
      refine hK7 _ _ ?_
      refine T_seq fun K8 hK8 => ?_
      refine T_block ?_
      refine T_loop1 [(0, _), (3, _), (6, _)] (fun (t : Nat) => [(7, .int .i64 (t : Int))]) (fun (t : Nat) => n - t) (fun (t : Nat) (w : World) => (f ≤ t ∧ t ≤ n ∧ ∀ i y, f ≤ i → i < t → l[i]? = some y → fit z nn y = true) ∧ St w0 noM [blk b1 85 (pfA z.l nn)] w) f (Sub.cons rfl (by first | rfl | exact congrArg (Value.int _) (by omega)) (Sub.nil _)) (Sub.cons rfl rfl (Sub.cons rfl rfl (Sub.cons rfl rfl (Sub.nil _)))) ?_ ?_
      ·
        exact ⟨⟨Nat.le_refl _, by omega, fun i y h1 h2 => by omega⟩, S5⟩
      ·
        intro t w6 hrel
        obtain ⟨⟨hft, htn, hin⟩, S6⟩ := hrel
        refine T_seq fun K9 hK9 => ?_
        refine T_seq fun K10 hK10 => ?_
        refine T_tail 10 hmix (by kernel_rfl) fun w7 l7 K11 hK11 => ?_
        have S7 := S6.like l7
        refine HL_y (y_move rfl) rfl ?_
        refine HL_y (y_move rfl) rfl ?_
        refine HL_y (y_len Try.underlying24 rfl) rfl ?_
        refine HL_y (y_lss rfl rfl) rfl ?_
        refine HL_y (y_move rfl) rfl ?_
        refine HL_split 25 rfl (fun h25 => ?_) (fun h25 => ?_)
        ·
          obtain ⟨y, hy⟩ : ∃ y, l[t]? = some y := ⟨_, List.getElem?_eq_getElem (by omega)⟩
          refine HL_gyes rfl rfl ?_
          refine HL_y (y_ldW Try.underlying85 rfl sz85 rfl (S7.blk 0 rfl) (whole33 z nn)) rfl ?_
          refine HL_gyes rfl rfl ?_
          refine HL_y (y_move rfl) rfl ?_
          refine HL_gyes rfl rfl ?_
          refine HL_y (y_move rfl) rfl ?_
          refine HL_gyes rfl rfl ?_
          refine HL_y (y_idx Try.underlying24 sz23 rfl rfl (S7.rd hl) (Nt.mk (by omega) : Nt _ (t)) (by omega)) rfl ?_
          refine HL_gyes rfl rfl ?_
          refine HL_y (y_ldp (f := idf) idf_len Try.underlying23 rfl sz23 rfl (S7.rd hl) (by omega) hy) rfl ?_
          refine HL_nil ?_
          refine hK11 _ ?_
          refine L_gyes rfl rfl ?_
          refine L_o (o_call Try.func135 rfl rfl (cFits z nn y w7) rfl rfl ?_)
          rintro e9 w9 ⟨v9, rfl, l9, rfl⟩
          refine ⟨_, rfl, ?_⟩
          have S9 := S7.like l9
          refine L_y ((by first | exact y_pickT rfl rfl | exact y_pickF rfl rfl)) rfl ?_
          refine L_nil ?_
          refine hK10 _ _ ?_
          refine T_condB rfl (fun h32 => ?_) (fun h32 => ?_)
          ·
            refine T_skip ?_
            refine hK9 _ _ ?_
            refine T_block ?_
            refine T_region ?_
            refine L_y (y_move rfl) rfl ?_
            refine L_y (y_add rfl rfl (i64w (by omega))) rfl ?_
            refine L_y (y_assign rfl) rfl ?_
            refine L_nil ?_
            refine ⟨t + 1, by omega, ⟨⟨by omega, by omega, fun i q h1 h2 hq => by rcases Nat.lt_or_ge i t with h9 | h9; exact hin i q h1 h9 hq; (have e9 : i = t := by omega); subst e9; rw [hy] at hq; cases hq; exact h32⟩, S9⟩, ?_⟩
            exact (Sub.cons rfl (by first | rfl | exact congrArg (Value.int _) (by omega)) (Sub.cons rfl rfl (Sub.cons rfl rfl (Sub.cons rfl rfl (Sub.nil _)))))
          ·
            refine T_exit ?_
            refine hK8 _ _ ?_
            refine T_seq fun K12 hK12 => ?_
            refine T_region ?_
            refine L_y (y_move rfl) rfl ?_
            refine L_y (y_move rfl) rfl ?_
            refine L_y (y_assign rfl) rfl ?_
            refine L_y (y_assign rfl) rfl ?_
            refine L_nil ?_
            refine hK12 _ _ ?_
            refine T_ret ?_
            repeat (first | with_reducible refine up_then ?_ | with_reducible refine up_in ?_)
            refine ret2 rfl rfl rfl ?_
            first | exact ⟨_, rfl, S9.like0, .inl ⟨.inl hz, rfl⟩⟩ | exact ⟨_, rfl, S9.like0, .inl ⟨.inr hr, rfl⟩⟩ | exact ⟨_, rfl, S9.like0, .inr ⟨hz, hr, f, t, hf, hft, by omega, fun i q hq => run_ok hr hz hf hft (by omega) hin (fun q2 hq2 => by rw [hy] at hq2; cases hq2; exact h32) hq, rfl⟩⟩ | exact ⟨_, rfl, S9.like0, .inr ⟨hz, hr, f, t, hf, hft, by omega, fun i q hq => run_ok hr hz hf hft (by omega) hin (fun q2 hq2 => by have := (List.getElem?_eq_some_iff.1 hq2).1; omega) hq, rfl⟩⟩
        ·
          refine HL_gno rfl rfl rfl ?_
          refine HL_gno rfl rfl rfl ?_
          refine HL_gno rfl rfl rfl ?_
          refine HL_gno rfl rfl rfl ?_
          refine HL_gno rfl rfl rfl ?_
          refine HL_nil ?_
          refine hK11 _ ?_
          refine L_gno rfl rfl rfl ?_
          refine L_y ((by first | exact y_pickT rfl rfl | exact y_pickF rfl rfl)) rfl ?_
          refine L_nil ?_
          refine hK10 _ _ ?_
          refine T_false rfl ?_
          refine T_exit ?_
          refine hK8 _ _ ?_
          refine T_seq fun K13 hK13 => ?_
          refine T_region ?_
          refine L_y (y_move rfl) rfl ?_
          refine L_y (y_move rfl) rfl ?_
          refine L_y (y_assign rfl) rfl ?_
          refine L_y (y_assign rfl) rfl ?_
          refine L_nil ?_
          refine hK13 _ _ ?_
          refine T_ret ?_
          repeat (first | with_reducible refine up_then ?_ | with_reducible refine up_in ?_)
          refine ret2 rfl rfl rfl ?_
          first | exact ⟨_, rfl, S7.like0, .inl ⟨.inl hz, rfl⟩⟩ | exact ⟨_, rfl, S7.like0, .inl ⟨.inr hr, rfl⟩⟩ | exact ⟨_, rfl, S7.like0, .inr ⟨hz, hr, f, t, hf, hft, by omega, fun i q hq => run_ok hr hz hf hft (by omega) hin (fun q2 hq2 => by rw [hy] at hq2; cases hq2; exact h32) hq, rfl⟩⟩ | exact ⟨_, rfl, S7.like0, .inr ⟨hz, hr, f, t, hf, hft, by omega, fun i q hq => run_ok hr hz hf hft (by omega) hin (fun q2 hq2 => by have := (List.getElem?_eq_some_iff.1 hq2).1; omega) hq, rfl⟩⟩


end Go.Proofs.Ytgaklngnfecdaaa.Oid


/-
  Short of the program.
-/
namespace Go.Proofs.Ytgaklngnfecdaaa.Oid
open Go.RowKit Zk Zx
set_option linter.unusedVariables false
set_option linter.unusedSimpArgs false

theorem AL.lt {a b : Id} {m : Nat} (h : AL a b m) (hne : a ≠ b) : m < 64 := by
  rcases Nat.lt_or_ge m 64 with h1 | h1
  · exact h1
  · exact (hne (Id.ext (nib_ext _ _ a.h b.h fun k hk => h.2.1 k (by omega)))).elim
theorem ris_ne {l : List Id} (hr : ris l = true) {i j : Nat} {x y : Id} (hi : l[i]? = some x) (hj : l[j]? = some y) (hij : i ≠ j) : x ≠ y := fun e => by
  subst e
  rcases Nat.lt_or_gt_of_ne hij with h | h
  · have := ris_at hr hi hj h; rw [lt_irr] at this; cases this
  · have := ris_at hr hj hi h; rw [lt_irr] at this; cases this


end Go.Proofs.Ytgaklngnfecdaaa.Oid


/-
  Short of the document.
-/
namespace Go.Proofs.Ytgaklngnfecdaaa.Oid
open Go.RowKit Zk Zx
set_option linter.unusedVariables false
set_option linter.unusedSimpArgs false

end Go.Proofs.Ytgaklngnfecdaaa.Oid


/-
  Sorted of the document.
-/
namespace Go.Proofs.Ytgaklngnfecdaaa.Oid
open Go.RowKit Zk Zx
set_option linter.unusedVariables false
set_option linter.unusedSimpArgs false

theorem idf_take : ∀ (xs : List Id) (i : Nat), (xs.flatMap idf).take (i * 32) = (xs.take i).flatMap idf
  | _, 0 => by simp
  | [], i + 1 => by simp
  | y :: xs, i + 1 => by
    rw [List.flatMap_cons, List.take_succ_cons, List.flatMap_cons, ← idf_take xs i, show (i + 1) * 32 = (idf y).length + i * 32 by rw [idf_len]; omega, List.take_length_add_append]
theorem idf_drop : ∀ (xs : List Id) (i : Nat), (xs.flatMap idf).drop (i * 32) = (xs.drop i).flatMap idf
  | _, 0 => by simp
  | [], i + 1 => by simp
  | y :: xs, i + 1 => by
    rw [List.flatMap_cons, List.drop_succ_cons, ← idf_drop xs i, show (i + 1) * 32 = (idf y).length + i * 32 by rw [idf_len]; omega, List.drop_length_add_append]
end Go.Proofs.Ytgaklngnfecdaaa.Oid


/-
  The law OidBeside.
-/
namespace Go.Proofs.Ytgaklngnfecdaaa.Oid
open Go.RowKit Zk Zx
set_option linter.unusedVariables false
set_option linter.unusedSimpArgs false

theorem fit_no {z : Id} {nn : Int} (h : rightB z.l nn = false) (x : Id) : fit z nn x = false := by
  unfold fit fitsB
  rw [h]
  rfl
/-- Where those stand that begin so. -/
theorem range_fit {l : List Id} {z : Id} {nn : Int} {u : Value} (hr : ris l = true) (h : rangeOk l z nn u) : ∃ a b : Nat, u = .tuple #[.int .i64 (a : Int), .int .i64 (b : Int)] ∧ a ≤ b ∧ b ≤ l.length ∧ ∀ i y, l[i]? = some y → fit z nn y = decide (a ≤ i ∧ i < b) := by
  rcases h with ⟨h1, h2⟩ | ⟨_, _, f, t, _, h3, h4, h5, h6⟩
  · rcases h1 with h1 | h1
    · exact ⟨0, 0, h2, Nat.le_refl _, Nat.zero_le _, fun i y hy => by rw [fit_no h1]; exact (decide_eq_false (by omega)).symm⟩
    · rw [hr] at h1; cases h1
  · exact ⟨f, t, h6, h3, h4, h5⟩
theorem prangeF (A : Option Addr) (n c : Nat) (l : List Id) (z : Id) (nn : Int) (w0 : World) (hl : Rs w0 32 A n c (l.flatMap idf)) (hr : ris l = true) : Calls Try.prog 88 #[.slice A n c, .agg (pfA z.l nn)] w0 fun e w' => ∃ u, e = .returned u ∧ Like w0 w' ∧ ∃ a b : Nat, u = .tuple #[.int .i64 (a : Int), .int .i64 (b : Int)] ∧ a ≤ b ∧ b ≤ l.length ∧ ∀ i y, l[i]? = some y → fit z nn y = decide (a ≤ i ∧ i < b) :=
  (prange A n c l z nn w0 hl).mono fun e w' ⟨u, h1, h2, h3⟩ => ⟨u, h1, h2, range_fit hr h3⟩
end Go.Proofs.Ytgaklngnfecdaaa.Oid


/-
  The second form's bound: what it gives of a law's arguments. General; nothing here names a program.
-/
namespace Go.Proofs.Ytgaklngnfecdaaa.Zx
open Go.ChangeShapes Go.WideShapes Go.ChangeAt Go.RowKit Go.Deep Zk
set_option linter.unusedVariables false
section
variable {H : Type} {enc : TypeId × Value → H} {P : Program} {w : World} {base : Nat} {spare : Nat → Bool} {held : Bool}
end
end Go.Proofs.Ytgaklngnfecdaaa.Zx


/-
  The arguments of OidBeside and OidRanges, opened.
-/
namespace Go.Proofs.Ytgaklngnfecdaaa.Oid
open Go.ChangeShapes Go.WideShapes Go.ChangeAt Go.RowKit Go.Deep Zk Zx
set_option linter.unusedVariables false
set_option maxRecDepth 100000
section
variable {H : Type} {enc : TypeId × Value → H} {w : World} {base : Nat} {spare : Nat → Bool} {held : Bool}
theorem read_id {fuel : Nat} {cs : List Value} {x : DataW H × List MemPlace} (h : DataW.trod enc Try.prog w base spare held fuel 23 cs = some x) : ∃ y : Id, cs = idf y := by
  obtain ⟨z, hz, hcs⟩ := read_bytes Try.underlying23 Try.underlying5 (by kernel_rfl) (by kernel_rfl) h
  exact ⟨⟨z, hz⟩, hcs⟩
theorem read_pf {fuel : Nat} {cs : List Value} {x : DataW H × List MemPlace} (hlen : cs.length = 33) (h : DataW.trod enc Try.prog w base spare held fuel 85 cs = some x) : ∃ (z : Id) (n : Int), cs = bL z.l ++ [.int .i64 n] := by
  obtain ⟨xs, n, _, hx, hl, hlen2, hg⟩ := DataW.trod_struct Try.underlying85 h
  have c23 : Try.prog.cellsOf 23 = 32 := by kernel_rfl
  have c3 : Try.prog.cellsOf 3 = 1 := by kernel_rfl
  have e0 := hg 0 _ rfl
  have e1 := hg 1 _ rfl
  change DataW.trod enc Try.prog w base spare held n 23 ((cs.drop 0).take (Try.prog.cellsOf 23)) = _ at e0
  change DataW.trod enc Try.prog w base spare held n 3 ((cs.drop 32).take (Try.prog.cellsOf 3)) = _ at e1
  rw [c23, List.drop_zero] at e0
  rw [c3] at e1
  have hxl : xs.length = 2 := hlen2
  rw [List.getElem?_eq_getElem (show 0 < xs.length by omega)] at e0
  rw [List.getElem?_eq_getElem (show 1 < xs.length by omega)] at e1
  obtain ⟨y, hy⟩ := read_id e0
  obtain ⟨m, hm, _, _⟩ := DataW.trod_int Try.underlying3 e1
  refine ⟨y, m, ?_⟩
  have hy' : cs.take 32 = bL y.l := hy
  rw [← hy', ← hm, show (cs.drop 32).take 1 = cs.drop 32 from List.take_of_length_le (by simp; omega), List.take_append_drop]
theorem open_pfI {r : Reach} {b0 : Nat} {v : Value} {d : DataW H} {p : List MemPlace} (hv : Value.okWide Try.prog w r b0 85 v) (h : DataW.Trod enc Try.prog w base spare held 85 v d p) : ∃ (z : Id) (n : Int), v = .agg (pfA z.l n) := by
  obtain ⟨cs, rfl, hsz⟩ := okWide_struct Try.underlying85 hv
  obtain ⟨fuel, hf⟩ := h
  have c30 : Try.prog.cellsOf 85 = 33 := by kernel_rfl
  obtain ⟨z, n, hcs⟩ := read_pf (by show cs.toList.length = 33; rw [Array.length_toList]; omega) hf
  refine ⟨z, n, ?_⟩
  have hcs' : cs.toList = bL z.l ++ [.int .i64 n] := hcs
  rw [show cs = pfA z.l n by unfold pfA; rw [← hcs']]
end
end Go.Proofs.Ytgaklngnfecdaaa.Oid


/-
  The law OidRanges.
-/
namespace Go.Proofs.Ytgaklngnfecdaaa.Oid
open Go.RowKit Zk Zx
set_option linter.unusedVariables false
set_option linter.unusedSimpArgs false

section
variable (A : Option Addr) (n c : Nat) (z : Id) (nn : Int) (x : Id) (least : Int)
end
theorem bA_one (x : Id) : ∀ u ∈ (bA x.l).toList, u.oneCell' = true := fun u hu => bL_one x.l u hu
end Go.Proofs.Ytgaklngnfecdaaa.Oid
