/-
  More operations: literals, makes, strings, arrays by value. General; nothing here names a program.
-/
import Derived.Test.YtmgimcdkeelnpaaZz
namespace Go.Proofs.Ytmgimcdkeelnpaa.Zx
open Go.RowKit Zk
set_option linter.unusedVariables false
set_option linter.unusedSimpArgs false
section
variable {P : Program} {N : Nat} {Q : Post} {env : Env} {w w0 : World} {M : Nat → Prop} {rs : List Res} {K : Env → World → Prop} {d : Tmp} {ty : TypeId} {pos : String} {after : Array Edge} {g : Option (Nat × Bool)}
def idx : Nat → List Value → List (Nat × Value)
  | _, [] => []
  | k, v :: vs => (k, v) :: idx (k + 1) vs
theorem fill_all (size : Nat) : ∀ (vs : List Value) (k : Nat) (pre junk : List Value), (∀ v ∈ vs, v.cells.size = size) → pre.length = k * size → junk.length = vs.length * size →
    Instr.fill (fun i => some (i * size, size)) (pre ++ junk).toArray (idx k vs) = some (pre ++ vs.flatMap fun v => v.cells.toList).toArray
  | [], k, pre, junk, _, _, hj => by
    obtain rfl : junk = [] := List.eq_nil_of_length_eq_zero (by simpa using hj)
    simp [idx, Instr.fill]
  | v :: vs, k, pre, junk, hv, hp, hj => by
    have hvs := hv v (by simp)
    have hj' : junk.length = size + vs.length * size := by rw [hj, List.length_cons, Nat.succ_mul, Nat.add_comm]
    simp only [idx]
    rw [fill_part (fun i => some (i * size, size)) _ k (k * size) size v.cells v rfl _ rfl hvs (by simp; omega)]
    have e1 : (pre ++ junk).toArray.toList.take (k * size) = pre := by simp [hp]
    have e2 : (pre ++ junk).toArray.toList.drop (k * size + size) = junk.drop size := by
      simp only [List.drop_append, hp]
      rw [List.drop_of_length_le (by omega), List.nil_append]
      congr 1
      omega
    rw [e1, e2, fill_all size vs (k + 1) (pre ++ v.cells.toList) (junk.drop size) (fun u hu => hv u (by simp [hu])) (by simp [hp, hvs, Nat.succ_mul]) (by simp; omega)]
    simp
theorem evp_idx (e : Env) : ∀ (parts : List (Nat × Operand)) (vs : List Value) (k : Nat), parts.map (·.1) = List.range' k parts.length → evl e (parts.map (·.2)) = some vs → evp e parts = some (idx k vs)
  | [], vs, k, _, h => by simp only [List.map_nil, evl, Option.some.injEq] at h; subst h; rfl
  | (i, x) :: parts, vs, k, hi, h => by
    simp only [List.map_cons, evl] at h
    simp only [List.map_cons, List.length_cons, List.range'_succ, List.cons.injEq] at hi
    cases hx : ev e x with
    | none => rw [hx] at h; cases h
    | some v =>
      cases hxs : evl e (parts.map (·.2)) with
      | none => rw [hx, hxs] at h; cases h
      | some us =>
        rw [hx, hxs] at h
        simp only [Option.some.injEq] at h
        subst h
        simp only [evp, hx, evp_idx e parts us (k + 1) hi.2 hxs, idx, hi.1]
/-- A slice literal. -/
theorem o_bslL {t e : TypeId} {z : Value} {size bytes len : Nat} {parts : Array (Nat × Operand)} {us : List Value} (vs : List Value) (TE : Elem P t e z size bytes) (hz : ∀ W, (zeroValue e).run P W = .ok z W) (S : St w0 M rs w) (hp : evl env (parts.toList.map (·.2)) = some us)
    (hi : parts.toList.map (·.1) = List.range' 0 parts.toList.length) (hlp : parts.toList.length = len) (hus : us.all (fun v => Nat.beq v.cells.size size) = true) (hvs : us.flatMap (fun v => v.cells.toList) = vs)
    (hl : Nat.ble (len * size) 16777216 = true) (h0 : Nat.blt 0 (len * size) = true) (hd : Nat.blt d N = true)
    (h : ∀ b w', Like w w' → St w0 M (rs ++ [row e size (some ⟨b, 0, none⟩) len len vs]) w' → K ((d, .slice (some ⟨b, 0, none⟩) len len) :: env) w') :
    O P N Q ⟨some d, .buildSlice t len parts, ty, pos, after, g⟩ env w K := fun a ha => by
  have hpe : (parts.map fun (i, x) => (i, a.eval x)).toList = idx 0 us := by
    rw [← evp_map ha parts.toList (idx 0 us) (evp_idx env parts.toList us 0 hi hp)]
    simp
  have hul : us.length = len := by
    have h1 := evl_map ha _ _ hp
    rw [← h1]
    simpa using hlp
  have husz : ∀ v ∈ us, v.cells.size = size := fun v hv => by
    have := List.all_eq_true.1 hus v hv
    simpa using this
  have hvl : vs.length = len * size := by
    rw [← hvs, ← hul]
    clear hvs hus hp hpe hul
    induction us with
    | nil => simp
    | cons u us ih => simp [husz u (by simp), ih (fun v hv => husz v (by simp [hv])), Nat.succ_mul, Nat.add_comm]
  obtain ⟨i, hi, hz', hsize, hby⟩ := info_parts TE.hi
  have hsz : (P.info? e).map (·.size) = some size := by rw [hi]; simp [hsize]
  have hl' : ¬ len * size > 2 ^ 24 := by have : len * size ≤ 16777216 := by simpa using hl
                                         omega
  have h0' : ¬ len * size = 0 := by have : 0 < len * size := by simpa using h0
                                    omega
  have hlen : len ≤ maxLen := by
    have h1 : len * 1 ≤ len * size := Nat.mul_le_mul_left _ TE.hsz
    unfold maxLen
    omega
  have hfill : Instr.fill (fun i => some (i * size, size)) ((Array.range (len * size)).map (z.cells[· % z.cells.size]!)) (idx 0 us) = some vs.toArray := by
    have := fill_all size us 0 [] ((Array.range (len * size)).map (z.cells[· % z.cells.size]!)).toList husz (by simp) (by simp [hul])
    simp only [List.nil_append, hvs] at this
    exact this
  have hrun : (Instr.buildSlice t len (parts.map fun (i, x) => (i, a.eval x))).run P w = .ok (.slice (some ⟨w.heap.size, 0, none⟩) len len) (w.alloc (.cells vs.toArray e)) := by
    simp only [Instr.buildSlice, Sem.run_bind, run_underlying TE.ht, Result.andThen_ok, sizeOf_run hsz, if_neg hl', if_neg h0', hz, Sem.run_pure, hpe, hfill, newRow, run_newObj_alloc]
  unfold Oper.wp execOp
  simp only [Sem.run_bind, hrun, Result.andThen_ok, Sem.run_pure]
  refine ⟨_, ha.put d _ hd, h _ _ (like_alloc w _) (S.new (like_alloc w _) _ (World.ownsRow_lit w vs.toArray len (Nat.zero_le _) hlen (by simpa using hvl)) fun i hi => ?_)⟩
  change (Value.slice (some ⟨w.heap.size, 0, none⟩) len len).ownBlock = some i at hi
  simp only [Value.ownBlock, Option.some.injEq] at hi
  subst hi
  exact ⟨Nat.le_refl _, by simp⟩
theorem o_bsl {t e : TypeId} {z : Value} {size bytes len : Nat} {parts : Array (Nat × Operand)} {us : List Value} (vs : List Value) (TE : Elem P t e z size bytes) (hz : ∀ W, (zeroValue e).run P W = .ok z W) (S : St w0 M rs w) (hp : evl env (parts.toList.map (·.2)) = some us)
    (hi : parts.toList.map (·.1) = List.range' 0 parts.toList.length) (hlp : parts.toList.length = len) (hus : us.all (fun v => Nat.beq v.cells.size size) = true) (hvs : us.flatMap (fun v => v.cells.toList) = vs)
    (hl : Nat.ble (len * size) 16777216 = true) (h0 : Nat.blt 0 (len * size) = true) (hd : Nat.blt d N = true)
    (h : ∀ b w', St w0 M (rs ++ [row e size (some ⟨b, 0, none⟩) len len vs]) w' → K ((d, .slice (some ⟨b, 0, none⟩) len len) :: env) w') :
    O P N Q ⟨some d, .buildSlice t len parts, ty, pos, after, g⟩ env w K := o_bslL vs TE hz S hp hi hlp hus hvs hl h0 hd fun b w' _ => h b w'
/-- An empty slice literal. -/
theorem o_bsl0 {t e : TypeId} {z : Value} {size bytes : Nat} (TE : Elem P t e z size bytes) (S : St w0 M rs w) (hd : Nat.blt d N = true)
    (h : ∀ b w', Like w w' → St w0 M (rs ++ [row e size (some ⟨b, 0, none⟩) 0 0 []]) w' → K ((d, .slice (some ⟨b, 0, none⟩) 0 0) :: env) w') :
    O P N Q ⟨some d, .buildSlice t 0 #[], ty, pos, after, g⟩ env w K := fun a ha => by
  obtain ⟨i, hi, hz', hsize, hby⟩ := info_parts TE.hi
  have hsz : (P.info? e).map (·.size) = some size := by rw [hi]; simp [hsize]
  have hrun : (Instr.buildSlice t 0 ((#[] : Array (Nat × Operand)).map fun (i, x) => (i, a.eval x))).run P w = .ok (.slice (some ⟨w.heap.size, 0, none⟩) 0 0) (w.alloc (.cells #[] e)) := by
    have h1 : ¬ (0 : Nat) > 2 ^ 24 := by omega
    simp only [Instr.buildSlice, Sem.run_bind, run_underlying TE.ht, Result.andThen_ok, sizeOf_run hsz, Nat.zero_mul, if_neg h1, if_true, Sem.run_pure, List.map_toArray, List.map_nil, Instr.fill, newRow, show Array.range 0 = #[] from rfl, Array.map_empty, run_newObj_alloc]
  unfold Oper.wp execOp
  simp only [Sem.run_bind, hrun, Result.andThen_ok, Sem.run_pure]
  refine ⟨_, ha.put d _ hd, h _ _ (like_alloc w _) (S.new (like_alloc w _) _ (World.ownsRow_lit w #[] 0 (Nat.zero_le _) (Nat.zero_le _) (by simp)) fun i hi => ?_)⟩
  change (Value.slice (some ⟨w.heap.size, 0, none⟩) 0 0).ownBlock = some i at hi
  simp only [Value.ownBlock, Option.some.injEq] at hi
  subst hi
  exact ⟨Nat.le_refl _, by simp⟩
/-- make([]T, n, c) with elements of one cell. -/
theorem o_make {t e : TypeId} {z : Value} {bytes : Nat} {x y : Operand} {k k' : IntKind} {jn jc : Int} {n c : Nat} (TE : Elem P t e z 1 bytes) (hone : z.oneCell' = true) (S : St w0 M rs w) (hx : ev env x = some (.int k jn)) (hy : ev env y = some (.int k' jc)) (hn : Nt jn n) (hc : Nt jc c) (hd : Nat.blt d N = true)
    (hnc : n ≤ c) (hbytes : c * bytes ≤ 281474976710656) (hcm : c ≤ 9223372036854775807)
    (h : ∀ b w', St w0 M (rs ++ [row e 1 (some ⟨b, 0, none⟩) n c (List.replicate n z)]) w' → K ((d, .slice (some ⟨b, 0, none⟩) n c) :: env) w') :
    O P N Q ⟨some d, .makeSlice t x y, ty, pos, after, g⟩ env w K := fun a ha => by
  have e1 := hn.eq
  have e2 := hc.eq
  subst e1; subst e2
  obtain ⟨i, hi, hz', hsize, hby⟩ := info_parts TE.hi
  have hb : (i.bytes : Int) * (c : Int) ≤ 281474976710656 := by
    have h : ((i.bytes * c : Nat) : Int) ≤ 281474976710656 := by rw [hby, Nat.mul_comm]; omega
    rwa [Int.natCast_mul] at h
  have hr := run_make (P := P) w t e i z TE.ht hi hz' k k' n c (by omega) (by omega) hb (by omega)
  simp only [Int.toNat_natCast] at hr
  unfold Oper.wp execOp
  simp only [ha.eval hx, ha.eval hy, Sem.run_bind, hr, Result.andThen_ok, Sem.run_pure]
  have hzc : z.cells.size = 1 := TE.hzs
  have hcells : madeCells z.cells (c * i.size) = Array.replicate c z := by
    rw [hsize, Nat.mul_one, cells_one hone]
    apply Array.ext
    · simp [madeCells]
    · intro j h1 h2
      simp [madeCells, Nat.mod_one]
  refine ⟨_, ha.put d _ hd, h _ _ (S.new (like_alloc w _) _ ?_ fun i hi => ?_)⟩
  · refine ⟨by simp, .inr ⟨w.heap.size, c, _, rfl, Nat.zero_le _, heap_alloc_new w _, hnc, by unfold maxLen; omega, ?_, ?_⟩⟩
    · rw [hcells]; simp
    · rw [hcells, Nat.mul_one]
      simp [hnc]
  · change (Value.slice (some ⟨w.heap.size, 0, none⟩) n c).ownBlock = some i at hi
    simp only [Value.ownBlock, Option.some.injEq] at hi
    subst hi
    exact ⟨Nat.le_refl _, by simp⟩
/-- 'copy' into a block known whole. -/
theorem o_copyB {x y : Operand} {dT sT el b o t dLen dCap sLen sCap : Nat} {A A' : Option Addr} {cs : Array Value} {src news : List Value} (S : St w0 M rs w) (k : Nat) (hk : rs[k]? = some (blk b t cs)) (hu : P.underlying dT = some (.slice el)) (hsz : (P.info? el).map (·.size) = some 1)
    (hx : ev env x = some (.slice A dLen dCap)) (hA : A = some ⟨b, o, none⟩) (hy : ev env y = some (.slice A' sLen sCap)) (hr : Rs w 1 A' sLen sCap src) (hn : news = src.take dLen) (hfit : o + news.length ≤ cs.size) (h1 : ∀ u ∈ src, u.oneCell' = true) (hd : Nat.blt d N = true)
    (h : ∀ w', St w0 M (rs.set k (blk b t (cs.toList.take o ++ news ++ cs.toList.drop (o + news.length)).toArray)) w' → K ((d, .int .i64 (news.length : Int)) :: env) w') :
    O P N Q ⟨some d, .call { callee := .builtin .copy, args := #[x, y], argTypes := #[dT, sT] }, ty, pos, after, g⟩ env w K := fun a ha => by
  subst hA
  have hl : news.length = Nat.min sLen dLen := by
    rw [hn, List.length_take, hr.len, Nat.mul_one]
    exact Nat.min_comm _ _
  have hrd : Reads w w.heap.size 1 A' news.length news := by
    have h2 := (hr.cut (l := 0) (u := news.length) (Nat.zero_le _) (by rw [hl]; exact Nat.min_le_left _ _)).rd
    unfold cutA at h2
    have e1 : ((src.drop (0 * 1)).take ((news.length - 0) * 1)) = news := by
      simp only [Nat.zero_mul, List.drop_zero, Nat.sub_zero, Nat.mul_one]
      rw [hn, List.length_take, List.take_eq_take_iff]
      omega
    rw [e1, Nat.sub_zero] at h2
    split at h2
    · exact h2
    · refine ⟨h2.1, fun h0 => ?_⟩
      obtain ⟨ad, h3, h4, h5⟩ := h2.2 h0
      cases A' with
      | none => cases h3
      | some a0 =>
        simp only [Nat.zero_mul, Option.map_some, Option.some.injEq] at h3
        have e2 : a0.add 0 = a0 := by unfold Addr.add; simp
        rw [e2] at h3
        subst h3
        exact ⟨_, rfl, h4, h5⟩
  refine wp_copyB w x y dT sT rfl el hu hsz b o dLen dCap (ha.eval hx) (ha.eval hy) (S.blk k hk) news hl hrd hfit (fun u hu => h1 u (by rw [hn] at hu; exact List.mem_of_mem_take hu)) fun w' h2 h3 => ⟨_, ha.put d _ hd, h w' (S.upd k hk h3.os h3.tape h3.output h3.size (fun i hi hn => h3.block i hi (fun e => hn (by injection e))) h2 fun i hi => .inl hi)⟩
/-- '[]byte("..")' of a constant: the row gets the run-time's mark. -/
theorem freeze_at (w : World) (g : Nat) (C : Array Value) (e : TypeId) (hg : w.heap[g]? = some (.cells C e (0, 0))) :
    w.grownBy (w.freeze ⟨g, C.size, none⟩ 1) (some g) ∧ (w.freeze ⟨g, C.size, none⟩ 1).heap[g]? = some (.cells C e (C.size, C.size + 1)) := by
  unfold World.freeze
  rw [if_neg (by decide)]
  refine ⟨⟨rfl, rfl, rfl, by simp, fun k hk hne => ?_⟩, ?_⟩
  · have : g ≠ k := fun e => hne (by rw [e])
    simp [Array.getElem?_modify, this]
  · simp [Array.getElem?_modify, hg]
theorem o_bconst {t e b n c : Nat} {x : Operand} {xs : List Value} (S : St w0 M rs w) (k : Nat) (hk : rs[k]? = some (row e 1 (some ⟨b, 0, none⟩) n c xs)) (ht : P.underlying t = some (.slice e)) (he : P.underlying e = some (.int .u8)) (hx : ev env x = some (.slice (some ⟨b, 0, none⟩) n c)) (hn : 0 < n) (hd : Nat.blt d N = true)
    (h : ∀ w', St w0 M (rs.set k (fixed 1 (some ⟨b, 0, none⟩) n c xs)) w' → K ((d, .slice (some ⟨b, 0, none⟩) n c) :: env) w') : O P N Q ⟨some d, .convert t t x, ty, pos, after, g⟩ env w K := fun a ha => by
  have hown : w.ownsRow 0 e 1 (.slice (some ⟨b, 0, none⟩) n c) n xs := S.get k hk
  rcases hown.2 with ⟨h1, _⟩ | ⟨g', cap, cur, h1, _, hg, h2, h3, h4, h5⟩
  · cases h1
  · injection h1 with h1 _ h6
    injection h1 with h1
    injection h1 with h1
    subst h1; subst h6
    obtain ⟨f1, f2⟩ := freeze_at w b cur e hg
    have hsh : w.shape? b = some (e, cur.size) := by
      unfold World.shape?
      rw [hg]
    have hr : (convert t t (.slice (some ⟨b, 0, none⟩) n c)).run P w = .ok (.slice (some ⟨b, 0, none⟩) n c) (w.freeze ⟨b, cur.size, none⟩ 1) := by
      simp [convert, run_underlying ht, run_underlying he, markStringish, hsh]
    unfold Oper.wp execOp
    simp only [ha.eval hx, Sem.run_bind, hr, Result.andThen_ok, Sem.run_pure]
    refine ⟨_, ha.put d _ hd, h _ (S.upd k hk f1.os f1.tape f1.output f1.size (fun i hi hne => f1.block i hi (fun e => hne (by injection e with e; subst e; rfl))) ?_ fun i ⟨ad, _, hA, hi⟩ => .inl ?_)⟩
    · have hrs := rs_of_row hown
      refine ⟨⟨hrs.rd.1, fun hn => ⟨_, rfl, ?_, fun j u hu => ?_⟩⟩, hrs.cap, hrs.max⟩
      · exact (Array.getElem?_eq_some_iff.1 f2).1
      · have hc := hrs.rd.2 hn
        obtain ⟨ad, had, _, hcell⟩ := hc
        cases had
        have := hcell j u hu
        rw [Addr.add_mid] at this ⊢
        rw [cell_of_row _ b _ cur e (0, 0) hg] at this
        rw [cell_of_row _ b _ cur e _ f2]
        exact this
    · cases hA
      subst hi
      rfl
/-- A store over a whole block. -/
theorem o_stW {st : TypeId} {x y : Operand} {b t : Nat} {cs vs : Array Value} (S : St w0 M rs w) (k : Nat) (hk : rs[k]? = some (blk b t cs)) (hx : ev env x = some (.pointer (some ⟨b, 0, none⟩))) (hy : ev env y = some (.agg vs))
    (hsz : (P.info? st).map (·.size) = some vs.size) (hl : vs.size = cs.size) (h1 : ∀ u ∈ vs.toList, u.oneCell' = true)
    (h : ∀ w', St w0 M (rs.set k (blk b t vs)) w' → K env w') : O P N Q ⟨none, .store st x y, ty, pos, after, g⟩ env w K :=
  o_stR S k hk hx hy hsz (by omega) h1 fun w' S' => h w' (by
    have : (cs.toList.take 0 ++ vs.toList ++ cs.toList.drop (0 + vs.size)).toArray = vs := by
      rw [Nat.zero_add, hl, ← Array.length_toList, List.drop_length]
      simp
    rwa [this] at S')
/-- 'x[k] = v' in a row of the call's own. -/
theorem o_strow {st : TypeId} {x y : Operand} {e n c k : Nat} {A : Option Addr} {xs : List Value} {v : Value} (S : St w0 M rs w) (i : Nat) (hk : rs[i]? = some (row e 1 A n c xs)) (hx : ev env x = some (pR A k 1)) (hy : ev env y = some v)
    (hv : v.oneCell' = true) (hsz : (P.info? st).map (·.size) = some 1) (hkn : k < n)
    (h : ∀ w', St w0 M (rs.set i (row e 1 A n c (xs.set k v))) w' → K env w') : O P N Q ⟨none, .store st x y, ty, pos, after, g⟩ env w K := fun a ha => by
  have hown : w.ownsRow 0 e 1 (.slice A n c) n xs := S.get i hk
  obtain ⟨b, cap, hv', _, hlt⟩ := hown.form (by omega)
  injection hv' with hA _ hcap
  subst hA; subst hcap
  have hxa : a.eval x = .pointer (some ⟨b, k, none⟩) := by
    rw [ha.eval hx]
    simp [pR, Addr.add_mid]
  have hxl : xs.length = n := by have := hown.1; simpa using this
  have hc : w.cell? ⟨b, k, none⟩ = some (xs[k]'(by omega)) := (hown.cellAt k (by omega)).trans (List.getElem?_eq_getElem (by omega))
  have hf : w.frozen? ⟨b, k, none⟩ = false := hown.frozenAt k
  have hr : (storeVar st ⟨b, k, none⟩ v).run P w = .ok () (w.setCell ⟨b, k, none⟩ v) := by
    simp only [storeVar, Sem.run_bind, sizeOf_run hsz, cells_one hv, Result.andThen_ok]
    simp [storeCells, hv, stored, hc, hf, run_store, go_sem]
  unfold Oper.wp execOp
  simp only [hxa, ha.eval hy, Instr.storeAt, Instr.sureAddr, Sem.run_bind, Sem.run_pure, Result.andThen_ok, hr]
  refine ⟨env, ha, h _ (S.upd i hk rfl rfl rfl (by simp) (fun j hj hn => Below.heap_setCell w ⟨b, k, none⟩ v j (fun e => hn (by simp [row, Value.ownBlock, e]))) ?_ fun j hj => .inl hj)⟩
  exact (hown.stored k v).1
end
section
variable {P : Program} {S : World → Prop} {env : Env} {w : World} {dst : Option Tmp} {ty : TypeId} {pos : String} {after : Array Edge} {g : Option (Nat × Bool)}
/-- An element of one cell, where the cells are a list's image. -/
theorem y_ldm {α : Type} [Inhabited α] {x : Operand} {A : Option Addr} {n c k : Nat} {f : α → Value} {l : List α} {lt : TypeId} {d : TypeDesc} (hd : P.underlying lt = some d) (hrow : d.isRow = false) (hx : ev env x = some (pR A k 1)) (hr : Rs w 1 A n c (l.map f)) (hk : k < n) :
    Y P (Like w) env ⟨dst, .load lt x, ty, pos, after, g⟩ (f l[k]!) := y_ldr hd hrow hx hr (by
  have hl : k < l.length := by have := hr.len; simp at this; omega
  rw [List.getElem?_map, List.getElem?_eq_getElem hl, Option.map_some, getElem!_pos l k hl])
theorem y_ldg {α : Type} (a0 : α) {x : Operand} {A : Option Addr} {n c k : Nat} {f : α → Value} {l : List α} {lt : TypeId} {d : TypeDesc} (hd : P.underlying lt = some d) (hrow : d.isRow = false) (hx : ev env x = some (pR A k 1)) (hr : Rs w 1 A n c (l.map f)) (hk : k < n) :
    Y P (Like w) env ⟨dst, .load lt x, ty, pos, after, g⟩ (f (l.getD k a0)) := y_ldr hd hrow hx hr (by
  have hl : k < l.length := by have := hr.len; simp at this; omega
  rw [List.getElem?_map, List.getElem?_eq_getElem hl, Option.map_some, List.getD_eq_getElem?_getD, List.getElem?_eq_getElem hl, Option.getD_some])
/-! strings -/
theorem y_idxS {x i : Operand} {t : TypeId} {s : ByteArray} {q : IntKind} {j : Int} {k : Nat} (ht : P.underlying t = some .string) (hx : ev env x = some (.string s)) (hi : ev env i = some (.int q j)) (hj : Nt j k) (hk : k < s.size) :
    Y P S env ⟨dst, .index t x i, ty, pos, after, g⟩ (.int .u8 (g8 s.data.toList k)) := fun N a w' ha _ => by
  have hj' := hj.eq
  subst hj'
  have hl : k < s.data.toList.length := by rw [size_toList]; exact hk
  have := run_index_str (P := P) ht s k _ (List.getElem?_eq_getElem hl) q w'
  simp only [execOp, ha.eval hx, ha.eval hi, Sem.run_bind, this, Result.andThen_ok, Sem.run_pure]
  simp only [g8, List.getD_eq_getElem?_getD, List.getElem?_eq_getElem hl, Option.getD_some]
theorem y_sslice {x i j : Operand} {t : TypeId} {s : ByteArray} {kl kh : IntKind} {jl jh : Int} {l u : Nat} (ht : P.underlying t = some .string) (hx : ev env x = some (.string s)) (hi : ev env i = some (.int kl jl)) (hj : ev env j = some (.int kh jh)) (hl : Nt jl l) (hu : Nt jh u) (h1 : l ≤ u) (h2 : u ≤ s.size) :
    Y P S env ⟨dst, .slice t x (some i) (some j) none, ty, pos, after, g⟩ (.string (s.extract l u)) := fun N a w' ha _ => by
  have e1 := hl.eq
  have e2 := hu.eq
  subst e1; subst e2
  have hb : (Instr.sliceBounds false s.size s.size (some (.int kl (l : Int))) (some (.int kh (u : Int))) none).run P w' = .ok (l, u, s.size) w' := by
    have i1 : (0 : Int) ≤ (u : Int) ∧ (u : Int) ≤ (s.size : Int) := by omega
    have i2 : (0 : Int) ≤ (l : Int) ∧ (l : Int) ≤ (u : Int) := by omega
    simp [Instr.sliceBounds, Instr.sliceBound, asIntOf, Sem.run_bind, h1, h2]
  simp only [execOp, ha.eval hx, Option.map_some, Option.map_none, ha.eval hi, ha.eval hj, Instr.sliceAt, Instr.slice, Sem.run_bind, run_underlying ht, Result.andThen_ok, hb, Sem.run_pure, Option.isSome_none, Bool.false_eq_true, if_false]
theorem y_ssliceL {x i : Operand} {t : TypeId} {s : ByteArray} {kl : IntKind} {jl : Int} {l : Nat} (ht : P.underlying t = some .string) (hx : ev env x = some (.string s)) (hi : ev env i = some (.int kl jl)) (hl : Nt jl l) (h1 : l ≤ s.size) :
    Y P S env ⟨dst, .slice t x (some i) none none, ty, pos, after, g⟩ (.string (s.extract l s.size)) := fun N a w' ha _ => by
  have e1 := hl.eq
  subst e1
  have hb : (Instr.sliceBounds false s.size s.size (some (.int kl (l : Int))) none none).run P w' = .ok (l, s.size, s.size) w' := by
    simp [Instr.sliceBounds, Instr.sliceBound, asIntOf, Sem.run_bind, h1]
  simp only [execOp, ha.eval hx, Option.map_some, Option.map_none, ha.eval hi, Instr.sliceAt, Instr.slice, Sem.run_bind, run_underlying ht, Result.andThen_ok, hb, Sem.run_pure, Option.isSome_none, Bool.false_eq_true, if_false]
theorem y_ssliceH {x j : Operand} {t : TypeId} {s : ByteArray} {kh : IntKind} {jh : Int} {u : Nat} (ht : P.underlying t = some .string) (hx : ev env x = some (.string s)) (hj : ev env j = some (.int kh jh)) (hu : Nt jh u) (h2 : u ≤ s.size) :
    Y P S env ⟨dst, .slice t x none (some j) none, ty, pos, after, g⟩ (.string (s.extract 0 u)) := fun N a w' ha _ => by
  have e2 := hu.eq
  subst e2
  have hb : (Instr.sliceBounds false s.size s.size none (some (.int kh (u : Int))) none).run P w' = .ok (0, u, s.size) w' := by
    simp [Instr.sliceBounds, Instr.sliceBound, asIntOf, Sem.run_bind, h2]
  simp only [execOp, ha.eval hx, Option.map_some, Option.map_none, ha.eval hj, Instr.sliceAt, Instr.slice, Sem.run_bind, run_underlying ht, Result.andThen_ok, hb, Sem.run_pure, Option.isSome_none, Bool.false_eq_true, if_false]
theorem y_convs {x : Operand} {src dt : TypeId} {s : ByteArray} (hs : P.underlying src = some .string) (hd : P.underlying dt = some .string) (hx : ev env x = some (.string s)) :
    Y P S env ⟨dst, .convert src dt x, ty, pos, after, g⟩ (.string s) := fun N a w' ha _ => by
  simp only [execOp, ha.eval hx, convert, Sem.run_bind, run_underlying hs, run_underlying hd, Sem.run_pure, Result.andThen_ok]
/-- string(b) -/
theorem y_bstr {x : Operand} {src dt e : TypeId} {A : Option Addr} {n c : Nat} {l : List UInt8} (hs : P.underlying src = some (.slice e)) (he : P.underlying e = some (.int .u8)) (hd : P.underlying dt = some .string) (hx : ev env x = some (.slice A n c)) (hr : Rs w 1 A n c (bL l)) :
    Y P (Like w) env ⟨dst, .convert src dt x, ty, pos, after, g⟩ (.string ⟨l.toArray⟩) := fun N a w' ha hw => by
  simp only [execOp, ha.eval hx, Sem.run_bind, run_conv_reads c hs he hd (hr.rd.below hw), Sem.run_pure, Result.andThen_ok]
theorem y_sliceA {x : Operand} {t e : TypeId} {A : Option Addr} {n c size : Nat} (ht : P.underlying t = some (.slice e)) (hsz : (P.info? e).map (·.size) = some size) (hx : ev env x = some (.slice A n c)) :
    Y P S env ⟨dst, .slice t x none none none, ty, pos, after, g⟩ (.slice (cutA A c 0 size) (n - 0) (c - 0)) := fun N a w' ha _ => by
  simp only [execOp, ha.eval hx, Option.map_none, Instr.sliceAt, Instr.slice, Instr.sliceBounds, Sem.run_bind, run_underlying ht, Result.andThen_ok, sizeOf_run hsz, Sem.run_pure]
  rfl
/-! arrays behind a pointer, cut -/
theorem y_aslice {x : Operand} {t e : TypeId} {b o len size : Nat} (ht : P.underlying t = some (.array len e)) (hsz : (P.info? e).map (·.size) = some size) (hx : ev env x = some (.pointer (some ⟨b, o, none⟩))) :
    Y P S env ⟨dst, .slice t x none none none, ty, pos, after, g⟩ (.slice (some ⟨b, o, none⟩) len len) := fun N a w' ha _ => by
  simp only [execOp, ha.eval hx, Option.map_none, Instr.sliceAt, Instr.sureAddr, Instr.sliceBounds, Sem.run_bind, run_underlying ht, Result.andThen_ok, sizeOf_run hsz, Sem.run_pure]
  congr 3
  · split
    · rfl
    · simp [Addr.add_mid]
theorem y_asliceLH {x i j : Operand} {t e : TypeId} {b o len size l u : Nat} {kl kh : IntKind} {jl jh : Int} (ht : P.underlying t = some (.array len e)) (hsz : (P.info? e).map (·.size) = some size) (hx : ev env x = some (.pointer (some ⟨b, o, none⟩)))
    (hi : ev env i = some (.int kl jl)) (hj : ev env j = some (.int kh jh)) (hl : Nt jl l) (hu : Nt jh u) (h1 : l ≤ u) (h2 : u ≤ len) :
    Y P S env ⟨dst, .slice t x (some i) (some j) none, ty, pos, after, g⟩ (.slice (cutA (some ⟨b, o, none⟩) len l size) (u - l) (len - l)) := fun N a w' ha _ => by
  have e1 := hl.eq
  have e2 := hu.eq
  subst e1; subst e2
  have hb : (Instr.sliceBounds false len len (some (.int kl (l : Int))) (some (.int kh (u : Int))) none).run P w' = .ok (l, u, len) w' := by
    simp [Instr.sliceBounds, Instr.sliceBound, asIntOf, Sem.run_bind, h1, h2]
  simp only [execOp, ha.eval hx, Option.map_some, Option.map_none, ha.eval hi, ha.eval hj, Instr.sliceAt, Instr.sureAddr, Sem.run_bind, run_underlying ht, Result.andThen_ok, hb, sizeOf_run hsz, Sem.run_pure]
  congr 3
  unfold cutA
  split <;> rfl
theorem y_asliceL {x i : Operand} {t e : TypeId} {b o len size l : Nat} {kl : IntKind} {jl : Int} (ht : P.underlying t = some (.array len e)) (hsz : (P.info? e).map (·.size) = some size) (hx : ev env x = some (.pointer (some ⟨b, o, none⟩)))
    (hi : ev env i = some (.int kl jl)) (hl : Nt jl l) (h1 : l ≤ len) :
    Y P S env ⟨dst, .slice t x (some i) none none, ty, pos, after, g⟩ (.slice (cutA (some ⟨b, o, none⟩) len l size) (len - l) (len - l)) := fun N a w' ha _ => by
  have e1 := hl.eq
  subst e1
  have hb : (Instr.sliceBounds false len len (some (.int kl (l : Int))) none none).run P w' = .ok (l, len, len) w' := by
    simp [Instr.sliceBounds, Instr.sliceBound, asIntOf, Sem.run_bind, h1]
  simp only [execOp, ha.eval hx, Option.map_some, Option.map_none, ha.eval hi, Instr.sliceAt, Instr.sureAddr, Sem.run_bind, run_underlying ht, Result.andThen_ok, hb, sizeOf_run hsz, Sem.run_pure]
  congr 3
  unfold cutA
  split <;> rfl
theorem y_lena {x : Operand} {t e : TypeId} {n : Nat} {v : Value} (ht : P.underlying t = some (.array n e)) (hx : ev env x = some v) :
    Y P S env ⟨dst, .call { callee := .builtin .len, args := #[x], argTypes := #[t] }, ty, pos, after, g⟩ (.int .i64 (n : Int)) := fun N a w ha _ => by
  simp only [execOp, resolve, invoke, builtin, Builtin.len_, Sem.run_bind, Sem.run_pure, Result.andThen_ok, List.map_toArray, List.map_cons, List.map_nil, ha.eval hx, List.getElem?_toArray, List.getElem?_cons_zero, run_underlying ht]
  rfl
/-- A part of an array behind a pointer reads. -/
theorem Rs.of_blk {b t o n : Nat} {cs : Array Value} (h : Blk w b t cs) (hn : o + n ≤ cs.size) (hm : n ≤ 9223372036854775807) : Rs w 1 (some ⟨b, o, none⟩) n n ((cs.toList.drop o).take n) :=
  ⟨(h.reads o n hn).more (by have := h.lt; omega), Nat.le_refl _, hm⟩
/-! values of many cells -/
theorem y_build {t : TypeId} {parts : Array (Nat × Operand)} {ps : List (Nat × Value)} {cs : Array Value} (hp : evp env parts.toList = some ps) (hb : P.built t ps = some cs) :
    Y P S env ⟨dst, .build t parts, ty, pos, after, g⟩ (.agg cs) := fun N a w ha _ => by
  have hpe : (parts.map fun (i, x) => (i, a.eval x)).toList = ps := by
    rw [← evp_map ha parts.toList ps hp]
    simp
  simp only [execOp, Sem.run_bind, run_build (P := P) w t _ cs (by rw [hpe]; exact hb), Result.andThen_ok, Sem.run_pure]
theorem isAgg_run {t : TypeId} {d : TypeDesc} (hd : P.underlying t = some d) (w : World) : (isAgg t).run P w = .ok d.isRow w := by
  unfold isAgg
  rw [Sem.run_bind, run_underlying hd w]
  cases d <;> rfl
theorem y_field {x : Operand} {t : TypeId} {fs : Array Field} {f : Field} {i : Nat} {d : TypeDesc} {cs : Array Value} {v : Value} (ht : P.underlying t = some (.struct fs)) (hf : fs[i]? = some f) (hd : P.underlying f.type = some d) (hrow : d.isRow = false)
    (hx : ev env x = some (.agg cs)) (hv : cs[f.offset]? = some v) : Y P S env ⟨dst, .field t x i, ty, pos, after, g⟩ v := fun N a w ha _ => by
  have h1 := isAgg_run hd w
  rw [hrow] at h1
  simp only [execOp, ha.eval hx, Instr.field, Sem.run_bind, run_underlying ht, Result.andThen_ok, hf, asAgg, Sem.run_pure, part, h1, Bool.false_eq_true, if_false, hv]
theorem y_idxV {x i : Operand} {t e : TypeId} {n : Nat} {d : TypeDesc} {cs : Array Value} {q : IntKind} {j : Int} {k : Nat} {v : Value} (ht : P.underlying t = some (.array n e)) (hd : P.underlying e = some d) (hrow : d.isRow = false) (hsz : (P.info? e).map (·.size) = some 1)
    (hx : ev env x = some (.agg cs)) (hi : ev env i = some (.int q j)) (hj : Nt j k) (hk : k < n) (hv : cs[k]? = some v) : Y P S env ⟨dst, .index t x i, ty, pos, after, g⟩ v := fun N a w ha _ => by
  have hj' := hj.eq
  subst hj'
  have h1 := isAgg_run hd w
  rw [hrow] at h1
  have h2 : (0 : Int) ≤ (k : Int) ∧ (k : Int) < (n : Int) := by omega
  simp only [execOp, ha.eval hx, ha.eval hi, Instr.index, asIntOf, Sem.run_bind, run_underlying ht, Result.andThen_ok, Sem.run_pure, h2, and_self, if_true, sizeOf_run hsz, part, h1, Bool.false_eq_true, if_false, Int.toNat_natCast, Nat.mul_one, hv]
/-- A load of many cells out of a block known whole. -/
theorem y_ldW {x : Operand} {b o t size : Nat} {cs : Array Value} {vs : List Value} {lt : TypeId} {d : TypeDesc} (hd : P.underlying lt = some d) (hrow : d.isRow = true) (hsz : (P.info? lt).map (·.size) = some size) (hx : ev env x = some (.pointer (some ⟨b, o, none⟩))) (hb : Blk w b t cs) (hv : (cs.toList.drop o).take size = vs ∧ vs.length = size) :
    Y P (Like w) env ⟨dst, .load lt x, ty, pos, after, g⟩ (.agg vs.toArray) := by
  obtain ⟨h1, h2⟩ := hv
  refine y_ldR hd hrow (by rw [h2]; exact hsz) hx fun j v hj => ?_
  rw [hb.cell]
  rw [← h1, List.getElem?_take] at hj
  split at hj
  · rw [List.getElem?_drop] at hj
    simpa using hj
  · cases hj
/-! against nil -/
theorem y_peqn {x : Operand} {t e : TypeId} {u : TypeId} {p : Option Addr} (ht : P.underlying t = some (.pointer e)) (hx : ev env x = some (.pointer p)) : Y P S env ⟨dst, .binOp .eql t x (.const (.pointer none)) u, ty, pos, after, g⟩ (.bool p.isNone) := fun N a w ha _ => by
  have hy : a.eval (.const (.pointer none)) = .pointer none := rfl
  have hr : (Op.equal t (.pointer p) (.pointer none)).run P w = .ok p.isNone w := by
    have : ∀ d, (Op.equalIn (d + 1) t (.pointer p) (.pointer none)).run P w = .ok p.isNone w := fun d => by cases p <;> simp [Op.equalIn, run_underlying ht]
    exact this 9999
  simp only [execOp, ha.eval hx, hy, eqGuard, binOp, Bool.not_true, Bool.false_eq_true, if_false, ite_self,  Sem.run_bind, Sem.run_pure, Result.andThen_ok, hr]
theorem y_pneqn {x : Operand} {t e : TypeId} {u : TypeId} {p : Option Addr} (ht : P.underlying t = some (.pointer e)) (hx : ev env x = some (.pointer p)) : Y P S env ⟨dst, .binOp .neq t x (.const (.pointer none)) u, ty, pos, after, g⟩ (.bool (!p.isNone)) := fun N a w ha _ => by
  have hy : a.eval (.const (.pointer none)) = .pointer none := rfl
  have hr : (Op.equal t (.pointer p) (.pointer none)).run P w = .ok p.isNone w := by
    have : ∀ d, (Op.equalIn (d + 1) t (.pointer p) (.pointer none)).run P w = .ok p.isNone w := fun d => by cases p <;> simp [Op.equalIn, run_underlying ht]
    exact this 9999
  simp only [execOp, ha.eval hx, hy, eqGuard, binOp, Bool.not_true, Bool.false_eq_true, if_false, ite_self,  Sem.run_bind, Sem.run_pure, Result.andThen_ok, hr]
theorem y_seqn {x : Operand} {t e : TypeId} {u : TypeId} {A : Option Addr} {n c : Nat} (ht : P.underlying t = some (.slice e)) (hx : ev env x = some (.slice A n c)) : Y P S env ⟨dst, .binOp .eql t x (.const (.slice none 0 0)) u, ty, pos, after, g⟩ (.bool A.isNone) := fun N a w ha _ => by
  have hy : a.eval (.const (.slice none 0 0)) = .slice none 0 0 := rfl
  simp only [execOp, ha.eval hx, hy, eqGuard, binOp, Bool.not_true, Bool.false_eq_true, if_false, ite_self,  Sem.run_bind, Sem.run_pure, Result.andThen_ok, run_equal_slice_nil w t e A n c ht]
theorem y_sneqn {x : Operand} {t e : TypeId} {u : TypeId} {A : Option Addr} {n c : Nat} (ht : P.underlying t = some (.slice e)) (hx : ev env x = some (.slice A n c)) : Y P S env ⟨dst, .binOp .neq t x (.const (.slice none 0 0)) u, ty, pos, after, g⟩ (.bool (!A.isNone)) := fun N a w ha _ => by
  have hy : a.eval (.const (.slice none 0 0)) = .slice none 0 0 := rfl
  simp only [execOp, ha.eval hx, hy, eqGuard, binOp, Bool.not_true, Bool.false_eq_true, if_false, ite_self,  Sem.run_bind, Sem.run_pure, Result.andThen_ok, run_equal_slice_nil w t e A n c ht]
/-! arrays of bytes -/
theorem eqGuard_run (op : BinOp) {t : TypeId} (x y : Operand) (xs ys : Array Value) (hm : P.eqGuardType P.depth t = false) (w : World) : (eqGuard op t x y (.agg xs) (.agg ys)).run P w = .ok () w := run_eqGuard_agg (w := w) op t x y xs ys hm
theorem y_eqB {x y : Operand} {t e u : TypeId} {n : Nat} {l m : List UInt8} (ht : P.underlying t = some (.array n e)) (he : P.underlying e = some (.int .u8)) (hs : (P.info? e).map (·.size) = some 1) (hm : P.eqGuardType P.depth t = false)
    (hx : ev env x = some (.agg (bA l))) (hy : ev env y = some (.agg (bA m))) (hl : l.length = n) (hml : m.length = n) : Y P S env ⟨dst, .binOp .eql t x y u, ty, pos, after, g⟩ (.bool (decide (l = m))) := fun N a w ha _ => by
  have h1 := run_eql_bytes (P := P) ht he hs l m hl hml w
  have h2 : (l == m) = decide (l = m) := by by_cases h : l = m <;> simp [h]
  rw [h2] at h1
  simp only [execOp, ha.eval hx, ha.eval hy, Sem.run_bind, eqGuard_run .eql x y _ _ hm w, Result.andThen_ok, h1, Sem.run_pure]
theorem y_neB {x y : Operand} {t e u : TypeId} {n : Nat} {l m : List UInt8} (ht : P.underlying t = some (.array n e)) (he : P.underlying e = some (.int .u8)) (hs : (P.info? e).map (·.size) = some 1) (hm : P.eqGuardType P.depth t = false)
    (hx : ev env x = some (.agg (bA l))) (hy : ev env y = some (.agg (bA m))) (hl : l.length = n) (hml : m.length = n) : Y P S env ⟨dst, .binOp .neq t x y u, ty, pos, after, g⟩ (.bool (decide (l ≠ m))) := fun N a w ha _ => by
  have h1 := run_neq_bytes (P := P) ht he hs l m hl hml w
  have h2 : (!(l == m)) = decide (l ≠ m) := by
    by_cases h : l = m <;> simp [h]
  rw [h2] at h1
  simp only [execOp, ha.eval hx, ha.eval hy, Sem.run_bind, eqGuard_run .neq x y _ _ hm w, Result.andThen_ok, h1, Sem.run_pure]
/-! results that lie in a variable -/
theorem retc {fn : Func} {R : Ending → World → Prop} {p : Tmp} {lt b t : Nat} {cs : Array Value} {d : TypeDesc} (hr : fn.results = #[.cell p lt]) (hp : look env p = some (.pointer (some ⟨b, 0, none⟩))) (hb : Blk w b t cs) (hd : P.underlying lt = some d) (hrow : d.isRow = true)
    (hsz : (P.info? lt).map (·.size) = some cs.size) (h : R (.returned (.agg cs)) w) (hd0 : dfs env = [] := by rfl) : bodyQ P fn R .ret env w :=
  ⟨hd0, _, fun N a ha => resB hr a.tmps (ha.getD hp) hb d hd hrow hsz, h⟩
theorem retct {fn : Func} {R : Ending → World → Prop} {p q : Tmp} {lt b t : Nat} {cs : Array Value} {d : TypeDesc} {v : Value} (hr : fn.results = #[.cell p lt, .tmp q]) (hp : look env p = some (.pointer (some ⟨b, 0, none⟩))) (hq : look env q = some v) (hb : Blk w b t cs) (hd : P.underlying lt = some d) (hrow : d.isRow = true)
    (hsz : (P.info? lt).map (·.size) = some cs.size) (h : R (.returned (.tuple #[.agg cs, v])) w) (hd0 : dfs env = [] := by rfl) : bodyQ P fn R .ret env w :=
  ⟨hd0, _, fun N a ha => by rw [resB_t hr a.tmps (ha.getD hp) hb d hd hrow hsz, ha.getD hq], h⟩
end
end Go.Proofs.Ytmgimcdkeelnpaa.Zx
