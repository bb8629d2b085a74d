/-
  Rows of elements of many cells: an element stored whole, a tail cleared, a row cut. General; nothing here names a program.
-/
import Derived.Test.YtmgimcdkeelnpaaZr
namespace Go.Proofs.Ytmgimcdkeelnpaa.Zx
open Go.RowKit Zk
set_option linter.unusedVariables false
set_option linter.unusedSimpArgs false
section
variable {P : Program} {N : Nat} {Q : Post} {env : Env} {w w0 : World} {M : Nat → Prop} {rs : List Res} {K : Env → World → Prop} {ty : TypeId} {pos : String} {after : Array Edge} {g : Option (Nat × Bool)}
theorem row_cells {w : World} {e k n c : Nat} {A : Option Addr} {xs : List Value} (h : w.ownsRow 0 e k (.slice A n c) n xs) (hn : 0 < n) : ∃ b cur, A = some ⟨b, 0, none⟩ ∧ Blk w b e cur ∧ n ≤ c ∧ c ≤ maxLen ∧ cur.size = c * k ∧ cur.toList.take (n * k) = xs := by
  rcases h.2 with ⟨h1, h2⟩ | ⟨b, cap, cur, h1, _, hg, hnc, hcm, hcs, hx⟩
  · omega
  · cases h1
    exact ⟨b, cur, rfl, hg, hnc, hcm, hcs, hx⟩
theorem cells_row {w : World} {e k n c b : Nat} {xs : List Value} {cur : Array Value} (hg : Blk w b e cur) (hnc : n ≤ c) (hcm : c ≤ maxLen) (hcs : cur.size = c * k) (hx : cur.toList.take (n * k) = xs) (hl : xs.length = n * k) : w.ownsRow 0 e k (.slice (some ⟨b, 0, none⟩) n c) n xs :=
  ⟨hl, .inr ⟨b, c, cur, rfl, Nat.zero_le _, hg, hnc, hcm, hcs, hx⟩⟩
/-- The beginning of an own row is one. -/
theorem St.rowcut (S : St w0 M rs w) (i : Nat) {e k n c m : Nat} {A : Option Addr} {xs : List Value} (hk : rs[i]? = some (Zx.row e k A n c xs)) (hm : m ≤ n) : St w0 M (rs.set i (Zx.row e k A m c (xs.take (m * k)))) w := by
  have hown : w.ownsRow 0 e k (.slice A n c) n xs := S.get i hk
  refine S.upd i hk rfl rfl rfl (Nat.le_refl _) (fun _ _ _ => rfl) ?_ fun j hj => .inl (show (Value.slice A n c).ownBlock = some j by
      have h2 : (Value.slice A m c).ownBlock = some j := hj
      cases A <;> exact h2)
  show w.ownsRow 0 e k (.slice A m c) m (xs.take (m * k))
  have hle : m * k ≤ n * k := Nat.mul_le_mul_right _ hm
  have hl : (xs.take (m * k)).length = m * k := by rw [List.length_take, hown.1]; omega
  rcases hown.2 with ⟨h1, h2⟩ | ⟨b, cap, cur, h1, h0, hg, hnc, hcm, hcs, hx⟩
  · cases h1
    exact ⟨hl, .inl ⟨by rw [show m = 0 by omega, h2], by omega⟩⟩
  · cases h1
    exact ⟨hl, .inr ⟨b, c, cur, rfl, h0, hg, by omega, hcm, hcs, by rw [← hx, List.take_take, Nat.min_eq_left hle]⟩⟩
theorem o_strowE {st : TypeId} {x y : Operand} {e n c k size : Nat} {A : Option Addr} {xs : List Value} {vs : Array Value} (S : St w0 M rs w) (i : Nat) (hk : rs[i]? = some (row e size A n c xs)) (hx : ev env x = some (pR A k size)) (hy : ev env y = some (.agg vs))
    (hv : ∀ u ∈ vs.toList, u.oneCell' = true) (hvs : vs.size = size) (hsz : (P.info? st).map (·.size) = some size) (hkn : k < n)
    (h : ∀ w', St w0 M (rs.set i (row e size A n c (xs.take (k * size) ++ vs.toList ++ xs.drop ((k + 1) * size)))) w' → K env w') : O P N Q ⟨none, .store st x y, ty, pos, after, g⟩ env w K := fun a ha => by
  have hown : w.ownsRow 0 e size (.slice A n c) n xs := S.get i hk
  obtain ⟨b, cur, rfl, hg, hnc, hcm, hcs, hxs⟩ := row_cells hown (by omega)
  have hxa : a.eval x = .pointer (some ⟨b, k * size, none⟩) := by
    rw [ha.eval hx]
    simp [pR, Addr.add_mid]
  have hle : (k + 1) * size ≤ n * size := Nat.mul_le_mul_right _ hkn
  have hle2 : n * size ≤ c * size := Nat.mul_le_mul_right _ hnc
  have e1 : (k + 1) * size = k * size + size := Nat.succ_mul _ _
  have hcl : cur.toList.length = c * size := by rw [Array.length_toList]; exact hcs
  refine wp_stB st x y rfl b (k * size) hxa vs (ha.eval hy) e cur hg (by rw [hvs]; exact hsz) (by rw [hvs]; omega) hv fun w' h2 h3 => ⟨env, ha, h w' (S.upd i hk h3.os h3.tape h3.output h3.size (fun j hj hn => h3.block j hj (fun e => hn (by injection e with e; rw [e]; rfl))) ?_ fun j hj => .inl hj)⟩
  have hvl : vs.toList.length = size := by rw [Array.length_toList, hvs]
  refine cells_row h2 hnc hcm ?_ ?_ ?_
  · rw [List.size_toArray, List.length_append, List.length_append, List.length_take, List.length_drop, hvl, hvs, hcl]; omega
  rotate_left
  · rw [List.length_append, List.length_append, List.length_take, List.length_drop, hvl, hown.1]; omega
  rw [hvs]
  show (cur.toList.take (k * size) ++ vs.toList ++ cur.toList.drop (k * size + size)).take (n * size) = _
  have l1 : (cur.toList.take (k * size) ++ vs.toList).length = k * size + size := by rw [List.length_append, List.length_take, hvl]; omega
  rw [List.take_append, l1, List.take_of_length_le (by rw [l1]; omega), ← hxs, List.take_take, Nat.min_eq_left (by omega), e1, List.drop_take]
/-- clear(s), s a tail of an own row. -/
theorem o_clearR {x : Operand} {t e n c l size : Nat} {z : Value} {A : Option Addr} {xs : List Value} (S : St w0 M rs w) (i : Nat) (hk : rs[i]? = some (row e size A n c xs)) (ht : P.underlying t = some (.slice e)) (hz : ∀ W, (zeroValue e).run P W = .ok z W) (hzs : z.cells.size = size)
    (hz1 : ∀ u ∈ z.cells.toList, u.oneCell' = true) (hx : ev env x = some (.slice (cutA A c l size) (n - l) (c - l))) (hl : l < n)
    (h : ∀ w' ys, ys.take (l * size) = xs.take (l * size) → ys.length = n * size → St w0 M (rs.set i (row e size A n c ys)) w' → K env w') : O P N Q ⟨none, .call { callee := .builtin .clear, args := #[x], argTypes := #[t] }, ty, pos, after, g⟩ env w K := fun a ha => by
  have hown : w.ownsRow 0 e size (.slice A n c) n xs := S.get i hk
  obtain ⟨b, cur, rfl, hg, hnc, hcm, hcs, hxs⟩ := row_cells hown (by omega)
  have hle2 : n * size ≤ c * size := Nat.mul_le_mul_right _ hnc
  have hle1 : l * size ≤ n * size := Nat.mul_le_mul_right _ (by omega)
  have hsub : (n - l) * size = n * size - l * size := Nat.sub_mul _ _ _
  have hxa : a.eval x = .slice (some ⟨b, l * size, none⟩) (n - l) (c - l) := by
    rw [ha.eval hx]
    unfold cutA
    rw [if_neg (by omega)]
    simp [Addr.add_mid]
  have hzl : (Builtin.zeroCells z.cells (n - l)).size = (n - l) * size := by simp [Builtin.zeroCells, hzs]
  have hz1' : ∀ u ∈ (Builtin.zeroCells z.cells (n - l)).toList, u.oneCell' = true := fun u hu => by
    rcases Nat.eq_zero_or_pos size with h0 | h0
    · rw [h0, Nat.mul_zero] at hzl
      rw [Array.eq_empty_of_size_eq_zero hzl] at hu
      simp at hu
    · simp only [Builtin.zeroCells, Array.toList_map, List.mem_map] at hu
      obtain ⟨q, hq, rfl⟩ := hu
      have : q % z.cells.size < z.cells.size := Nat.mod_lt _ (by omega)
      rw [getElem!_pos z.cells _ this]
      exact hz1 _ (by simp)
  have hr := run_storeCells_at (P := P) b (l * size) e (Builtin.zeroCells z.cells (n - l)).toList 0 cur w hg (by simp only [Nat.add_zero, Array.length_toList, hzl]; omega) hz1'
  simp only [Nat.add_zero, Array.length_toList, hzl] at hr
  obtain ⟨m, hm⟩ : ∃ m, n - l = m + 1 := ⟨n - l - 1, by omega⟩
  have hrun : (Builtin.clear_ #[t] ty #[.slice (some ⟨b, l * size, none⟩) (n - l) (c - l)]).run P w = .ok (.tuple #[]) (w.setRow b (cur.toList.take (l * size) ++ (Builtin.zeroCells z.cells (n - l)).toList ++ cur.toList.drop (l * size + (n - l) * size)).toArray) := by
    rw [hm] at hr ⊢
    simp [Builtin.clear_, run_underlying ht, hz, hr]
  have h2 := setRow_heap w b cur (cur.toList.take (l * size) ++ (Builtin.zeroCells z.cells (n - l)).toList ++ cur.toList.drop (l * size + (n - l) * size)).toArray e _ hg
  generalize hw' : w.setRow b (cur.toList.take (l * size) ++ (Builtin.zeroCells z.cells (n - l)).toList ++ cur.toList.drop (l * size + (n - l) * size)).toArray = w' at hrun h2
  have h3 : w.grownBy w' (some b) := by
    subst hw'
    exact ⟨rfl, rfl, rfl, by simp, fun k hk hne => setRow_other w b k _ (fun e => hne (by rw [e]))⟩
  unfold Oper.wp execOp
  simp only [resolve, invoke, builtin, Sem.run_bind, Sem.run_pure, Result.andThen_ok, List.map_toArray, List.map_cons, List.map_nil, hxa, hrun]
  have hll : (cur.toList.take (l * size)).length = l * size := by rw [List.length_take, Array.length_toList]; omega
  refine ⟨env, ha, h w' ((cur.toList.take (l * size) ++ (Builtin.zeroCells z.cells (n - l)).toList ++ cur.toList.drop (l * size + (n - l) * size)).take (n * size)) ?_ ?_ (S.upd i hk h3.os h3.tape h3.output h3.size (fun j hj hn => h3.block j hj (fun e => hn (by injection e with e; rw [e]; rfl))) ?_ fun j hj => .inl hj)⟩
  · rw [List.take_take, Nat.min_eq_left hle1, List.append_assoc, List.take_left' hll, ← hxs, List.take_take, Nat.min_eq_left hle1]
  · rw [List.length_take, List.length_append, List.length_append, hll, Array.length_toList, hzl, List.length_drop, Array.length_toList]
    omega
  · refine cells_row h2 hnc hcm ?_ rfl ?_
    · rw [List.size_toArray, List.length_append, List.length_append, hll, Array.length_toList, hzl, List.length_drop, Array.length_toList]
      omega
    · rw [List.length_take, List.length_append, List.length_append, hll, Array.length_toList, hzl, List.length_drop, Array.length_toList]
      omega
end
theorem flat_set {α : Type} (f : α → List Value) {size : Nat} (hf : ∀ x, (f x).length = size) : ∀ (xs : List α) (k : Nat) (x : α), k < xs.length → (xs.flatMap f).take (k * size) ++ f x ++ (xs.flatMap f).drop ((k + 1) * size) = (xs.set k x).flatMap f
  | y :: xs, 0, x, _ => by
    rw [Nat.zero_mul, List.take_zero, List.nil_append, Nat.zero_add, Nat.one_mul, List.flatMap_cons, List.drop_left' (hf y), List.set_cons_zero, List.flatMap_cons]
  | y :: xs, k + 1, x, h => by
    have ih := flat_set f hf xs k x (by simpa using h)
    have e1 : (k + 1) * size = (f y).length + k * size := by rw [hf, Nat.succ_mul]; omega
    have e2 : (k + 1 + 1) * size = (f y).length + (k + 1) * size := by rw [hf, Nat.succ_mul (k + 1)]; omega
    have e3 : (f y ++ xs.flatMap f).drop ((k + 1 + 1) * size) = (xs.flatMap f).drop ((k + 1) * size) := by rw [e2, List.drop_length_add_append]
    have e4 : (f y ++ xs.flatMap f).take ((k + 1) * size) = f y ++ (xs.flatMap f).take (k * size) := by rw [e1, List.take_length_add_append]
    rw [List.flatMap_cons, e3, e4, List.set_cons_succ, List.flatMap_cons, ← ih]
    simp only [List.append_assoc]
theorem flat_take {α : Type} (f : α → List Value) {size : Nat} (hf : ∀ x, (f x).length = size) : ∀ (xs : List α) (k : Nat), (xs.flatMap f).take (k * size) = (xs.take k).flatMap f
  | _, 0 => by simp
  | [], k + 1 => by simp
  | y :: xs, k + 1 => by
    rw [List.flatMap_cons, List.take_succ_cons, List.flatMap_cons, ← flat_take f hf xs k, show (k + 1) * size = (f y).length + k * size by rw [hf, Nat.succ_mul]; omega, List.take_length_add_append]
end Go.Proofs.Ytmgimcdkeelnpaa.Zx
