/-
  Regions that draw their order and make two variables in either order. General; nothing here names a program.
-/
import Derived.Test.YtmgimcdkeelnpaaZz
namespace Go.Proofs.Ytmgimcdkeelnpaa.Zx
open Go.RowKit Zk
set_option linter.unusedVariables false
set_option linter.unusedSimpArgs false

theorem St.perm {w0 w : World} {M : Nat → Prop} {rs rs' : List Res} (S : St w0 M rs w) (h : rs.Perm rs') : St w0 M rs' w :=
  ⟨S.os, S.tape, S.output, S.size, S.old, fun r hr => S.res r (h.mem_iff.2 hr), (h.pairwise_iff (by intro a b hab i hi hj; exact hab i hj hi)).1 S.apart⟩
section
variable {P : Program} {N : Nat} {Q : Post} {env : Env} {w w0 : World} {M : Nat → Prop} {rs : List Res} {S : World → Prop} {ops : Array Oper} {listed : Array Bool} {fuel : Nat}
theorem y_of {o : Oper} {v : Value} (h : ∀ w, S w → Y P (Like w) env o v) : Y P S env o v := fun N a w' ha hw => h w' hw N a w' ha (Like.refl w')
def DX (P : Program) (N : Nat) (ops : Array Oper) (Q : Post) (S : World → Prop) (listed : Array Bool) (fuel : Nat) (env : Env) (w : World) : Prop :=
  Region.noSelect ops = true → S w → ∀ a, Fits N env a → wpAnyH P .any ops (lift N Q) S fuel listed a w
theorem T_drawnX {id : Nat} {l : List Oper} (S : World → Prop) (hm : P.follows .mixedOrders = true) (hB : Region.noSelect l.toArray = true) (hS : ∀ w1, Like w w1 → S w1)
    (h : ∀ w1, Like w w1 → DX P N l.toArray Q S (Array.replicate l.toArray.size false) l.toArray.size env w1) : T P N (.region id l.toArray true) Q env w := fun a ha =>
  wp_region_held hm (h _ (Like.drew w) hB (hS _ (Like.drew w)) a ha)
theorem DX_y {d : Tmp} {op : Op} {ty : TypeId} {pos : String} {after : Array Edge} {v : Value} (i : Nat) (hr : ((Region.ready .any ops listed).contains i && Region.free .any ops listed i) = true) (hi : ops[i]? = some ⟨some d, op, ty, pos, after, none⟩)
    (hy : Y P S env ⟨some d, op, ty, pos, after, none⟩ v) (hd : Nat.blt d N = true) (h : DX P N ops Q S (listed.setIfInBounds i true) fuel ((d, v) :: env) w) : DX P N ops Q S listed (fuel + 1) env w := fun hs hS a ha => by
  simp only [Bool.and_eq_true] at hr
  exact wpAnyH_take hi hs hr.2 hr.1 (fun c a w hq => hq.elim) (.inl ⟨by simp [Region.wanted], fun w hw => hy N a w ha hw⟩) hS (h hs hS _ (ha.put d v hd))
theorem DX_DL (order : List (Nat × Bool)) (hB : ordB ops fuel listed order = true) (h : DL P N ops Q S order env w) : DX P N ops Q S listed fuel env w := fun hs hS a ha => h hs hS a ha fuel listed hB
theorem sub_swap {d1 d2 : Nat} (v1 v2 : Value) (hne : d1 ≠ d2) (h1 : Nat.blt d1 1000000 = true) (h2 : Nat.blt d2 1000000 = true) : Sub ((d2, v2) :: (d1, v1) :: env) ((d1, v1) :: (d2, v2) :: env) := by
  have e1 : d1 < 1000000 := by rw [← Nat.blt_eq]; exact h1
  have e2 : d2 < 1000000 := by rw [← Nat.blt_eq]; exact h2
  have f1 : Nat.beq d1 1000000 = false := by cases h : Nat.beq d1 1000000; rfl; have := Nat.eq_of_beq_eq_true h; omega
  have f2 : Nat.beq d2 1000000 = false := by cases h : Nat.beq d2 1000000; rfl; have := Nat.eq_of_beq_eq_true h; omega
  refine ⟨?_, fun i v h => ?_⟩
  · simp only [dfs, f1, f2, cond_false]
  · simp only [look, f1, f2, cond_false] at h ⊢
    cases h1 : Nat.beq d1 i <;> cases h2 : Nat.beq d2 i <;> simp only [h1, h2, cond_false, cond_true] at h ⊢ <;> first | exact h | (have := Nat.eq_of_beq_eq_true h1; have := Nat.eq_of_beq_eq_true h2; omega)
/-- Two variables, made in either order. -/
theorem DX_allocs {d1 d2 : Tmp} {t1 t2 : TypeId} {z1 z2 : Value} {ty1 ty2 : TypeId} {pos1 pos2 : String} {after1 after2 : Array Edge} (i j : Nat)
    (hr : Region.ready .any ops listed = [i, j]) (hri : Region.ready .any ops (listed.setIfInBounds i true) = [j]) (hrj : Region.ready .any ops (listed.setIfInBounds j true) = [i])
    (hi : ops[i]? = some ⟨some d1, .alloc t1, ty1, pos1, after1, none⟩) (hj : ops[j]? = some ⟨some d2, .alloc t2, ty2, pos2, after2, none⟩) (hij : i ≠ j) (hdd : d1 ≠ d2) (h1 : Nat.blt d1 1000000 = true) (h2 : Nat.blt d2 1000000 = true)
    (hz1 : ∀ W, (zeroValue t1).run P W = .ok z1 W) (hz2 : ∀ W, (zeroValue t2).run P W = .ok z2 W) (S0 : St w0 M rs w) (hd1 : Nat.blt d1 N = true) (hd2 : Nat.blt d2 N = true) (hS : ∀ w', St w0 M rs w' → S w')
    (h : ∀ b1 b2 w', w0.heap.size ≤ b1 → w0.heap.size ≤ b2 → St w0 M (rs ++ [blk b1 t1 z1.cells] ++ [blk b2 t2 z2.cells]) w' →
      DX P N ops Q S ((listed.setIfInBounds i true).setIfInBounds j true) fuel ((d2, .pointer (some ⟨b2, 0, none⟩)) :: (d1, .pointer (some ⟨b1, 0, none⟩)) :: env) w') :
    DX P N ops Q S listed (fuel + 2) env w := fun hs hSw a ha => by
  have sub1 : ∀ (r : Res), rs.Sublist (rs ++ [r]) := fun r => List.sublist_append_left _ _
  refine wpAnyH_all hr (by simp) fun q hq => ?_
  have hq' : q = i ∨ q = j := by simpa using hq
  rcases hq' with rfl | rfl
  · unfold wpOp
    simp only [hi, Region.wanted, if_true]
    refine .inl (Oper.wp_mono (fun a' w' ⟨e', h3, b1, hb1, SS, he'⟩ => ?_) ((o_alloc (K := fun e' w' => ∃ b1, w0.heap.size ≤ b1 ∧ St w0 M (rs ++ [blk b1 t1 z1.cells]) w' ∧ e' = (d1, .pointer (some ⟨b1, 0, none⟩)) :: env) hz1 S0 hd1 fun b w' hb SS => ⟨b, hb, SS, rfl⟩) a ha))
    subst he'
    refine ⟨hS _ (SS.drop (sub1 _)), ?_⟩
    refine wpAnyH_all hri (by simp) fun q' hq' => ?_
    obtain rfl := List.mem_singleton.1 hq'
    unfold wpOp
    simp only [hj, Region.wanted, if_true]
    refine .inl (Oper.wp_mono (fun a2 w2 ⟨e2, h4, b2, hb2, SS2, he2⟩ => ?_) ((o_alloc (K := fun e2 w2 => ∃ b2, w0.heap.size ≤ b2 ∧ St w0 M (rs ++ [blk b1 t1 z1.cells] ++ [blk b2 t2 z2.cells]) w2 ∧ e2 = (d2, .pointer (some ⟨b2, 0, none⟩)) :: (d1, .pointer (some ⟨b1, 0, none⟩)) :: env) hz2 SS hd2 fun b w' hb SS => ⟨b, hb, SS, rfl⟩) a' h3))
    subst he2
    have hS2 : S w2 := hS _ ((SS2.drop (sub1 _ |>.trans (List.sublist_append_left _ _))))
    exact ⟨hS2, h b1 b2 w2 hb1 hb2 SS2 hs hS2 a2 h4⟩
  · unfold wpOp
    simp only [hj, Region.wanted, if_true]
    refine .inl (Oper.wp_mono (fun a' w' ⟨e', h3, b2, hb2, SS, he'⟩ => ?_) ((o_alloc (K := fun e' w' => ∃ b2, w0.heap.size ≤ b2 ∧ St w0 M (rs ++ [blk b2 t2 z2.cells]) w' ∧ e' = (d2, .pointer (some ⟨b2, 0, none⟩)) :: env) hz2 S0 hd2 fun b w' hb SS => ⟨b, hb, SS, rfl⟩) a ha))
    subst he'
    refine ⟨hS _ (SS.drop (sub1 _)), ?_⟩
    refine wpAnyH_all hrj (by simp) fun q' hq' => ?_
    obtain rfl := List.mem_singleton.1 hq'
    unfold wpOp
    simp only [hi, Region.wanted, if_true]
    refine .inl (Oper.wp_mono (fun a2 w2 ⟨e2, h4, b1, hb1, SS2, he2⟩ => ?_) ((o_alloc (K := fun e2 w2 => ∃ b1, w0.heap.size ≤ b1 ∧ St w0 M (rs ++ [blk b2 t2 z2.cells] ++ [blk b1 t1 z1.cells]) w2 ∧ e2 = (d1, .pointer (some ⟨b1, 0, none⟩)) :: (d2, .pointer (some ⟨b2, 0, none⟩)) :: env) hz1 SS hd1 fun b w' hb SS => ⟨b, hb, SS, rfl⟩) a' h3))
    subst he2
    have hS2 : S w2 := hS _ ((SS2.drop (sub1 _ |>.trans (List.sublist_append_left _ _))))
    refine ⟨hS2, ?_⟩
    have := h b1 b2 w2 hb1 hb2 (SS2.perm (by
      rw [List.append_assoc, List.append_assoc]
      exact List.Perm.append_left _ (List.Perm.swap _ _ _))) hs hS2 a2 (h4.sub (sub_swap _ _ hdd h1 h2))
    rwa [Array.setIfInBounds_comm _ _ hij] at this
end
end Go.Proofs.Ytmgimcdkeelnpaa.Zx
