/-
  longest.
-/
import Derived.Test.YtpcgldkllnkaeaaG
namespace Go.Proofs.Ytpcgldkllnkaeaa
open Go.RowKit Zk Zx
set_option linter.unusedVariables false
set_option linter.unusedSimpArgs false

theorem take1 {α : Type} {l : List α} {k : Nat} {x : α} (hx : l[k]? = some x) : l.take (k + 1) = l.take k ++ [x] := by rw [List.take_add_one, hx]; rfl
theorem cut_tail {w : World} {A : Option Addr} {n c k : Nat} {a : List UInt8} (h : Rs w 1 A n c (bL a)) (hk : k ≤ n) : Rs w 1 (cutA A c k 1) (n - k) (c - k) (bL (a.drop k)) := by
  have hl := h.lenb
  have h2 := h.cut (l := k) (u := n) hk (Nat.le_refl _)
  have e : ((bL a).drop (k * 1)).take ((n - k) * 1) = bL (a.drop k) := by
    rw [Nat.mul_one, Nat.mul_one]
    have e2 : (bL a).drop k = bL (a.drop k) := by simp [bL]
    rw [e2]
    exact List.take_of_length_le (by simp; omega)
  rwa [e] at h2
theorem cut_mid {w : World} {A : Option Addr} {n c k u : Nat} {a : List UInt8} (h : Rs w 1 A n c (bL a)) (hk : k ≤ u) (hu : u ≤ n) : Rs w 1 (cutA A c k 1) (u - k) (c - k) (bL ((a.drop k).take (u - k))) := by
  have h2 := h.cut (l := k) (u := u) hk hu
  have e : ((bL a).drop (k * 1)).take ((u - k) * 1) = bL ((a.drop k).take (u - k)) := by
    rw [Nat.mul_one, Nat.mul_one]
    simp [bL]
  rwa [e] at h2
theorem six0 (t : List UInt8) : (six t 0).take 6 = t.take 6 := by unfold six; rw [List.drop_zero, List.take_take, Nat.min_self]


set_option maxRecDepth 100000 in
theorem longest (A B : Option Addr) (n c m d b : Nat) (a t : List UInt8) (pes : List PE) (w0 : World) (ha : Rs w0 1 A n c (bL a)) (ht : Rs w0 1 B m d (bL t)) (hmx : n ≤ 4000) (hmt : m ≤ 4000) (hm : (mapB 6 b (pes.map PE.ent)).holds w0) (hmd : ∀ i, i = b → i < w0.heap.size) (hf : (fam (pes.map PE.row)).holds w0) (hpi : PI a (a.length - 5) pes) :
    Calls Try.prog 42 #[.slice A n c, .map (some b), .slice B m d] w0 fun e w' => ∃ u, e = .returned u ∧ Like w0 w' ∧ u = .tuple #[.int .i64 ((bst a t).1 : Int), .int .i64 ((bst a t).2 : Int)] := by
  refine enter1 (env := [(0, .slice A n c), (1, .map (some b)), (2, .slice B m d)]) [.slice A n c, .map (some b), .slice B m d] Try.func42 rfl Try.ntmps42 rfl rfl ?_
  have hn := ha.lenb; have hcap := ha.cap; have hmax := ha.max; have hmn := ht.lenb; have hcap2 := ht.cap; have hmax2 := ht.max; have S0 := St.start w0 noM
  refine T_seq fun K1 hK1 => ?_
  refine T_region ?_
  refine L_y (y_assign rfl) rfl ?_
  refine L_y (y_assign rfl) rfl ?_
  refine L_nil ?_
  refine hK1 _ _ ?_
  refine T_seq fun K2 hK2 => ?_
  refine T_seq fun K3 hK3 => ?_
  refine T_region ?_
  refine L_y (y_move rfl) rfl ?_
  refine L_y (y_len Try.underlying22 rfl) rfl ?_
  refine L_y (y_lss rfl rfl) rfl ?_
  refine L_nil ?_
  refine hK3 _ _ ?_
  refine T_cond rfl (fun h15 => ?_) (fun h15 => ?_)
  ·
    refine T_seq fun K4 hK4 => ?_
    refine T_region ?_
    refine L_y (y_assign rfl) rfl ?_
    refine L_y (y_assign rfl) rfl ?_
    refine L_nil ?_
    refine hK4 _ _ ?_
    refine T_ret ?_
    repeat (first | with_reducible refine up_then ?_ | with_reducible refine up_in ?_)
    refine ret2 rfl rfl rfl ?_
    first | exact ⟨_, rfl, S0.like0, by unfold bst; rw [if_pos (by omega)]; rfl⟩ | exact ⟨_, rfl, S0.like0, by unfold bst; rw [if_neg (by omega), hs, List.take_of_length_le (by omega)]⟩
  ·
    refine T_skip ?_
    refine hK2 _ _ ?_
    refine T_seq fun K5 hK5 => ?_
    refine T_region ?_
    refine L_y (y_assign rfl) rfl ?_
    refine L_y (y_assign rfl) rfl ?_
    refine L_nil ?_
    refine hK5 _ _ ?_
    refine T_seq fun K6 hK6 => ?_
    refine T_seq fun K7 hK7 => ?_
    refine T_region ?_
    refine L_y (y_move rfl) rfl ?_
    refine L_y (y_move rfl) rfl ?_
    refine L_y (y_sliceH Try.underlying22 sz5 rfl rfl (Nt.mk rfl : Nt _ 6) (by omega)) rfl ?_
    refine L_y (y_arrAt Try.underlying98 rfl (Nat.le_refl 6)) rfl ?_
    refine L_y (y_ldArr Try.underlying98 sz98 rfl (cut_six (S0.rd ht) (by omega)) (Nat.le_refl 6) (by omega)) rfl ?_
    obtain ⟨X, xn, xc, hg, hX⟩ := look_pes hpi ((six t 0).take 6) hf
    rw [six0] at hX
    have hxl : xn = (posF a (a.length - 5) (t.take 6)).length := by have := hX.len; rw [nL_len] at this; omega
    have hxc := hX.cap; have hxm := hX.max; have hpl := posF_len a (a.length - 5) (t.take 6)
    refine L_y ((show Y Try.prog _ _ _ (Value.slice X xn xc) from by rw [← hg]; exact y_lookB (S0.keepM hm hmd (fun _ _ h => h)) Try.underlying74 Try.underlying98 Try.underlying5 sz5 zz99 rfl rfl (by rw [six0, List.length_take]; omega))) rfl ?_
    refine L_y (y_len Try.underlying99 rfl) rfl ?_
    refine L_y (y_move rfl) rfl ?_
    refine L_nil ?_
    refine hK7 _ _ ?_
    refine T_block ?_
    refine T_loop2 [(0, _), (2, _), (21, _), (22, _)] (fun (q : Nat) (s : Nat × Nat) => [(23, .int .i64 (q : Int)), (8, .int .i64 (s.1 : Int)), (9, .int .i64 (s.2 : Int))]) (fun (q : Nat) (s : Nat × Nat) => xn - q) (fun (q : Nat) (s : Nat × Nat) (w : World) => (q ≤ xn ∧ s = ((posF a (a.length - 5) (t.take 6)).take q).foldl (stepB a t) (0, 0)) ∧ St w0 noM [] w) 0 (0, 0) (Sub.cons rfl (by first | rfl | exact congrArg (Value.int _) (by omega)) (Sub.cons rfl (by first | rfl | exact congrArg (Value.int _) (by omega)) (Sub.cons rfl (by first | rfl | exact congrArg (Value.int _) (by omega)) (Sub.nil _)))) (Sub.cons rfl rfl (Sub.cons rfl rfl (Sub.cons rfl rfl (Sub.cons rfl rfl (Sub.nil _))))) ?_ ?_
    ·
      exact ⟨⟨Nat.zero_le _, rfl⟩, S0⟩
    ·
      intro q s w1 hrel
      obtain ⟨⟨hq, hs⟩, S1⟩ := hrel
      refine T_seq fun K8 hK8 => ?_
      refine T_region ?_
      refine L_y (y_lss rfl rfl) rfl ?_
      refine L_nil ?_
      refine hK8 _ _ ?_
      refine T_seq fun K9 hK9 => ?_
      refine T_cond rfl (fun h24 => ?_) (fun h24 => ?_)
      ·
        obtain ⟨v, hv⟩ : ∃ v, (posF a (a.length - 5) (t.take 6))[q]? = some v := ⟨_, List.getElem?_eq_getElem (by omega)⟩
        have hvl := posF_lt (List.mem_of_getElem? hv)
        refine T_skip ?_
        refine hK9 _ _ ?_
        refine T_seq fun K10 hK10 => ?_
        refine T_block ?_
        refine T_seq fun K11 hK11 => ?_
        refine T_region ?_
        refine L_y (y_idx Try.underlying99 sz3 rfl rfl (S1.rd hX) (Nt.mk (by omega) : Nt _ (q)) (by omega)) rfl ?_
        refine L_y (y_ldr Try.underlying3 rfl rfl (S1.rd hX) (nL_get hv)) rfl ?_
        refine L_y (y_assign rfl) rfl ?_
        refine L_nil ?_
        refine hK11 _ _ ?_
        refine T_seq fun K12 hK12 => ?_
        refine T_region ?_
        refine L_y (y_move rfl) rfl ?_
        refine L_y (y_move rfl) rfl ?_
        refine L_y (y_sliceL Try.underlying22 sz5 rfl rfl (Nt.mk (by omega) : Nt _ (v)) (by omega)) rfl ?_
        refine L_y (y_move rfl) rfl ?_
        refine L_o (o_call Try.func53 rfl rfl (palike (cutA A c v 1) B (n - v) (c - v) m d (a.drop v) t w1 (cut_tail (S1.rd ha) (by omega)) (S1.rd ht)) rfl rfl ?_)
        rintro e2 w2 ⟨v2, rfl, l2, rfl⟩
        refine ⟨_, rfl, ?_⟩
        have S2 := S1.like l2
        refine L_y (y_assign rfl) rfl ?_
        refine L_nil ?_
        refine hK12 _ _ ?_
        refine T_seq fun K13 hK13 => ?_
        refine T_region ?_
        refine L_y (y_move rfl) rfl ?_
        refine L_y (y_move rfl) rfl ?_
        refine L_y (y_gtr rfl rfl) rfl ?_
        refine L_nil ?_
        refine hK13 _ _ ?_
        refine T_cond rfl (fun h34 => ?_) (fun h34 => ?_)
        ·
          refine T_region ?_
          refine L_y (y_move rfl) rfl ?_
          refine L_y (y_move rfl) rfl ?_
          refine L_y (y_assign rfl) rfl ?_
          refine L_y (y_assign rfl) rfl ?_
          refine L_nil ?_
          refine hK10 _ _ ?_
          refine T_region ?_
          refine L_y (y_add rfl rfl (i64w (by omega))) rfl ?_
          refine L_y (y_move rfl) rfl ?_
          refine L_nil ?_
          refine ⟨q + 1, stepB a t s v, by omega, ⟨⟨by omega, by rw [take1 hv, List.foldl_append, ← hs]; rfl⟩, S2⟩, ?_⟩
          exact (Sub.cons rfl (by first | rfl | exact congrArg (Value.int _) (by omega)) (Sub.cons rfl (by first | rfl | (unfold stepB; rw [if_pos (by omega)]) | (unfold stepB; rw [if_neg (by omega)])) (Sub.cons rfl (by first | rfl | (unfold stepB; rw [if_pos (by omega)]) | (unfold stepB; rw [if_neg (by omega)])) (Sub.cons rfl rfl (Sub.cons rfl rfl (Sub.cons rfl rfl (Sub.cons rfl rfl (Sub.nil _))))))))
        ·
          refine T_skip ?_
          refine hK10 _ _ ?_
          refine T_region ?_
          refine L_y (y_add rfl rfl (i64w (by omega))) rfl ?_
          refine L_y (y_move rfl) rfl ?_
          refine L_nil ?_
          refine ⟨q + 1, stepB a t s v, by omega, ⟨⟨by omega, by rw [take1 hv, List.foldl_append, ← hs]; rfl⟩, S2⟩, ?_⟩
          exact (Sub.cons rfl (by first | rfl | exact congrArg (Value.int _) (by omega)) (Sub.cons rfl (by first | rfl | (unfold stepB; rw [if_pos (by omega)]) | (unfold stepB; rw [if_neg (by omega)])) (Sub.cons rfl (by first | rfl | (unfold stepB; rw [if_pos (by omega)]) | (unfold stepB; rw [if_neg (by omega)])) (Sub.cons rfl rfl (Sub.cons rfl rfl (Sub.cons rfl rfl (Sub.cons rfl rfl (Sub.nil _))))))))
      ·
        refine T_exit ?_
        refine hK6 _ _ ?_
        refine T_seq fun K14 hK14 => ?_
        refine T_region ?_
        refine L_y (y_move rfl) rfl ?_
        refine L_y (y_move rfl) rfl ?_
        refine L_y (y_assign rfl) rfl ?_
        refine L_y (y_assign rfl) rfl ?_
        refine L_nil ?_
        refine hK14 _ _ ?_
        refine T_ret ?_
        repeat (first | with_reducible refine up_then ?_ | with_reducible refine up_in ?_)
        refine ret2 rfl rfl rfl ?_
        first | exact ⟨_, rfl, S1.like0, by unfold bst; rw [if_pos (by omega)]; rfl⟩ | exact ⟨_, rfl, S1.like0, by unfold bst; rw [if_neg (by omega), hs, List.take_of_length_le (by omega)]⟩
end Go.Proofs.Ytpcgldkllnkaeaa
