/-
  places.
-/
import Derived.Test.YtpcgldkllnkaeaaF
namespace Go.Proofs.Ytpcgldkllnkaeaa
open Go.RowKit Zk Zx
set_option linter.unusedVariables false
set_option linter.unusedSimpArgs false

theorem six_len {a : List UInt8} {k : Nat} (h : k + 6 ≤ a.length) : (six a k).length = 6 := by unfold six; rw [List.length_take, List.length_drop]; omega
theorem cut_six {w : World} {A : Option Addr} {n c k : Nat} {a : List UInt8} (h : Rs w 1 A n c (bL a)) (hk : k + 6 ≤ n) : Rs w 1 (cutA A c k 1) (k + 6 - k) (c - k) (bL (six a k)) := by
  have h2 := h.cut (l := k) (u := k + 6) (by omega) hk
  have e : ((bL a).drop (k * 1)).take ((k + 6 - k) * 1) = bL (six a k) := by
    rw [Nat.mul_one, Nat.mul_one, show k + 6 - k = 6 by omega]
    simp [bL, six]
  rwa [e] at h2
theorem take_six (a : List UInt8) (k : Nat) (h : k + 6 ≤ a.length) : (six a k).take 6 = six a k := List.take_of_length_le (by rw [six_len h]; exact Nat.le_refl _)


set_option maxRecDepth 100000 in
theorem places (A : Option Addr) (n c : Nat) (a : List UInt8) (w0 : World) (ha : Rs w0 1 A n c (bL a)) (hmx : n ≤ 4000) :
    Calls Try.prog 39 #[.slice A n c] w0 fun e w' => ∃ u, e = .returned u ∧ Like w0 w' ∧ ∃ b pes, u = .map (some b) ∧ PI a (a.length - 5) pes ∧ St w0 noM [mapB 6 b (pes.map PE.ent), fam (pes.map PE.row)] w' := by
  refine enter1 (env := [(0, .slice A n c)]) [.slice A n c] Try.func39 rfl Try.ntmps39 rfl rfl ?_
  have hn := ha.lenb; have hcap := ha.cap; have hmax := ha.max; have S0 := St.start w0 noM
  refine T_seq fun K1 hK1 => ?_
  refine T_region ?_
  refine L_y (y_assign rfl) rfl ?_
  refine L_nil ?_
  refine hK1 _ _ ?_
  refine T_seq fun K2 hK2 => ?_
  refine T_region ?_
  refine L_o (o_makeMapB (n := 6) S0 rfl fun b1 w1 hb1 S1 => ?_)
  refine L_y (y_assign rfl) rfl ?_
  refine L_nil ?_
  refine hK2 _ _ ?_
  refine T_seq fun K3 hK3 => ?_
  refine T_seq fun K4 hK4 => ?_
  refine T_region ?_
  refine L_y (y_assign rfl) rfl ?_
  refine L_nil ?_
  refine hK4 _ _ ?_
  refine T_block ?_
  refine T_loop2 [(0, _), (3, _)] (fun (k : Nat) (pes : List PE) => [(4, .int .i64 (k : Int))]) (fun (k : Nat) (pes : List PE) => n - k) (fun (k : Nat) (pes : List PE) (w : World) => k ≤ n - 5 ∧ PI a k pes ∧ St w0 noM [mapB 6 b1 (pes.map PE.ent), fam (pes.map PE.row)] w) 0 [] (Sub.cons rfl (by first | rfl | exact congrArg (Value.int _) (by omega)) (Sub.nil _)) (Sub.cons rfl rfl (Sub.cons rfl rfl (Sub.nil _))) ?_ ?_
  ·
    have S9 := S1.fam0
    exact ⟨Nat.zero_le _, PI.start a, S9⟩
  ·
    intro k pes w2 hrel
    obtain ⟨hk, hpi0, S2⟩ := hrel
    refine T_seq fun K5 hK5 => ?_
    refine T_seq fun K6 hK6 => ?_
    refine T_region ?_
    refine L_y (y_move rfl) rfl ?_
    refine L_y (y_add rfl rfl (i64w (by omega))) rfl ?_
    refine L_y (y_move rfl) rfl ?_
    refine L_y (y_len Try.underlying22 rfl) rfl ?_
    refine L_y (y_leq rfl rfl) rfl ?_
    refine L_nil ?_
    refine hK6 _ _ ?_
    refine T_cond rfl (fun h11 => ?_) (fun h11 => ?_)
    ·
      refine T_skip ?_
      refine hK5 _ _ ?_
      refine T_seq fun K7 hK7 => ?_
      refine T_block ?_
      refine T_seq fun K8 hK8 => ?_
      refine T_region ?_
      refine L_y (y_move rfl) rfl ?_
      refine L_y (y_move rfl) rfl ?_
      refine L_y (y_move rfl) rfl ?_
      refine L_y (y_add rfl rfl (i64w (by omega))) rfl ?_
      refine L_y (y_slice Try.underlying22 sz5 rfl rfl rfl (Nt.mk (by omega) : Nt _ (k)) (Nt.mk (by omega) : Nt _ (k + 6)) (by omega) (by omega)) rfl ?_
      refine L_y (y_arrAt Try.underlying98 rfl (by omega)) rfl ?_
      refine L_y (y_ldArr Try.underlying98 sz98 rfl (cut_six (S2.rd ha) (by omega)) (by omega) (by omega)) rfl ?_
      refine L_o (o_alloc zz98 S2 rfl fun b3 w3 hb3 S3 => ?_)
      refine L_o (o_stW S3 2 rfl rfl rfl (by rw [size_bA, List.length_take, six_len (by omega)]; exact sz98) (by rw [size_bA, List.length_take, six_len (by omega)]; rfl) (bL_one _) fun w4 S4 => ?_)
      refine L_nil ?_
      refine hK8 _ _ ?_
      refine T_region ?_
      refine L_y (y_move rfl) rfl ?_
      refine L_y (y_ldW Try.underlying98 rfl sz98 rfl (S4.blk 2 rfl) (show _ = bL (six a k) ∧ _ from ⟨by rw [take_six a k (by omega)]; exact List.take_of_length_le (by show (bL (six a k)).length ≤ 6; rw [length_bL, six_len (by omega)]; exact Nat.le_refl _), by rw [length_bL, six_len (by omega)]⟩)) rfl ?_
      refine L_y (y_move rfl) rfl ?_
      refine L_o (o_bsl [_] te99 zz3 S4 rfl rfl rfl rfl rfl rfl rfl rfl fun b5 w5 S5 => ?_)
      refine L_o (o_entryB S5 0 rfl Try.underlying74 Try.underlying98 Try.underlying5 sz5 zz99 rfl rfl (six_len (by omega)) rfl (fun i6 v6 hp6 S6 => ?_) (fun hp6 w6 S6 => ?_))
      ·
        obtain ⟨p, hpi, hpk, rfl⟩ := ent_found hp6
        have hil := (List.getElem?_eq_some_iff.1 hpi).1
        have S91 := S6.famOutAt 1 rfl (rows_at hpi)
        have hpx := hpi0.each p (List.mem_of_getElem? hpi)
        have hpn : p.n = p.xs.length := by have := (S91.row 4 rfl).len; rw [nL_len] at this; omega
        have hpl := posF_len a k p.k
        rw [← hpx] at hpl
        refine L_y (y_extract rfl rfl) rfl ?_
        refine L_o (o_app te99 S91 4 rfl rfl rfl (by first | exact S91.fix 1 rfl | exact S91.row 3 rfl | exact S91.row 4 rfl) (nL_one [k]) rfl (by omega) (by omega) fun A7 c7 w7 S7 => ?_)
        have S7d := S7.drop (rs' := [_, _, _, _]) (.cons_cons _ (.cons_cons _ (.cons_cons _ (.cons _ (.refl _)))))
        refine L_y (y_extract rfl rfl) rfl ?_
        refine L_o (o_entryStB S7d 0 rfl (show (pes.map PE.ent)[i6]? = some (six a k, Value.slice p.A p.n p.c) from by rw [List.getElem?_map, hpi, ← hpk]; rfl) rfl rfl rfl fun w8 S8 => ?_)
        refine L_nil ?_
        refine hK7 _ _ ?_
        refine T_region ?_
        refine L_y (y_move rfl) rfl ?_
        refine L_y (y_add rfl rfl (i64w (by omega))) rfl ?_
        refine L_y (y_assign rfl) rfl ?_
        refine L_nil ?_
        have S92 := S8.sel [0, 1, 3] (by decide)
        have S93 := St.famInAt (rs := [mapB 6 b1 ((pes.map PE.ent).set i6 (six a k, Value.slice A7 (p.n + 1) c7)), fam ((pes.take i6).map PE.row ++ (pes.drop (i6 + 1)).map PE.row)]) (r := row 3 1 A7 (p.n + 1) c7 (nL p.xs ++ nL [k])) S92 1 rfl
        have e93 : (pes.map PE.ent).set i6 (six a k, Value.slice A7 (p.n + 1) c7) = (pes.set i6 (⟨p.k, A7, p.n + 1, c7, p.xs ++ [k]⟩ : PE)).map PE.ent := by rw [← ents_set]; unfold PE.ent; rw [hpk]
        have e94 : (pes.take i6).map PE.row ++ row 3 1 A7 (p.n + 1) c7 (nL p.xs ++ nL [k]) :: (pes.drop (i6 + 1)).map PE.row = (pes.set i6 (⟨p.k, A7, p.n + 1, c7, p.xs ++ [k]⟩ : PE)).map PE.row := by rw [← rows_set hil]; unfold PE.row; rw [nL_app]
        have S94 : St w0 noM [mapB 6 b1 ((pes.set i6 (⟨p.k, A7, p.n + 1, c7, p.xs ++ [k]⟩ : PE)).map PE.ent), fam ((pes.set i6 (⟨p.k, A7, p.n + 1, c7, p.xs ++ [k]⟩ : PE)).map PE.row)] w8 := by rw [← e93, ← e94]; exact S93
        refine ⟨k + 1, pes.set i6 (⟨p.k, A7, p.n + 1, c7, p.xs ++ [k]⟩ : PE), by omega, ⟨by omega, hpi0.found hpi hpk rfl rfl, S94⟩, ?_⟩
        exact (Sub.cons rfl (by first | rfl | exact congrArg (Value.int _) (by omega)) (Sub.cons rfl rfl (Sub.cons rfl rfl (Sub.nil _))))
      ·
        have S91 := S6.nilrow 3 1
        refine L_y (y_extract rfl rfl) rfl ?_
        refine L_o (o_app te99 S91 4 rfl rfl rfl (by first | exact S91.fix 1 rfl | exact S91.row 3 rfl | exact S91.row 4 rfl) (nL_one [k]) rfl (by omega) (by omega) fun A9 c9 w9 S9 => ?_)
        have S9d := S9.drop (rs' := [_, _, _, _]) (.cons_cons _ (.cons_cons _ (.cons_cons _ (.cons _ (.refl _)))))
        refine L_y (y_extract rfl rfl) rfl ?_
        refine L_o (o_entryStB S9d 0 rfl (show (pes.map PE.ent ++ [(six a k, Value.slice none 0 0)])[(pes.map PE.ent).length]? = some (six a k, Value.slice none 0 0) from List.getElem?_concat_length) rfl rfl rfl fun w10 S10 => ?_)
        refine L_nil ?_
        refine hK7 _ _ ?_
        refine T_region ?_
        refine L_y (y_move rfl) rfl ?_
        refine L_y (y_add rfl rfl (i64w (by omega))) rfl ?_
        refine L_y (y_assign rfl) rfl ?_
        refine L_nil ?_
        have S92 := S10.sel [0, 1, 3] (by decide)
        have S93 := St.famInAt (L1 := pes.map PE.row) (L2 := []) (rs := [mapB 6 b1 ((pes.map PE.ent ++ [(six a k, Value.slice none 0 0)]).set (pes.map PE.ent).length (six a k, Value.slice A9 (0 + 1) c9)), fam (pes.map PE.row ++ [])]) (r := row 3 1 A9 (0 + 1) c9 ([] ++ nL [k])) (by rw [List.append_nil]; exact S92) 1 rfl
        have e93 : (pes.map PE.ent ++ [(six a k, Value.slice none 0 0)]).set (pes.map PE.ent).length (six a k, Value.slice A9 (0 + 1) c9) = (pes ++ [(⟨six a k, A9, 1, c9, [k]⟩ : PE)]).map PE.ent := by rw [List.set_append_right _ _ (Nat.le_refl _), Nat.sub_self, List.map_append]; rfl
        have S94 : St w0 noM [mapB 6 b1 ((pes ++ [(⟨six a k, A9, 1, c9, [k]⟩ : PE)]).map PE.ent), fam ((pes ++ [(⟨six a k, A9, 1, c9, [k]⟩ : PE)]).map PE.row)] w10 := by rw [← e93, List.map_append]; exact S93
        refine ⟨k + 1, pes ++ [(⟨six a k, A9, 1, c9, [k]⟩ : PE)], by omega, ⟨by omega, hpi0.new (ent_none hp6) rfl rfl, S94⟩, ?_⟩
        exact (Sub.cons rfl (by first | rfl | exact congrArg (Value.int _) (by omega)) (Sub.cons rfl rfl (Sub.cons rfl rfl (Sub.nil _))))
    ·
      refine T_exit ?_
      refine hK3 _ _ ?_
      refine T_seq fun K9 hK9 => ?_
      refine T_region ?_
      refine L_y (y_move rfl) rfl ?_
      refine L_y (y_assign rfl) rfl ?_
      refine L_nil ?_
      refine hK9 _ _ ?_
      refine T_ret ?_
      repeat (first | with_reducible refine up_then ?_ | with_reducible refine up_in ?_)
      refine ret1 rfl rfl ?_
      have hke : k = a.length - 5 := by omega
      subst hke
      exact ⟨_, rfl, S2.like0, b1, pes, rfl, hpi0, S2⟩
end Go.Proofs.Ytpcgldkllnkaeaa
