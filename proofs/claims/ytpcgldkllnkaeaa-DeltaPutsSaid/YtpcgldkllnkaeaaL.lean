/-
  plain, own.
-/
import Derived.Test.YtpcgldkllnkaeaaK
namespace Go.Proofs.Ytpcgldkllnkaeaa
open Go.RowKit Zk Zx
set_option linter.unusedVariables false
set_option linter.unusedSimpArgs false

theorem take_snoc {l : List OP} {k : Nat} {o : OP} (h : l[k]? = some o) : (l.take k).flatMap opf ++ opf o = (l.take (k + 1)).flatMap opf := by rw [take1 h, List.flatMap_append]; simp


set_option maxRecDepth 100000 in
theorem plain (A : Option Addr) (n c : Nat) (l : List OP) (b t : Int) (w0 : World) (hl : Rs w0 4 A n c (l.flatMap opf)) (hok : OkO w0 l) (h4 : n ≤ 5000) :
    Calls Try.prog 11 #[.agg (scA b t A n c)] w0 fun e w' => ∃ u, e = .returned u ∧ Like w0 w' ∧ ∃ A' c', u = .agg (scA b t A' n c') ∧ w'.ownsRow w0.heap.size 58 4 (.slice A' n c') n (l.flatMap opf) := by
  refine enter1 (env := [(0, .agg (scA b t A n c))]) [.agg (scA b t A n c)] Try.func11 rfl Try.ntmps11 rfl rfl ?_
  have hn := ops_n hl; have hcap := hl.cap; have hmax := hl.max; have S0 := St.start w0 noM
  refine T_seq fun K1 hK1 => ?_
  refine T_region ?_
  refine L_o (o_box rfl S0 rfl fun b1 w1 hb1 S1 => ?_)
  refine L_o (o_alloc zz30 S1 rfl fun b2 w2 hb2 S2 => ?_)
  refine L_nil ?_
  refine hK1 _ _ ?_
  refine T_seq fun K2 hK2 => ?_
  refine T_region ?_
  refine L_y (y_fieldA 0 Try.underlying25 rfl sz3 rfl rfl rfl) rfl ?_
  refine L_y (y_ldc Try.underlying3 rfl rfl (((S2.blk 0 rfl).cell _).trans (by rfl))) rfl ?_
  refine L_y (y_fieldA 1 Try.underlying25 rfl sz3 rfl rfl rfl) rfl ?_
  refine L_y (y_ldc Try.underlying3 rfl rfl (((S2.blk 0 rfl).cell _).trans (by rfl))) rfl ?_
  refine L_y (y_build rfl (show _ = some (scA b t none 0 0) by kernel_rfl)) rfl ?_
  refine L_o (o_alloc zz30 S2 rfl fun b3 w3 hb3 S3 => ?_)
  refine L_o (o_stW S3 2 rfl rfl rfl sz30 rfl (scA_one _ _ _ _ _) fun w4 S4 => ?_)
  refine L_nil ?_
  refine hK2 _ _ ?_
  refine T_seq fun K3 hK3 => ?_
  refine T_seq fun K4 hK4 => ?_
  refine T_region ?_
  refine L_y (y_assign rfl) rfl ?_
  refine L_nil ?_
  refine hK4 _ _ ?_
  refine T_block ?_
  refine T_loop3 [(1, _), (2, _), (3, _)] (fun (k : Nat) (A1 : Option Addr) (c1 : Nat) => [(4, .int .i64 (k : Int))]) (fun (k : Nat) (A1 : Option Addr) (c1 : Nat) => n - k) (fun (k : Nat) (A1 : Option Addr) (c1 : Nat) (w : World) => k ≤ n ∧ St w0 noM [blk b1 25 (scA b t A n c), blk b2 30 #[.int .i64 0, .int .i64 0, .slice none 0 0], blk b3 30 (scA b t A1 k c1), row 58 4 A1 k c1 ((l.take k).flatMap opf)] w) 0 none 0 (Sub.cons rfl (by first | rfl | exact congrArg (Value.int _) (by omega)) (Sub.nil _)) (Sub.cons rfl rfl (Sub.cons rfl rfl (Sub.cons rfl rfl (Sub.nil _)))) ?_ ?_
  ·
    have S9 := S4.nilrow 58 4
    exact ⟨Nat.zero_le _, S9⟩
  ·
    intro k A1 c1 w5 hrel
    obtain ⟨hk, S5⟩ := hrel
    refine T_seq fun K5 hK5 => ?_
    refine T_seq fun K6 hK6 => ?_
    refine T_region ?_
    refine L_y (y_move rfl) rfl ?_
    refine L_y (y_fieldA 2 Try.underlying25 rfl sz23 rfl rfl rfl) rfl ?_
    refine L_y (y_ldc Try.underlying23 rfl rfl (((S5.blk 0 rfl).cell _).trans (by rfl))) rfl ?_
    refine L_y (y_len Try.underlying23 rfl) rfl ?_
    refine L_y (y_lss rfl rfl) rfl ?_
    refine L_nil ?_
    refine hK6 _ _ ?_
    refine T_cond rfl (fun h15 => ?_) (fun h15 => ?_)
    ·
      obtain ⟨o, ho⟩ : ∃ o, l[k]? = some o := ⟨_, List.getElem?_eq_getElem (by omega)⟩
      refine T_skip ?_
      refine hK5 _ _ ?_
      refine T_seq fun K7 hK7 => ?_
      refine T_block ?_
      refine T_seq fun K8 hK8 => ?_
      refine T_region ?_
      refine L_y (y_fieldA 2 Try.underlying25 rfl sz23 rfl rfl rfl) rfl ?_
      refine L_y (y_ldc Try.underlying23 rfl rfl (((S5.blk 0 rfl).cell _).trans (by rfl))) rfl ?_
      refine L_y (y_move rfl) rfl ?_
      refine L_y (y_idx Try.underlying23 sz57 rfl rfl (S5.rd hl) (Nt.mk (by omega) : Nt _ (k)) (by omega)) rfl ?_
      refine L_y (y_ldp (f := opf) opf_len Try.underlying57 rfl sz57 rfl (S5.rd hl) (by omega) ho) rfl ?_
      refine L_o (o_alloc zz57 S5 rfl fun b6 w6 hb6 S6 => ?_)
      refine L_o (o_stW S6 4 rfl rfl rfl sz57 rfl (opf_one o) fun w7 S7 => ?_)
      refine L_nil ?_
      refine hK8 _ _ ?_
      refine T_region ?_
      refine L_y (y_fieldA 2 Try.underlying30 rfl sz28 rfl rfl rfl) rfl ?_
      refine L_y (y_ldc Try.underlying28 rfl rfl (((S7.blk 2 rfl).cell _).trans (by rfl))) rfl ?_
      refine L_y (y_fieldA 0 Try.underlying57 rfl sz4 rfl rfl rfl) rfl ?_
      refine L_y (y_ldc Try.underlying4 rfl rfl (((S7.blk 4 rfl).cell _).trans (by rfl))) rfl ?_
      refine L_y (y_fieldA 1 Try.underlying57 rfl sz3 rfl rfl rfl) rfl ?_
      refine L_y (y_ldc Try.underlying3 rfl rfl (((S7.blk 4 rfl).cell _).trans (by rfl))) rfl ?_
      refine L_y (y_fieldA 2 Try.underlying57 rfl sz3 rfl rfl rfl) rfl ?_
      refine L_y (y_ldc Try.underlying3 rfl rfl (((S7.blk 4 rfl).cell _).trans (by rfl))) rfl ?_
      refine L_y (y_fieldA 3 Try.underlying57 rfl sz22 rfl rfl rfl) rfl ?_
      refine L_y (y_ldc Try.underlying22 rfl rfl (((S7.blk 4 rfl).cell _).trans (by rfl))) rfl ?_
      refine L_y (y_build rfl (show _ = some (opf o).toArray by kernel_rfl)) rfl ?_
      refine L_o (o_bsl [_, _, _, _] te28 zz58 S7 rfl rfl rfl rfl rfl rfl rfl rfl fun b8 w8 S8 => ?_)
      refine L_o (o_app te28 S8 3 rfl rfl rfl (by first | exact S8.row 3 rfl | exact S8.row 5 rfl) (opf_one o) rfl (by omega) (by omega) fun A9 c9 w9 S9 => ?_)
      have S9d := S9.drop (rs' := [_, _, _, _, _]) (.cons_cons _ (.cons_cons _ (.cons_cons _ (.cons_cons _ (.cons_cons _ (.cons _ (.refl _)))))))
      refine L_y (y_fieldA 2 Try.underlying30 rfl sz28 rfl rfl rfl) rfl ?_
      refine L_o (o_st1 S9d 2 rfl rfl rfl rfl sz28 (by show 2 < 3; decide) fun w10 S10 => ?_)
      refine L_nil ?_
      refine hK7 _ _ ?_
      refine T_region ?_
      refine L_y (y_move rfl) rfl ?_
      refine L_y (y_add rfl rfl (i64w (by omega))) rfl ?_
      refine L_y (y_assign rfl) rfl ?_
      refine L_nil ?_
      have S91 := S10.blkc 2 rfl (scA_set b t A1 k c1 A9 (k + 1) c9)
      have S92 := S91.rowc 3 rfl (n' := k + 1) (xs' := (l.take (k + 1)).flatMap opf) rfl (take_snoc ho)
      have S93 := S92.sel [0, 1, 2, 3] (by decide)
      refine ⟨k + 1, A9, c9, by omega, ⟨by omega, S93⟩, ?_⟩
      exact (Sub.cons rfl (by first | rfl | exact congrArg (Value.int _) (by omega)) (Sub.cons rfl rfl (Sub.cons rfl rfl (Sub.cons rfl rfl (Sub.nil _)))))
    ·
      refine T_exit ?_
      refine hK3 _ _ ?_
      refine T_seq fun K9 hK9 => ?_
      refine T_region ?_
      refine L_y (y_ldW Try.underlying30 rfl sz30 rfl (S5.blk 2 rfl) (show _ = (scA b t A1 n c1).toList ∧ _ from ⟨by rw [show n = k by omega]; rfl, rfl⟩)) rfl ?_
      refine L_o (o_stW S5 1 rfl rfl rfl sz30 rfl (scA_one _ _ _ _ _) fun w11 S11 => ?_)
      refine L_nil ?_
      refine hK9 _ _ ?_
      refine T_ret ?_
      repeat (first | with_reducible refine up_then ?_ | with_reducible refine up_in ?_)
      refine retc rfl rfl (S11.blk 1 rfl) Try.underlying30 rfl (by exact sz30) ?_
      have hkn : k = n := by omega
      subst hkn
      exact ⟨_, rfl, S11.like0, A1, c1, rfl, by have h9 := S11.own 3 rfl; rwa [List.take_of_length_le (by omega)] at h9⟩


set_option maxRecDepth 100000 in
theorem pown (A : Option Addr) (n c : Nat) (l : List OP) (b t : Int) (w0 : World) (hl : Rs w0 4 A n c (l.flatMap opf)) (hok : OkO w0 l) (h4 : n ≤ 5000) (hbig : ∀ o ∈ l, o.p.n ≤ 70368744177000) :
    Calls Try.prog 10 #[.agg (scA b t A n c)] w0 fun e w' => ∃ u, e = .returned u ∧ Like w0 w' ∧ ∃ A' c' qs, u = .agg (scA b t A' n c') ∧ Rs w' 4 A' n c' (qs.flatMap opf) ∧ OkO w' qs ∧ qs.map OP.v = l.map OP.v := by
  refine enter1 (env := [(0, .agg (scA b t A n c))]) [.agg (scA b t A n c)] Try.func10 rfl Try.ntmps10 rfl rfl ?_
  have hn := ops_n hl; have hcap := hl.cap; have hmax := hl.max; have S0 := St.start w0 noM
  refine T_seq fun K1 hK1 => ?_
  refine T_region ?_
  refine L_o (o_box rfl S0 rfl fun b1 w1 hb1 S1 => ?_)
  refine L_o (o_alloc zz25 S1 rfl fun b2 w2 hb2 S2 => ?_)
  refine L_nil ?_
  refine hK1 _ _ ?_
  refine T_seq fun K2 hK2 => ?_
  refine T_region ?_
  refine L_y (y_fieldA 0 Try.underlying30 rfl sz3 rfl rfl rfl) rfl ?_
  refine L_y (y_ldc Try.underlying3 rfl rfl (((S2.blk 0 rfl).cell _).trans (by rfl))) rfl ?_
  refine L_y (y_fieldA 1 Try.underlying30 rfl sz3 rfl rfl rfl) rfl ?_
  refine L_y (y_ldc Try.underlying3 rfl rfl (((S2.blk 0 rfl).cell _).trans (by rfl))) rfl ?_
  refine L_y (y_build rfl (show _ = some (scA b t none 0 0) by kernel_rfl)) rfl ?_
  refine L_o (o_alloc zz25 S2 rfl fun b3 w3 hb3 S3 => ?_)
  refine L_o (o_stW S3 2 rfl rfl rfl sz25 rfl (scA_one _ _ _ _ _) fun w4 S4 => ?_)
  refine L_nil ?_
  refine hK2 _ _ ?_
  refine T_seq fun K3 hK3 => ?_
  refine T_seq fun K4 hK4 => ?_
  refine T_region ?_
  refine L_y (y_assign rfl) rfl ?_
  refine L_nil ?_
  refine hK4 _ _ ?_
  refine T_block ?_
  refine T_loop5 [(1, _), (2, _), (3, _)] (fun (k : Nat) (A1 : Option Addr) (c1 : Nat) (qs : List OP) (ps : List Part) => [(4, .int .i64 (k : Int))]) (fun (k : Nat) (A1 : Option Addr) (c1 : Nat) (qs : List OP) (ps : List Part) => n - k) (fun (k : Nat) (A1 : Option Addr) (c1 : Nat) (qs : List OP) (ps : List Part) (w : World) => (k ≤ n ∧ InP qs ps ∧ qs.map OP.v = (l.take k).map OP.v) ∧ St w0 noM [blk b1 30 (scA b t A n c), blk b2 25 #[.int .i64 0, .int .i64 0, .slice none 0 0], blk b3 25 (scA b t A1 k c1), row 57 4 A1 k c1 (qs.flatMap opf), fam (ps.map partR)] w) 0 none 0 [] [] (Sub.cons rfl (by first | rfl | exact congrArg (Value.int _) (by omega)) (Sub.nil _)) (Sub.cons rfl rfl (Sub.cons rfl rfl (Sub.cons rfl rfl (Sub.nil _)))) ?_ ?_
  ·
    have S9 := (S4.nilrow 57 4).fam0
    exact ⟨⟨Nat.zero_le _, (fun o ho => (List.not_mem_nil ho).elim), rfl⟩, S9⟩
  ·
    intro k A1 c1 qs ps w5 hrel
    obtain ⟨⟨hk, hin, hqv⟩, S5⟩ := hrel
    refine T_seq fun K5 hK5 => ?_
    refine T_seq fun K6 hK6 => ?_
    refine T_region ?_
    refine L_y (y_move rfl) rfl ?_
    refine L_y (y_fieldA 2 Try.underlying30 rfl sz28 rfl rfl rfl) rfl ?_
    refine L_y (y_ldc Try.underlying28 rfl rfl (((S5.blk 0 rfl).cell _).trans (by rfl))) rfl ?_
    refine L_y (y_len Try.underlying28 rfl) rfl ?_
    refine L_y (y_lss rfl rfl) rfl ?_
    refine L_nil ?_
    refine hK6 _ _ ?_
    refine T_cond rfl (fun h15 => ?_) (fun h15 => ?_)
    ·
      obtain ⟨o, ho⟩ : ∃ o, l[k]? = some o := ⟨_, List.getElem?_eq_getElem (by omega)⟩
      have hop := hok o (List.mem_of_getElem? ho)
      have hbo := hbig o (List.mem_of_getElem? ho)
      have hopc := hop.cap; have hopm := hop.max
      refine T_skip ?_
      refine hK5 _ _ ?_
      refine T_seq fun K7 hK7 => ?_
      refine T_block ?_
      refine T_seq fun K8 hK8 => ?_
      refine T_region ?_
      refine L_y (y_fieldA 2 Try.underlying30 rfl sz28 rfl rfl rfl) rfl ?_
      refine L_y (y_ldc Try.underlying28 rfl rfl (((S5.blk 0 rfl).cell _).trans (by rfl))) rfl ?_
      refine L_y (y_move rfl) rfl ?_
      refine L_y (y_idx Try.underlying28 sz58 rfl rfl (S5.rd hl) (Nt.mk (by omega) : Nt _ (k)) (by omega)) rfl ?_
      refine L_y (y_ldp (f := opf) opf_len Try.underlying58 rfl sz58 rfl (S5.rd hl) (by omega) ho) rfl ?_
      refine L_o (o_alloc zz58 S5 rfl fun b6 w6 hb6 S6 => ?_)
      refine L_o (o_stW S6 5 rfl rfl rfl sz58 rfl (opf_one o) fun w7 S7 => ?_)
      refine L_nil ?_
      refine hK8 _ _ ?_
      refine T_zed [0, 1, 2, 3, 4, 5, 6, 7, 9, 10, 8, 11, 12, 13, 14, 15] 16 [(0, 1), (1, 1), (2, 1), (3, 1), (4, 1), (5, 1), (6, 1), (7, 1), (9, 1), (10, 1), (8, 2), (11, 2), (12, 1), (13, 2), (14, 2), (15, 1), (16, 3)] hmix (by kernel_rfl) fun w8 l8 => ?_
      have S8 := S7.like l8
      refine ZA_B (fun w => Blk w b3 25 (scA b t A1 k c1) ∧ Blk w b6 58 (opf o).toArray) ⟨S8.blk 2 rfl, S8.blk 5 rfl⟩ ?_
      refine ZB_y rfl (y_fieldA 2 Try.underlying25 rfl sz23 rfl rfl rfl) rfl ?_
      refine ZB_y rfl (y_of fun w hw => y_ldc Try.underlying23 rfl rfl (((hw.1).cell _).trans (by rfl))) rfl ?_
      refine ZB_y rfl (y_fieldA 0 Try.underlying58 rfl sz4 rfl rfl rfl) rfl ?_
      refine ZB_y rfl (y_of fun w hw => y_ldc Try.underlying4 rfl rfl (((hw.2).cell _).trans (by rfl))) rfl ?_
      refine ZB_y rfl (y_fieldA 1 Try.underlying58 rfl sz3 rfl rfl rfl) rfl ?_
      refine ZB_y rfl (y_of fun w hw => y_ldc Try.underlying3 rfl rfl (((hw.2).cell _).trans (by rfl))) rfl ?_
      refine ZB_y rfl (y_fieldA 2 Try.underlying58 rfl sz3 rfl rfl rfl) rfl ?_
      refine ZB_y rfl (y_of fun w hw => y_ldc Try.underlying3 rfl rfl (((hw.2).cell _).trans (by rfl))) rfl ?_
      refine ZB_y rfl (y_fieldA 3 Try.underlying58 rfl sz22 rfl rfl rfl) rfl ?_
      refine ZB_y rfl (y_of fun w hw => y_ldc Try.underlying22 rfl rfl (((hw.2).cell _).trans (by rfl))) rfl ?_
      refine ZB_o rfl (o_bsl0 te22 S8 rfl fun b9 w9 l9 S9 => ?_)
      refine ⟨⟨S9.blk 2 rfl, S9.blk 5 rfl⟩, ?_⟩
      refine ZB_o rfl (o_app te22 S9 6 rfl rfl rfl (S9.rd hop) (bL_one _) rfl (by omega) (by omega) fun A10 c10 w10 S10 => ?_)
      refine ⟨⟨S10.blk 2 rfl, S10.blk 5 rfl⟩, ?_⟩
      refine ZB_y rfl (y_build rfl (show _ = some #[Value.bool o.cp, Value.int .i64 o.fr, Value.int .i64 o.n, Value.slice A10 (0 + o.p.n) c10] by kernel_rfl)) rfl ?_
      refine ZB_o rfl (o_bsl [_, _, _, _] te23 zz57 S10 rfl rfl rfl rfl rfl rfl rfl rfl fun b11 w11 S11 => ?_)
      refine ⟨⟨S11.blk 2 rfl, S11.blk 5 rfl⟩, ?_⟩
      refine ZB_o rfl (o_app te23 S11 3 rfl rfl rfl (by first | exact S11.row 3 rfl | exact S11.fix 4 rfl | exact S11.row 6 rfl | exact S11.row 7 rfl) (fun u hu => opf_one ⟨o.cp, o.fr, o.n, ⟨A10, 0 + o.p.n, c10, []⟩⟩ u hu) rfl (by omega) (by omega) fun A12 c12 w12 S12 => ?_)
      have S12d := S12.drop (rs' := [_, _, _, _, _, _, _]) (.cons_cons _ (.cons_cons _ (.cons_cons _ (.cons_cons _ (.cons_cons _ (.cons_cons _ (.cons_cons _ (.cons _ (.refl _)))))))))
      refine ⟨⟨S12d.blk 2 rfl, S12d.blk 5 rfl⟩, ?_⟩
      refine ZB_y rfl (y_fieldA 2 Try.underlying25 rfl sz23 rfl rfl rfl) rfl ?_
      refine ZB_c rfl (o_st1 S12d 2 rfl rfl rfl rfl sz23 (by show 2 < 3; decide) fun w13 S13 => ?_)
      refine ZA_nil ?_
      refine hK7 _ _ ?_
      refine T_region ?_
      refine L_y (y_move rfl) rfl ?_
      refine L_y (y_add rfl rfl (i64w (by omega))) rfl ?_
      refine L_y (y_assign rfl) rfl ?_
      refine L_nil ?_
      have S91 := S13.blkc 2 rfl (scA_set b t A1 k c1 A12 (k + 1) c12)
      have S92 := S91.rowc 3 rfl (n' := k + 1) (xs' := (qs ++ [(⟨o.cp, o.fr, o.n, (⟨A10, 0 + o.p.n, c10, o.p.l⟩ : Part)⟩ : OP)]).flatMap opf) rfl (by rw [List.flatMap_append]; rfl)
      have S93 := (S92.still 6 rfl).sel [0, 1, 2, 3, 4, 6] (by decide)
      have S94 := famAdd (rs := [_, _, _, _, fam (ps.map partR)]) (ps := ps) (p := (⟨A10, 0 + o.p.n, c10, o.p.l⟩ : Part)) S93 4 rfl
      refine ⟨k + 1, A12, c12, qs ++ [(⟨o.cp, o.fr, o.n, (⟨A10, 0 + o.p.n, c10, o.p.l⟩ : Part)⟩ : OP)], ps ++ [(⟨A10, 0 + o.p.n, c10, o.p.l⟩ : Part)], by omega, ⟨⟨by omega, hin.add (o := (⟨o.cp, o.fr, o.n, (⟨A10, 0 + o.p.n, c10, o.p.l⟩ : Part)⟩ : OP)), by rw [List.map_append, hqv, take1 ho, List.map_append]; rfl⟩, S94⟩, ?_⟩
      exact (Sub.cons rfl (by first | rfl | exact congrArg (Value.int _) (by omega)) (Sub.cons rfl rfl (Sub.cons rfl rfl (Sub.cons rfl rfl (Sub.nil _)))))
    ·
      refine T_exit ?_
      refine hK3 _ _ ?_
      refine T_seq fun K9 hK9 => ?_
      refine T_region ?_
      refine L_y (y_ldW Try.underlying25 rfl sz25 rfl (S5.blk 2 rfl) (show _ = (scA b t A1 n c1).toList ∧ _ from ⟨by rw [show n = k by omega]; rfl, rfl⟩)) rfl ?_
      refine L_o (o_stW S5 1 rfl rfl rfl sz25 rfl (scA_one _ _ _ _ _) fun w14 S14 => ?_)
      refine L_nil ?_
      refine hK9 _ _ ?_
      refine T_ret ?_
      repeat (first | with_reducible refine up_then ?_ | with_reducible refine up_in ?_)
      refine retc rfl rfl (S14.blk 1 rfl) Try.underlying25 rfl (by exact sz25) ?_
      have hkn : k = n := by omega
      subst hkn
      exact ⟨_, rfl, S14.like0, A1, c1, qs, rfl, S14.row 3 rfl, okO_of hin (S14.get 4 rfl), by rw [hqv, List.take_of_length_le (by omega)]⟩
end Go.Proofs.Ytpcgldkllnkaeaa
