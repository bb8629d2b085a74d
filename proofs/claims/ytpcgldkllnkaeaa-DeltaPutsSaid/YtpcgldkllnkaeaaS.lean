/-
  Then of the document.
-/
import Derived.Test.YtpcgldkllnkaeaaR
namespace Go.Proofs.Ytpcgldkllnkaeaa
open Go.RowKit Zk Zx
set_option linter.unusedVariables false
set_option linter.unusedSimpArgs false

theorem rt_newV {b : Int} {o : OP} (h : rtV b o.v = true) (hc : o.cp = false) : o.v = ⟨false, 0, 0, o.p.l⟩ := by
  unfold rtV at h
  rw [if_neg (show ¬ o.v.cp = true from by rw [show o.v.cp = o.cp from rfl, hc]; exact Bool.false_ne_true)] at h
  simp only [Bool.and_eq_true, decide_eq_true_eq] at h
  obtain ⟨⟨_, h1⟩, h2⟩ := h
  have h1' : o.fr = 0 := h1
  have h2' : o.n = 0 := h2
  unfold OP.v
  rw [hc, h1', h2']
theorem partV_cp {p : OP} {f n : Nat} (h : p.cp = true) : partV p.v f n = ⟨true, p.fr + (f : Int), (n : Int), []⟩ := by unfold partV; rw [if_pos (show p.v.cp = true from h)]; rfl
theorem partV_new {p : OP} {f n : Nat} (h : p.cp = false) : partV p.v f n = ⟨false, 0, 0, (p.p.l.drop f).take n⟩ := by unfold partV; rw [if_neg (show ¬ p.v.cp = true from by rw [show p.v.cp = p.cp from rfl, h]; exact Bool.false_ne_true)]; rfl
theorem errV_two {b t : Int} {l : List OV} (h : errV b t l ≠ 0) : errV b t l = 2 := by
  unfold errV at h ⊢
  split at h
  · exact (h rfl).elim
  · rename_i h1; rw [if_neg h1]
theorem okO_snoc {w : World} {rs : List OP} {q : OP} (h : OkO w rs) (hq : q.p.ok w) : OkO w (rs ++ [q]) := fun o ho => by
  rcases List.mem_append.1 ho with ho | ho
  · exact h o ho
  · rw [List.mem_singleton.1 ho]; exact hq
theorem okO_app {w : World} {rs qs : List OP} (h : OkO w qs) (hq : OkO w rs) : OkO w (qs ++ rs) := fun o ho => by
  rcases List.mem_append.1 ho with ho | ho
  · exact h o ho
  · exact hq o ho


set_option maxRecDepth 100000 in
theorem rthen (A : Option Addr) (n c : Nat) (l : List OP) (b t : Int) (B : Option Addr) (m d : Nat) (k : List OP) (b' t' : Int) (wB : World) (w0 : World) (hl : Rs w0 4 A n c (l.flatMap opf)) (hok : OkO w0 l) (hk : Rs w0 4 B m d (k.flatMap opf)) (hok2 : OkO w0 k) (hokB : OkO wB l) (hokB2 : OkO wB k) (hn4 : n ≤ 4000) (hm4 : m ≤ 4000) :
    Calls Try.prog 17 #[.agg (scA b t A n c), .agg (scA b' t' B m d)] w0 fun e w' => ∃ u, e = .returned u ∧ Like w0 w' ∧ ∃ A' c' qs, u = .tuple #[.agg (scA (thenR b t (l.map OP.v) b' t' (k.map OP.v)).1 (thenR b t (l.map OP.v) b' t' (k.map OP.v)).2.1 A' qs.length c'), .int .i64 (thenR b t (l.map OP.v) b' t' (k.map OP.v)).2.2.2] ∧ w'.ownsRow w0.heap.size 58 4 (.slice A' qs.length c') qs.length (qs.flatMap opf) ∧ OkO wB qs ∧ qs.map OP.v = (thenR b t (l.map OP.v) b' t' (k.map OP.v)).2.2.1 := by
  refine enter1 (env := [(0, .agg (scA b t A n c)), (1, .agg (scA b' t' B m d))]) [.agg (scA b t A n c), .agg (scA b' t' B m d)] Try.func17 rfl Try.ntmps17 rfl rfl ?_
  have hn := ops_n hl; have hcap := hl.cap; have hmax := hl.max; have S0 := St.start w0 noM; have hm := ops_n hk; have hcap2 := hk.cap; have hmax2 := hk.max
  refine T_seq fun K1 hK1 => ?_
  refine T_region ?_
  refine L_o (o_box rfl S0 rfl fun b1 w1 hb1 S1 => ?_)
  refine L_o (o_box rfl S1 rfl fun b2 w2 hb2 S2 => ?_)
  refine L_o (o_alloc zz30 S2 rfl fun b3 w3 hb3 S3 => ?_)
  refine L_y (y_assign rfl) rfl ?_
  refine L_nil ?_
  refine hK1 _ _ ?_
  refine T_seq fun K2 hK2 => ?_
  refine T_seq fun K3 hK3 => ?_
  refine T_region ?_
  refine L_y (y_ldW Try.underlying30 rfl sz30 rfl (S3.blk 0 rfl) (show _ = (scA b t A n c).toList ∧ _ from ⟨rfl, rfl⟩)) rfl ?_
  refine L_o (o_call Try.func21 rfl rfl (rcheck A n c l b t w3 (S3.rd hl) (hok.like S3.like0)) rfl rfl ?_)
  rintro e4 w4 ⟨v4, rfl, l4, rfl⟩
  refine ⟨_, rfl, ?_⟩
  have S4 := S3.like l4
  refine L_y (y_neq rfl rfl) rfl ?_
  refine L_y (y_move rfl) rfl ?_
  refine L_split 17 rfl (fun h17 => ?_) (fun h17 => ?_)
  ·
    refine L_gno rfl rfl rfl ?_
    refine L_gno rfl rfl rfl ?_
    refine L_gno rfl rfl rfl ?_
    refine L_y ((by first | exact y_pickT rfl rfl | exact y_pickF rfl rfl)) rfl ?_
    refine L_nil ?_
    refine hK3 _ _ ?_
    refine T_true rfl ?_
    refine T_seq fun K4 hK4 => ?_
    refine T_region ?_
    refine L_y (y_build rfl (show _ = some (scA 0 0 none 0 0) by kernel_rfl)) rfl ?_
    refine L_o (o_stW S4 2 rfl rfl rfl sz30 rfl (scA_one _ _ _ _ _) fun w6 S6 => ?_)
    refine L_y (y_assign rfl) rfl ?_
    refine L_nil ?_
    refine hK4 _ _ ?_
    refine T_ret ?_
    repeat (first | with_reducible refine up_then ?_ | with_reducible refine up_in ?_)
    refine retct rfl rfl rfl (S6.blk 2 rfl) Try.underlying30 rfl (by exact sz30) ?_
    first | exact ⟨_, rfl, S6.like0, none, 0, [], by rw [then_e1 h17, errV_two h17]; rfl, World.ownsRow_nil _ _ _ _, (fun o ho => (List.not_mem_nil ho).elim), by rw [then_e1 h17, errV_two h17]; rfl⟩ | exact ⟨_, rfl, S6.like0, none, 0, [], by rw [then_e2 (Decidable.byContradiction h17) h21, errV_two h21]; rfl, World.ownsRow_nil _ _ _ _, (fun o ho => (List.not_mem_nil ho).elim), by rw [then_e2 (Decidable.byContradiction h17) h21, errV_two h21]; rfl⟩ | exact ⟨_, rfl, S6.like0, none, 0, [], by rw [then_e3 h140 h200 h27]; rfl, World.ownsRow_nil _ _ _ _, (fun o ho => (List.not_mem_nil ho).elim), by rw [then_e3 h140 h200 h27]; rfl⟩ | (have hie : i = m := by omega); subst hie; rw [List.take_of_length_le (by omega)] at hqv; exact ⟨_, rfl, S6.like0, A1, c1, qs, by rw [then_ok h140 h200 (by omega)], S6.own 4 rfl, hoq, by rw [then_ok h140 h200 (by omega)]; exact hqv⟩
  ·
    refine L_gyes rfl rfl ?_
    refine L_y (y_ldW Try.underlying30 rfl sz30 rfl (S4.blk 1 rfl) (show _ = (scA b' t' B m d).toList ∧ _ from ⟨rfl, rfl⟩)) rfl ?_
    refine L_gyes rfl rfl ?_
    refine L_o (o_call Try.func21 rfl rfl (rcheck B m d k b' t' w4 (S4.rd hk) (hok2.like S4.like0)) rfl rfl ?_)
    rintro e7 w7 ⟨v7, rfl, l7, rfl⟩
    refine ⟨_, rfl, ?_⟩
    have S7 := S4.like l7
    refine L_gyes rfl rfl ?_
    refine L_y (y_neq rfl rfl) rfl ?_
    refine L_y ((by first | exact y_pickT rfl rfl | exact y_pickF rfl rfl)) rfl ?_
    refine L_nil ?_
    refine hK3 _ _ ?_
    refine T_cond rfl (fun h21 => ?_) (fun h21 => ?_)
    ·
      refine T_seq fun K5 hK5 => ?_
      refine T_region ?_
      refine L_y (y_build rfl (show _ = some (scA 0 0 none 0 0) by kernel_rfl)) rfl ?_
      refine L_o (o_stW S7 2 rfl rfl rfl sz30 rfl (scA_one _ _ _ _ _) fun w8 S8 => ?_)
      refine L_y (y_assign rfl) rfl ?_
      refine L_nil ?_
      refine hK5 _ _ ?_
      refine T_ret ?_
      repeat (first | with_reducible refine up_then ?_ | with_reducible refine up_in ?_)
      refine retct rfl rfl rfl (S8.blk 2 rfl) Try.underlying30 rfl (by exact sz30) ?_
      first | exact ⟨_, rfl, S8.like0, none, 0, [], by rw [then_e1 h17, errV_two h17]; rfl, World.ownsRow_nil _ _ _ _, (fun o ho => (List.not_mem_nil ho).elim), by rw [then_e1 h17, errV_two h17]; rfl⟩ | exact ⟨_, rfl, S8.like0, none, 0, [], by rw [then_e2 (Decidable.byContradiction h17) h21, errV_two h21]; rfl, World.ownsRow_nil _ _ _ _, (fun o ho => (List.not_mem_nil ho).elim), by rw [then_e2 (Decidable.byContradiction h17) h21, errV_two h21]; rfl⟩ | exact ⟨_, rfl, S8.like0, none, 0, [], by rw [then_e3 h140 h200 h27]; rfl, World.ownsRow_nil _ _ _ _, (fun o ho => (List.not_mem_nil ho).elim), by rw [then_e3 h140 h200 h27]; rfl⟩ | (have hie : i = m := by omega); subst hie; rw [List.take_of_length_le (by omega)] at hqv; exact ⟨_, rfl, S8.like0, A1, c1, qs, by rw [then_ok h140 h200 (by omega)], S8.own 4 rfl, hoq, by rw [then_ok h140 h200 (by omega)]; exact hqv⟩
    ·
      have h140 : errV b t (l.map OP.v) = 0 := Decidable.byContradiction h17
      have h200 : errV b' t' (k.map OP.v) = 0 := Decidable.byContradiction h21
      obtain ⟨hrg, hall⟩ := errV_zero h140
      obtain ⟨hrg2, hall2⟩ := errV_zero h200
      have hea := chkL_all (by omega) hall2
      refine T_skip ?_
      refine hK2 _ _ ?_
      refine T_seq fun K6 hK6 => ?_
      refine T_seq fun K7 hK7 => ?_
      refine T_region ?_
      refine L_y (y_fieldA 1 Try.underlying30 rfl sz3 rfl rfl rfl) rfl ?_
      refine L_y (y_ldc Try.underlying3 rfl rfl (((S7.blk 0 rfl).cell _).trans (by rfl))) rfl ?_
      refine L_y (y_fieldA 0 Try.underlying30 rfl sz3 rfl rfl rfl) rfl ?_
      refine L_y (y_ldc Try.underlying3 rfl rfl (((S7.blk 1 rfl).cell _).trans (by rfl))) rfl ?_
      refine L_y (y_neq rfl rfl) rfl ?_
      refine L_nil ?_
      refine hK7 _ _ ?_
      refine T_cond rfl (fun h27 => ?_) (fun h27 => ?_)
      ·
        refine T_seq fun K8 hK8 => ?_
        refine T_region ?_
        refine L_y (y_build rfl (show _ = some (scA 0 0 none 0 0) by kernel_rfl)) rfl ?_
        refine L_o (o_stW S7 2 rfl rfl rfl sz30 rfl (scA_one _ _ _ _ _) fun w9 S9 => ?_)
        refine L_y (y_assign rfl) rfl ?_
        refine L_nil ?_
        refine hK8 _ _ ?_
        refine T_ret ?_
        repeat (first | with_reducible refine up_then ?_ | with_reducible refine up_in ?_)
        refine retct rfl rfl rfl (S9.blk 2 rfl) Try.underlying30 rfl (by exact sz30) ?_
        first | exact ⟨_, rfl, S9.like0, none, 0, [], by rw [then_e1 h17, errV_two h17]; rfl, World.ownsRow_nil _ _ _ _, (fun o ho => (List.not_mem_nil ho).elim), by rw [then_e1 h17, errV_two h17]; rfl⟩ | exact ⟨_, rfl, S9.like0, none, 0, [], by rw [then_e2 (Decidable.byContradiction h17) h21, errV_two h21]; rfl, World.ownsRow_nil _ _ _ _, (fun o ho => (List.not_mem_nil ho).elim), by rw [then_e2 (Decidable.byContradiction h17) h21, errV_two h21]; rfl⟩ | exact ⟨_, rfl, S9.like0, none, 0, [], by rw [then_e3 h140 h200 h27]; rfl, World.ownsRow_nil _ _ _ _, (fun o ho => (List.not_mem_nil ho).elim), by rw [then_e3 h140 h200 h27]; rfl⟩ | (have hie : i = m := by omega); subst hie; rw [List.take_of_length_le (by omega)] at hqv; exact ⟨_, rfl, S9.like0, A1, c1, qs, by rw [then_ok h140 h200 (by omega)], S9.own 4 rfl, hoq, by rw [then_ok h140 h200 (by omega)]; exact hqv⟩
      ·
        refine T_skip ?_
        refine hK6 _ _ ?_
        refine T_seq fun K9 hK9 => ?_
        refine T_region ?_
        refine L_y (y_fieldA 0 Try.underlying30 rfl sz3 rfl rfl rfl) rfl ?_
        refine L_y (y_ldc Try.underlying3 rfl rfl (((S7.blk 0 rfl).cell _).trans (by rfl))) rfl ?_
        refine L_y (y_fieldA 1 Try.underlying30 rfl sz3 rfl rfl rfl) rfl ?_
        refine L_y (y_ldc Try.underlying3 rfl rfl (((S7.blk 1 rfl).cell _).trans (by rfl))) rfl ?_
        refine L_y (y_build rfl (show _ = some (scA b t' none 0 0) by kernel_rfl)) rfl ?_
        refine L_o (o_alloc zz30 S7 rfl fun b10 w10 hb10 S10 => ?_)
        refine L_o (o_stW S10 3 rfl rfl rfl sz30 rfl (scA_one _ _ _ _ _) fun w11 S11 => ?_)
        refine L_nil ?_
        refine hK9 _ _ ?_
        refine T_seq fun K10 hK10 => ?_
        refine T_seq fun K11 hK11 => ?_
        refine T_region ?_
        refine L_y (y_assign rfl) rfl ?_
        refine L_nil ?_
        refine hK11 _ _ ?_
        refine T_block ?_
        refine T_loop4 [(2, _), (3, _), (4, _), (6, _)] (fun (i : Nat) (A1 : Option Addr) (c1 : Nat) (qs : List OP) => [(7, .int .i64 (i : Int))]) (fun (i : Nat) (A1 : Option Addr) (c1 : Nat) (qs : List OP) => m - i) (fun (i : Nat) (A1 : Option Addr) (c1 : Nat) (qs : List OP) (w : World) => (i ≤ m ∧ qs.length ≤ i * 4001 ∧ OkO wB qs ∧ qs.map OP.v = thenV (l.map OP.v) ((k.take i).map OP.v)) ∧ St w0 noM [blk b1 30 (scA b t A n c), blk b2 30 (scA b' t' B m d), blk b3 30 #[.int .i64 0, .int .i64 0, .slice none 0 0], blk b10 30 (scA b t' A1 qs.length c1), row 58 4 A1 qs.length c1 (qs.flatMap opf)] w) 0 none 0 [] (Sub.cons rfl (by first | rfl | exact congrArg (Value.int _) (by omega)) (Sub.nil _)) (Sub.cons rfl rfl (Sub.cons rfl rfl (Sub.cons rfl rfl (Sub.cons rfl rfl (Sub.nil _))))) ?_ ?_
        ·
          have S9 := S11.nilrow 58 4
          exact ⟨⟨Nat.zero_le _, Nat.zero_le _, (fun o ho => (List.not_mem_nil ho).elim), rfl⟩, S9⟩
        ·
          intro i A1 c1 qs w12 hrel
          obtain ⟨⟨hi, hql, hoq, hqv⟩, S12⟩ := hrel
          refine T_seq fun K12 hK12 => ?_
          refine T_seq fun K13 hK13 => ?_
          refine T_region ?_
          refine L_y (y_move rfl) rfl ?_
          refine L_y (y_fieldA 2 Try.underlying30 rfl sz28 rfl rfl rfl) rfl ?_
          refine L_y (y_ldc Try.underlying28 rfl rfl (((S12.blk 1 rfl).cell _).trans (by rfl))) rfl ?_
          refine L_y (y_len Try.underlying28 rfl) rfl ?_
          refine L_y (y_lss rfl rfl) rfl ?_
          refine L_nil ?_
          refine hK13 _ _ ?_
          refine T_cond rfl (fun h38 => ?_) (fun h38 => ?_)
          ·
            obtain ⟨o, ho⟩ : ∃ o, k[i]? = some o := ⟨_, List.getElem?_eq_getElem (by omega)⟩
            have hom := List.mem_of_getElem? ho
            have hop := hok2 o hom
            have hopB := hokB2 o hom
            obtain ⟨hrt, hsz⟩ := hea o.v (List.mem_map.2 ⟨o, hom, rfl⟩)
            have hopl := hop.lenb
            refine T_skip ?_
            refine hK12 _ _ ?_
            refine T_seq fun K14 hK14 => ?_
            refine T_block ?_
            refine T_seq fun K15 hK15 => ?_
            refine T_region ?_
            refine L_y (y_fieldA 2 Try.underlying30 rfl sz28 rfl rfl rfl) rfl ?_
            refine L_y (y_ldc Try.underlying28 rfl rfl (((S12.blk 1 rfl).cell _).trans (by rfl))) rfl ?_
            refine L_y (y_move rfl) rfl ?_
            refine L_y (y_idx Try.underlying28 sz58 rfl rfl (S12.rd hk) (Nt.mk (by omega) : Nt _ (i)) (by omega)) rfl ?_
            refine L_y (y_ldp (f := opf) opf_len Try.underlying58 rfl sz58 rfl (S12.rd hk) (by omega) ho) rfl ?_
            refine L_o (o_alloc zz58 S12 rfl fun b13 w13 hb13 S13 => ?_)
            refine L_o (o_stW S13 5 rfl rfl rfl sz58 rfl (opf_one o) fun w14 S14 => ?_)
            refine L_nil ?_
            refine hK15 _ _ ?_
            refine T_seq fun K16 hK16 => ?_
            refine T_seq fun K17 hK17 => ?_
            refine T_region ?_
            refine L_y (y_fieldA 0 Try.underlying58 rfl sz4 rfl rfl rfl) rfl ?_
            refine L_y (y_ldc Try.underlying4 rfl rfl (((S14.blk 5 rfl).cell _).trans (by rfl))) rfl ?_
            refine L_y ((by first | exact y_notD rfl | exact y_not rfl)) rfl ?_
            refine L_nil ?_
            refine hK17 _ _ ?_
            refine T_condB rfl (fun h48 => ?_) (fun h48 => ?_)
            ·
              have hcp : o.cp = false := by simpa using h48
              refine T_seq fun K18 hK18 => ?_
              refine T_region ?_
              refine L_y (y_fieldA 2 Try.underlying30 rfl sz28 rfl rfl rfl) rfl ?_
              refine L_y (y_ldc Try.underlying28 rfl rfl (((S14.blk 3 rfl).cell _).trans (by rfl))) rfl ?_
              refine L_y (y_ldW Try.underlying58 rfl sz58 rfl (S14.blk 5 rfl) (show _ = opf o ∧ _ from ⟨rfl, rfl⟩)) rfl ?_
              refine L_o (o_bsl (opf o) te28 zz58 S14 rfl rfl rfl rfl rfl rfl rfl rfl fun b15 w15 S15 => ?_)
              refine L_o (o_app te28 S15 4 rfl rfl rfl (by first | exact S15.row 4 rfl | exact S15.row 6 rfl) (opf_one o) rfl (by omega) (by omega) fun A16 c16 w16 S16 => ?_)
              have S16d := S16.drop (rs' := [_, _, _, _, _, _]) (.cons_cons _ (.cons_cons _ (.cons_cons _ (.cons_cons _ (.cons_cons _ (.cons_cons _ (.cons _ (.refl _))))))))
              refine L_y (y_fieldA 2 Try.underlying30 rfl sz28 rfl rfl rfl) rfl ?_
              refine L_o (o_st1 S16d 3 rfl rfl rfl rfl sz28 (by show 2 < 3; decide) fun w17 S17 => ?_)
              refine L_nil ?_
              refine hK18 _ _ ?_
              refine T_exit ?_
              refine hK14 _ _ ?_
              refine T_region ?_
              refine L_y (y_move rfl) rfl ?_
              refine L_y (y_add rfl rfl (i64w (by omega))) rfl ?_
              refine L_y (y_assign rfl) rfl ?_
              refine L_nil ?_
              have S91 := S17.blkc 3 rfl ((scA_set b t' A1 qs.length c1 A16 (qs.length + 1) c16).trans (show _ = scA b t' A16 (qs ++ [o]).length c16 from by simp))
              have S92 := S91.rowc 4 rfl (n' := (qs ++ [o]).length) (xs' := (qs ++ [o]).flatMap opf) (by simp) (by simp)
              have S93 := S92.sel [0, 1, 2, 3, 4] (by decide)
              refine ⟨i + 1, A16, c16, qs ++ [o], by omega, ⟨⟨by omega, by rw [List.length_append, List.length_singleton]; omega, okO_snoc hoq hopB, by rw [thenV_step ho, if_neg (by rw [hcp]; exact Bool.false_ne_true), List.map_append, hqv, List.map_singleton, rt_newV hrt hcp]⟩, S93⟩, ?_⟩
              exact (Sub.cons rfl (by first | rfl | exact congrArg (Value.int _) (by omega)) (Sub.cons rfl rfl (Sub.cons rfl rfl (Sub.cons rfl rfl (Sub.cons rfl rfl (Sub.nil _))))))
            ·
              have hcp : o.cp = true := by simpa using h48
              obtain ⟨g1, g2, g3, g4, g5⟩ := rt_cp hrt hcp
              refine T_skip ?_
              refine hK16 _ _ ?_
              refine T_seq fun K19 hK19 => ?_
              refine T_region ?_
              refine L_y (y_assign rfl) rfl ?_
              refine L_nil ?_
              refine hK19 _ _ ?_
              refine T_seq fun K20 hK20 => ?_
              refine T_region ?_
              refine L_y (y_assign rfl) rfl ?_
              refine L_nil ?_
              refine hK20 _ _ ?_
              refine T_block ?_
              refine T_loop5 [(2, _), (3, _), (4, _), (6, _), (7, _), (8, _)] (fun (j : Nat) (at_ : Nat) (A2 : Option Addr) (c2 : Nat) (rs : List OP) => [(10, .int .i64 (j : Int)), (9, .int .i64 (at_ : Int))]) (fun (j : Nat) (at_ : Nat) (A2 : Option Addr) (c2 : Nat) (rs : List OP) => n - j) (fun (j : Nat) (at_ : Nat) (A2 : Option Addr) (c2 : Nat) (rs : List OP) (w : World) => (j ≤ n ∧ rs.length ≤ j ∧ (at_ : Int) ≤ t ∧ chkL b (t - (at_ : Int)) ((l.map OP.v).drop j) = true ∧ OkO wB rs ∧ rs.map OP.v ++ withinV ((l.map OP.v).drop j) at_ o.fr.toNat o.n.toNat = withinV (l.map OP.v) 0 o.fr.toNat o.n.toNat) ∧ St w0 noM [blk b1 30 (scA b t A n c), blk b2 30 (scA b' t' B m d), blk b3 30 #[.int .i64 0, .int .i64 0, .slice none 0 0], blk b10 30 (scA b t' A2 (qs ++ rs).length c2), row 58 4 A2 (qs ++ rs).length c2 ((qs ++ rs).flatMap opf), blk b13 58 (opf o).toArray] w) 0 0 A1 c1 [] (Sub.cons rfl (by first | rfl | exact congrArg (Value.int _) (by omega)) (Sub.cons rfl (by first | rfl | exact congrArg (Value.int _) (by omega)) (Sub.nil _))) (Sub.cons rfl rfl (Sub.cons rfl rfl (Sub.cons rfl rfl (Sub.cons rfl rfl (Sub.cons rfl rfl (Sub.cons rfl rfl (Sub.nil _))))))) ?_ ?_
              ·
                have S91 := S14.blkc 3 rfl (show _ = scA b t' A1 (qs ++ []).length c1 from by rw [List.append_nil])
                have S92 := S91.rowc 4 rfl (n' := (qs ++ []).length) (xs' := (qs ++ []).flatMap opf) (by rw [List.append_nil]) (by rw [List.append_nil])
                exact ⟨⟨Nat.zero_le _, Nat.le_refl _, by show (0 : Int) ≤ t; omega, by show chkL b (t - 0) _ = true; rw [Int.sub_zero]; exact hall, (fun o ho => (List.not_mem_nil ho).elim), rfl⟩, S92⟩
              ·
                intro j at_ A2 c2 rs w18 hrel
                obtain ⟨⟨hj, hrl, hat, hch, hors, hwv⟩, S18⟩ := hrel
                have hqr : (qs ++ rs).length = qs.length + rs.length := List.length_append
                refine T_seq fun K21 hK21 => ?_
                refine T_seq fun K22 hK22 => ?_
                refine T_region ?_
                refine L_y (y_move rfl) rfl ?_
                refine L_y (y_fieldA 2 Try.underlying30 rfl sz28 rfl rfl rfl) rfl ?_
                refine L_y (y_ldc Try.underlying28 rfl rfl (((S18.blk 0 rfl).cell _).trans (by rfl))) rfl ?_
                refine L_y (y_len Try.underlying28 rfl) rfl ?_
                refine L_y (y_lss rfl rfl) rfl ?_
                refine L_nil ?_
                refine hK22 _ _ ?_
                refine T_cond rfl (fun h59 => ?_) (fun h59 => ?_)
                ·
                  obtain ⟨p, hp⟩ : ∃ p, l[j]? = some p := ⟨_, List.getElem?_eq_getElem (by omega)⟩
                  have hpp := hok p (List.mem_of_getElem? hp)
                  have hppB := hokB p (List.mem_of_getElem? hp)
                  have hppl := hpp.lenb; have hppc := hpp.cap; have hppm := hpp.max
                  obtain ⟨hrtp, hszp, hrest⟩ := chkL_next hp hch
                  have hszq := sz_nonneg hrtp
                  refine T_skip ?_
                  refine hK21 _ _ ?_
                  refine T_seq fun K23 hK23 => ?_
                  refine T_block ?_
                  refine T_seq fun K24 hK24 => ?_
                  refine T_region ?_
                  refine L_y (y_fieldA 2 Try.underlying30 rfl sz28 rfl rfl rfl) rfl ?_
                  refine L_y (y_ldc Try.underlying28 rfl rfl (((S18.blk 0 rfl).cell _).trans (by rfl))) rfl ?_
                  refine L_y (y_move rfl) rfl ?_
                  refine L_y (y_idx Try.underlying28 sz58 rfl rfl (S18.rd hl) (Nt.mk (by omega) : Nt _ (j)) (by omega)) rfl ?_
                  refine L_y (y_ldp (f := opf) opf_len Try.underlying58 rfl sz58 rfl (S18.rd hl) (by omega) hp) rfl ?_
                  refine L_o (o_alloc zz58 S18 rfl fun b19 w19 hb19 S19 => ?_)
                  refine L_o (o_stW S19 6 rfl rfl rfl sz58 rfl (opf_one p) fun w20 S20 => ?_)
                  refine L_nil ?_
                  refine hK24 _ _ ?_
                  refine T_seq fun K25 hK25 => ?_
                  refine T_region ?_
                  refine L_y (y_ldW Try.underlying58 rfl sz58 rfl (S20.blk 6 rfl) (show _ = opf p ∧ _ from ⟨rfl, rfl⟩)) rfl ?_
                  refine L_o (o_call Try.func28 rfl rfl (rsize p w20 (Rs.like hpp S20.like0)) rfl rfl ?_)
                  rintro e21 w21 ⟨v21, rfl, l21, rfl⟩
                  refine ⟨_, rfl, ?_⟩
                  have S21 := S20.like l21
                  refine L_y (y_assign rfl) rfl ?_
                  refine L_y (y_assign rfl) rfl ?_
                  refine L_nil ?_
                  refine hK25 _ _ ?_
                  refine T_seqR (fun (e : Env) (w : World) => Sub [(2, .pointer (some ⟨b1, 0, none⟩)), (3, .pointer (some ⟨b2, 0, none⟩)), (4, .pointer (some ⟨b3, 0, none⟩)), (6, .pointer (some ⟨b10, 0, none⟩)), (7, .int .i64 (i : Int)), (8, .pointer (some ⟨b13, 0, none⟩)), (9, .int .i64 (at_ : Int)), (10, .int .i64 (j : Int)), (11, .pointer (some ⟨b19, 0, none⟩)), (12, .int .i64 (((o.fr.toNat - at_) : Nat) : Int)), (13, .int .i64 (szV p.v))] e ∧ St w0 noM [blk b1 30 (scA b t A n c), blk b2 30 (scA b' t' B m d), blk b3 30 #[.int .i64 0, .int .i64 0, .slice none 0 0], blk b10 30 (scA b t' A2 (qs ++ rs).length c2), row 58 4 A2 (qs ++ rs).length c2 ((qs ++ rs).flatMap opf), blk b13 58 (opf o).toArray, blk b19 58 (opf p).toArray] w) ?_ ?_
                  ·
                    refine T_seq fun K27 hK27 => ?_
                    refine T_region ?_
                    refine L_y (y_move rfl) rfl ?_
                    refine L_y (y_fieldA 1 Try.underlying58 rfl sz3 rfl rfl rfl) rfl ?_
                    refine L_y (y_ldc Try.underlying3 rfl rfl (((S21.blk 5 rfl).cell _).trans (by rfl))) rfl ?_
                    refine L_y (y_lss rfl rfl) rfl ?_
                    refine L_nil ?_
                    refine hK27 _ _ ?_
                    refine T_cond rfl (fun h72 => ?_) (fun h72 => ?_)
                    ·
                      refine T_region ?_
                      refine L_y (y_fieldA 1 Try.underlying58 rfl sz3 rfl rfl rfl) rfl ?_
                      refine L_y (y_ldc Try.underlying3 rfl rfl (((S21.blk 5 rfl).cell _).trans (by rfl))) rfl ?_
                      refine L_y (y_move rfl) rfl ?_
                      refine L_y (y_sub rfl rfl (i64w (by omega))) rfl ?_
                      refine L_y (y_assign rfl) rfl ?_
                      refine L_nil ?_
                      exact ⟨(Sub.cons rfl (by first | rfl | exact congrArg (Value.int _) (by omega)) (Sub.cons rfl (by first | rfl | exact congrArg (Value.int _) (by omega)) (Sub.cons rfl (by first | rfl | exact congrArg (Value.int _) (by omega)) (Sub.cons rfl (by first | rfl | exact congrArg (Value.int _) (by omega)) (Sub.cons rfl (by first | rfl | exact congrArg (Value.int _) (by omega)) (Sub.cons rfl (by first | rfl | exact congrArg (Value.int _) (by omega)) (Sub.cons rfl (by first | rfl | exact congrArg (Value.int _) (by omega)) (Sub.cons rfl (by first | rfl | exact congrArg (Value.int _) (by omega)) (Sub.cons rfl (by first | rfl | exact congrArg (Value.int _) (by omega)) (Sub.cons rfl (congrArg (Value.int _) (by omega)) (Sub.cons rfl (by first | rfl | exact congrArg (Value.int _) (by omega)) (Sub.nil _)))))))))))), S21⟩
                    ·
                      refine T_skip ?_
                      exact ⟨(Sub.cons rfl (by first | rfl | exact congrArg (Value.int _) (by omega)) (Sub.cons rfl (by first | rfl | exact congrArg (Value.int _) (by omega)) (Sub.cons rfl (by first | rfl | exact congrArg (Value.int _) (by omega)) (Sub.cons rfl (by first | rfl | exact congrArg (Value.int _) (by omega)) (Sub.cons rfl (by first | rfl | exact congrArg (Value.int _) (by omega)) (Sub.cons rfl (by first | rfl | exact congrArg (Value.int _) (by omega)) (Sub.cons rfl (by first | rfl | exact congrArg (Value.int _) (by omega)) (Sub.cons rfl (by first | rfl | exact congrArg (Value.int _) (by omega)) (Sub.cons rfl (by first | rfl | exact congrArg (Value.int _) (by omega)) (Sub.cons rfl (congrArg (Value.int _) (by omega)) (Sub.cons rfl (by first | rfl | exact congrArg (Value.int _) (by omega)) (Sub.nil _)))))))))))), S21⟩
                  ·
                    rintro e22 w22 ⟨hsub, S22⟩
                    refine T_weak hsub ?_
                    refine T_seqR (fun (e : Env) (w : World) => Sub [(2, .pointer (some ⟨b1, 0, none⟩)), (3, .pointer (some ⟨b2, 0, none⟩)), (4, .pointer (some ⟨b3, 0, none⟩)), (6, .pointer (some ⟨b10, 0, none⟩)), (7, .int .i64 (i : Int)), (8, .pointer (some ⟨b13, 0, none⟩)), (9, .int .i64 (at_ : Int)), (10, .int .i64 (j : Int)), (11, .pointer (some ⟨b19, 0, none⟩)), (12, .int .i64 (((o.fr.toNat - at_) : Nat) : Int)), (13, .int .i64 (min (o.fr + o.n) ((at_ : Int) + szV p.v) - (at_ : Int)))] e ∧ St w0 noM [blk b1 30 (scA b t A n c), blk b2 30 (scA b' t' B m d), blk b3 30 #[.int .i64 0, .int .i64 0, .slice none 0 0], blk b10 30 (scA b t' A2 (qs ++ rs).length c2), row 58 4 A2 (qs ++ rs).length c2 ((qs ++ rs).flatMap opf), blk b13 58 (opf o).toArray, blk b19 58 (opf p).toArray] w) ?_ ?_
                    ·
                      refine T_seq fun K29 hK29 => ?_
                      refine T_region ?_
                      refine L_y (y_move rfl) rfl ?_
                      refine L_y (y_move rfl) rfl ?_
                      refine L_y (y_add rfl rfl (i64w (by omega))) rfl ?_
                      refine L_y (y_fieldA 1 Try.underlying58 rfl sz3 rfl rfl rfl) rfl ?_
                      refine L_y (y_ldc Try.underlying3 rfl rfl (((S22.blk 5 rfl).cell _).trans (by rfl))) rfl ?_
                      refine L_y (y_fieldA 2 Try.underlying58 rfl sz3 rfl rfl rfl) rfl ?_
                      refine L_y (y_ldc Try.underlying3 rfl rfl (((S22.blk 5 rfl).cell _).trans (by rfl))) rfl ?_
                      refine L_y (y_add rfl rfl (i64w (by omega))) rfl ?_
                      refine L_y (y_gtr rfl rfl) rfl ?_
                      refine L_nil ?_
                      refine hK29 _ _ ?_
                      refine T_cond rfl (fun h85 => ?_) (fun h85 => ?_)
                      ·
                        refine T_region ?_
                        refine L_y (y_fieldA 1 Try.underlying58 rfl sz3 rfl rfl rfl) rfl ?_
                        refine L_y (y_ldc Try.underlying3 rfl rfl (((S22.blk 5 rfl).cell _).trans (by rfl))) rfl ?_
                        refine L_y (y_fieldA 2 Try.underlying58 rfl sz3 rfl rfl rfl) rfl ?_
                        refine L_y (y_ldc Try.underlying3 rfl rfl (((S22.blk 5 rfl).cell _).trans (by rfl))) rfl ?_
                        refine L_y (y_add rfl rfl (i64w (by omega))) rfl ?_
                        refine L_y (y_move rfl) rfl ?_
                        refine L_y (y_sub rfl rfl (i64w (by omega))) rfl ?_
                        refine L_y (y_assign rfl) rfl ?_
                        refine L_nil ?_
                        exact ⟨(Sub.cons rfl (by first | rfl | exact congrArg (Value.int _) (by omega)) (Sub.cons rfl (by first | rfl | exact congrArg (Value.int _) (by omega)) (Sub.cons rfl (by first | rfl | exact congrArg (Value.int _) (by omega)) (Sub.cons rfl (by first | rfl | exact congrArg (Value.int _) (by omega)) (Sub.cons rfl (by first | rfl | exact congrArg (Value.int _) (by omega)) (Sub.cons rfl (by first | rfl | exact congrArg (Value.int _) (by omega)) (Sub.cons rfl (by first | rfl | exact congrArg (Value.int _) (by omega)) (Sub.cons rfl (by first | rfl | exact congrArg (Value.int _) (by omega)) (Sub.cons rfl (by first | rfl | exact congrArg (Value.int _) (by omega)) (Sub.cons rfl (by first | rfl | exact congrArg (Value.int _) (by omega)) (Sub.cons rfl (congrArg (Value.int _) (by omega)) (Sub.nil _)))))))))))), S22⟩
                      ·
                        refine T_skip ?_
                        exact ⟨(Sub.cons rfl (by first | rfl | exact congrArg (Value.int _) (by omega)) (Sub.cons rfl (by first | rfl | exact congrArg (Value.int _) (by omega)) (Sub.cons rfl (by first | rfl | exact congrArg (Value.int _) (by omega)) (Sub.cons rfl (by first | rfl | exact congrArg (Value.int _) (by omega)) (Sub.cons rfl (by first | rfl | exact congrArg (Value.int _) (by omega)) (Sub.cons rfl (by first | rfl | exact congrArg (Value.int _) (by omega)) (Sub.cons rfl (by first | rfl | exact congrArg (Value.int _) (by omega)) (Sub.cons rfl (by first | rfl | exact congrArg (Value.int _) (by omega)) (Sub.cons rfl (by first | rfl | exact congrArg (Value.int _) (by omega)) (Sub.cons rfl (by first | rfl | exact congrArg (Value.int _) (by omega)) (Sub.cons rfl (congrArg (Value.int _) (by omega)) (Sub.nil _)))))))))))), S22⟩
                    ·
                      rintro e23 w23 ⟨hsub, S23⟩
                      refine T_weak hsub ?_
                      refine T_seq fun K30 hK30 => ?_
                      refine T_seq fun K31 hK31 => ?_
                      refine T_region ?_
                      refine L_y (y_move rfl) rfl ?_
                      refine L_y (y_move rfl) rfl ?_
                      refine L_y (y_lss rfl rfl) rfl ?_
                      refine L_y (y_move rfl) rfl ?_
                      refine L_split 96 rfl (fun h96 => ?_) (fun h96 => ?_)
                      ·
                        refine L_gyes rfl rfl ?_
                        refine L_y (y_fieldA 0 Try.underlying58 rfl sz4 rfl rfl rfl) rfl ?_
                        refine L_gyes rfl rfl ?_
                        refine L_y (y_ldc Try.underlying4 rfl rfl (((S23.blk 6 rfl).cell _).trans (by rfl))) rfl ?_
                        refine L_y ((by first | exact y_pickT rfl rfl | exact y_pickF rfl rfl)) rfl ?_
                        refine L_nil ?_
                        refine hK31 _ _ ?_
                        refine T_condB rfl (fun h99 => ?_) (fun h99 => ?_)
                        ·
                          have hpc : p.cp = true := h99
                          obtain ⟨e1, e2, e3, e4, e5⟩ := rt_cp hrtp hpc
                          refine T_region ?_
                          refine L_y (y_fieldA 2 Try.underlying30 rfl sz28 rfl rfl rfl) rfl ?_
                          refine L_y (y_ldc Try.underlying28 rfl rfl (((S23.blk 3 rfl).cell _).trans (by rfl))) rfl ?_
                          refine L_y (y_fieldA 1 Try.underlying58 rfl sz3 rfl rfl rfl) rfl ?_
                          refine L_y (y_ldc Try.underlying3 rfl rfl (((S23.blk 6 rfl).cell _).trans (by rfl))) rfl ?_
                          refine L_y (y_move rfl) rfl ?_
                          refine L_y (y_add rfl rfl (i64w (by omega))) rfl ?_
                          refine L_y (y_move rfl) rfl ?_
                          refine L_y (y_move rfl) rfl ?_
                          refine L_y (y_sub rfl rfl (i64w (by omega))) rfl ?_
                          refine L_y (y_build rfl (show _ = some #[Value.bool true, Value.int .i64 (p.fr + (((o.fr.toNat - at_) : Nat) : Int)), Value.int .i64 (min (o.fr + o.n) ((at_ : Int) + szV p.v) - (at_ : Int) - (((o.fr.toNat - at_) : Nat) : Int)), Value.slice none 0 0] by kernel_rfl)) rfl ?_
                          refine L_o (o_bsl [_, _, _, _] te28 zz58 S23 rfl rfl rfl rfl rfl rfl rfl rfl fun b25 w25 S25 => ?_)
                          refine L_o (o_app te28 S25 4 rfl rfl rfl (by first | exact S25.row 4 rfl | exact S25.row 7 rfl) (fun u hu => opf_one ⟨true, _, _, p0⟩ u hu) rfl (by omega) (by omega) fun A26 c26 w26 S26 => ?_)
                          have S26d := S26.drop (rs' := [_, _, _, _, _, _, _]) (.cons_cons _ (.cons_cons _ (.cons_cons _ (.cons_cons _ (.cons_cons _ (.cons_cons _ (.cons_cons _ (.cons _ (.refl _)))))))))
                          refine L_y (y_fieldA 2 Try.underlying30 rfl sz28 rfl rfl rfl) rfl ?_
                          refine L_o (o_st1 S26d 3 rfl rfl rfl rfl sz28 (by show 2 < 3; decide) fun w27 S27 => ?_)
                          refine L_nil ?_
                          refine hK30 _ _ ?_
                          refine T_seq fun K32 hK32 => ?_
                          refine T_seq fun K33 hK33 => ?_
                          refine T_region ?_
                          refine L_y (y_move rfl) rfl ?_
                          refine L_y (y_move rfl) rfl ?_
                          refine L_y (y_lss rfl rfl) rfl ?_
                          refine L_y (y_move rfl) rfl ?_
                          refine L_split 116 rfl (fun h116 => ?_) (fun h116 => ?_)
                          ·
                            refine L_gyes rfl rfl ?_
                            refine L_y (y_fieldA 0 Try.underlying58 rfl sz4 rfl rfl rfl) rfl ?_
                            refine L_gyes rfl rfl ?_
                            refine L_y (y_ldc Try.underlying4 rfl rfl (((S27.blk 6 rfl).cell _).trans (by rfl))) rfl ?_
                            refine L_gyes rfl rfl ?_
                            refine L_y ((by first | exact y_notD rfl | exact y_not rfl)) rfl ?_
                            refine L_y ((by first | exact y_pickT rfl rfl | exact y_pickF rfl rfl)) rfl ?_
                            refine L_nil ?_
                            refine hK33 _ _ ?_
                            refine T_condB rfl (fun h120 => ?_) (fun h120 => ?_)
                            ·
                              (exfalso; rw [hpc] at h120; cases h120)
                            ·
                              refine T_skip ?_
                              refine hK32 _ _ ?_
                              refine T_region ?_
                              refine L_y (y_move rfl) rfl ?_
                              refine L_y (y_ldW Try.underlying58 rfl sz58 rfl (S27.blk 6 rfl) (show _ = opf p ∧ _ from ⟨rfl, rfl⟩)) rfl ?_
                              refine L_o (o_call Try.func28 rfl rfl (rsize p w27 (Rs.like hpp S27.like0)) rfl rfl ?_)
                              rintro e29 w29 ⟨v29, rfl, l29, rfl⟩
                              refine ⟨_, rfl, ?_⟩
                              have S29 := S27.like l29
                              refine L_y (y_add rfl rfl (i64w (by omega))) rfl ?_
                              refine L_y (y_assign rfl) rfl ?_
                              refine L_nil ?_
                              refine hK23 _ _ ?_
                              refine T_region ?_
                              refine L_y (y_move rfl) rfl ?_
                              refine L_y (y_add rfl rfl (i64w (by omega))) rfl ?_
                              refine L_y (y_assign rfl) rfl ?_
                              refine L_nil ?_
                              have hqv2 : (⟨true, p.fr + (((o.fr.toNat - at_) : Nat) : Int), min (o.fr + o.n) ((at_ : Int) + szV p.v) - (at_ : Int) - (((o.fr.toNat - at_) : Nat) : Int), p0⟩ : OP).v = partV p.v (max o.fr.toNat at_ - at_) (min (o.fr.toNat + o.n.toNat) (at_ + (szV p.v).toNat) - max o.fr.toNat at_) := by rw [partV_cp hpc, show ((max o.fr.toNat at_ - at_ : Nat) : Int) = (((o.fr.toNat - at_) : Nat) : Int) from by omega, show ((min (o.fr.toNat + o.n.toNat) (at_ + (szV p.v).toNat) - max o.fr.toNat at_ : Nat) : Int) = min (o.fr + o.n) ((at_ : Int) + szV p.v) - (at_ : Int) - (((o.fr.toNat - at_) : Nat) : Int) from by omega]; rfl
                              have S91 := S29.blkc 3 rfl ((scA_set b t' A2 (qs ++ rs).length c2 A26 ((qs ++ rs).length + 1) c26).trans (show _ = scA b t' A26 (qs ++ (rs ++ [(⟨true, p.fr + (((o.fr.toNat - at_) : Nat) : Int), min (o.fr + o.n) ((at_ : Int) + szV p.v) - (at_ : Int) - (((o.fr.toNat - at_) : Nat) : Int), p0⟩ : OP)])).length c26 from by simp [Nat.add_assoc]))
                              have S92 := S91.rowc 4 rfl (n' := (qs ++ (rs ++ [(⟨true, p.fr + (((o.fr.toNat - at_) : Nat) : Int), min (o.fr + o.n) ((at_ : Int) + szV p.v) - (at_ : Int) - (((o.fr.toNat - at_) : Nat) : Int), p0⟩ : OP)])).length) (xs' := (qs ++ (rs ++ [(⟨true, p.fr + (((o.fr.toNat - at_) : Nat) : Int), min (o.fr + o.n) ((at_ : Int) + szV p.v) - (at_ : Int) - (((o.fr.toNat - at_) : Nat) : Int), p0⟩ : OP)])).flatMap opf) (by simp [Nat.add_assoc]) (by rw [← List.append_assoc, List.flatMap_append (xs := qs ++ rs)]; rfl)
                              have S93 := S92.sel [0, 1, 2, 3, 4, 5] (by decide)
                              refine ⟨j + 1, at_ + (szV p.v).toNat, A26, c26, rs ++ [(⟨true, p.fr + (((o.fr.toNat - at_) : Nat) : Int), min (o.fr + o.n) ((at_ : Int) + szV p.v) - (at_ : Int) - (((o.fr.toNat - at_) : Nat) : Int), p0⟩ : OP)], by omega, ⟨⟨by omega, by rw [List.length_append, List.length_singleton]; omega, by omega, by rw [show t - ((at_ + (szV p.v).toNat : Nat) : Int) = t - (at_ : Int) - szV p.v by omega]; exact hrest, okO_snoc hors (Rs.nil _ 1), by rw [← hwv, within_yes hp (by omega), List.map_append, ← hqv2]; simp⟩, S93⟩, ?_⟩
                              exact (Sub.cons rfl (by first | rfl | exact congrArg (Value.int _) (by omega)) (Sub.cons rfl (by first | rfl | exact congrArg (Value.int _) (by omega)) (Sub.cons rfl rfl (Sub.cons rfl rfl (Sub.cons rfl rfl (Sub.cons rfl rfl (Sub.cons rfl rfl (Sub.cons rfl rfl (Sub.nil _)))))))))
                          ·
                            omega
                        ·
                          have hpc : p.cp = false := h99
                          obtain ⟨e1, e2⟩ := rt_new hrtp hpc
                          refine T_skip ?_
                          refine hK30 _ _ ?_
                          refine T_seq fun K34 hK34 => ?_
                          refine T_seq fun K35 hK35 => ?_
                          refine T_region ?_
                          refine L_y (y_move rfl) rfl ?_
                          refine L_y (y_move rfl) rfl ?_
                          refine L_y (y_lss rfl rfl) rfl ?_
                          refine L_y (y_move rfl) rfl ?_
                          refine L_split 116 rfl (fun h116 => ?_) (fun h116 => ?_)
                          ·
                            refine L_gyes rfl rfl ?_
                            refine L_y (y_fieldA 0 Try.underlying58 rfl sz4 rfl rfl rfl) rfl ?_
                            refine L_gyes rfl rfl ?_
                            refine L_y (y_ldc Try.underlying4 rfl rfl (((S23.blk 6 rfl).cell _).trans (by rfl))) rfl ?_
                            refine L_gyes rfl rfl ?_
                            refine L_y ((by first | exact y_notD rfl | exact y_not rfl)) rfl ?_
                            refine L_y ((by first | exact y_pickT rfl rfl | exact y_pickF rfl rfl)) rfl ?_
                            refine L_nil ?_
                            refine hK35 _ _ ?_
                            refine T_condB rfl (fun h120 => ?_) (fun h120 => ?_)
                            ·
                              refine T_zed [0, 1, 2, 3, 4, 5, 6, 7, 8] 9 [(0, 1), (1, 1), (2, 1), (3, 1), (4, 1), (5, 1), (6, 1), (7, 1), (8, 2), (9, 3), (10, 3), (11, 3)] hmix (by kernel_rfl) fun w31 l31 => ?_
                              have S31 := S23.like l31
                              refine ZA_B (Like w31) (Like.refl _) ?_
                              refine ZB_y rfl (y_fieldA 2 Try.underlying30 rfl sz28 rfl rfl rfl) rfl ?_
                              refine ZB_y rfl (y_ldc Try.underlying28 rfl rfl (((S31.blk 3 rfl).cell _).trans (by rfl))) rfl ?_
                              refine ZB_y rfl (y_fieldA 3 Try.underlying58 rfl sz22 rfl rfl rfl) rfl ?_
                              refine ZB_y rfl (y_ldc Try.underlying22 rfl rfl (((S31.blk 6 rfl).cell _).trans (by rfl))) rfl ?_
                              refine ZB_y rfl (y_move rfl) rfl ?_
                              refine ZB_y rfl (y_move rfl) rfl ?_
                              refine ZB_y rfl (y_slice Try.underlying22 sz5 rfl rfl rfl (Nt.mk (by omega) : Nt _ ((o.fr.toNat - at_))) (Nt.mk (by omega) : Nt _ ((min (o.fr.toNat + o.n.toNat) (at_ + (szV p.v).toNat) - at_))) (by omega) (by omega)) rfl ?_
                              refine ZB_y rfl (y_build rfl (show _ = some #[Value.bool false, Value.int .i64 0, Value.int .i64 0, Value.slice (cutA p.p.A p.p.c (o.fr.toNat - at_) 1) ((min (o.fr.toNat + o.n.toNat) (at_ + (szV p.v).toNat) - at_) - (o.fr.toNat - at_)) (p.p.c - (o.fr.toNat - at_))] by kernel_rfl)) rfl ?_
                              refine ZB_o rfl (o_bslL [_, _, _, _] te28 zz58 S31 rfl rfl rfl rfl rfl rfl rfl rfl fun b32 w32 l32 S32 => ?_)
                              have q32 := l32
                              refine ⟨q32, ?_⟩
                              refine ZB_c rfl (o_app te28 S32 4 rfl rfl rfl (by first | exact S32.row 4 rfl | exact S32.row 7 rfl) (fun u hu => opf_one ⟨false, 0, 0, ⟨cutA p.p.A p.p.c (o.fr.toNat - at_) 1, (min (o.fr.toNat + o.n.toNat) (at_ + (szV p.v).toNat) - at_) - (o.fr.toNat - at_), p.p.c - (o.fr.toNat - at_), []⟩⟩ u hu) rfl (by omega) (by omega) fun A33 c33 w33 S33 => ?_)
                              have S33d := S33.drop (rs' := [_, _, _, _, _, _, _]) (.cons_cons _ (.cons_cons _ (.cons_cons _ (.cons_cons _ (.cons_cons _ (.cons_cons _ (.cons_cons _ (.cons _ (.refl _)))))))))
                              refine ZA_oy rfl (y_fieldA 2 Try.underlying30 rfl sz28 rfl rfl rfl) rfl ?_
                              refine ZA_o rfl (o_st1 S33d 3 rfl rfl rfl rfl sz28 (by show 2 < 3; decide) fun w34 S34 => ?_)
                              refine ZA_nil ?_
                              refine hK34 _ _ ?_
                              refine T_region ?_
                              refine L_y (y_move rfl) rfl ?_
                              refine L_y (y_ldW Try.underlying58 rfl sz58 rfl (S34.blk 6 rfl) (show _ = opf p ∧ _ from ⟨rfl, rfl⟩)) rfl ?_
                              refine L_o (o_call Try.func28 rfl rfl (rsize p w34 (Rs.like hpp S34.like0)) rfl rfl ?_)
                              rintro e35 w35 ⟨v35, rfl, l35, rfl⟩
                              refine ⟨_, rfl, ?_⟩
                              have S35 := S34.like l35
                              refine L_y (y_add rfl rfl (i64w (by omega))) rfl ?_
                              refine L_y (y_assign rfl) rfl ?_
                              refine L_nil ?_
                              refine hK23 _ _ ?_
                              refine T_region ?_
                              refine L_y (y_move rfl) rfl ?_
                              refine L_y (y_add rfl rfl (i64w (by omega))) rfl ?_
                              refine L_y (y_assign rfl) rfl ?_
                              refine L_nil ?_
                              have hqv2 : (⟨false, 0, 0, ⟨cutA p.p.A p.p.c (o.fr.toNat - at_) 1, (min (o.fr.toNat + o.n.toNat) (at_ + (szV p.v).toNat) - at_) - (o.fr.toNat - at_), p.p.c - (o.fr.toNat - at_), (p.p.l.drop (o.fr.toNat - at_)).take ((min (o.fr.toNat + o.n.toNat) (at_ + (szV p.v).toNat) - at_) - (o.fr.toNat - at_))⟩⟩ : OP).v = partV p.v (max o.fr.toNat at_ - at_) (min (o.fr.toNat + o.n.toNat) (at_ + (szV p.v).toNat) - max o.fr.toNat at_) := by rw [partV_new hpc, show max o.fr.toNat at_ - at_ = (o.fr.toNat - at_) by omega, show min (o.fr.toNat + o.n.toNat) (at_ + (szV p.v).toNat) - max o.fr.toNat at_ = (min (o.fr.toNat + o.n.toNat) (at_ + (szV p.v).toNat) - at_) - (o.fr.toNat - at_) by omega]; rfl
                              have S91 := S35.blkc 3 rfl ((scA_set b t' A2 (qs ++ rs).length c2 A33 ((qs ++ rs).length + 1) c33).trans (show _ = scA b t' A33 (qs ++ (rs ++ [(⟨false, 0, 0, ⟨cutA p.p.A p.p.c (o.fr.toNat - at_) 1, (min (o.fr.toNat + o.n.toNat) (at_ + (szV p.v).toNat) - at_) - (o.fr.toNat - at_), p.p.c - (o.fr.toNat - at_), (p.p.l.drop (o.fr.toNat - at_)).take ((min (o.fr.toNat + o.n.toNat) (at_ + (szV p.v).toNat) - at_) - (o.fr.toNat - at_))⟩⟩ : OP)])).length c33 from by simp [Nat.add_assoc]))
                              have S92 := S91.rowc 4 rfl (n' := (qs ++ (rs ++ [(⟨false, 0, 0, ⟨cutA p.p.A p.p.c (o.fr.toNat - at_) 1, (min (o.fr.toNat + o.n.toNat) (at_ + (szV p.v).toNat) - at_) - (o.fr.toNat - at_), p.p.c - (o.fr.toNat - at_), (p.p.l.drop (o.fr.toNat - at_)).take ((min (o.fr.toNat + o.n.toNat) (at_ + (szV p.v).toNat) - at_) - (o.fr.toNat - at_))⟩⟩ : OP)])).length) (xs' := (qs ++ (rs ++ [(⟨false, 0, 0, ⟨cutA p.p.A p.p.c (o.fr.toNat - at_) 1, (min (o.fr.toNat + o.n.toNat) (at_ + (szV p.v).toNat) - at_) - (o.fr.toNat - at_), p.p.c - (o.fr.toNat - at_), (p.p.l.drop (o.fr.toNat - at_)).take ((min (o.fr.toNat + o.n.toNat) (at_ + (szV p.v).toNat) - at_) - (o.fr.toNat - at_))⟩⟩ : OP)])).flatMap opf) (by simp [Nat.add_assoc]) (by rw [← List.append_assoc, List.flatMap_append (xs := qs ++ rs)]; rfl)
                              have S93 := S92.sel [0, 1, 2, 3, 4, 5] (by decide)
                              refine ⟨j + 1, at_ + (szV p.v).toNat, A33, c33, rs ++ [(⟨false, 0, 0, ⟨cutA p.p.A p.p.c (o.fr.toNat - at_) 1, (min (o.fr.toNat + o.n.toNat) (at_ + (szV p.v).toNat) - at_) - (o.fr.toNat - at_), p.p.c - (o.fr.toNat - at_), (p.p.l.drop (o.fr.toNat - at_)).take ((min (o.fr.toNat + o.n.toNat) (at_ + (szV p.v).toNat) - at_) - (o.fr.toNat - at_))⟩⟩ : OP)], by omega, ⟨⟨by omega, by rw [List.length_append, List.length_singleton]; omega, by omega, by rw [show t - ((at_ + (szV p.v).toNat : Nat) : Int) = t - (at_ : Int) - szV p.v by omega]; exact hrest, okO_snoc hors (cut_mid hppB (by omega) (by omega)), by rw [← hwv, within_yes hp (by omega), List.map_append, ← hqv2]; simp⟩, S93⟩, ?_⟩
                              exact (Sub.cons rfl (by first | rfl | exact congrArg (Value.int _) (by omega)) (Sub.cons rfl (by first | rfl | exact congrArg (Value.int _) (by omega)) (Sub.cons rfl rfl (Sub.cons rfl rfl (Sub.cons rfl rfl (Sub.cons rfl rfl (Sub.cons rfl rfl (Sub.cons rfl rfl (Sub.nil _)))))))))
                            ·
                              (exfalso; rw [hpc] at h120; cases h120)
                          ·
                            omega
                      ·
                        refine L_gno rfl rfl rfl ?_
                        refine L_gno rfl rfl rfl ?_
                        refine L_y ((by first | exact y_pickT rfl rfl | exact y_pickF rfl rfl)) rfl ?_
                        refine L_nil ?_
                        refine hK31 _ _ ?_
                        refine T_false rfl ?_
                        refine T_skip ?_
                        refine hK30 _ _ ?_
                        refine T_seq fun K36 hK36 => ?_
                        refine T_seq fun K37 hK37 => ?_
                        refine T_region ?_
                        refine L_y (y_move rfl) rfl ?_
                        refine L_y (y_move rfl) rfl ?_
                        refine L_y (y_lss rfl rfl) rfl ?_
                        refine L_y (y_move rfl) rfl ?_
                        refine L_split 116 rfl (fun h116 => ?_) (fun h116 => ?_)
                        ·
                          omega
                        ·
                          refine L_gno rfl rfl rfl ?_
                          refine L_gno rfl rfl rfl ?_
                          refine L_gno rfl rfl rfl ?_
                          refine L_y ((by first | exact y_pickT rfl rfl | exact y_pickF rfl rfl)) rfl ?_
                          refine L_nil ?_
                          refine hK37 _ _ ?_
                          refine T_false rfl ?_
                          refine T_skip ?_
                          refine hK36 _ _ ?_
                          refine T_region ?_
                          refine L_y (y_move rfl) rfl ?_
                          refine L_y (y_ldW Try.underlying58 rfl sz58 rfl (S23.blk 6 rfl) (show _ = opf p ∧ _ from ⟨rfl, rfl⟩)) rfl ?_
                          refine L_o (o_call Try.func28 rfl rfl (rsize p w23 (Rs.like hpp S23.like0)) rfl rfl ?_)
                          rintro e37 w37 ⟨v37, rfl, l37, rfl⟩
                          refine ⟨_, rfl, ?_⟩
                          have S37 := S23.like l37
                          refine L_y (y_add rfl rfl (i64w (by omega))) rfl ?_
                          refine L_y (y_assign rfl) rfl ?_
                          refine L_nil ?_
                          refine hK23 _ _ ?_
                          refine T_region ?_
                          refine L_y (y_move rfl) rfl ?_
                          refine L_y (y_add rfl rfl (i64w (by omega))) rfl ?_
                          refine L_y (y_assign rfl) rfl ?_
                          refine L_nil ?_
                          have S93 := S37.sel [0, 1, 2, 3, 4, 5] (by decide)
                          refine ⟨j + 1, at_ + (szV p.v).toNat, A2, c2, rs, by omega, ⟨⟨by omega, by omega, by omega, by rw [show t - ((at_ + (szV p.v).toNat : Nat) : Int) = t - (at_ : Int) - szV p.v by omega]; exact hrest, hors, by rw [← hwv, within_no hp (by omega)]⟩, S93⟩, ?_⟩
                          exact (Sub.cons rfl (by first | rfl | exact congrArg (Value.int _) (by omega)) (Sub.cons rfl (by first | rfl | exact congrArg (Value.int _) (by omega)) (Sub.cons rfl rfl (Sub.cons rfl rfl (Sub.cons rfl rfl (Sub.cons rfl rfl (Sub.cons rfl rfl (Sub.cons rfl rfl (Sub.nil _)))))))))
                ·
                  refine T_exit ?_
                  refine hK14 _ _ ?_
                  refine T_region ?_
                  refine L_y (y_move rfl) rfl ?_
                  refine L_y (y_add rfl rfl (i64w (by omega))) rfl ?_
                  refine L_y (y_assign rfl) rfl ?_
                  refine L_nil ?_
                  have hje : j = n := by omega
                  rw [within_end (by omega), List.append_nil] at hwv
                  have S93 := S18.sel [0, 1, 2, 3, 4] (by decide)
                  refine ⟨i + 1, A2, c2, qs ++ rs, by omega, ⟨⟨by omega, by rw [List.length_append]; omega, okO_app hoq hors, by rw [thenV_step ho, if_pos hcp, List.map_append, hqv, hwv]⟩, S93⟩, ?_⟩
                  exact (Sub.cons rfl (by first | rfl | exact congrArg (Value.int _) (by omega)) (Sub.cons rfl rfl (Sub.cons rfl rfl (Sub.cons rfl rfl (Sub.cons rfl rfl (Sub.nil _))))))
          ·
            refine T_exit ?_
            refine hK10 _ _ ?_
            refine T_seq fun K38 hK38 => ?_
            refine T_region ?_
            refine L_y (y_ldW Try.underlying30 rfl sz30 rfl (S12.blk 3 rfl) (show _ = (scA b t' A1 qs.length c1).toList ∧ _ from ⟨rfl, rfl⟩)) rfl ?_
            refine L_o (o_stW S12 2 rfl rfl rfl sz30 rfl (scA_one _ _ _ _ _) fun w38 S38 => ?_)
            refine L_y (y_assign rfl) rfl ?_
            refine L_nil ?_
            refine hK38 _ _ ?_
            refine T_ret ?_
            repeat (first | with_reducible refine up_then ?_ | with_reducible refine up_in ?_)
            refine retct rfl rfl rfl (S38.blk 2 rfl) Try.underlying30 rfl (by exact sz30) ?_
            first | exact ⟨_, rfl, S38.like0, none, 0, [], by rw [then_e1 h17, errV_two h17]; rfl, World.ownsRow_nil _ _ _ _, (fun o ho => (List.not_mem_nil ho).elim), by rw [then_e1 h17, errV_two h17]; rfl⟩ | exact ⟨_, rfl, S38.like0, none, 0, [], by rw [then_e2 (Decidable.byContradiction h17) h21, errV_two h21]; rfl, World.ownsRow_nil _ _ _ _, (fun o ho => (List.not_mem_nil ho).elim), by rw [then_e2 (Decidable.byContradiction h17) h21, errV_two h21]; rfl⟩ | exact ⟨_, rfl, S38.like0, none, 0, [], by rw [then_e3 h140 h200 h27]; rfl, World.ownsRow_nil _ _ _ _, (fun o ho => (List.not_mem_nil ho).elim), by rw [then_e3 h140 h200 h27]; rfl⟩ | (have hie : i = m := by omega); subst hie; rw [List.take_of_length_le (by omega)] at hqv; exact ⟨_, rfl, S38.like0, A1, c1, qs, by rw [then_ok h140 h200 (by omega)], S38.own 4 rfl, hoq, by rw [then_ok h140 h200 (by omega)]; exact hqv⟩
end Go.Proofs.Ytpcgldkllnkaeaa
