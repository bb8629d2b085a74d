/-
  Then.
-/
import Derived.Test.YtpcgldkllnkaeaaQ
namespace Go.Proofs.Ytpcgldkllnkaeaa
open Go.RowKit Zk Zx
set_option linter.unusedVariables false
set_option linter.unusedSimpArgs false

/-- One script behind another one: its ops. -/
def thenV (la lb : List OV) : List OV := lb.flatMap fun o => if o.cp then withinV la 0 o.fr.toNat o.n.toNat else [⟨false, 0, 0, o.l⟩]
/-- The script, or the error. -/
def thenR (b t : Int) (l : List OV) (b' t' : Int) (k : List OV) : Int × Int × List OV × Int := if errV b t l ≠ 0 then (0, 0, [], errV b t l) else if errV b' t' k ≠ 0 then (0, 0, [], errV b' t' k) else if t ≠ b' then (0, 0, [], 21) else (b, t', thenV l k, 0)
section
variable {b t b' t' : Int} {l k : List OV}
theorem then_e1 (h : errV b t l ≠ 0) : thenR b t l b' t' k = (0, 0, [], errV b t l) := by unfold thenR; rw [if_pos h]
theorem then_e2 (h : errV b t l = 0) (h2 : errV b' t' k ≠ 0) : thenR b t l b' t' k = (0, 0, [], errV b' t' k) := by unfold thenR; rw [if_neg (fun x => x h), if_pos h2]
theorem then_e3 (h : errV b t l = 0) (h2 : errV b' t' k = 0) (h3 : t ≠ b') : thenR b t l b' t' k = (0, 0, [], 21) := by unfold thenR; rw [if_neg (fun x => x h), if_neg (fun x => x h2), if_pos h3]
theorem then_ok (h : errV b t l = 0) (h2 : errV b' t' k = 0) (h3 : t = b') : thenR b t l b' t' k = (b, t', thenV l k, 0) := by unfold thenR; rw [if_neg (fun x => x h), if_neg (fun x => x h2), if_neg (fun x => x h3)]
end
theorem chkL_all {b : Int} : ∀ {l : List OV} {left : Int}, left ≤ 4000 → chkL b left l = true → ∀ o ∈ l, rtV b o = true ∧ szV o ≤ 4000
  | [], _, _, _, o, ho => by cases ho
  | x :: l, left, hl, h, o, ho => by
    unfold chkL at h
    rw [Bool.and_eq_true, Bool.and_eq_true] at h
    have h1 := sz_nonneg h.1.1
    have h2 := of_decide_eq_true h.1.2
    rcases List.mem_cons.1 ho with rfl | ho
    · exact ⟨h.1.1, by omega⟩
    · exact chkL_all (by omega) h.2 o ho
theorem thenV_step {la : List OV} {k : List OP} {i : Nat} {o : OP} (ho : k[i]? = some o) : thenV la ((k.take (i + 1)).map OP.v) = thenV la ((k.take i).map OP.v) ++ (if o.cp then withinV la 0 o.fr.toNat o.n.toNat else [⟨false, 0, 0, o.p.l⟩]) := by
  rw [take1 ho, List.map_append]
  unfold thenV
  rw [List.flatMap_append]
  congr 1
  simp [OP.v]
theorem InP.cat {qs rs : List OP} {ps pr : List Part} (h1 : InP qs ps) (h2 : InP rs pr) : InP (qs ++ rs) (ps ++ pr) := fun q hq => by
  rcases List.mem_append.1 hq with hq | hq
  · rcases h1 q hq with h | h
    · exact .inl h
    · exact .inr (List.mem_append_left _ h)
  · rcases h2 q hq with h | h
    · exact .inl h
    · exact .inr (List.mem_append_right _ h)
theorem famCatP {w0 w : World} {M : Nat → Prop} {rs : List Res} {ps pr : List Part} (S : St w0 M (rs ++ [fam (ps.map partR), fam (pr.map partR)]) w) : St w0 M (rs ++ [fam ((ps ++ pr).map partR)]) w := by
  rw [List.map_append]
  exact St.famCat S
theorem part_all {o : OP} (hc : o.cp = false) (hl : o.p.l.length = o.p.n) : partV o.v 0 o.p.n = ⟨false, 0, 0, o.p.l⟩ := by
  unfold partV
  rw [if_neg (show ¬ o.v.cp = true from by rw [show o.v.cp = o.cp from rfl, hc]; exact Bool.false_ne_true), List.drop_zero]
  show OV.mk _ _ _ (o.p.l.take _) = _
  rw [List.take_of_length_le (by omega)]


set_option maxRecDepth 100000 in
theorem pthen (A : Option Addr) (n c : Nat) (l : List OP) (b t : Int) (B : Option Addr) (m d : Nat) (k : List OP) (b' t' : Int) (w0 : World) (hl : Rs w0 4 A n c (l.flatMap opf)) (hok : OkO w0 l) (hk : Rs w0 4 B m d (k.flatMap opf)) (hok2 : OkO w0 k) (hn4 : n ≤ 4000) (hm4 : m ≤ 4000) :
    Calls Try.prog 16 #[.agg (scA b t A n c), .agg (scA b' t' B m d)] w0 fun e w' => ∃ u, e = .returned u ∧ Like w0 w' ∧ ∃ A' c' qs, u = .tuple #[.agg (scA (thenR b t (l.map OP.v) b' t' (k.map OP.v)).1 (thenR b t (l.map OP.v) b' t' (k.map OP.v)).2.1 A' qs.length c'), .int .i64 (thenR b t (l.map OP.v) b' t' (k.map OP.v)).2.2.2] ∧ Rs w' 4 A' qs.length c' (qs.flatMap opf) ∧ OkO w' qs ∧ qs.map OP.v = (thenR b t (l.map OP.v) b' t' (k.map OP.v)).2.2.1 := by
  refine enter1 (env := [(0, .agg (scA b t A n c)), (1, .agg (scA b' t' B m d))]) [.agg (scA b t A n c), .agg (scA b' t' B m d)] Try.func16 rfl Try.ntmps16 rfl rfl ?_
  have hn := ops_n hl; have hcap := hl.cap; have hmax := hl.max; have S0 := St.start w0 noM; have hm := ops_n hk; have hcap2 := hk.cap; have hmax2 := hk.max
  refine T_seq fun K1 hK1 => ?_
  refine T_region ?_
  refine L_o (o_box rfl S0 rfl fun b1 w1 hb1 S1 => ?_)
  refine L_o (o_box rfl S1 rfl fun b2 w2 hb2 S2 => ?_)
  refine L_o (o_alloc zz25 S2 rfl fun b3 w3 hb3 S3 => ?_)
  refine L_y (y_assign rfl) rfl ?_
  refine L_nil ?_
  refine hK1 _ _ ?_
  refine T_seq fun K2 hK2 => ?_
  refine T_seq fun K3 hK3 => ?_
  refine T_region ?_
  refine L_y (y_ldW Try.underlying25 rfl sz25 rfl (S3.blk 0 rfl) (show _ = (scA b t A n c).toList ∧ _ from ⟨rfl, rfl⟩)) rfl ?_
  refine L_o (o_call Try.func20 rfl rfl (pcheck A n c l b t w3 (S3.rd hl) (hok.like S3.like0)) rfl rfl ?_)
  rintro e4 w4 ⟨v4, rfl, l4, rfl⟩
  refine ⟨_, rfl, ?_⟩
  have S4 := S3.like l4
  refine L_y (y_assign rfl) rfl ?_
  refine L_nil ?_
  refine hK3 _ _ ?_
  refine T_seq fun K4 hK4 => ?_
  refine T_region ?_
  refine L_y (y_move rfl) rfl ?_
  refine L_y (y_neq rfl rfl) rfl ?_
  refine L_nil ?_
  refine hK4 _ _ ?_
  refine T_cond rfl (fun h14 => ?_) (fun h14 => ?_)
  ·
    refine T_seq fun K5 hK5 => ?_
    refine T_region ?_
    refine L_y (y_build rfl (show _ = some (scA 0 0 none 0 0) by kernel_rfl)) rfl ?_
    refine L_y (y_move rfl) rfl ?_
    refine L_o (o_stW S4 2 rfl rfl rfl sz25 rfl (scA_one _ _ _ _ _) fun w5 S5 => ?_)
    refine L_y (y_assign rfl) rfl ?_
    refine L_nil ?_
    refine hK5 _ _ ?_
    refine T_ret ?_
    repeat (first | with_reducible refine up_then ?_ | with_reducible refine up_in ?_)
    refine retct rfl rfl rfl (S5.blk 2 rfl) Try.underlying25 rfl (by exact sz25) ?_
    first | exact ⟨_, rfl, S5.like0, none, 0, [], by rw [then_e1 h14]; rfl, Rs.nil _ 4, (fun o ho => (List.not_mem_nil ho).elim), by rw [then_e1 h14]; rfl⟩ | exact ⟨_, rfl, S5.like0, none, 0, [], by rw [then_e2 h140 h20]; rfl, Rs.nil _ 4, (fun o ho => (List.not_mem_nil ho).elim), by rw [then_e2 h140 h20]; rfl⟩ | exact ⟨_, rfl, S5.like0, none, 0, [], by rw [then_e3 h140 h200 h27]; rfl, Rs.nil _ 4, (fun o ho => (List.not_mem_nil ho).elim), by rw [then_e3 h140 h200 h27]; rfl⟩ | (have hie : i = m := by omega); subst hie; rw [List.take_of_length_le (by omega)] at hqv; exact ⟨_, rfl, S5.like0, A1, c1, qs, by rw [then_ok h140 h200 (by omega)], S5.row 4 rfl, okO_of hin (S5.get 5 rfl), by rw [then_ok h140 h200 (by omega)]; exact hqv⟩
  ·
    have h140 := Decidable.byContradiction h14
    obtain ⟨hrg, hall⟩ := errV_zero h140
    refine T_skip ?_
    refine hK2 _ _ ?_
    refine T_seq fun K6 hK6 => ?_
    refine T_seq fun K7 hK7 => ?_
    refine T_region ?_
    refine L_y (y_ldW Try.underlying25 rfl sz25 rfl (S4.blk 1 rfl) (show _ = (scA b' t' B m d).toList ∧ _ from ⟨rfl, rfl⟩)) rfl ?_
    refine L_o (o_call Try.func20 rfl rfl (pcheck B m d k b' t' w4 (S4.rd hk) (hok2.like S4.like0)) rfl rfl ?_)
    rintro e6 w6 ⟨v6, rfl, l6, rfl⟩
    refine ⟨_, rfl, ?_⟩
    have S6 := S4.like l6
    refine L_y (y_assign rfl) rfl ?_
    refine L_nil ?_
    refine hK7 _ _ ?_
    refine T_seq fun K8 hK8 => ?_
    refine T_region ?_
    refine L_y (y_move rfl) rfl ?_
    refine L_y (y_neq rfl rfl) rfl ?_
    refine L_nil ?_
    refine hK8 _ _ ?_
    refine T_cond rfl (fun h20 => ?_) (fun h20 => ?_)
    ·
      refine T_seq fun K9 hK9 => ?_
      refine T_region ?_
      refine L_y (y_build rfl (show _ = some (scA 0 0 none 0 0) by kernel_rfl)) rfl ?_
      refine L_y (y_move rfl) rfl ?_
      refine L_o (o_stW S6 2 rfl rfl rfl sz25 rfl (scA_one _ _ _ _ _) fun w7 S7 => ?_)
      refine L_y (y_assign rfl) rfl ?_
      refine L_nil ?_
      refine hK9 _ _ ?_
      refine T_ret ?_
      repeat (first | with_reducible refine up_then ?_ | with_reducible refine up_in ?_)
      refine retct rfl rfl rfl (S7.blk 2 rfl) Try.underlying25 rfl (by exact sz25) ?_
      first | exact ⟨_, rfl, S7.like0, none, 0, [], by rw [then_e1 h14]; rfl, Rs.nil _ 4, (fun o ho => (List.not_mem_nil ho).elim), by rw [then_e1 h14]; rfl⟩ | exact ⟨_, rfl, S7.like0, none, 0, [], by rw [then_e2 h140 h20]; rfl, Rs.nil _ 4, (fun o ho => (List.not_mem_nil ho).elim), by rw [then_e2 h140 h20]; rfl⟩ | exact ⟨_, rfl, S7.like0, none, 0, [], by rw [then_e3 h140 h200 h27]; rfl, Rs.nil _ 4, (fun o ho => (List.not_mem_nil ho).elim), by rw [then_e3 h140 h200 h27]; rfl⟩ | (have hie : i = m := by omega); subst hie; rw [List.take_of_length_le (by omega)] at hqv; exact ⟨_, rfl, S7.like0, A1, c1, qs, by rw [then_ok h140 h200 (by omega)], S7.row 4 rfl, okO_of hin (S7.get 5 rfl), by rw [then_ok h140 h200 (by omega)]; exact hqv⟩
    ·
      have h200 := Decidable.byContradiction h20
      obtain ⟨hrg2, hall2⟩ := errV_zero h200
      have hea := chkL_all (by omega) hall2
      refine T_skip ?_
      refine hK6 _ _ ?_
      refine T_seq fun K10 hK10 => ?_
      refine T_seq fun K11 hK11 => ?_
      refine T_region ?_
      refine L_y (y_fieldA 1 Try.underlying25 rfl sz3 rfl rfl rfl) rfl ?_
      refine L_y (y_ldc Try.underlying3 rfl rfl (((S6.blk 0 rfl).cell _).trans (by rfl))) rfl ?_
      refine L_y (y_fieldA 0 Try.underlying25 rfl sz3 rfl rfl rfl) rfl ?_
      refine L_y (y_ldc Try.underlying3 rfl rfl (((S6.blk 1 rfl).cell _).trans (by rfl))) rfl ?_
      refine L_y (y_neq rfl rfl) rfl ?_
      refine L_nil ?_
      refine hK11 _ _ ?_
      refine T_cond rfl (fun h27 => ?_) (fun h27 => ?_)
      ·
        refine T_seq fun K12 hK12 => ?_
        refine T_region ?_
        refine L_y (y_build rfl (show _ = some (scA 0 0 none 0 0) by kernel_rfl)) rfl ?_
        refine L_o (o_stW S6 2 rfl rfl rfl sz25 rfl (scA_one _ _ _ _ _) fun w8 S8 => ?_)
        refine L_y (y_assign rfl) rfl ?_
        refine L_nil ?_
        refine hK12 _ _ ?_
        refine T_ret ?_
        repeat (first | with_reducible refine up_then ?_ | with_reducible refine up_in ?_)
        refine retct rfl rfl rfl (S8.blk 2 rfl) Try.underlying25 rfl (by exact sz25) ?_
        first | exact ⟨_, rfl, S8.like0, none, 0, [], by rw [then_e1 h14]; rfl, Rs.nil _ 4, (fun o ho => (List.not_mem_nil ho).elim), by rw [then_e1 h14]; rfl⟩ | exact ⟨_, rfl, S8.like0, none, 0, [], by rw [then_e2 h140 h20]; rfl, Rs.nil _ 4, (fun o ho => (List.not_mem_nil ho).elim), by rw [then_e2 h140 h20]; rfl⟩ | exact ⟨_, rfl, S8.like0, none, 0, [], by rw [then_e3 h140 h200 h27]; rfl, Rs.nil _ 4, (fun o ho => (List.not_mem_nil ho).elim), by rw [then_e3 h140 h200 h27]; rfl⟩ | (have hie : i = m := by omega); subst hie; rw [List.take_of_length_le (by omega)] at hqv; exact ⟨_, rfl, S8.like0, A1, c1, qs, by rw [then_ok h140 h200 (by omega)], S8.row 4 rfl, okO_of hin (S8.get 5 rfl), by rw [then_ok h140 h200 (by omega)]; exact hqv⟩
      ·
        refine T_skip ?_
        refine hK10 _ _ ?_
        refine T_seq fun K13 hK13 => ?_
        refine T_region ?_
        refine L_y (y_fieldA 0 Try.underlying25 rfl sz3 rfl rfl rfl) rfl ?_
        refine L_y (y_ldc Try.underlying3 rfl rfl (((S6.blk 0 rfl).cell _).trans (by rfl))) rfl ?_
        refine L_y (y_fieldA 1 Try.underlying25 rfl sz3 rfl rfl rfl) rfl ?_
        refine L_y (y_ldc Try.underlying3 rfl rfl (((S6.blk 1 rfl).cell _).trans (by rfl))) rfl ?_
        refine L_y (y_build rfl (show _ = some (scA b t' none 0 0) by kernel_rfl)) rfl ?_
        refine L_o (o_alloc zz25 S6 rfl fun b9 w9 hb9 S9 => ?_)
        refine L_o (o_stW S9 3 rfl rfl rfl sz25 rfl (scA_one _ _ _ _ _) fun w10 S10 => ?_)
        refine L_nil ?_
        refine hK13 _ _ ?_
        refine T_seq fun K14 hK14 => ?_
        refine T_seq fun K15 hK15 => ?_
        refine T_region ?_
        refine L_y (y_fieldA 2 Try.underlying25 rfl sz23 rfl rfl rfl) rfl ?_
        refine L_y (y_ldc Try.underlying23 rfl rfl (((S10.blk 1 rfl).cell _).trans (by rfl))) rfl ?_
        refine L_y (y_len Try.underlying23 rfl) rfl ?_
        refine L_y (y_move rfl) rfl ?_
        refine L_nil ?_
        refine hK15 _ _ ?_
        refine T_block ?_
        refine T_loop5 [(2, _), (4, _), (8, _), (35, _), (36, _)] (fun (i : Nat) (A1 : Option Addr) (c1 : Nat) (qs : List OP) (ps : List Part) => [(37, .int .i64 (i : Int))]) (fun (i : Nat) (A1 : Option Addr) (c1 : Nat) (qs : List OP) (ps : List Part) => m - i) (fun (i : Nat) (A1 : Option Addr) (c1 : Nat) (qs : List OP) (ps : List Part) (w : World) => (i ≤ m ∧ qs.length ≤ i * 4001 ∧ InP qs ps ∧ qs.map OP.v = thenV (l.map OP.v) ((k.take i).map OP.v)) ∧ St w0 noM [blk b1 25 (scA b t A n c), blk b2 25 (scA b' t' B m d), blk b3 25 #[.int .i64 0, .int .i64 0, .slice none 0 0], blk b9 25 (scA b t' A1 qs.length c1), row 57 4 A1 qs.length c1 (qs.flatMap opf), fam (ps.map partR)] w) 0 none 0 [] [] (Sub.cons rfl (by first | rfl | exact congrArg (Value.int _) (by omega)) (Sub.nil _)) (Sub.cons rfl rfl (Sub.cons rfl rfl (Sub.cons rfl rfl (Sub.cons rfl rfl (Sub.cons rfl rfl (Sub.nil _)))))) ?_ ?_
        ·
          have S9 := ((S10.nilrow 57 4).fam0)
          exact ⟨⟨Nat.zero_le _, Nat.zero_le _, (fun o ho => (List.not_mem_nil ho).elim), rfl⟩, S9⟩
        ·
          intro i A1 c1 qs ps w11 hrel
          obtain ⟨⟨hi, hql, hin, hqv⟩, S11⟩ := hrel
          refine T_seq fun K16 hK16 => ?_
          refine T_region ?_
          refine L_y (y_lss rfl rfl) rfl ?_
          refine L_nil ?_
          refine hK16 _ _ ?_
          refine T_seq fun K17 hK17 => ?_
          refine T_cond rfl (fun h38 => ?_) (fun h38 => ?_)
          ·
            obtain ⟨o, ho⟩ : ∃ o, k[i]? = some o := ⟨_, List.getElem?_eq_getElem (by omega)⟩
            have hom := List.mem_of_getElem? ho
            have hop := hok2 o hom
            obtain ⟨hrt, hsz⟩ := hea o.v (List.mem_map.2 ⟨o, hom, rfl⟩)
            refine T_skip ?_
            refine hK17 _ _ ?_
            refine T_seq fun K18 hK18 => ?_
            refine T_block ?_
            refine T_seq fun K19 hK19 => ?_
            refine T_region ?_
            refine L_y (y_idx Try.underlying23 sz57 rfl rfl (S11.rd hk) (Nt.mk (by omega) : Nt _ (i)) (by omega)) rfl ?_
            refine L_y (y_ldp (f := opf) opf_len Try.underlying57 rfl sz57 rfl (S11.rd hk) (by omega) ho) rfl ?_
            refine L_o (o_alloc zz57 S11 rfl fun b12 w12 hb12 S12 => ?_)
            refine L_o (o_stW S12 6 rfl rfl rfl sz57 rfl (opf_one o) fun w13 S13 => ?_)
            refine L_nil ?_
            refine hK19 _ _ ?_
            refine T_seq fun K20 hK20 => ?_
            refine T_region ?_
            refine L_y (y_fieldA 0 Try.underlying57 rfl sz4 rfl rfl rfl) rfl ?_
            refine L_y (y_ldc Try.underlying4 rfl rfl (((S13.blk 6 rfl).cell _).trans (by rfl))) rfl ?_
            refine L_nil ?_
            refine hK20 _ _ ?_
            refine T_condB rfl (fun h42 => ?_) (fun h42 => ?_)
            ·
              have hcp : o.cp = true := h42
              obtain ⟨g1, g2, g3, g4, g5⟩ := rt_cp hrt hcp
              refine T_zed [0, 1, 2, 3, 4, 5, 6, 7] 8 [(0, 1), (1, 1), (2, 1), (3, 1), (4, 1), (5, 1), (6, 1), (7, 2), (8, 3), (9, 3), (10, 3)] hmix (by kernel_rfl) fun w14 l14 => ?_
              have S14 := S13.like l14
              refine ZA_B (Like w14) (Like.refl _) ?_
              refine ZB_y rfl (y_fieldA 2 Try.underlying25 rfl sz23 rfl rfl rfl) rfl ?_
              refine ZB_y rfl (y_ldc Try.underlying23 rfl rfl (((S14.blk 3 rfl).cell _).trans (by rfl))) rfl ?_
              refine ZB_y rfl (y_ldW Try.underlying25 rfl sz25 rfl (S14.blk 0 rfl) (show _ = (scA b t A n c).toList ∧ _ from ⟨rfl, rfl⟩)) rfl ?_
              refine ZB_y rfl (y_fieldA 1 Try.underlying57 rfl sz3 rfl rfl rfl) rfl ?_
              refine ZB_y rfl (y_ldc Try.underlying3 rfl rfl (((S14.blk 6 rfl).cell _).trans (by rfl))) rfl ?_
              refine ZB_y rfl (y_fieldA 2 Try.underlying57 rfl sz3 rfl rfl rfl) rfl ?_
              refine ZB_y rfl (y_ldc Try.underlying3 rfl rfl (((S14.blk 6 rfl).cell _).trans (by rfl))) rfl ?_
              refine ZB_o rfl (o_call Try.func26 rfl rfl (within A n c l b t o.fr.toNat o.n.toNat _ _ w14 (S14.rd hl) (hok.like S14.like0) (by omega) (by omega) hrg hall (by omega) hn4) rfl rfl ?_)
              rintro e15 w15 ⟨v15, rfl, l15, A50, c50, rs, pr, rfl, hinr, hrl, hrv, T15⟩
              refine ⟨_, rfl, l15, ?_⟩
              have S15 := S14.adoptS T15
              have q15 := l15
              refine ZB_c rfl (o_app te23 S15 4 rfl rfl rfl (S15.row 7 rfl) (ops_one _) rfl (by omega) (by omega) fun A16 c16 w16 S16 => ?_)
              refine ZA_oy rfl (y_fieldA 2 Try.underlying25 rfl sz23 rfl rfl rfl) rfl ?_
              refine ZA_o rfl (o_st1 S16 3 rfl rfl rfl rfl sz23 (by show 2 < 3; decide) fun w17 S17 => ?_)
              refine ZA_nil ?_
              refine hK18 _ _ ?_
              refine T_region ?_
              refine L_y (y_add rfl rfl (i64w (by omega))) rfl ?_
              refine L_y (y_move rfl) rfl ?_
              refine L_nil ?_
              have S91 := S17.blkc 3 rfl ((scA_set b t' A1 qs.length c1 A16 (qs.length + rs.length) c16).trans (show _ = scA b t' A16 (qs ++ rs).length c16 from by simp))
              have S92 := S91.rowc 4 rfl (n' := (qs ++ rs).length) (xs' := (qs ++ rs).flatMap opf) (by simp) (by simp)
              have S93 := S92.sel [0, 1, 2, 3, 4, 5, 8] (by decide)
              have S94 := famCatP (rs := [_, _, _, _, _]) (ps := ps) (pr := pr) S93
              refine ⟨i + 1, A16, c16, qs ++ rs, ps ++ pr, by omega, ⟨⟨by omega, by rw [List.length_append]; omega, hin.cat hinr, by rw [thenV_step ho, if_pos hcp, List.map_append, hqv, hrv]⟩, S94⟩, ?_⟩
              exact (Sub.cons rfl (by first | rfl | exact congrArg (Value.int _) (by omega)) (Sub.cons rfl rfl (Sub.cons rfl rfl (Sub.cons rfl rfl (Sub.cons rfl rfl (Sub.cons rfl rfl (Sub.nil _)))))))
            ·
              have hcp : o.cp = false := h42
              obtain ⟨g1, g2⟩ := rt_new hrt hcp
              have hopl := hop.lenb
              refine T_zed [0, 1, 2, 3, 4, 5, 6, 7] 8 [(0, 1), (1, 1), (2, 1), (3, 1), (4, 1), (5, 1), (6, 2), (7, 2), (8, 3), (9, 3), (10, 3)] hmix (by kernel_rfl) fun w18 l18 => ?_
              have S18 := S13.like l18
              refine ZA_B (Like w18) (Like.refl _) ?_
              refine ZB_y rfl (y_fieldA 2 Try.underlying25 rfl sz23 rfl rfl rfl) rfl ?_
              refine ZB_y rfl (y_ldc Try.underlying23 rfl rfl (((S18.blk 3 rfl).cell _).trans (by rfl))) rfl ?_
              refine ZB_y rfl (y_ldW Try.underlying57 rfl sz57 rfl (S18.blk 6 rfl) (show _ = opf o ∧ _ from ⟨rfl, rfl⟩)) rfl ?_
              refine ZB_y rfl (y_fieldA 3 Try.underlying57 rfl sz22 rfl rfl rfl) rfl ?_
              refine ZB_y rfl (y_ldc Try.underlying22 rfl rfl (((S18.blk 6 rfl).cell _).trans (by rfl))) rfl ?_
              refine ZB_y rfl (y_len Try.underlying22 rfl) rfl ?_
              refine ZB_o rfl (o_call Try.func27 rfl rfl (part o 0 o.p.n _ _ w18 (Rs.like hop S18.like0) rfl rfl (fun hc => by rw [hcp] at hc; cases hc) (fun _ => by omega) (by omega)) rfl rfl ?_)
              rintro e19 w19 ⟨v19, rfl, l19, q, rfl, hpv, O19⟩
              refine ⟨_, rfl, l19, ?_⟩
              have S19 := S18.adopt l19 O19
              have q19 := l19
              refine ZB_o rfl (o_bslL (opf q) te23 zz57 S19 rfl rfl rfl rfl rfl rfl rfl rfl fun b20 w20 l20 S20 => ?_)
              have q20 := Like.trans q19 l20
              refine ⟨q20, ?_⟩
              refine ZB_c rfl (o_app te23 S20 4 rfl rfl rfl (by first | exact S20.row 4 rfl | exact S20.fix 5 rfl | exact S20.row 7 rfl | exact S20.row 8 rfl) (opf_one q) rfl (by omega) (by omega) fun A21 c21 w21 S21 => ?_)
              have S21d := S21.drop (rs' := [_, _, _, _, _, _, _, _]) (.cons_cons _ (.cons_cons _ (.cons_cons _ (.cons_cons _ (.cons_cons _ (.cons_cons _ (.cons_cons _ (.cons_cons _ (.cons _ (.refl _))))))))))
              refine ZA_oy rfl (y_fieldA 2 Try.underlying25 rfl sz23 rfl rfl rfl) rfl ?_
              refine ZA_o rfl (o_st1 S21d 3 rfl rfl rfl rfl sz23 (by show 2 < 3; decide) fun w22 S22 => ?_)
              refine ZA_nil ?_
              refine hK18 _ _ ?_
              refine T_region ?_
              refine L_y (y_add rfl rfl (i64w (by omega))) rfl ?_
              refine L_y (y_move rfl) rfl ?_
              refine L_nil ?_
              have S91 := S22.blkc 3 rfl ((scA_set b t' A1 qs.length c1 A21 (qs.length + 1) c21).trans (show _ = scA b t' A21 (qs ++ [q]).length c21 from by simp))
              have S92 := S91.rowc 4 rfl (n' := (qs ++ [q]).length) (xs' := (qs ++ [q]).flatMap opf) (by simp) (by simp)
              have S93 := (S92.still 7 rfl).sel [0, 1, 2, 3, 4, 5, 7] (by decide)
              have S94 := famAdd (rs := [_, _, _, _, _, fam (ps.map partR)]) (ps := ps) (p := q.p) S93 5 rfl
              refine ⟨i + 1, A21, c21, qs ++ [q], ps ++ [q.p], by omega, ⟨⟨by omega, by rw [List.length_append, List.length_singleton]; omega, hin.add, by rw [thenV_step ho, if_neg (by rw [hcp]; exact Bool.false_ne_true), List.map_append, hqv, List.map_singleton, hpv, part_all hcp hop.lenb]⟩, S94⟩, ?_⟩
              exact (Sub.cons rfl (by first | rfl | exact congrArg (Value.int _) (by omega)) (Sub.cons rfl rfl (Sub.cons rfl rfl (Sub.cons rfl rfl (Sub.cons rfl rfl (Sub.cons rfl rfl (Sub.nil _)))))))
          ·
            refine T_exit ?_
            refine hK14 _ _ ?_
            refine T_seq fun K21 hK21 => ?_
            refine T_region ?_
            refine L_y (y_ldW Try.underlying25 rfl sz25 rfl (S11.blk 3 rfl) (show _ = (scA b t' A1 qs.length c1).toList ∧ _ from ⟨rfl, rfl⟩)) rfl ?_
            refine L_o (o_stW S11 2 rfl rfl rfl sz25 rfl (scA_one _ _ _ _ _) fun w23 S23 => ?_)
            refine L_y (y_assign rfl) rfl ?_
            refine L_nil ?_
            refine hK21 _ _ ?_
            refine T_ret ?_
            repeat (first | with_reducible refine up_then ?_ | with_reducible refine up_in ?_)
            refine retct rfl rfl rfl (S23.blk 2 rfl) Try.underlying25 rfl (by exact sz25) ?_
            first | exact ⟨_, rfl, S23.like0, none, 0, [], by rw [then_e1 h14]; rfl, Rs.nil _ 4, (fun o ho => (List.not_mem_nil ho).elim), by rw [then_e1 h14]; rfl⟩ | exact ⟨_, rfl, S23.like0, none, 0, [], by rw [then_e2 h140 h20]; rfl, Rs.nil _ 4, (fun o ho => (List.not_mem_nil ho).elim), by rw [then_e2 h140 h20]; rfl⟩ | exact ⟨_, rfl, S23.like0, none, 0, [], by rw [then_e3 h140 h200 h27]; rfl, Rs.nil _ 4, (fun o ho => (List.not_mem_nil ho).elim), by rw [then_e3 h140 h200 h27]; rfl⟩ | (have hie : i = m := by omega); subst hie; rw [List.take_of_length_le (by omega)] at hqv; exact ⟨_, rfl, S23.like0, A1, c1, qs, by rw [then_ok h140 h200 (by omega)], S23.row 4 rfl, okO_of hin (S23.get 5 rfl), by rw [then_ok h140 h200 (by omega)]; exact hqv⟩
end Go.Proofs.Ytpcgldkllnkaeaa
