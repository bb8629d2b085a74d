/-
  part, within.
-/
import Derived.Test.YtpcgldkllnkaeaaP
import Derived.Test.YtpcgldkllnkaeaaZa
namespace Go.Proofs.Ytpcgldkllnkaeaa
open Go.RowKit Zk Zx
set_option linter.unusedVariables false
set_option linter.unusedSimpArgs false

/-- n bytes of what an op lays, from a place on. -/
def partV (o : OV) (f n : Nat) : OV := if o.cp then ⟨true, o.fr + (f : Int), (n : Int), []⟩ else ⟨false, 0, 0, (o.l.drop f).take n⟩
/-- The ops that lay n bytes, from a place on. -/
def withinV : List OV → Nat → Nat → Nat → List OV
  | [], _, _, _ => []
  | o :: r, at_, fr, n => (if max fr at_ < min (fr + n) (at_ + (szV o).toNat) then [partV o (max fr at_ - at_) (min (fr + n) (at_ + (szV o).toNat) - max fr at_)] else []) ++ withinV r (at_ + (szV o).toNat) fr n
theorem cut_x {w : World} {A : Option Addr} {n c k u : Nat} {a : List UInt8} (h : Rs w 1 A n c (bL a)) (hk : k ≤ u) (hu : u ≤ n) : Rs w 1 (cutA A u k 1) (u - k) (u - k) (bL ((a.drop k).take (u - k))) := by
  have hc := h.cap
  have hm := h.max
  rcases Nat.lt_or_ge k u with q | q
  · have h2 := cut_mid h hk hu
    have e : cutA A u k 1 = cutA A c k 1 := by
      unfold cutA
      rw [if_neg (by omega), if_neg (by omega)]
    rw [e]
    exact ⟨h2.rd, Nat.le_refl _, by omega⟩
  · have e : u - k = 0 := by omega
    rw [e]
    exact ⟨⟨by simp [bL], fun h0 => by omega⟩, Nat.le_refl _, by omega⟩
theorem within_yes {l : List OP} {k : Nat} {o : OP} (ho : l[k]? = some o) {at_ fr n : Nat} (h : max fr at_ < min (fr + n) (at_ + (szV o.v).toNat)) : withinV ((l.map OP.v).drop k) at_ fr n = partV o.v (max fr at_ - at_) (min (fr + n) (at_ + (szV o.v).toNat) - max fr at_) :: withinV ((l.map OP.v).drop (k + 1)) (at_ + (szV o.v).toNat) fr n := by
  rw [drop_at' (map_at ho)]
  conv => lhs; unfold withinV
  rw [if_pos h]
  rfl
theorem within_no {l : List OP} {k : Nat} {o : OP} (ho : l[k]? = some o) {at_ fr n : Nat} (h : ¬ max fr at_ < min (fr + n) (at_ + (szV o.v).toNat)) : withinV ((l.map OP.v).drop k) at_ fr n = withinV ((l.map OP.v).drop (k + 1)) (at_ + (szV o.v).toNat) fr n := by
  rw [drop_at' (map_at ho)]
  conv => lhs; unfold withinV
  rw [if_neg h]
  rfl
theorem within_end {l : List OP} {k : Nat} (h : l.length ≤ k) (at_ fr n : Nat) : withinV ((l.map OP.v).drop k) at_ fr n = [] := by
  rw [List.drop_of_length_le (by rw [List.length_map]; exact h)]
  rfl


set_option maxRecDepth 100000 in
theorem part (o : OP) (f n : Nat) (fi ni : Int) (w0 : World) (hop : o.p.ok w0) (hfi : fi = (f : Int)) (hni : ni = (n : Int)) (hcp : o.cp = true → 0 ≤ o.fr ∧ o.fr ≤ 4000) (hnw : o.cp = false → f + n ≤ o.p.n) (hb : f + n ≤ 4000) :
    Calls Try.prog 27 #[.agg (opf o).toArray, .int .i64 fi, .int .i64 ni] w0 fun e w' => ∃ u, e = .returned u ∧ Like w0 w' ∧ ∃ q : OP, u = .agg (opf q).toArray ∧ q.v = partV o.v f n ∧ w'.ownsRow w0.heap.size 5 1 (.slice q.p.A q.p.n q.p.c) q.p.n (bL q.p.l) := by
  refine enter1 (env := [(0, .agg (opf o).toArray), (1, .int .i64 fi), (2, .int .i64 ni)]) [.agg (opf o).toArray, .int .i64 fi, .int .i64 ni] Try.func27 rfl Try.ntmps27 rfl rfl ?_
  have hcap := hop.cap; have hmax := hop.max; have S0 := St.start w0 noM
  refine T_seq fun K1 hK1 => ?_
  refine T_region ?_
  refine L_o (o_box rfl S0 rfl fun b1 w1 hb1 S1 => ?_)
  refine L_o (o_alloc zz57 S1 rfl fun b2 w2 hb2 S2 => ?_)
  refine L_nil ?_
  refine hK1 _ _ ?_
  refine T_seq fun K2 hK2 => ?_
  refine T_seq fun K3 hK3 => ?_
  refine T_region ?_
  refine L_y (y_fieldA 0 Try.underlying57 rfl sz4 rfl rfl rfl) rfl ?_
  refine L_y (y_ldc Try.underlying4 rfl rfl (((S2.blk 0 rfl).cell _).trans (by rfl))) rfl ?_
  refine L_nil ?_
  refine hK3 _ _ ?_
  refine T_condB rfl (fun h8 => ?_) (fun h8 => ?_)
  ·
    have hg := hcp h8
    refine T_seq fun K4 hK4 => ?_
    refine T_region ?_
    refine L_y (y_fieldA 1 Try.underlying57 rfl sz3 rfl rfl rfl) rfl ?_
    refine L_y (y_ldc Try.underlying3 rfl rfl (((S2.blk 0 rfl).cell _).trans (by rfl))) rfl ?_
    refine L_y (y_move rfl) rfl ?_
    refine L_y (y_add rfl rfl (i64w (by omega))) rfl ?_
    refine L_y (y_move rfl) rfl ?_
    refine L_y (y_build rfl (show _ = some #[Value.bool true, Value.int .i64 (o.fr + fi), Value.int .i64 ni, Value.slice none 0 0] by kernel_rfl)) rfl ?_
    refine L_o (o_stW S2 1 rfl rfl rfl sz57 rfl (by intro u hu; simp at hu; rcases hu with rfl | rfl | rfl | rfl <;> rfl) fun w3 S3 => ?_)
    refine L_nil ?_
    refine hK4 _ _ ?_
    refine T_ret ?_
    repeat (first | with_reducible refine up_then ?_ | with_reducible refine up_in ?_)
    refine retc rfl rfl (S3.blk 1 rfl) Try.underlying57 rfl (by exact sz57) ?_
    exact ⟨_, rfl, S3.like0, ⟨true, o.fr + fi, ni, p0⟩, rfl, by unfold partV; rw [if_pos (show o.v.cp = true from h8), hfi, hni]; rfl, World.ownsRow_nil _ _ _ _⟩
  ·
    have hg := hnw h8
    refine T_skip ?_
    refine hK2 _ _ ?_
    refine T_seq fun K5 hK5 => ?_
    refine T_region ?_
    refine L_y (y_fieldA 3 Try.underlying57 rfl sz22 rfl rfl rfl) rfl ?_
    refine L_y (y_ldc Try.underlying22 rfl rfl (((S2.blk 0 rfl).cell _).trans (by rfl))) rfl ?_
    refine L_y (y_move rfl) rfl ?_
    refine L_y (y_move rfl) rfl ?_
    refine L_y (y_move rfl) rfl ?_
    refine L_y (y_add rfl rfl (i64w (by omega))) rfl ?_
    refine L_y (y_move rfl) rfl ?_
    refine L_y (y_move rfl) rfl ?_
    refine L_y (y_add rfl rfl (i64w (by omega))) rfl ?_
    refine L_y (y_sliceX Try.underlying22 sz5 rfl rfl rfl rfl (l := f) (u := f + n) (m := f + n) (by omega) (by omega) (by omega) (by omega) (by omega) (by omega)) rfl ?_
    refine L_o (o_call Try.func41 rfl rfl (bclone (cutA o.p.A (f + n) f 1) (f + n - f) (f + n - f) ((o.p.l.drop f).take (f + n - f)) w2 (cut_x (S2.rd hop) (by omega) (by omega)) (by omega)) rfl rfl ?_)
    rintro e4 w4 ⟨v4, rfl, l4, A25, c25, rfl, O4⟩
    refine ⟨_, rfl, ?_⟩
    have S4 := S2.adopt l4 O4
    refine L_y (y_build rfl (show _ = some #[Value.bool false, Value.int .i64 0, Value.int .i64 0, Value.slice A25 (f + n - f) c25] by kernel_rfl)) rfl ?_
    refine L_o (o_stW S4 1 rfl rfl rfl sz57 rfl (by intro u hu; simp at hu; rcases hu with rfl | rfl | rfl | rfl <;> rfl) fun w5 S5 => ?_)
    refine L_nil ?_
    refine hK5 _ _ ?_
    refine T_ret ?_
    repeat (first | with_reducible refine up_then ?_ | with_reducible refine up_in ?_)
    refine retc rfl rfl (S5.blk 1 rfl) Try.underlying57 rfl (by exact sz57) ?_
    exact ⟨_, rfl, S5.like0, ⟨false, 0, 0, ⟨A25, f + n - f, c25, (o.p.l.drop f).take (f + n - f)⟩⟩, rfl, by unfold partV; rw [if_neg (show ¬ o.v.cp = true from by rw [show o.v.cp = o.cp from rfl, h8]; exact Bool.false_ne_true), Nat.add_sub_cancel_left]; rfl, S5.own 2 rfl⟩


set_option maxRecDepth 100000 in
theorem within (A : Option Addr) (n c : Nat) (l : List OP) (b t : Int) (fr m : Nat) (fri mi : Int) (w0 : World) (hl : Rs w0 4 A n c (l.flatMap opf)) (hok : OkO w0 l) (hfi : fri = (fr : Int)) (hmi : mi = (m : Int)) (hrg : 0 ≤ b ∧ b ≤ 4000 ∧ 0 ≤ t ∧ t ≤ 4000) (hall : chkL b t (l.map OP.v) = true) (hfm : fr + m ≤ 4000) (hn4 : n ≤ 4000) :
    Calls Try.prog 26 #[.agg (scA b t A n c), .int .i64 fri, .int .i64 mi] w0 fun e w' => ∃ u, e = .returned u ∧ Like w0 w' ∧ ∃ A' c' qs ps, u = .slice A' qs.length c' ∧ InP qs ps ∧ qs.length ≤ n ∧ qs.map OP.v = withinV (l.map OP.v) 0 fr m ∧ St w0 noM [row 57 4 A' qs.length c' (qs.flatMap opf), fam (ps.map partR)] w' := by
  refine enter1 (env := [(0, .agg (scA b t A n c)), (1, .int .i64 fri), (2, .int .i64 mi)]) [.agg (scA b t A n c), .int .i64 fri, .int .i64 mi] Try.func26 rfl Try.ntmps26 rfl rfl ?_
  have hn := ops_n hl; have hcap := hl.cap; have hmax := hl.max; have S0 := St.start w0 noM
  refine T_seq fun K1 hK1 => ?_
  refine T_region ?_
  refine L_o (o_box rfl S0 rfl fun b1 w1 hb1 S1 => ?_)
  refine L_y (y_assign rfl) rfl ?_
  refine L_nil ?_
  refine hK1 _ _ ?_
  refine T_seq fun K2 hK2 => ?_
  refine T_region ?_
  have S2 := S1.nilrow 57 4
  refine L_y (y_assign rfl) rfl ?_
  refine L_nil ?_
  refine hK2 _ _ ?_
  refine T_seq fun K3 hK3 => ?_
  refine T_region ?_
  refine L_y (y_assign rfl) rfl ?_
  refine L_nil ?_
  refine hK3 _ _ ?_
  refine T_seq fun K4 hK4 => ?_
  refine T_seq fun K5 hK5 => ?_
  refine T_region ?_
  refine L_y (y_fieldA 2 Try.underlying25 rfl sz23 rfl rfl rfl) rfl ?_
  refine L_y (y_ldc Try.underlying23 rfl rfl (((S2.blk 0 rfl).cell _).trans (by rfl))) rfl ?_
  refine L_y (y_len Try.underlying23 rfl) rfl ?_
  refine L_y (y_move rfl) rfl ?_
  refine L_nil ?_
  refine hK5 _ _ ?_
  refine T_block ?_
  refine T_loop6 [(1, _), (2, _), (14, _), (15, _)] (fun (k : Nat) (A1 : Option Addr) (c1 : Nat) (qs : List OP) (ps : List Part) (at_ : Nat) => [(16, .int .i64 (k : Int)), (7, .slice A1 qs.length c1), (8, .int .i64 (at_ : Int))]) (fun (k : Nat) (A1 : Option Addr) (c1 : Nat) (qs : List OP) (ps : List Part) (at_ : Nat) => n - k) (fun (k : Nat) (A1 : Option Addr) (c1 : Nat) (qs : List OP) (ps : List Part) (at_ : Nat) (w : World) => (k ≤ n ∧ qs.length ≤ k ∧ (at_ : Int) ≤ t ∧ chkL b (t - (at_ : Int)) ((l.map OP.v).drop k) = true ∧ InP qs ps ∧ qs.map OP.v ++ withinV ((l.map OP.v).drop k) at_ fr m = withinV (l.map OP.v) 0 fr m) ∧ St w0 noM [blk b1 25 (scA b t A n c), row 57 4 A1 qs.length c1 (qs.flatMap opf), fam (ps.map partR)] w) 0 none 0 [] [] 0 (Sub.cons rfl (by first | rfl | exact congrArg (Value.int _) (by omega)) (Sub.cons rfl (by first | rfl | exact congrArg (Value.int _) (by omega)) (Sub.cons rfl (by first | rfl | exact congrArg (Value.int _) (by omega)) (Sub.nil _)))) (Sub.cons rfl rfl (Sub.cons rfl rfl (Sub.cons rfl rfl (Sub.cons rfl rfl (Sub.nil _))))) ?_ ?_
  ·
    have S9 := S2.fam0
    exact ⟨⟨Nat.zero_le _, Nat.le_refl _, by show (0 : Int) ≤ t; omega, by show chkL b (t - 0) _ = true; rw [Int.sub_zero]; exact hall, (fun o ho => (List.not_mem_nil ho).elim), rfl⟩, S9⟩
  ·
    intro k A1 c1 qs ps at_ w3 hrel
    obtain ⟨⟨hk, hql, hat, hch, hin, hwv⟩, S3⟩ := hrel
    refine T_seq fun K6 hK6 => ?_
    refine T_region ?_
    refine L_y (y_lss rfl rfl) rfl ?_
    refine L_nil ?_
    refine hK6 _ _ ?_
    refine T_seq fun K7 hK7 => ?_
    refine T_cond rfl (fun h17 => ?_) (fun h17 => ?_)
    ·
      obtain ⟨o, ho⟩ : ∃ o, l[k]? = some o := ⟨_, List.getElem?_eq_getElem (by omega)⟩
      have hop := hok o (List.mem_of_getElem? ho)
      obtain ⟨hrt, hsz, hrest⟩ := chkL_next ho hch
      have hszp := sz_nonneg hrt
      have hopl := hop.lenb
      refine T_skip ?_
      refine hK7 _ _ ?_
      refine T_seq fun K8 hK8 => ?_
      refine T_block ?_
      refine T_seq fun K9 hK9 => ?_
      refine T_region ?_
      refine L_y (y_idx Try.underlying23 sz57 rfl rfl (S3.rd hl) (Nt.mk (by omega) : Nt _ (k)) (by omega)) rfl ?_
      refine L_y (y_ldp (f := opf) opf_len Try.underlying57 rfl sz57 rfl (S3.rd hl) (by omega) ho) rfl ?_
      refine L_o (o_alloc zz57 S3 rfl fun b4 w4 hb4 S4 => ?_)
      refine L_o (o_stW S4 3 rfl rfl rfl sz57 rfl (opf_one o) fun w5 S5 => ?_)
      refine L_nil ?_
      refine hK9 _ _ ?_
      refine T_seq fun K10 hK10 => ?_
      refine T_region ?_
      refine L_y (y_move rfl) rfl ?_
      refine L_y (y_move rfl) rfl ?_
      refine L_y (y_max rfl rfl) rfl ?_
      refine L_y (y_move rfl) rfl ?_
      refine L_y (y_move rfl) rfl ?_
      refine L_y (y_add rfl rfl (i64w (by omega))) rfl ?_
      refine L_y (y_move rfl) rfl ?_
      refine L_y (y_ldW Try.underlying57 rfl sz57 rfl (S5.blk 3 rfl) (show _ = opf o ∧ _ from ⟨rfl, rfl⟩)) rfl ?_
      refine L_o (o_call Try.func38 rfl rfl (osize o w5 (Rs.like hop S5.like0)) rfl rfl ?_)
      rintro e6 w6 ⟨v6, rfl, l6, rfl⟩
      refine ⟨_, rfl, ?_⟩
      have S6 := S5.like l6
      refine L_y (y_add rfl rfl (i64w (by omega))) rfl ?_
      refine L_y (y_min rfl rfl) rfl ?_
      refine L_y (y_assign rfl) rfl ?_
      refine L_y (y_assign rfl) rfl ?_
      refine L_nil ?_
      refine hK10 _ _ ?_
      refine T_seq fun K11 hK11 => ?_
      refine T_seq fun K12 hK12 => ?_
      refine T_region ?_
      refine L_y (y_move rfl) rfl ?_
      refine L_y (y_move rfl) rfl ?_
      refine L_y (y_lss rfl rfl) rfl ?_
      refine L_nil ?_
      refine hK12 _ _ ?_
      refine T_cond rfl (fun h33 => ?_) (fun h33 => ?_)
      ·
        refine T_region ?_
        refine L_y (y_move rfl) rfl ?_
        refine L_y (y_ldW Try.underlying57 rfl sz57 rfl (S6.blk 3 rfl) (show _ = opf o ∧ _ from ⟨rfl, rfl⟩)) rfl ?_
        refine L_y (y_move rfl) rfl ?_
        refine L_y (y_move rfl) rfl ?_
        refine L_y (y_sub rfl rfl (i64w (by omega))) rfl ?_
        refine L_y (y_move rfl) rfl ?_
        refine L_y (y_move rfl) rfl ?_
        refine L_y (y_sub rfl rfl (i64w (by omega))) rfl ?_
        refine L_o (o_call Try.func27 rfl rfl (part o (max fr at_ - at_) (min (fr + m) (at_ + (szV o.v).toNat) - max fr at_) _ _ w6 (Rs.like hop S6.like0) (by omega) (by omega) (fun hc => by have := rt_cp hrt hc; omega) (fun hc => by have := rt_new hrt hc; omega) (by omega)) rfl rfl ?_)
        rintro e7 w7 ⟨v7, rfl, l7, q, rfl, hqv, O7⟩
        refine ⟨_, rfl, ?_⟩
        have S7 := S6.adopt l7 O7
        refine L_o (o_bsl (opf q) te23 zz57 S7 rfl rfl rfl rfl rfl rfl rfl rfl fun b8 w8 S8 => ?_)
        refine L_o (o_app te23 S8 1 rfl rfl rfl (by first | exact S8.row 1 rfl | exact S8.fix 2 rfl | exact S8.row 4 rfl | exact S8.row 5 rfl) (opf_one q) rfl (by omega) (by omega) fun A9 c9 w9 S9 => ?_)
        have S9d := S9.drop (rs' := [_, _, _, _, _]) (.cons_cons _ (.cons_cons _ (.cons_cons _ (.cons_cons _ (.cons_cons _ (.cons _ (.refl _)))))))
        refine L_y (y_assign rfl) rfl ?_
        refine L_nil ?_
        refine hK11 _ _ ?_
        refine T_region ?_
        refine L_y (y_move rfl) rfl ?_
        refine L_y (y_ldW Try.underlying57 rfl sz57 rfl (S9d.blk 3 rfl) (show _ = opf o ∧ _ from ⟨rfl, rfl⟩)) rfl ?_
        refine L_o (o_call Try.func38 rfl rfl (osize o w9 (Rs.like hop S9d.like0)) rfl rfl ?_)
        rintro e10 w10 ⟨v10, rfl, l10, rfl⟩
        refine ⟨_, rfl, ?_⟩
        have S10 := S9d.like l10
        refine L_y (y_add rfl rfl (i64w (by omega))) rfl ?_
        refine L_y (y_assign rfl) rfl ?_
        refine L_nil ?_
        refine hK8 _ _ ?_
        refine T_region ?_
        refine L_y (y_add rfl rfl (i64w (by omega))) rfl ?_
        refine L_y (y_move rfl) rfl ?_
        refine L_nil ?_
        have S91 := S10.rowc 1 rfl (n' := (qs ++ [q]).length) (xs' := (qs ++ [q]).flatMap opf) (by rw [List.length_append]; rfl) (by rw [List.flatMap_append]; simp)
        have S92 := (S91.still 4 rfl).sel [0, 1, 2, 4] (by decide)
        have S93 := famAdd (rs := [_, _, fam (ps.map partR)]) (ps := ps) (p := q.p) S92 2 rfl
        refine ⟨k + 1, A9, c9, qs ++ [q], ps ++ [q.p], at_ + (szV o.v).toNat, by omega, ⟨⟨by omega, by rw [List.length_append, List.length_singleton]; omega, by omega, by rw [show t - ((at_ + (szV o.v).toNat : Nat) : Int) = t - (at_ : Int) - szV o.v by omega]; exact hrest, hin.add, by rw [← hwv, within_yes ho (by omega), List.map_append, ← hqv]; simp⟩, S93⟩, ?_⟩
        exact (Sub.cons rfl (by first | rfl | exact congrArg (Value.int _) (by omega)) (Sub.cons rfl (by first | rfl | (rw [List.length_append]; rfl)) (Sub.cons rfl (by first | rfl | exact congrArg (Value.int _) (by omega)) (Sub.cons rfl rfl (Sub.cons rfl rfl (Sub.cons rfl rfl (Sub.cons rfl rfl (Sub.nil _))))))))
      ·
        refine T_skip ?_
        refine hK11 _ _ ?_
        refine T_region ?_
        refine L_y (y_move rfl) rfl ?_
        refine L_y (y_ldW Try.underlying57 rfl sz57 rfl (S6.blk 3 rfl) (show _ = opf o ∧ _ from ⟨rfl, rfl⟩)) rfl ?_
        refine L_o (o_call Try.func38 rfl rfl (osize o w6 (Rs.like hop S6.like0)) rfl rfl ?_)
        rintro e11 w11 ⟨v11, rfl, l11, rfl⟩
        refine ⟨_, rfl, ?_⟩
        have S11 := S6.like l11
        refine L_y (y_add rfl rfl (i64w (by omega))) rfl ?_
        refine L_y (y_assign rfl) rfl ?_
        refine L_nil ?_
        refine hK8 _ _ ?_
        refine T_region ?_
        refine L_y (y_add rfl rfl (i64w (by omega))) rfl ?_
        refine L_y (y_move rfl) rfl ?_
        refine L_nil ?_
        have S93 := S11.sel [0, 1, 2] (by decide)
        refine ⟨k + 1, A1, c1, qs, ps, at_ + (szV o.v).toNat, by omega, ⟨⟨by omega, by omega, by omega, by rw [show t - ((at_ + (szV o.v).toNat : Nat) : Int) = t - (at_ : Int) - szV o.v by omega]; exact hrest, hin, by rw [← hwv, within_no ho (by omega)]⟩, S93⟩, ?_⟩
        exact (Sub.cons rfl (by first | rfl | exact congrArg (Value.int _) (by omega)) (Sub.cons rfl (by first | rfl | (rw [List.length_append]; rfl)) (Sub.cons rfl (by first | rfl | exact congrArg (Value.int _) (by omega)) (Sub.cons rfl rfl (Sub.cons rfl rfl (Sub.cons rfl rfl (Sub.cons rfl rfl (Sub.nil _))))))))
    ·
      refine T_exit ?_
      refine hK4 _ _ ?_
      refine T_seq fun K13 hK13 => ?_
      refine T_region ?_
      refine L_y (y_move rfl) rfl ?_
      refine L_y (y_assign rfl) rfl ?_
      refine L_nil ?_
      refine hK13 _ _ ?_
      refine T_ret ?_
      repeat (first | with_reducible refine up_then ?_ | with_reducible refine up_in ?_)
      refine ret1 rfl rfl ?_
      have hkn : k = n := by omega
      rw [within_end (by omega), List.append_nil] at hwv
      have S93 := S3.sel [1, 2] (by decide)
      exact ⟨_, rfl, S3.like0, A1, c1, qs, ps, rfl, hin, by omega, hwv, S93⟩
end Go.Proofs.Ytpcgldkllnkaeaa
