/-
  The document: Put.
-/
import Derived.Test.YtpcgldkllnkaeaaAa
namespace Go.Proofs.Ytpcgldkllnkaeaa
open Go.RowKit Zk Zx
set_option linter.unusedVariables false
set_option linter.unusedSimpArgs false

set_option maxRecDepth 100000 in
theorem rput (A : Option Addr) (n c : Nat) (l : List OP) (b t : Int) (w0 : World) (hl : Rs w0 4 A n c (l.flatMap opf)) (hok : OkO w0 l) (hn4 : n ≤ 4000) :
    Calls Try.prog 19 #[.agg (scA b t A n c)] w0 fun e w' => ∃ u, e = .returned u ∧ Like w0 w' ∧ ∃ A' c', u = .tuple #[.slice A' (putR b t (l.map OP.v)).1.length c', .int .i64 (putR b t (l.map OP.v)).2] ∧ w'.ownsRow w0.heap.size 5 1 (.slice A' (putR b t (l.map OP.v)).1.length c') (putR b t (l.map OP.v)).1.length (bL (putR b t (l.map OP.v)).1) := by
  refine enter1 (env := [(0, .agg (scA b t A n c))]) [.agg (scA b t A n c)] Try.func19 rfl Try.ntmps19 rfl rfl ?_
  have hn := ops_n hl; have hcap := hl.cap; have hmax := hl.max; have S0 := St.start w0 noM
  refine T_seq fun K1 hK1 => ?_
  refine T_region ?_
  refine L_o (o_box rfl S0 rfl fun b1 w1 hb1 S1 => ?_)
  refine L_y (y_assign rfl) rfl ?_
  refine L_y (y_assign rfl) rfl ?_
  refine L_nil ?_
  refine hK1 _ _ ?_
  refine T_seq fun K2 hK2 => ?_
  refine T_region ?_
  refine L_y (y_ldW Try.underlying30 rfl sz30 rfl (S1.blk 0 rfl) (show _ = (scA b t A n c).toList ∧ _ from ⟨rfl, rfl⟩)) rfl ?_
  refine L_o (o_call Try.func21 rfl rfl (rcheck A n c l b t w1 (S1.rd hl) (hok.like S1.like0)) rfl rfl ?_)
  rintro e2 w2 ⟨v2, rfl, l2, rfl⟩
  refine ⟨_, rfl, ?_⟩
  have S2 := S1.like l2
  refine L_y (y_assign rfl) rfl ?_
  refine L_nil ?_
  refine hK2 _ _ ?_
  refine T_seq fun K3 hK3 => ?_
  refine T_seq fun K4 hK4 => ?_
  refine T_region ?_
  refine L_y (y_move rfl) rfl ?_
  refine L_y (y_neq rfl rfl) rfl ?_
  refine L_nil ?_
  refine hK4 _ _ ?_
  refine T_cond rfl (fun h11 => ?_) (fun h11 => ?_)
  ·
    refine T_seq fun K5 hK5 => ?_
    refine T_region ?_
    refine L_y (y_move rfl) rfl ?_
    refine L_y (y_assign rfl) rfl ?_
    refine L_y (y_assign rfl) rfl ?_
    refine L_nil ?_
    refine hK5 _ _ ?_
    refine T_ret ?_
    repeat (first | with_reducible refine up_then ?_ | with_reducible refine up_in ?_)
    refine ret2 rfl rfl rfl ?_
    first | exact ⟨_, rfl, S2.like0, none, 0, by rw [put_err h11]; rfl, by rw [put_err h11]; exact World.ownsRow_nil _ _ _ _⟩ | (have hke : k = n := by omega); subst hke; rw [List.take_of_length_le (by omega)] at hm; subst hm; exact ⟨_, rfl, S2.like0, _, _, by rw [put_ok h110], by rw [put_ok h110]; exact S2.own 1 rfl⟩
  ·
    have h110 := Decidable.byContradiction h11
    obtain ⟨hrg, hall⟩ := errV_zero h110
    have v1 := vr_len4 b.toNat (by omega)
    have v2 := vr_len4 t.toNat (by omega)
    refine T_skip ?_
    refine hK3 _ _ ?_
    refine T_seq fun K6 hK6 => ?_
    refine T_drawnX (fun w => Blk w b1 30 (scA b t A n c)) hmix (by kernel_rfl) (fun w l => (S2.like l).blk 0 rfl) fun w3 l3 => ?_
    have S3 := S2.like l3
    refine DX_y 0 (by kernel_rfl) rfl (y_fieldA 0 Try.underlying30 rfl sz3 rfl rfl rfl) rfl ?_
    refine DX_y 1 (by kernel_rfl) rfl (y_of fun w hw => y_ldc Try.underlying3 rfl rfl (((hw).cell _).trans (by rfl))) rfl ?_
    refine DX_y 2 (by kernel_rfl) rfl (y_conv is3 Try.underlying65 rfl (i_u64 (by omega) (by omega))) rfl ?_
    refine DX_y 4 (by kernel_rfl) rfl (y_fieldA 1 Try.underlying30 rfl sz3 rfl rfl rfl) rfl ?_
    refine DX_y 5 (by kernel_rfl) rfl (y_of fun w hw => y_ldc Try.underlying3 rfl rfl (((hw).cell _).trans (by rfl))) rfl ?_
    refine DX_y 6 (by kernel_rfl) rfl (y_conv is3 Try.underlying65 rfl (i_u64 (by omega) (by omega))) rfl ?_
    refine DX_o1 3 (by kernel_rfl) rfl ?_
    refine o_call Try.func35 rfl rfl (refvar b.toNat w3 (by omega)) rfl rfl ?_
    rintro e4 w4 ⟨v4, rfl, l4, A16, m16, c16, rfl, O4⟩
    refine ⟨_, rfl, ?_⟩
    have S4 := S3.adopt l4 O4
    refine ⟨S4.blk 0 rfl, ?_⟩
    refine DX_o1 7 (by kernel_rfl) rfl ?_
    refine o_call Try.func35 rfl rfl (refvar t.toNat w4 (by omega)) rfl rfl ?_
    rintro e5 w5 ⟨v5, rfl, l5, A20, m20, c20, rfl, O5⟩
    refine ⟨_, rfl, ?_⟩
    have S5 := S4.adopt l5 O5
    refine ⟨S5.blk 0 rfl, ?_⟩
    refine DX_o1 8 (by kernel_rfl) rfl ?_
    refine o_bsl [_, _] te96 zz22 S5 rfl rfl rfl rfl rfl rfl rfl rfl fun b6 w6 S6 => ?_
    refine ⟨S6.blk 0 rfl, ?_⟩
    refine DX_o1 9 (by kernel_rfl) rfl ?_
    refine o_call Try.func34 rfl rfl (rjoin _ 2 2 [⟨A16, m16, c16, (vr b.toNat)⟩, ⟨A20, m20, c20, (vr t.toNat)⟩] w6 (S6.row 3 rfl) (okP.cons (p := ⟨A16, m16, c16, (vr b.toNat)⟩) (S6.row 1 rfl) (by have h9 := (S6.row 1 rfl).lenb; show m16 ≤ 100000; omega) (okP.cons (p := ⟨A20, m20, c20, (vr t.toNat)⟩) (S6.row 2 rfl) (by have h9 := (S6.row 2 rfl).lenb; show m20 ≤ 100000; omega) (okP.nil _ _))) (by omega)) rfl rfl ?_
    rintro e7 w7 ⟨v7, rfl, l7, A22, c22, rfl, O7⟩
    refine ⟨_, rfl, ?_⟩
    have S7 := S6.adopt l7 O7
    refine ⟨S7.blk 0 rfl, ?_⟩
    refine DX_y 10 (by kernel_rfl) rfl (y_assign rfl) rfl ?_
    refine DX_nil (by kernel_rfl) ?_
    refine hK6 _ _ ?_
    refine T_seq fun K7 hK7 => ?_
    refine T_seq fun K8 hK8 => ?_
    refine T_region ?_
    refine L_y (y_assign rfl) rfl ?_
    refine L_nil ?_
    refine hK8 _ _ ?_
    refine T_block ?_
    refine T_loop5 [(1, _)] (fun (k : Nat) (left : Int) (m : List UInt8) (A1 : Option Addr) (c1 : Nat) => [(6, .int .i64 (k : Int)), (5, .slice A1 m.length c1)]) (fun (k : Nat) (left : Int) (m : List UInt8) (A1 : Option Addr) (c1 : Nat) => n - k) (fun (k : Nat) (left : Int) (m : List UInt8) (A1 : Option Addr) (c1 : Nat) (w : World) => (k ≤ n ∧ 0 ≤ left ∧ left ≤ 4000 ∧ chkL b left ((l.map OP.v).drop k) = true ∧ m = encV b t ((l.take k).map OP.v) ∧ m.length + left.toNat ≤ 4020 + 21 * k) ∧ St w0 noM [blk b1 30 (scA b t A n c), row 5 1 A1 m.length c1 (bL m)] w) 0 t (catP [⟨A16, m16, c16, (vr b.toNat)⟩, ⟨A20, m20, c20, (vr t.toNat)⟩]) A22 c22 (Sub.cons rfl (by first | rfl | exact congrArg (Value.int _) (by omega)) (Sub.cons rfl (by first | rfl | exact congrArg (Value.int _) (by omega)) (Sub.nil _))) (Sub.cons rfl rfl (Sub.nil _)) ?_ ?_
    ·
      have S90 := S7.sel [0, 4] (by decide)
      exact ⟨⟨Nat.zero_le _, by omega, by omega, hall, by simp [encV, catP], by simp [catP]; omega⟩, S90⟩
    ·
      intro k left m A1 c1 w8 hrel
      obtain ⟨⟨hk, hl0, hl1, hch, hm, hml⟩, S8⟩ := hrel
      refine T_seq fun K9 hK9 => ?_
      refine T_seq fun K10 hK10 => ?_
      refine T_region ?_
      refine L_y (y_move rfl) rfl ?_
      refine L_y (y_fieldA 2 Try.underlying30 rfl sz28 rfl rfl rfl) rfl ?_
      refine L_y (y_ldc Try.underlying28 rfl rfl (((S8.blk 0 rfl).cell _).trans (by rfl))) rfl ?_
      refine L_y (y_len Try.underlying28 rfl) rfl ?_
      refine L_y (y_lss rfl rfl) rfl ?_
      refine L_nil ?_
      refine hK10 _ _ ?_
      refine T_cond rfl (fun h27 => ?_) (fun h27 => ?_)
      ·
        obtain ⟨o, ho⟩ : ∃ o, l[k]? = some o := ⟨_, List.getElem?_eq_getElem (by omega)⟩
        have hop := hok o (List.mem_of_getElem? ho)
        have hopn := hop.lenb; have hopc := hop.cap; have hopm := hop.max
        obtain ⟨hrt, hsz, hrest⟩ := chkL_next ho hch
        have hs1 := sz_nonneg hrt
        refine T_skip ?_
        refine hK9 _ _ ?_
        refine T_seq fun K11 hK11 => ?_
        refine T_block ?_
        refine T_seq fun K12 hK12 => ?_
        refine T_region ?_
        refine L_y (y_fieldA 2 Try.underlying30 rfl sz28 rfl rfl rfl) rfl ?_
        refine L_y (y_ldc Try.underlying28 rfl rfl (((S8.blk 0 rfl).cell _).trans (by rfl))) rfl ?_
        refine L_y (y_move rfl) rfl ?_
        refine L_y (y_idx Try.underlying28 sz58 rfl rfl (S8.rd hl) (Nt.mk (by omega) : Nt _ (k)) (by omega)) rfl ?_
        refine L_y (y_ldp (f := opf) opf_len Try.underlying58 rfl sz58 rfl (S8.rd hl) (by omega) ho) rfl ?_
        refine L_o (o_alloc zz58 S8 rfl fun b9 w9 hb9 S9 => ?_)
        refine L_o (o_stW S9 2 rfl rfl rfl sz58 rfl (opf_one o) fun w10 S10 => ?_)
        refine L_nil ?_
        refine hK12 _ _ ?_
        refine T_seq fun K13 hK13 => ?_
        refine T_region ?_
        refine L_y (y_fieldA 0 Try.underlying58 rfl sz4 rfl rfl rfl) rfl ?_
        refine L_y (y_ldc Try.underlying4 rfl rfl (((S10.blk 2 rfl).cell _).trans (by rfl))) rfl ?_
        refine L_nil ?_
        refine hK13 _ _ ?_
        refine T_condB rfl (fun h36 => ?_) (fun h36 => ?_)
        ·
          have hcp : o.cp = true := h36
          obtain ⟨g1, g2, g3, g4, g5⟩ := rt_cp hrt hcp
          have v3 := vr_len4 o.fr.toNat (by omega)
          have v4 := vr_len4 o.n.toNat (by omega)
          refine T_drawnX (fun w => Blk w b9 58 (opf o).toArray) hmix (by kernel_rfl) (fun w l => (S10.like l).blk 2 rfl) fun w11 l11 => ?_
          have S11 := S10.like l11
          refine DX_y 0 (by kernel_rfl) rfl (y_move rfl) rfl ?_
          refine DX_y 2 (by kernel_rfl) rfl (y_fieldA 1 Try.underlying58 rfl sz3 rfl rfl rfl) rfl ?_
          refine DX_y 3 (by kernel_rfl) rfl (y_of fun w hw => y_ldc Try.underlying3 rfl rfl (((hw).cell _).trans (by rfl))) rfl ?_
          refine DX_y 4 (by kernel_rfl) rfl (y_conv is3 Try.underlying65 rfl (i_u64 (by omega) (by omega))) rfl ?_
          refine DX_y 6 (by kernel_rfl) rfl (y_fieldA 2 Try.underlying58 rfl sz3 rfl rfl rfl) rfl ?_
          refine DX_y 7 (by kernel_rfl) rfl (y_of fun w hw => y_ldc Try.underlying3 rfl rfl (((hw).cell _).trans (by rfl))) rfl ?_
          refine DX_y 8 (by kernel_rfl) rfl (y_conv is3 Try.underlying65 rfl (i_u64 (by omega) (by omega))) rfl ?_
          refine DX_o2 1 5 (by kernel_rfl) rfl rfl ?_ ?_
          ·
            refine o_bsl [_] te22 zz5 S11 rfl rfl rfl rfl rfl rfl rfl rfl fun b12 w12 S12 => ?_
            refine ⟨S12.blk 2 rfl, ?_⟩
            refine DX_o1 5 (by kernel_rfl) rfl ?_
            refine o_call Try.func35 rfl rfl (refvar o.fr.toNat w12 (by omega)) rfl rfl ?_
            rintro e13 w13 ⟨v13, rfl, l13, A42, m42, c42, rfl, O13⟩
            refine ⟨_, rfl, ?_⟩
            have S13 := S12.adopt l13 O13
            refine ⟨S13.blk 2 rfl, ?_⟩
            refine DX_o1 9 (by kernel_rfl) rfl ?_
            refine o_call Try.func35 rfl rfl (refvar o.n.toNat w13 (by omega)) rfl rfl ?_
            rintro e14 w14 ⟨v14, rfl, l14, A46, m46, c46, rfl, O14⟩
            refine ⟨_, rfl, ?_⟩
            have S14 := S13.adopt l14 O14
            refine ⟨S14.blk 2 rfl, ?_⟩
            refine DX_o1 10 (by kernel_rfl) rfl ?_
            refine o_bsl [_, _, _, _] te96 zz22 S14 rfl rfl rfl rfl rfl rfl rfl rfl fun b15 w15 S15 => ?_
            refine ⟨S15.blk 2 rfl, ?_⟩
            refine DX_o1 11 (by kernel_rfl) rfl ?_
            refine o_call Try.func34 rfl rfl (rjoin _ 4 4 [⟨A1, m.length, c1, m⟩, ⟨_, 1, 1, [1]⟩, ⟨A42, m42, c42, (vr o.fr.toNat)⟩, ⟨A46, m46, c46, (vr o.n.toNat)⟩] w15 (S15.row 6 rfl) (okP.cons (p := ⟨A1, m.length, c1, m⟩) (S15.row 1 rfl) (by show m.length ≤ 100000; omega) (okP.cons (p := ⟨_, 1, 1, [1]⟩) (S15.row 3 rfl) (by show 1 ≤ 100000; omega) (okP.cons (p := ⟨A42, m42, c42, (vr o.fr.toNat)⟩) (S15.row 4 rfl) (by have h9 := (S15.row 4 rfl).lenb; show m42 ≤ 100000; omega) (okP.cons (p := ⟨A46, m46, c46, (vr o.n.toNat)⟩) (S15.row 5 rfl) (by have h9 := (S15.row 5 rfl).lenb; show m46 ≤ 100000; omega) (okP.nil _ _))))) (by omega)) rfl rfl ?_
            rintro e16 w16 ⟨v16, rfl, l16, A48, c48, rfl, O16⟩
            refine ⟨_, rfl, ?_⟩
            have S16 := S15.adopt l16 O16
            refine ⟨S16.blk 2 rfl, ?_⟩
            refine DX_y 12 (by kernel_rfl) rfl (y_assign rfl) rfl ?_
            refine DX_nil (by kernel_rfl) ?_
            refine hK11 _ _ ?_
            refine T_region ?_
            refine L_y (y_move rfl) rfl ?_
            refine L_y (y_add rfl rfl (i64w (by omega))) rfl ?_
            refine L_y (y_assign rfl) rfl ?_
            refine L_nil ?_
            have S91 := S16.sel [0, 7] (by decide)
            refine ⟨k + 1, left - szV o.v, _, _, _, by omega, ⟨⟨by omega, by omega, by omega, hrest, by rw [enc_step ho, enc_cp hcp, ← hm]; simp [catP, ByteArray.size], by have := vr_len4 o.fr.toNat (by omega); have := vr_len4 o.n.toNat (by omega); simp [catP]; omega⟩, S91⟩, ?_⟩
            exact (Sub.cons rfl (by first | rfl | exact congrArg (Value.int _) (by omega)) (Sub.cons rfl rfl (Sub.cons rfl rfl (Sub.nil _))))
          ·
            refine o_call Try.func35 rfl rfl (refvar o.fr.toNat w11 (by omega)) rfl rfl ?_
            rintro e17 w17 ⟨v17, rfl, l17, A42, m42, c42, rfl, O17⟩
            refine ⟨_, rfl, ?_⟩
            have S17 := S11.adopt l17 O17
            refine ⟨S17.blk 2 rfl, ?_⟩
            refine DX_o2 1 9 (by kernel_rfl) rfl rfl ?_ ?_
            ·
              refine o_bsl [_] te22 zz5 S17 rfl rfl rfl rfl rfl rfl rfl rfl fun b18 w18 S18 => ?_
              refine ⟨S18.blk 2 rfl, ?_⟩
              refine DX_o1 9 (by kernel_rfl) rfl ?_
              refine o_call Try.func35 rfl rfl (refvar o.n.toNat w18 (by omega)) rfl rfl ?_
              rintro e19 w19 ⟨v19, rfl, l19, A46, m46, c46, rfl, O19⟩
              refine ⟨_, rfl, ?_⟩
              have S19 := S18.adopt l19 O19
              refine ⟨S19.blk 2 rfl, ?_⟩
              refine DX_o1 10 (by kernel_rfl) rfl ?_
              refine o_bsl [_, _, _, _] te96 zz22 S19 rfl rfl rfl rfl rfl rfl rfl rfl fun b20 w20 S20 => ?_
              refine ⟨S20.blk 2 rfl, ?_⟩
              refine DX_o1 11 (by kernel_rfl) rfl ?_
              refine o_call Try.func34 rfl rfl (rjoin _ 4 4 [⟨A1, m.length, c1, m⟩, ⟨_, 1, 1, [1]⟩, ⟨A42, m42, c42, (vr o.fr.toNat)⟩, ⟨A46, m46, c46, (vr o.n.toNat)⟩] w20 (S20.row 6 rfl) (okP.cons (p := ⟨A1, m.length, c1, m⟩) (S20.row 1 rfl) (by show m.length ≤ 100000; omega) (okP.cons (p := ⟨_, 1, 1, [1]⟩) (S20.row 4 rfl) (by show 1 ≤ 100000; omega) (okP.cons (p := ⟨A42, m42, c42, (vr o.fr.toNat)⟩) (S20.row 3 rfl) (by have h9 := (S20.row 3 rfl).lenb; show m42 ≤ 100000; omega) (okP.cons (p := ⟨A46, m46, c46, (vr o.n.toNat)⟩) (S20.row 5 rfl) (by have h9 := (S20.row 5 rfl).lenb; show m46 ≤ 100000; omega) (okP.nil _ _))))) (by omega)) rfl rfl ?_
              rintro e21 w21 ⟨v21, rfl, l21, A48, c48, rfl, O21⟩
              refine ⟨_, rfl, ?_⟩
              have S21 := S20.adopt l21 O21
              refine ⟨S21.blk 2 rfl, ?_⟩
              refine DX_y 12 (by kernel_rfl) rfl (y_assign rfl) rfl ?_
              refine DX_nil (by kernel_rfl) ?_
              refine hK11 _ _ ?_
              refine T_region ?_
              refine L_y (y_move rfl) rfl ?_
              refine L_y (y_add rfl rfl (i64w (by omega))) rfl ?_
              refine L_y (y_assign rfl) rfl ?_
              refine L_nil ?_
              have S91 := S21.sel [0, 7] (by decide)
              refine ⟨k + 1, left - szV o.v, _, _, _, by omega, ⟨⟨by omega, by omega, by omega, hrest, by rw [enc_step ho, enc_cp hcp, ← hm]; simp [catP, ByteArray.size], by have := vr_len4 o.fr.toNat (by omega); have := vr_len4 o.n.toNat (by omega); simp [catP]; omega⟩, S91⟩, ?_⟩
              exact (Sub.cons rfl (by first | rfl | exact congrArg (Value.int _) (by omega)) (Sub.cons rfl rfl (Sub.cons rfl rfl (Sub.nil _))))
            ·
              refine o_call Try.func35 rfl rfl (refvar o.n.toNat w17 (by omega)) rfl rfl ?_
              rintro e22 w22 ⟨v22, rfl, l22, A46, m46, c46, rfl, O22⟩
              refine ⟨_, rfl, ?_⟩
              have S22 := S17.adopt l22 O22
              refine ⟨S22.blk 2 rfl, ?_⟩
              refine DX_o1 1 (by kernel_rfl) rfl ?_
              refine o_bsl [_] te22 zz5 S22 rfl rfl rfl rfl rfl rfl rfl rfl fun b23 w23 S23 => ?_
              refine ⟨S23.blk 2 rfl, ?_⟩
              refine DX_o1 10 (by kernel_rfl) rfl ?_
              refine o_bsl [_, _, _, _] te96 zz22 S23 rfl rfl rfl rfl rfl rfl rfl rfl fun b24 w24 S24 => ?_
              refine ⟨S24.blk 2 rfl, ?_⟩
              refine DX_o1 11 (by kernel_rfl) rfl ?_
              refine o_call Try.func34 rfl rfl (rjoin _ 4 4 [⟨A1, m.length, c1, m⟩, ⟨_, 1, 1, [1]⟩, ⟨A42, m42, c42, (vr o.fr.toNat)⟩, ⟨A46, m46, c46, (vr o.n.toNat)⟩] w24 (S24.row 6 rfl) (okP.cons (p := ⟨A1, m.length, c1, m⟩) (S24.row 1 rfl) (by show m.length ≤ 100000; omega) (okP.cons (p := ⟨_, 1, 1, [1]⟩) (S24.row 5 rfl) (by show 1 ≤ 100000; omega) (okP.cons (p := ⟨A42, m42, c42, (vr o.fr.toNat)⟩) (S24.row 3 rfl) (by have h9 := (S24.row 3 rfl).lenb; show m42 ≤ 100000; omega) (okP.cons (p := ⟨A46, m46, c46, (vr o.n.toNat)⟩) (S24.row 4 rfl) (by have h9 := (S24.row 4 rfl).lenb; show m46 ≤ 100000; omega) (okP.nil _ _))))) (by omega)) rfl rfl ?_
              rintro e25 w25 ⟨v25, rfl, l25, A48, c48, rfl, O25⟩
              refine ⟨_, rfl, ?_⟩
              have S25 := S24.adopt l25 O25
              refine ⟨S25.blk 2 rfl, ?_⟩
              refine DX_y 12 (by kernel_rfl) rfl (y_assign rfl) rfl ?_
              refine DX_nil (by kernel_rfl) ?_
              refine hK11 _ _ ?_
              refine T_region ?_
              refine L_y (y_move rfl) rfl ?_
              refine L_y (y_add rfl rfl (i64w (by omega))) rfl ?_
              refine L_y (y_assign rfl) rfl ?_
              refine L_nil ?_
              have S91 := S25.sel [0, 7] (by decide)
              refine ⟨k + 1, left - szV o.v, _, _, _, by omega, ⟨⟨by omega, by omega, by omega, hrest, by rw [enc_step ho, enc_cp hcp, ← hm]; simp [catP, ByteArray.size], by have := vr_len4 o.fr.toNat (by omega); have := vr_len4 o.n.toNat (by omega); simp [catP]; omega⟩, S91⟩, ?_⟩
              exact (Sub.cons rfl (by first | rfl | exact congrArg (Value.int _) (by omega)) (Sub.cons rfl rfl (Sub.cons rfl rfl (Sub.nil _))))
        ·
          have hcp : o.cp = false := h36
          obtain ⟨g1, g2⟩ := rt_new hrt hcp
          have v3 := vr_len4 o.p.l.length (by omega)
          refine T_region ?_
          refine L_y (y_move rfl) rfl ?_
          refine L_o (o_bsl [_] te22 zz5 S10 rfl rfl rfl rfl rfl rfl rfl rfl fun b26 w26 S26 => ?_)
          refine L_y (y_fieldA 3 Try.underlying58 rfl sz22 rfl rfl rfl) rfl ?_
          refine L_y (y_ldc Try.underlying22 rfl rfl (((S26.blk 2 rfl).cell _).trans (by rfl))) rfl ?_
          refine L_y (y_bstr Try.underlying22 Try.underlying5 Try.underlying9 rfl (S26.rd hop)) rfl ?_
          refine L_o (o_call Try.func36 rfl rfl (reftext ⟨o.p.l.toArray⟩ w26 (by simp [ByteArray.size]; omega)) rfl rfl ?_)
          rintro e27 w27 ⟨v27, rfl, l27, A54, m54, c54, rfl, O27⟩
          refine ⟨_, rfl, ?_⟩
          have S27 := S26.adopt l27 O27
          refine L_o (o_bsl [_, _, _] te96 zz22 S27 rfl rfl rfl rfl rfl rfl rfl rfl fun b28 w28 S28 => ?_)
          refine L_o (o_call Try.func34 rfl rfl (rjoin _ 3 3 [⟨A1, m.length, c1, m⟩, ⟨_, 1, 1, [0]⟩, ⟨A54, m54, c54, (vr (ByteArray.size ⟨o.p.l.toArray⟩) ++ (⟨o.p.l.toArray⟩ : ByteArray).data.toList)⟩] w28 (S28.row 5 rfl) (okP.cons (p := ⟨A1, m.length, c1, m⟩) (S28.row 1 rfl) (by show m.length ≤ 100000; omega) (okP.cons (p := ⟨_, 1, 1, [0]⟩) (S28.row 3 rfl) (by show 1 ≤ 100000; omega) (okP.cons (p := ⟨A54, m54, c54, (vr (ByteArray.size ⟨o.p.l.toArray⟩) ++ (⟨o.p.l.toArray⟩ : ByteArray).data.toList)⟩) (S28.row 4 rfl) (by have h9 := (S28.row 4 rfl).lenb; simp [ByteArray.size] at h9; show m54 ≤ 100000; omega) (okP.nil _ _)))) (by omega)) rfl rfl ?_)
          rintro e29 w29 ⟨v29, rfl, l29, A56, c56, rfl, O29⟩
          refine ⟨_, rfl, ?_⟩
          have S29 := S28.adopt l29 O29
          refine L_y (y_assign rfl) rfl ?_
          refine L_nil ?_
          refine hK11 _ _ ?_
          refine T_region ?_
          refine L_y (y_move rfl) rfl ?_
          refine L_y (y_add rfl rfl (i64w (by omega))) rfl ?_
          refine L_y (y_assign rfl) rfl ?_
          refine L_nil ?_
          have S91 := S29.sel [0, 6] (by decide)
          refine ⟨k + 1, left - szV o.v, _, _, _, by omega, ⟨⟨by omega, by omega, by omega, hrest, by rw [enc_step ho, enc_new hcp, ← hm]; simp [catP, ByteArray.size], by have := vr_len4 o.p.l.length (by omega); simp [catP, ByteArray.size]; omega⟩, S91⟩, ?_⟩
          exact (Sub.cons rfl (by first | rfl | exact congrArg (Value.int _) (by omega)) (Sub.cons rfl rfl (Sub.cons rfl rfl (Sub.nil _))))
      ·
        refine T_exit ?_
        refine hK7 _ _ ?_
        refine T_seq fun K14 hK14 => ?_
        refine T_region ?_
        refine L_y (y_move rfl) rfl ?_
        refine L_y (y_assign rfl) rfl ?_
        refine L_y (y_assign rfl) rfl ?_
        refine L_nil ?_
        refine hK14 _ _ ?_
        refine T_ret ?_
        repeat (first | with_reducible refine up_then ?_ | with_reducible refine up_in ?_)
        refine ret2 rfl rfl rfl ?_
        first | exact ⟨_, rfl, S8.like0, none, 0, by rw [put_err h11]; rfl, by rw [put_err h11]; exact World.ownsRow_nil _ _ _ _⟩ | (have hke : k = n := by omega); subst hke; rw [List.take_of_length_le (by omega)] at hm; subst hm; exact ⟨_, rfl, S8.like0, _, _, by rw [put_ok h110], by rw [put_ok h110]; exact S8.own 1 rfl⟩
end Go.Proofs.Ytpcgldkllnkaeaa
