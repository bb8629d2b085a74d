/-
  Put.
-/
import Derived.Test.YtpcgldkllnkaeaaY
namespace Go.Proofs.Ytpcgldkllnkaeaa
open Go.RowKit Zk Zx
set_option linter.unusedVariables false
set_option linter.unusedSimpArgs false

/-- An op as bytes, a script as bytes. -/
def encO (o : OV) : List UInt8 := if o.cp then 1 :: (vr o.fr.toNat ++ vr o.n.toNat) else 0 :: (vr o.l.length ++ o.l)
def encV (b t : Int) (l : List OV) : List UInt8 := vr b.toNat ++ vr t.toNat ++ l.flatMap encO
/-- What putting a script gives. -/
def putR (b t : Int) (l : List OV) : List UInt8 × Int := if errV b t l ≠ 0 then ([], errV b t l) else (encV b t l, 0)
theorem put_err {b t : Int} {l : List OV} (h : errV b t l ≠ 0) : putR b t l = ([], errV b t l) := by unfold putR; rw [if_pos h]
theorem put_ok {b t : Int} {l : List OV} (h : errV b t l = 0) : putR b t l = (encV b t l, 0) := by unfold putR; rw [if_neg (fun x => x h)]
theorem enc_cp {o : OP} (h : o.cp = true) : encO o.v = [1] ++ (vr o.fr.toNat ++ vr o.n.toNat) := by
  unfold encO
  rw [if_pos (show o.v.cp = true from h)]
  rfl
theorem enc_new {o : OP} (h : o.cp = false) : encO o.v = [0] ++ (vr o.p.l.length ++ o.p.l) := by
  unfold encO
  rw [if_neg (show ¬ o.v.cp = true from by rw [show o.v.cp = o.cp from rfl, h]; exact Bool.false_ne_true)]
  rfl
theorem enc_step {b t : Int} {l : List OP} {k : Nat} {o : OP} (ho : l[k]? = some o) : encV b t ((l.take (k + 1)).map OP.v) = encV b t ((l.take k).map OP.v) ++ encO o.v := by
  unfold encV
  rw [take1 ho, List.map_append, List.flatMap_append, List.append_assoc, List.append_assoc, List.append_assoc]
  simp
theorem vr_len4 (x : Nat) (h : x ≤ 5000) : (vr x).length ≤ 2 := vr_len x 1 (by omega)
theorem wt_fresh {w w' : World} {b : Nat} (h : w.heap.size ≤ b) (hw : (wt b none 0 0 []).holds w') : ∀ i, (wt b none 0 0 []).dom i → w.heap.size ≤ i ∧ i < w'.heap.size := fun i hi => by
  refine ⟨?_, wt_lt hw i hi⟩
  rcases hi with hi | hi
  · have hi' : i = b := hi
    omega
  · cases hi
theorem i_u64 {x : Int} (h : 0 ≤ x) (h2 : x ≤ 5000) : IntKind.u64.wrap x = ((x.toNat : Nat) : Int) := by
  rw [IntKind.wrap_u64]
  omega


set_option maxRecDepth 100000 in
theorem pput (A : Option Addr) (n c : Nat) (l : List OP) (b t : Int) (w0 : World) (hl : Rs w0 4 A n c (l.flatMap opf)) (hok : OkO w0 l) (hn4 : n ≤ 4000) :
    Calls Try.prog 18 #[.agg (scA b t A n c)] w0 fun e w' => ∃ u, e = .returned u ∧ Like w0 w' ∧ ∃ A' c', u = .tuple #[.slice A' (putR b t (l.map OP.v)).1.length c', .int .i64 (putR b t (l.map OP.v)).2] ∧ w'.ownsRow w0.heap.size 5 1 (.slice A' (putR b t (l.map OP.v)).1.length c') (putR b t (l.map OP.v)).1.length (bL (putR b t (l.map OP.v)).1) := by
  refine enter1 (env := [(0, .agg (scA b t A n c))]) [.agg (scA b t A n c)] Try.func18 rfl Try.ntmps18 rfl rfl ?_
  have hn := ops_n hl; have hcap := hl.cap; have hmax := hl.max; have S0 := St.start w0 noM
  refine T_seq fun K1 hK1 => ?_
  refine T_region ?_
  refine L_o (o_box rfl S0 rfl fun b1 w1 hb1 S1 => ?_)
  refine L_y (y_assign rfl) rfl ?_
  refine L_y (y_assign rfl) rfl ?_
  refine L_nil ?_
  refine hK1 _ _ ?_
  refine T_seq fun K2 hK2 => ?_
  refine T_seq fun K3 hK3 => ?_
  refine T_region ?_
  refine L_y (y_ldW Try.underlying25 rfl sz25 rfl (S1.blk 0 rfl) (show _ = (scA b t A n c).toList ∧ _ from ⟨rfl, rfl⟩)) rfl ?_
  refine L_o (o_call Try.func20 rfl rfl (pcheck A n c l b t w1 (S1.rd hl) (hok.like S1.like0)) rfl rfl ?_)
  rintro e2 w2 ⟨v2, rfl, l2, rfl⟩
  refine ⟨_, rfl, ?_⟩
  have S2 := S1.like l2
  refine L_y (y_assign rfl) rfl ?_
  refine L_nil ?_
  refine hK3 _ _ ?_
  refine T_seq fun K4 hK4 => ?_
  refine T_region ?_
  refine L_y (y_move rfl) rfl ?_
  refine L_y (y_neq rfl rfl) rfl ?_
  refine L_nil ?_
  refine hK4 _ _ ?_
  refine T_cond rfl (fun h11 => ?_) (fun h11 => ?_)
  ·
    refine T_seq fun K5 hK5 => ?_
    refine T_region ?_
    refine L_y (y_move rfl) rfl ?_
    refine L_y (y_assign rfl) rfl ?_
    refine L_y (y_assign rfl) rfl ?_
    refine L_nil ?_
    refine hK5 _ _ ?_
    refine T_ret ?_
    repeat (first | with_reducible refine up_then ?_ | with_reducible refine up_in ?_)
    refine ret2 rfl rfl rfl ?_
    first | exact ⟨_, rfl, S2.like0, none, 0, by rw [put_err h11]; rfl, by rw [put_err h11]; exact World.ownsRow_nil _ _ _ _⟩ | (have hke : k = n := by omega); subst hke; rw [List.take_of_length_le (by omega)] at hm; have hO := S2.own 2 rfl; have hL := (S2.row 2 rfl).lenb; subst hm; obtain rfl := hL; exact ⟨_, rfl, S2.like0, _, _, by rw [put_ok h110], by rw [put_ok h110]; exact hO⟩
  ·
    have h110 := Decidable.byContradiction h11
    obtain ⟨hrg, hall⟩ := errV_zero h110
    refine T_skip ?_
    refine hK2 _ _ ?_
    refine T_seq fun K6 hK6 => ?_
    refine T_region ?_
    refine L_o (o_call Try.func29 rfl rfl (wnew w2) rfl rfl ?_)
    rintro e3 w3 ⟨v3, rfl, l3, g, rfl, hb3, hh3⟩
    refine ⟨_, rfl, ?_⟩
    have S3 := S2.new l3 _ hh3 (wt_fresh hb3 hh3)
    refine L_y (y_assign rfl) rfl ?_
    refine L_nil ?_
    refine hK6 _ _ ?_
    refine T_seq fun K7 hK7 => ?_
    refine T_region ?_
    refine L_y (y_move rfl) rfl ?_
    refine L_y (y_fieldA 0 Try.underlying25 rfl sz3 rfl rfl rfl) rfl ?_
    refine L_y (y_ldc Try.underlying3 rfl rfl (((S3.blk 0 rfl).cell _).trans (by rfl))) rfl ?_
    refine L_y (y_conv is3 Try.underlying65 rfl (i_u64 (by omega) (by omega))) rfl ?_
    refine L_o (o_call Try.func30 rfl rfl (wvar g _ _ _ _ b.toNat w3 (S3.get 1 rfl) (by omega) (by simp)) rfl rfl ?_)
    rintro e4 w4 ⟨v4, rfl, ⟨A4, n4, c4, T4⟩⟩
    refine ⟨_, rfl, ?_⟩
    have S4 := S3.turn 1 rfl T4
    refine L_nil ?_
    refine hK7 _ _ ?_
    refine T_seq fun K8 hK8 => ?_
    refine T_region ?_
    refine L_y (y_move rfl) rfl ?_
    refine L_y (y_fieldA 1 Try.underlying25 rfl sz3 rfl rfl rfl) rfl ?_
    refine L_y (y_ldc Try.underlying3 rfl rfl (((S4.blk 0 rfl).cell _).trans (by rfl))) rfl ?_
    refine L_y (y_conv is3 Try.underlying65 rfl (i_u64 (by omega) (by omega))) rfl ?_
    refine L_o (o_call Try.func30 rfl rfl (wvar g _ _ _ _ t.toNat w4 (S4.get 1 rfl) (by omega) (by have := vr_len4 b.toNat (by omega); simp; omega)) rfl rfl ?_)
    rintro e5 w5 ⟨v5, rfl, ⟨A23, n23, c23, T5⟩⟩
    refine ⟨_, rfl, ?_⟩
    have S5 := S4.turn 1 rfl T5
    refine L_nil ?_
    refine hK8 _ _ ?_
    refine T_seq fun K9 hK9 => ?_
    refine T_seq fun K10 hK10 => ?_
    refine T_region ?_
    refine L_y (y_fieldA 2 Try.underlying25 rfl sz23 rfl rfl rfl) rfl ?_
    refine L_y (y_ldc Try.underlying23 rfl rfl (((S5.blk 0 rfl).cell _).trans (by rfl))) rfl ?_
    refine L_y (y_len Try.underlying23 rfl) rfl ?_
    refine L_y (y_move rfl) rfl ?_
    refine L_nil ?_
    refine hK10 _ _ ?_
    refine T_block ?_
    refine T_loop6 [(5, _), (25, _), (26, _)] (fun (k : Nat) (left : Int) (m : List UInt8) (A1 : Option Addr) (n1 : Nat) (c1 : Nat) => [(27, .int .i64 (k : Int))]) (fun (k : Nat) (left : Int) (m : List UInt8) (A1 : Option Addr) (n1 : Nat) (c1 : Nat) => n - k) (fun (k : Nat) (left : Int) (m : List UInt8) (A1 : Option Addr) (n1 : Nat) (c1 : Nat) (w : World) => (k ≤ n ∧ 0 ≤ left ∧ left ≤ 4000 ∧ chkL b left ((l.map OP.v).drop k) = true ∧ m = encV b t ((l.take k).map OP.v) ∧ m.length + left.toNat ≤ 4020 + 21 * k) ∧ St w0 noM [blk b1 25 (scA b t A n c), wt g A1 n1 c1 m] w) 0 t ([] ++ vr b.toNat ++ vr t.toNat) A23 n23 c23 (Sub.cons rfl (by first | rfl | exact congrArg (Value.int _) (by omega)) (Sub.nil _)) (Sub.cons rfl rfl (Sub.cons rfl rfl (Sub.cons rfl rfl (Sub.nil _)))) ?_ ?_
    ·
      exact ⟨⟨Nat.zero_le _, by omega, by omega, hall, by simp [encV], by have := vr_len4 b.toNat (by omega); have := vr_len4 t.toNat (by omega); simp; omega⟩, S5⟩
    ·
      intro k left m A1 n1 c1 w6 hrel
      obtain ⟨⟨hk, hl0, hl1, hch, hm, hml⟩, S6⟩ := hrel
      refine T_seq fun K11 hK11 => ?_
      refine T_region ?_
      refine L_y (y_lss rfl rfl) rfl ?_
      refine L_nil ?_
      refine hK11 _ _ ?_
      refine T_seq fun K12 hK12 => ?_
      refine T_cond rfl (fun h28 => ?_) (fun h28 => ?_)
      ·
        obtain ⟨o, ho⟩ : ∃ o, l[k]? = some o := ⟨_, List.getElem?_eq_getElem (by omega)⟩
        have hop := hok o (List.mem_of_getElem? ho)
        have hopn := hop.lenb; have hopc := hop.cap; have hopm := hop.max
        obtain ⟨hrt, hsz, hrest⟩ := chkL_next ho hch
        have hs1 := sz_nonneg hrt
        refine T_skip ?_
        refine hK12 _ _ ?_
        refine T_seq fun K13 hK13 => ?_
        refine T_block ?_
        refine T_seq fun K14 hK14 => ?_
        refine T_region ?_
        refine L_y (y_idx Try.underlying23 sz57 rfl rfl (S6.rd hl) (Nt.mk (by omega) : Nt _ (k)) (by omega)) rfl ?_
        refine L_y (y_ldp (f := opf) opf_len Try.underlying57 rfl sz57 rfl (S6.rd hl) (by omega) ho) rfl ?_
        refine L_o (o_alloc zz57 S6 rfl fun b7 w7 hb7 S7 => ?_)
        refine L_o (o_stW S7 2 rfl rfl rfl sz57 rfl (opf_one o) fun w8 S8 => ?_)
        refine L_nil ?_
        refine hK14 _ _ ?_
        refine T_seq fun K15 hK15 => ?_
        refine T_region ?_
        refine L_y (y_fieldA 0 Try.underlying57 rfl sz4 rfl rfl rfl) rfl ?_
        refine L_y (y_ldc Try.underlying4 rfl rfl (((S8.blk 2 rfl).cell _).trans (by rfl))) rfl ?_
        refine L_nil ?_
        refine hK15 _ _ ?_
        refine T_condB rfl (fun h32 => ?_) (fun h32 => ?_)
        ·
          have hcp : o.cp = true := h32
          obtain ⟨g1, g2, g3, g4, g5⟩ := rt_cp hrt hcp
          refine T_seq fun K16 hK16 => ?_
          refine T_region ?_
          refine L_y (y_move rfl) rfl ?_
          refine L_o (o_call Try.func31 rfl rfl (wbyte g _ _ _ _ 1 w8 (S8.get 1 rfl) (by omega)) rfl rfl ?_)
          rintro e9 w9 ⟨v9, rfl, ⟨A9, n9, c9, T9⟩⟩
          refine ⟨_, rfl, ?_⟩
          have S9 := S8.turn 1 rfl T9
          refine L_nil ?_
          refine hK16 _ _ ?_
          refine T_seq fun K17 hK17 => ?_
          refine T_region ?_
          refine L_y (y_move rfl) rfl ?_
          refine L_y (y_fieldA 1 Try.underlying57 rfl sz3 rfl rfl rfl) rfl ?_
          refine L_y (y_ldc Try.underlying3 rfl rfl (((S9.blk 2 rfl).cell _).trans (by rfl))) rfl ?_
          refine L_y (y_conv is3 Try.underlying65 rfl (i_u64 (by omega) (by omega))) rfl ?_
          refine L_o (o_call Try.func30 rfl rfl (wvar g _ _ _ _ o.fr.toNat w9 (S9.get 1 rfl) (by omega) (by simp; omega)) rfl rfl ?_)
          rintro e10 w10 ⟨v10, rfl, ⟨A10, n10, c10, T10⟩⟩
          refine ⟨_, rfl, ?_⟩
          have S10 := S9.turn 1 rfl T10
          refine L_nil ?_
          refine hK17 _ _ ?_
          refine T_region ?_
          refine L_y (y_move rfl) rfl ?_
          refine L_y (y_fieldA 2 Try.underlying57 rfl sz3 rfl rfl rfl) rfl ?_
          refine L_y (y_ldc Try.underlying3 rfl rfl (((S10.blk 2 rfl).cell _).trans (by rfl))) rfl ?_
          refine L_y (y_conv is3 Try.underlying65 rfl (i_u64 (by omega) (by omega))) rfl ?_
          refine L_o (o_call Try.func30 rfl rfl (wvar g _ _ _ _ o.n.toNat w10 (S10.get 1 rfl) (by omega) (by have := vr_len4 o.fr.toNat (by omega); simp; omega)) rfl rfl ?_)
          rintro e11 w11 ⟨v11, rfl, ⟨A11, n11, c11, T11⟩⟩
          refine ⟨_, rfl, ?_⟩
          have S11 := S10.turn 1 rfl T11
          refine L_nil ?_
          refine hK13 _ _ ?_
          refine T_region ?_
          refine L_y (y_add rfl rfl (i64w (by omega))) rfl ?_
          refine L_y (y_move rfl) rfl ?_
          refine L_nil ?_
          have S91 := S11.drop (rs' := [_, _]) (.cons_cons _ (.cons_cons _ (.cons _ (.refl _))))
          refine ⟨k + 1, left - szV o.v, _, _, _, _, by omega, ⟨⟨by omega, by omega, by omega, hrest, by rw [hm, enc_step ho, enc_cp hcp]; simp [List.append_assoc, ByteArray.size], by have := vr_len4 o.fr.toNat (by omega); have := vr_len4 o.n.toNat (by omega); simp; omega⟩, S91⟩, ?_⟩
          exact (Sub.cons rfl (by first | rfl | exact congrArg (Value.int _) (by omega)) (Sub.cons rfl rfl (Sub.cons rfl rfl (Sub.cons rfl rfl (Sub.nil _)))))
        ·
          have hcp : o.cp = false := h32
          obtain ⟨g1, g2⟩ := rt_new hrt hcp
          refine T_seq fun K18 hK18 => ?_
          refine T_region ?_
          refine L_y (y_move rfl) rfl ?_
          refine L_o (o_call Try.func31 rfl rfl (wbyte g _ _ _ _ 0 w8 (S8.get 1 rfl) (by omega)) rfl rfl ?_)
          rintro e12 w12 ⟨v12, rfl, ⟨A12, n12, c12, T12⟩⟩
          refine ⟨_, rfl, ?_⟩
          have S12 := S8.turn 1 rfl T12
          refine L_nil ?_
          refine hK18 _ _ ?_
          refine T_region ?_
          refine L_y (y_move rfl) rfl ?_
          refine L_y (y_fieldA 3 Try.underlying57 rfl sz22 rfl rfl rfl) rfl ?_
          refine L_y (y_ldc Try.underlying22 rfl rfl (((S12.blk 2 rfl).cell _).trans (by rfl))) rfl ?_
          refine L_y (y_bstr Try.underlying22 Try.underlying5 Try.underlying9 rfl (S12.rd hop)) rfl ?_
          refine L_o (o_call Try.func32 rfl rfl (wtext g _ _ _ _ ⟨o.p.l.toArray⟩ w12 (S12.get 1 rfl) (by simp [ByteArray.size]; omega)) rfl rfl ?_)
          rintro e13 w13 ⟨v13, rfl, ⟨A13, n13, c13, T13⟩⟩
          refine ⟨_, rfl, ?_⟩
          have S13 := S12.turn 1 rfl T13
          refine L_nil ?_
          refine hK13 _ _ ?_
          refine T_region ?_
          refine L_y (y_add rfl rfl (i64w (by omega))) rfl ?_
          refine L_y (y_move rfl) rfl ?_
          refine L_nil ?_
          have S91 := S13.drop (rs' := [_, _]) (.cons_cons _ (.cons_cons _ (.cons _ (.refl _))))
          refine ⟨k + 1, left - szV o.v, _, _, _, _, by omega, ⟨⟨by omega, by omega, by omega, hrest, by rw [hm, enc_step ho, enc_new hcp]; simp [List.append_assoc, ByteArray.size], by have := vr_len4 o.p.l.length (by omega); simp [ByteArray.size]; omega⟩, S91⟩, ?_⟩
          exact (Sub.cons rfl (by first | rfl | exact congrArg (Value.int _) (by omega)) (Sub.cons rfl rfl (Sub.cons rfl rfl (Sub.cons rfl rfl (Sub.nil _)))))
      ·
        refine T_exit ?_
        refine hK9 _ _ ?_
        refine T_seq fun K19 hK19 => ?_
        refine T_region ?_
        refine L_y (y_move rfl) rfl ?_
        refine L_o (o_call Try.func33 rfl rfl (wbytes g _ _ _ _ w6 (S6.get 1 rfl) (by omega)) rfl rfl ?_)
        rintro e14 w14 ⟨v14, rfl, l14, A14, m14, c14, rfl, O14⟩
        refine ⟨_, rfl, ?_⟩
        have S14 := S6.adopt l14 O14
        refine L_y (y_assign rfl) rfl ?_
        refine L_y (y_assign rfl) rfl ?_
        refine L_nil ?_
        refine hK19 _ _ ?_
        refine T_ret ?_
        repeat (first | with_reducible refine up_then ?_ | with_reducible refine up_in ?_)
        refine ret2 rfl rfl rfl ?_
        first | exact ⟨_, rfl, S14.like0, none, 0, by rw [put_err h11]; rfl, by rw [put_err h11]; exact World.ownsRow_nil _ _ _ _⟩ | (have hke : k = n := by omega); subst hke; rw [List.take_of_length_le (by omega)] at hm; have hO := S14.own 2 rfl; have hL := (S14.row 2 rfl).lenb; subst hm; obtain rfl := hL; exact ⟨_, rfl, S14.like0, _, _, by rw [put_ok h110], by rw [put_ok h110]; exact hO⟩
end Go.Proofs.Ytpcgldkllnkaeaa
