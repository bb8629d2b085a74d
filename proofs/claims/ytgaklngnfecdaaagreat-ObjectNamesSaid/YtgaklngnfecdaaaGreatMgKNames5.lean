import Derived.Test.YtgaklngnfecdaaaGreatMgKNames4
import Derived.Test.YtgaklngnfecdaaaGreatMgKNames3

/-
  An entry taken off bytes.
-/
namespace Go.Proofs.YtgaklngnfecdaaaGreat.Obj
open Go.RowKit Zk Zx
open Oid (idf idf_len)
open Tre (nmOk EV enf enf_len mdOk chkE)
open Rev (cutF cutF_some cutF_none)
set_option linter.unusedVariables false
set_option linter.unusedSimpArgs false

theorem OneV.good {a : Addr} {n c : Nat} {b p q : List UInt8} {nm : ByteArray} {md : Int} {id : List UInt8} {A : Option Addr} {k cp : Nat} (hi : id.length = 32) (e : oneC b = (0, p, q)) (hn : nm = ⟨p.toArray⟩) (hm : md = ((b.getD 0 0).toNat : Int) - 48) (hR : ∀ W, Rs W 1 (some a) n c (bL b) → Rs W 1 A k cp (bL q)) : OneV a n c b (.tuple #[.agg (ef nm md id).toArray, .slice A k cp, .int .i64 0]) :=
  ⟨nm, md, id, A, k, cp, hi, by rw [e], fun _ => ⟨by rw [e]; exact hn, hm, fun W hW => by rw [e]; exact hR W hW⟩⟩
theorem cut_drop {t p q : List UInt8} (h : cutF 0 t = some (p, q)) : t.drop (p.length + 1) = q ∧ t.take p.length = p ∧ t.length = p.length + 1 + q.length := by
  have h9 := (cutF_some h).1
  refine ⟨?_, ?_, ?_⟩
  · rw [h9, ← List.drop_drop, List.drop_append_of_le_length (Nat.le_refl _), List.drop_of_length_le (Nat.le_refl _)]; rfl
  · rw [h9, List.take_append_of_le_length (Nat.le_refl _), List.take_of_length_le (Nat.le_refl _)]
  · rw [h9, List.length_append, List.length_cons]; omega
theorem bL_takeN (l : List UInt8) (k : Nat) : (bL l).take k = bL (l.take k) := by unfold bL; rw [List.map_take]
theorem nat32 {s : UInt8} (h : ¬ (s.toNat : Int) ≠ 32) : s = 32 := UInt8.toNat_inj.1 (by show s.toNat = 32; omega)


set_option maxRecDepth 100000 in
theorem one1 (a : Addr) (n c : Nat) (m : UInt8) (r : List UInt8) (w0 : World) (hb : Rs w0 1 (some a) n c (bL (m :: r))) (p q : List UInt8) (hcf0 : cutF 0 ((m :: r).drop 2) = some (p, q)) :
    Calls Tryz.prog 106 #[.slice (some a) n c] w0 fun e w' => ∃ u, e = .returned u ∧ Like w0 w' ∧ OneV a n c (m :: r) u := by
  refine enter1 (env := [(0, .slice (some a) n c)]) [.slice (some a) n c] Tryz.func106 rfl Tryz.ntmps106 rfl rfl ?_
  have hl := hb.lenb; have hcap := hb.cap; have hmax := hb.max; have hm9 := m.toNat_lt; have hl1 : 1 ≤ n := by rw [← hl]; simp
  have S0 := St.start w0 noM
  refine T_seq fun K1 hK1 => ?_
  refine T_region ?_
  refine L_o (o_alloc zz149 S0 rfl fun b1 w1 hb1 S1 => ?_)
  have S2 : Zx.St w0 noM [blk b1 149 (ef ⟨#[]⟩ 0 zB).toArray] w1 := S1.cast (by kernel_rfl)
  refine L_y (y_assign rfl) rfl ?_
  refine L_y (y_assign rfl) rfl ?_
  refine L_nil ?_
  refine hK1 _ _ ?_
  refine T_seq fun K2 hK2 => ?_
  refine T_region ?_
  refine L_o (o_alloc zz149 S2 rfl fun b3 w3 hb3 S3 => ?_)
  have S4 : Zx.St w0 noM [blk b1 149 (ef ⟨#[]⟩ 0 zB).toArray, blk b3 149 (ef ⟨#[]⟩ 0 zB).toArray] w3 := S3.cast (by kernel_rfl)
  refine L_nil ?_
  refine hK2 _ _ ?_
  refine T_seq fun K3 hK3 => ?_
  refine T_region ?_
  refine L_y (y_move rfl) rfl ?_
  refine L_y (y_idx Tryz.underlying22 sz5 rfl rfl (by first | exact S4.rd hb) inferInstance (by omega)) rfl ?_
  refine L_y (y_ldr Tryz.underlying5 rfl rfl (S4.rd hb) (bL_get _ _ _ (rfl : (m :: r)[0]? = some m))) rfl ?_
  refine L_y (y_conv is5 Tryz.underlying3 rfl (i64w (by omega))) rfl ?_
  refine L_y (y_sub rfl rfl (i64w (by omega))) rfl ?_
  refine L_y (y_fieldA 1 Tryz.underlying149 rfl sz3 rfl rfl rfl) rfl ?_
  refine L_o (o_st1 S4 1 rfl rfl rfl rfl sz3 (by rw [List.size_toArray, ef_len _ _ zB_len]; omega) fun w5 S5 => ?_)
  have S90 := S5.blkc 1 rfl ef_set1
  refine L_nil ?_
  refine hK3 _ _ ?_
  refine T_seq fun K4 hK4 => ?_
  refine T_seq fun K5 hK5 => ?_
  refine T_region ?_
  refine L_y (y_fieldA 1 Tryz.underlying149 rfl sz3 rfl rfl rfl) rfl ?_
  refine L_y (y_ldc Tryz.underlying3 rfl rfl (((S90.blk 1 rfl).cell _).trans (ef_1 _ _ _))) rfl ?_
  refine L_o (o_call Tryz.func140 rfl rfl (Tre.mode_ ((m.toNat : Int) - 48) w5) rfl rfl ?_)
  rintro e6 w6 ⟨v6, rfl, l6, rfl⟩
  refine ⟨_, rfl, ?_⟩
  have S6 := S90.like l6
  refine L_y ((by first | exact y_notD rfl | exact y_not rfl)) rfl ?_
  refine L_nil ?_
  refine hK5 _ _ ?_
  refine T_cond rfl (fun h18 => ?_) (fun h18 => ?_)
  ·
    refine T_seq fun K6 hK6 => ?_
    refine T_region ?_
    refine L_y (y_ldW Tryz.underlying149 rfl sz149 rfl (S6.blk 1 rfl) (ef_whole _ _ (by first | exact zB_len | exact hq32))) rfl ?_
    refine L_o (o_stW S6 0 rfl rfl rfl (by rw [List.size_toArray, ef_len _ _ (by first | exact zB_len | exact hq32)]; exact sz149) (by first | (rw [List.size_toArray, List.size_toArray, ef_len _ _ (by first | exact zB_len | exact hq32), ef_len _ _ zB_len]; done) | (rw [List.size_toArray, ef_len _ _ (by first | exact zB_len | exact hq32)]; rfl)) (fun u hu => ef_one _ _ _ u (by rw [List.toList_toArray] at hu; exact hu)) fun w7 S7 => ?_)
    refine L_y (y_assign rfl) rfl ?_
    refine L_y (y_assign rfl) rfl ?_
    refine L_nil ?_
    refine hK6 _ _ ?_
    refine T_ret ?_
    repeat (first | with_reducible refine up_then ?_ | with_reducible refine up_in ?_)
    refine retctt rfl rfl rfl rfl (S7.blk 0 rfl) Tryz.underlying149 rfl (by rw [List.size_toArray, ef_len _ _ (by first | exact zB_len | exact hq32)]; exact sz149) ?_
    exact ⟨_, rfl, S7.like0, OneV.bad zB_len (one_16 h18) (by decide)⟩
  ·
    refine T_skip ?_
    refine hK4 _ _ ?_
    refine T_seq fun K7 hK7 => ?_
    refine T_seq fun K8 hK8 => ?_
    refine T_region ?_
    refine L_y (y_move rfl) rfl ?_
    refine L_y (y_len Tryz.underlying22 rfl) rfl ?_
    refine L_y (y_lss rfl rfl) rfl ?_
    refine L_nil ?_
    refine hK8 _ _ ?_
    refine T_cond rfl (fun h22 => ?_) (fun h22 => ?_)
    ·
      refine T_seq fun K9 hK9 => ?_
      refine T_region ?_
      refine L_y (y_ldW Tryz.underlying149 rfl sz149 rfl (S6.blk 1 rfl) (ef_whole _ _ (by first | exact zB_len | exact hq32))) rfl ?_
      refine L_o (o_stW S6 0 rfl rfl rfl (by rw [List.size_toArray, ef_len _ _ (by first | exact zB_len | exact hq32)]; exact sz149) (by first | (rw [List.size_toArray, List.size_toArray, ef_len _ _ (by first | exact zB_len | exact hq32), ef_len _ _ zB_len]; done) | (rw [List.size_toArray, ef_len _ _ (by first | exact zB_len | exact hq32)]; rfl)) (fun u hu => ef_one _ _ _ u (by rw [List.toList_toArray] at hu; exact hu)) fun w8 S8 => ?_)
      refine L_y (y_assign rfl) rfl ?_
      refine L_y (y_assign rfl) rfl ?_
      refine L_nil ?_
      refine hK9 _ _ ?_
      refine T_ret ?_
      repeat (first | with_reducible refine up_then ?_ | with_reducible refine up_in ?_)
      refine retctt rfl rfl rfl rfl (S8.blk 0 rfl) Tryz.underlying149 rfl (by rw [List.size_toArray, ef_len _ _ (by first | exact zB_len | exact hq32)]; exact sz149) ?_
      have hr : r = [] := by cases r with | nil => rfl | cons s t => simp at hl; omega
      subst hr
      exact ⟨_, rfl, S8.like0, OneV.bad zB_len (one_10 (Classical.not_not.1 h18)) (by decide)⟩
    ·
      obtain ⟨s, t, rfl⟩ : ∃ s t, r = s :: t := by cases r with | nil => (simp at hl; omega) | cons s t => exact ⟨s, t, rfl⟩
      have hs9 := s.toNat_lt
      have hcf : cutF 0 t = some (p, q) := hcf0
      refine T_skip ?_
      refine hK7 _ _ ?_
      refine T_seq fun K10 hK10 => ?_
      refine T_seq fun K11 hK11 => ?_
      refine T_region ?_
      refine L_y (y_move rfl) rfl ?_
      refine L_y (y_idx Tryz.underlying22 sz5 rfl rfl (by first | exact S6.rd hb) inferInstance (by omega)) rfl ?_
      refine L_y (y_ldr Tryz.underlying5 rfl rfl (S6.rd hb) (bL_get _ _ _ (rfl : (m :: s :: t)[1]? = some s))) rfl ?_
      refine L_y (y_neq rfl rfl) rfl ?_
      refine L_nil ?_
      refine hK11 _ _ ?_
      refine T_cond rfl (fun h27 => ?_) (fun h27 => ?_)
      ·
        refine T_seq fun K12 hK12 => ?_
        refine T_region ?_
        refine L_y (y_ldW Tryz.underlying149 rfl sz149 rfl (S6.blk 1 rfl) (ef_whole _ _ (by first | exact zB_len | exact hq32))) rfl ?_
        refine L_o (o_stW S6 0 rfl rfl rfl (by rw [List.size_toArray, ef_len _ _ (by first | exact zB_len | exact hq32)]; exact sz149) (by first | (rw [List.size_toArray, List.size_toArray, ef_len _ _ (by first | exact zB_len | exact hq32), ef_len _ _ zB_len]; done) | (rw [List.size_toArray, ef_len _ _ (by first | exact zB_len | exact hq32)]; rfl)) (fun u hu => ef_one _ _ _ u (by rw [List.toList_toArray] at hu; exact hu)) fun w9 S9 => ?_)
        refine L_y (y_assign rfl) rfl ?_
        refine L_y (y_assign rfl) rfl ?_
        refine L_nil ?_
        refine hK12 _ _ ?_
        refine T_ret ?_
        repeat (first | with_reducible refine up_then ?_ | with_reducible refine up_in ?_)
        refine retctt rfl rfl rfl rfl (S9.blk 0 rfl) Tryz.underlying149 rfl (by rw [List.size_toArray, ef_len _ _ (by first | exact zB_len | exact hq32)]; exact sz149) ?_
        exact ⟨_, rfl, S9.like0, OneV.bad zB_len (one_16b (Classical.not_not.1 h18) (fun e => h27 (by rw [e]; rfl))) (by decide)⟩
      ·
        obtain rfl := nat32 h27
        refine T_skip ?_
        refine hK10 _ _ ?_
        refine T_seq fun K13 hK13 => ?_
        refine T_region ?_
        refine L_y (y_move rfl) rfl ?_
        refine L_y (y_sliceL Tryz.underlying22 sz5 rfl rfl inferInstance (by omega)) rfl ?_
        refine L_o (o_bsl [_] te22 zz5 S6 rfl rfl rfl rfl rfl rfl rfl rfl fun b10 w10 S10 => ?_)
        obtain ⟨a2, ha2⟩ := cutA_some a c 2 1
        rw [ha2]
        have hb2 : Rs w0 1 (some a2) (n - 2) (c - 2) (bL t) := by rw [← ha2]; exact rs_tail 2 hb (by omega)
        have hcp := hb2.cap; have hln := hb2.lenb
        refine L_o (o_call Tryz.func141 rfl rfl (bcut a2 (n - 2) (c - 2) _ 1 t 0 w10 (S10.rd hb2) (S10.row 2 rfl)) rfl rfl ?_)
        rintro e11 w11 ⟨v11, rfl, l11, rfl⟩
        refine ⟨_, rfl, ?_⟩
        have S11 := S10.like l11
        rw [bcutV_some hcf]
        obtain ⟨hcd, hct, hcl⟩ := cut_drop hcf
        have hbq : Rs w0 1 (cutA (some a2) (c - 2) (p.length + 1) 1) (n - 2 - (p.length + 1)) (c - 2 - (p.length + 1)) (bL q) := by have h9 := rs_tail (p.length + 1) hb2 (by omega); rw [hcd] at h9; exact h9
        have hbp : Rs w0 1 (cutA (some a2) (c - 2) 0 1) p.length (c - 2) (bL p) := by have h9 := hb2.cutb (l := 0) (u := p.length) (by omega) (by omega); rw [List.drop_zero, Nat.sub_zero, hct] at h9; exact h9
        refine L_y (y_move rfl) rfl ?_
        refine L_y (y_extract rfl rfl) rfl ?_
        refine L_y (y_extract rfl rfl) rfl ?_
        refine L_y (y_extract rfl rfl) rfl ?_
        refine L_y (y_assign rfl) rfl ?_
        refine L_y (y_assign rfl) rfl ?_
        refine L_y (y_assign rfl) rfl ?_
        refine L_nil ?_
        refine hK13 _ _ ?_
        refine T_seq fun K14 hK14 => ?_
        refine T_region ?_
        refine L_y (y_move rfl) rfl ?_
        refine L_y (y_bstr Tryz.underlying22 Tryz.underlying5 Tryz.underlying9 rfl (S11.rd hbp)) rfl ?_
        refine L_y (y_fieldA 0 Tryz.underlying149 rfl sz9 rfl rfl rfl) rfl ?_
        refine L_o (o_st1 S11 1 rfl rfl rfl rfl sz9 (by rw [List.size_toArray, ef_len _ _ zB_len]; omega) fun w12 S12 => ?_)
        have S90 := S12.blkc 1 rfl ef_set0
        refine L_nil ?_
        refine hK14 _ _ ?_
        refine T_seq fun K15 hK15 => ?_
        refine T_seq fun K16 hK16 => ?_
        refine T_region ?_
        refine L_y (y_fieldA 0 Tryz.underlying149 rfl sz9 rfl rfl rfl) rfl ?_
        refine L_y (y_ldc Tryz.underlying9 rfl rfl (((S90.blk 1 rfl).cell _).trans (ef_0 _ _ _))) rfl ?_
        refine L_o (o_call Tryz.func142 rfl rfl (Tre.pname _ w12) rfl rfl ?_)
        rintro e13 w13 ⟨v13, rfl, l13, rfl⟩
        refine ⟨_, rfl, ?_⟩
        have S13 := S90.like l13
        refine L_y ((by first | exact y_notD rfl | exact y_not rfl)) rfl ?_
        refine L_nil ?_
        refine hK16 _ _ ?_
        refine T_condB rfl (fun h43 => ?_) (fun h43 => ?_)
        ·
          refine T_seq fun K17 hK17 => ?_
          refine T_region ?_
          refine L_y (y_ldW Tryz.underlying149 rfl sz149 rfl (S13.blk 1 rfl) (ef_whole _ _ (by first | exact zB_len | exact hq32))) rfl ?_
          refine L_o (o_stW S13 0 rfl rfl rfl (by rw [List.size_toArray, ef_len _ _ (by first | exact zB_len | exact hq32)]; exact sz149) (by first | (rw [List.size_toArray, List.size_toArray, ef_len _ _ (by first | exact zB_len | exact hq32), ef_len _ _ zB_len]; done) | (rw [List.size_toArray, ef_len _ _ (by first | exact zB_len | exact hq32)]; rfl)) (fun u hu => ef_one _ _ _ u (by rw [List.toList_toArray] at hu; exact hu)) fun w14 S14 => ?_)
          refine L_y (y_assign rfl) rfl ?_
          refine L_y (y_assign rfl) rfl ?_
          refine L_nil ?_
          refine hK17 _ _ ?_
          refine T_ret ?_
          repeat (first | with_reducible refine up_then ?_ | with_reducible refine up_in ?_)
          refine retctt rfl rfl rfl rfl (S14.blk 0 rfl) Tryz.underlying149 rfl (by rw [List.size_toArray, ef_len _ _ (by first | exact zB_len | exact hq32)]; exact sz149) ?_
          exact ⟨_, rfl, S14.like0, OneV.bad zB_len (one_s15 (Classical.not_not.1 h18) hcf (by simpa using h43)) (by decide)⟩
        ·
          refine T_skip ?_
          refine hK15 _ _ ?_
          refine T_seq fun K18 hK18 => ?_
          refine T_seq fun K19 hK19 => ?_
          refine T_region ?_
          refine L_y (y_move rfl) rfl ?_
          refine L_y ((by first | exact y_notD rfl | exact y_not rfl)) rfl ?_
          refine L_y (y_move rfl) rfl ?_
          refine L_gyes rfl rfl ?_
          refine L_y (y_move rfl) rfl ?_
          refine L_gyes rfl rfl ?_
          refine L_y (y_len Tryz.underlying22 rfl) rfl ?_
          refine L_gyes rfl rfl ?_
          refine L_y (y_lss rfl rfl) rfl ?_
          refine L_y ((by first | exact y_pickT rfl rfl | exact y_pickF rfl rfl)) rfl ?_
          refine L_nil ?_
          refine hK19 _ _ ?_
          refine T_cond rfl (fun h51 => ?_) (fun h51 => ?_)
          ·
            refine T_seq fun K20 hK20 => ?_
            refine T_region ?_
            refine L_y (y_ldW Tryz.underlying149 rfl sz149 rfl (S13.blk 1 rfl) (ef_whole _ _ (by first | exact zB_len | exact hq32))) rfl ?_
            refine L_o (o_stW S13 0 rfl rfl rfl (by rw [List.size_toArray, ef_len _ _ (by first | exact zB_len | exact hq32)]; exact sz149) (by first | (rw [List.size_toArray, List.size_toArray, ef_len _ _ (by first | exact zB_len | exact hq32), ef_len _ _ zB_len]; done) | (rw [List.size_toArray, ef_len _ _ (by first | exact zB_len | exact hq32)]; rfl)) (fun u hu => ef_one _ _ _ u (by rw [List.toList_toArray] at hu; exact hu)) fun w15 S15 => ?_)
            refine L_y (y_assign rfl) rfl ?_
            refine L_y (y_assign rfl) rfl ?_
            refine L_nil ?_
            refine hK20 _ _ ?_
            refine T_ret ?_
            repeat (first | with_reducible refine up_then ?_ | with_reducible refine up_in ?_)
            refine retctt rfl rfl rfl rfl (S15.blk 0 rfl) Tryz.underlying149 rfl (by rw [List.size_toArray, ef_len _ _ (by first | exact zB_len | exact hq32)]; exact sz149) ?_
            exact ⟨_, rfl, S15.like0, OneV.bad zB_len (one_s10 (Classical.not_not.1 h18) hcf (by simpa using h43) (by omega)) (by decide)⟩
          ·
            refine T_skip ?_
            refine hK18 _ _ ?_
            refine T_seq fun K21 hK21 => ?_
            have hq32 : (q.take 32).length = 32 := by rw [List.length_take]; omega
            refine T_drawnX (fun w => Rs w 1 (some a) n c (bL (m :: 32 :: t))) hmix (by kernel_rfl) (fun w l => ((S13.like l).rd hb)) fun w16 l16 => ?_
            have S16 := S13.like l16
            refine DX_y 1 (by kernel_rfl) rfl (y_move rfl) rfl ?_
            refine DX_y 2 (by kernel_rfl) rfl (y_fieldA 2 Tryz.underlying149 rfl sz41 rfl rfl rfl) rfl ?_
            refine DX_y 3 (by kernel_rfl) rfl (y_aslice Tryz.underlying41 sz5 rfl) rfl ?_
            refine DX_y 4 (by kernel_rfl) rfl (y_move rfl) rfl ?_
            refine DX_o2 0 5 (by kernel_rfl) rfl rfl ?_ ?_
            ·
              refine o_y (y_ldW Tryz.underlying149 rfl sz149 rfl (S16.blk 1 rfl) (ef_whole _ _ (by first | exact zB_len | exact hq32))) (Like.refl _) rfl ⟨(S16.rd hb), ?_⟩
              refine DX_o1 5 (by kernel_rfl) rfl ?_
              refine o_copyB (news := bL (q.take 32)) S16 1 rfl Tryz.underlying22 sz5 rfl rfl rfl (S16.rd hbq) (bL_takeN q 32).symm (by rw [List.size_toArray, ef_len _ _ zB_len, length_bL, hq32]; omega) (bL_one _) rfl fun w17 S17 => ?_
              refine ⟨(S17.rd hb), ?_⟩
              have S18 := S17.blkc 1 rfl (ef_cp zB_len hq32)
              refine DX_y 6 (by kernel_rfl) rfl (y_sliceL Tryz.underlying22 sz5 rfl rfl (Nt.mk (by rw [length_bL, hq32]) : Nt _ (32)) (by omega)) rfl ?_
              refine DX_o1 7 (by kernel_rfl) rfl ?_
              refine o_stW S18 0 rfl rfl rfl (by rw [List.size_toArray, ef_len _ _ (by first | exact zB_len | exact hq32)]; exact sz149) (by first | (rw [List.size_toArray, List.size_toArray, ef_len _ _ (by first | exact zB_len | exact hq32), ef_len _ _ zB_len]; done) | (rw [List.size_toArray, ef_len _ _ (by first | exact zB_len | exact hq32)]; rfl)) (fun u hu => ef_one _ _ _ u (by rw [List.toList_toArray] at hu; exact hu)) fun w19 S19 => ?_
              refine ⟨(S19.rd hb), ?_⟩
              refine DX_y 8 (by kernel_rfl) rfl (y_assign rfl) rfl ?_
              refine DX_y 9 (by kernel_rfl) rfl (y_assign rfl) rfl ?_
              refine DX_nil (by kernel_rfl) ?_
              refine hK21 _ _ ?_
              refine T_ret ?_
              repeat (first | with_reducible refine up_then ?_ | with_reducible refine up_in ?_)
              refine retctt rfl rfl rfl rfl (S19.blk 0 rfl) Tryz.underlying149 rfl (by rw [List.size_toArray, ef_len _ _ (by first | exact zB_len | exact hq32)]; exact sz149) ?_
              exact ⟨_, rfl, S19.like0, OneV.good (by first | exact zB_len | exact hq32) (one_s0 (Classical.not_not.1 h18) hcf (by simpa using h43) (by omega)) rfl rfl (fun W hW => rs_tail 32 (by have h9 := rs_tail (p.length + 1) (show Rs W 1 (some a2) (n - 2) (c - 2) (bL t) by rw [← ha2]; exact rs_tail 2 hW (by omega)) (by omega); rw [hcd] at h9; exact h9) (by omega))⟩
            ·
              refine o_copyB (news := bL (q.take 32)) S16 1 rfl Tryz.underlying22 sz5 rfl rfl rfl (S16.rd hbq) (bL_takeN q 32).symm (by rw [List.size_toArray, ef_len _ _ zB_len, length_bL, hq32]; omega) (bL_one _) rfl fun w20 S20 => ?_
              refine ⟨(S20.rd hb), ?_⟩
              have S21 := S20.blkc 1 rfl (ef_cp zB_len hq32)
              refine DX_y 6 (by kernel_rfl) rfl (y_sliceL Tryz.underlying22 sz5 rfl rfl (Nt.mk (by rw [length_bL, hq32]) : Nt _ (32)) (by omega)) rfl ?_
              refine DX_o1 0 (by kernel_rfl) rfl ?_
              refine o_y (y_ldW Tryz.underlying149 rfl sz149 rfl (S21.blk 1 rfl) (ef_whole _ _ (by first | exact zB_len | exact hq32))) (Like.refl _) rfl ⟨(S21.rd hb), ?_⟩
              refine DX_o1 7 (by kernel_rfl) rfl ?_
              refine o_stW S21 0 rfl rfl rfl (by rw [List.size_toArray, ef_len _ _ (by first | exact zB_len | exact hq32)]; exact sz149) (by first | (rw [List.size_toArray, List.size_toArray, ef_len _ _ (by first | exact zB_len | exact hq32), ef_len _ _ zB_len]; done) | (rw [List.size_toArray, ef_len _ _ (by first | exact zB_len | exact hq32)]; rfl)) (fun u hu => ef_one _ _ _ u (by rw [List.toList_toArray] at hu; exact hu)) fun w22 S22 => ?_
              refine ⟨(S22.rd hb), ?_⟩
              refine DX_y 8 (by kernel_rfl) rfl (y_assign rfl) rfl ?_
              refine DX_y 9 (by kernel_rfl) rfl (y_assign rfl) rfl ?_
              refine DX_nil (by kernel_rfl) ?_
              refine hK21 _ _ ?_
              refine T_ret ?_
              repeat (first | with_reducible refine up_then ?_ | with_reducible refine up_in ?_)
              refine retctt rfl rfl rfl rfl (S22.blk 0 rfl) Tryz.underlying149 rfl (by rw [List.size_toArray, ef_len _ _ (by first | exact zB_len | exact hq32)]; exact sz149) ?_
              exact ⟨_, rfl, S22.like0, OneV.good (by first | exact zB_len | exact hq32) (one_s0 (Classical.not_not.1 h18) hcf (by simpa using h43) (by omega)) rfl rfl (fun W hW => rs_tail 32 (by have h9 := rs_tail (p.length + 1) (show Rs W 1 (some a2) (n - 2) (c - 2) (bL t) by rw [← ha2]; exact rs_tail 2 hW (by omega)) (by omega); rw [hcd] at h9; exact h9) (by omega))⟩


set_option maxRecDepth 100000 in
theorem one0 (a : Addr) (n c : Nat) (m : UInt8) (r : List UInt8) (w0 : World) (hb : Rs w0 1 (some a) n c (bL (m :: r))) (hcf0 : cutF 0 ((m :: r).drop 2) = none) :
    Calls Tryz.prog 106 #[.slice (some a) n c] w0 fun e w' => ∃ u, e = .returned u ∧ Like w0 w' ∧ OneV a n c (m :: r) u := by
  refine enter1 (env := [(0, .slice (some a) n c)]) [.slice (some a) n c] Tryz.func106 rfl Tryz.ntmps106 rfl rfl ?_
  have hl := hb.lenb; have hcap := hb.cap; have hmax := hb.max; have hm9 := m.toNat_lt; have hl1 : 1 ≤ n := by rw [← hl]; simp
  have S0 := St.start w0 noM
  refine T_seq fun K1 hK1 => ?_
  refine T_region ?_
  refine L_o (o_alloc zz149 S0 rfl fun b1 w1 hb1 S1 => ?_)
  have S2 : Zx.St w0 noM [blk b1 149 (ef ⟨#[]⟩ 0 zB).toArray] w1 := S1.cast (by kernel_rfl)
  refine L_y (y_assign rfl) rfl ?_
  refine L_y (y_assign rfl) rfl ?_
  refine L_nil ?_
  refine hK1 _ _ ?_
  refine T_seq fun K2 hK2 => ?_
  refine T_region ?_
  refine L_o (o_alloc zz149 S2 rfl fun b3 w3 hb3 S3 => ?_)
  have S4 : Zx.St w0 noM [blk b1 149 (ef ⟨#[]⟩ 0 zB).toArray, blk b3 149 (ef ⟨#[]⟩ 0 zB).toArray] w3 := S3.cast (by kernel_rfl)
  refine L_nil ?_
  refine hK2 _ _ ?_
  refine T_seq fun K3 hK3 => ?_
  refine T_region ?_
  refine L_y (y_move rfl) rfl ?_
  refine L_y (y_idx Tryz.underlying22 sz5 rfl rfl (by first | exact S4.rd hb) inferInstance (by omega)) rfl ?_
  refine L_y (y_ldr Tryz.underlying5 rfl rfl (S4.rd hb) (bL_get _ _ _ (rfl : (m :: r)[0]? = some m))) rfl ?_
  refine L_y (y_conv is5 Tryz.underlying3 rfl (i64w (by omega))) rfl ?_
  refine L_y (y_sub rfl rfl (i64w (by omega))) rfl ?_
  refine L_y (y_fieldA 1 Tryz.underlying149 rfl sz3 rfl rfl rfl) rfl ?_
  refine L_o (o_st1 S4 1 rfl rfl rfl rfl sz3 (by rw [List.size_toArray, ef_len _ _ zB_len]; omega) fun w5 S5 => ?_)
  have S90 := S5.blkc 1 rfl ef_set1
  refine L_nil ?_
  refine hK3 _ _ ?_
  refine T_seq fun K4 hK4 => ?_
  refine T_seq fun K5 hK5 => ?_
  refine T_region ?_
  refine L_y (y_fieldA 1 Tryz.underlying149 rfl sz3 rfl rfl rfl) rfl ?_
  refine L_y (y_ldc Tryz.underlying3 rfl rfl (((S90.blk 1 rfl).cell _).trans (ef_1 _ _ _))) rfl ?_
  refine L_o (o_call Tryz.func140 rfl rfl (Tre.mode_ ((m.toNat : Int) - 48) w5) rfl rfl ?_)
  rintro e6 w6 ⟨v6, rfl, l6, rfl⟩
  refine ⟨_, rfl, ?_⟩
  have S6 := S90.like l6
  refine L_y ((by first | exact y_notD rfl | exact y_not rfl)) rfl ?_
  refine L_nil ?_
  refine hK5 _ _ ?_
  refine T_cond rfl (fun h18 => ?_) (fun h18 => ?_)
  ·
    refine T_seq fun K6 hK6 => ?_
    refine T_region ?_
    refine L_y (y_ldW Tryz.underlying149 rfl sz149 rfl (S6.blk 1 rfl) (ef_whole _ _ (by first | exact zB_len | exact hq32))) rfl ?_
    refine L_o (o_stW S6 0 rfl rfl rfl (by rw [List.size_toArray, ef_len _ _ (by first | exact zB_len | exact hq32)]; exact sz149) (by first | (rw [List.size_toArray, List.size_toArray, ef_len _ _ (by first | exact zB_len | exact hq32), ef_len _ _ zB_len]; done) | (rw [List.size_toArray, ef_len _ _ (by first | exact zB_len | exact hq32)]; rfl)) (fun u hu => ef_one _ _ _ u (by rw [List.toList_toArray] at hu; exact hu)) fun w7 S7 => ?_)
    refine L_y (y_assign rfl) rfl ?_
    refine L_y (y_assign rfl) rfl ?_
    refine L_nil ?_
    refine hK6 _ _ ?_
    refine T_ret ?_
    repeat (first | with_reducible refine up_then ?_ | with_reducible refine up_in ?_)
    refine retctt rfl rfl rfl rfl (S7.blk 0 rfl) Tryz.underlying149 rfl (by rw [List.size_toArray, ef_len _ _ (by first | exact zB_len | exact hq32)]; exact sz149) ?_
    exact ⟨_, rfl, S7.like0, OneV.bad zB_len (one_16 h18) (by decide)⟩
  ·
    refine T_skip ?_
    refine hK4 _ _ ?_
    refine T_seq fun K7 hK7 => ?_
    refine T_seq fun K8 hK8 => ?_
    refine T_region ?_
    refine L_y (y_move rfl) rfl ?_
    refine L_y (y_len Tryz.underlying22 rfl) rfl ?_
    refine L_y (y_lss rfl rfl) rfl ?_
    refine L_nil ?_
    refine hK8 _ _ ?_
    refine T_cond rfl (fun h22 => ?_) (fun h22 => ?_)
    ·
      refine T_seq fun K9 hK9 => ?_
      refine T_region ?_
      refine L_y (y_ldW Tryz.underlying149 rfl sz149 rfl (S6.blk 1 rfl) (ef_whole _ _ (by first | exact zB_len | exact hq32))) rfl ?_
      refine L_o (o_stW S6 0 rfl rfl rfl (by rw [List.size_toArray, ef_len _ _ (by first | exact zB_len | exact hq32)]; exact sz149) (by first | (rw [List.size_toArray, List.size_toArray, ef_len _ _ (by first | exact zB_len | exact hq32), ef_len _ _ zB_len]; done) | (rw [List.size_toArray, ef_len _ _ (by first | exact zB_len | exact hq32)]; rfl)) (fun u hu => ef_one _ _ _ u (by rw [List.toList_toArray] at hu; exact hu)) fun w8 S8 => ?_)
      refine L_y (y_assign rfl) rfl ?_
      refine L_y (y_assign rfl) rfl ?_
      refine L_nil ?_
      refine hK9 _ _ ?_
      refine T_ret ?_
      repeat (first | with_reducible refine up_then ?_ | with_reducible refine up_in ?_)
      refine retctt rfl rfl rfl rfl (S8.blk 0 rfl) Tryz.underlying149 rfl (by rw [List.size_toArray, ef_len _ _ (by first | exact zB_len | exact hq32)]; exact sz149) ?_
      have hr : r = [] := by cases r with | nil => rfl | cons s t => simp at hl; omega
      subst hr
      exact ⟨_, rfl, S8.like0, OneV.bad zB_len (one_10 (Classical.not_not.1 h18)) (by decide)⟩
    ·
      obtain ⟨s, t, rfl⟩ : ∃ s t, r = s :: t := by cases r with | nil => (simp at hl; omega) | cons s t => exact ⟨s, t, rfl⟩
      have hs9 := s.toNat_lt
      have hcf : cutF 0 t = none := hcf0
      refine T_skip ?_
      refine hK7 _ _ ?_
      refine T_seq fun K10 hK10 => ?_
      refine T_seq fun K11 hK11 => ?_
      refine T_region ?_
      refine L_y (y_move rfl) rfl ?_
      refine L_y (y_idx Tryz.underlying22 sz5 rfl rfl (by first | exact S6.rd hb) inferInstance (by omega)) rfl ?_
      refine L_y (y_ldr Tryz.underlying5 rfl rfl (S6.rd hb) (bL_get _ _ _ (rfl : (m :: s :: t)[1]? = some s))) rfl ?_
      refine L_y (y_neq rfl rfl) rfl ?_
      refine L_nil ?_
      refine hK11 _ _ ?_
      refine T_cond rfl (fun h27 => ?_) (fun h27 => ?_)
      ·
        refine T_seq fun K12 hK12 => ?_
        refine T_region ?_
        refine L_y (y_ldW Tryz.underlying149 rfl sz149 rfl (S6.blk 1 rfl) (ef_whole _ _ (by first | exact zB_len | exact hq32))) rfl ?_
        refine L_o (o_stW S6 0 rfl rfl rfl (by rw [List.size_toArray, ef_len _ _ (by first | exact zB_len | exact hq32)]; exact sz149) (by first | (rw [List.size_toArray, List.size_toArray, ef_len _ _ (by first | exact zB_len | exact hq32), ef_len _ _ zB_len]; done) | (rw [List.size_toArray, ef_len _ _ (by first | exact zB_len | exact hq32)]; rfl)) (fun u hu => ef_one _ _ _ u (by rw [List.toList_toArray] at hu; exact hu)) fun w9 S9 => ?_)
        refine L_y (y_assign rfl) rfl ?_
        refine L_y (y_assign rfl) rfl ?_
        refine L_nil ?_
        refine hK12 _ _ ?_
        refine T_ret ?_
        repeat (first | with_reducible refine up_then ?_ | with_reducible refine up_in ?_)
        refine retctt rfl rfl rfl rfl (S9.blk 0 rfl) Tryz.underlying149 rfl (by rw [List.size_toArray, ef_len _ _ (by first | exact zB_len | exact hq32)]; exact sz149) ?_
        exact ⟨_, rfl, S9.like0, OneV.bad zB_len (one_16b (Classical.not_not.1 h18) (fun e => h27 (by rw [e]; rfl))) (by decide)⟩
      ·
        obtain rfl := nat32 h27
        refine T_skip ?_
        refine hK10 _ _ ?_
        refine T_seq fun K13 hK13 => ?_
        refine T_region ?_
        refine L_y (y_move rfl) rfl ?_
        refine L_y (y_sliceL Tryz.underlying22 sz5 rfl rfl inferInstance (by omega)) rfl ?_
        refine L_o (o_bsl [_] te22 zz5 S6 rfl rfl rfl rfl rfl rfl rfl rfl fun b10 w10 S10 => ?_)
        obtain ⟨a2, ha2⟩ := cutA_some a c 2 1
        rw [ha2]
        have hb2 : Rs w0 1 (some a2) (n - 2) (c - 2) (bL t) := by rw [← ha2]; exact rs_tail 2 hb (by omega)
        have hcp := hb2.cap; have hln := hb2.lenb
        refine L_o (o_call Tryz.func141 rfl rfl (bcut a2 (n - 2) (c - 2) _ 1 t 0 w10 (S10.rd hb2) (S10.row 2 rfl)) rfl rfl ?_)
        rintro e11 w11 ⟨v11, rfl, l11, rfl⟩
        refine ⟨_, rfl, ?_⟩
        have S11 := S10.like l11
        rw [bcutV_none hcf]
        refine L_y (y_move rfl) rfl ?_
        refine L_y (y_extract rfl rfl) rfl ?_
        refine L_y (y_extract rfl rfl) rfl ?_
        refine L_y (y_extract rfl rfl) rfl ?_
        refine L_y (y_assign rfl) rfl ?_
        refine L_y (y_assign rfl) rfl ?_
        refine L_y (y_assign rfl) rfl ?_
        refine L_nil ?_
        refine hK13 _ _ ?_
        refine T_seq fun K14 hK14 => ?_
        refine T_region ?_
        refine L_y (y_move rfl) rfl ?_
        refine L_y (y_bstr Tryz.underlying22 Tryz.underlying5 Tryz.underlying9 rfl (S11.rd hb2)) rfl ?_
        refine L_y (y_fieldA 0 Tryz.underlying149 rfl sz9 rfl rfl rfl) rfl ?_
        refine L_o (o_st1 S11 1 rfl rfl rfl rfl sz9 (by rw [List.size_toArray, ef_len _ _ zB_len]; omega) fun w12 S12 => ?_)
        have S90 := S12.blkc 1 rfl ef_set0
        refine L_nil ?_
        refine hK14 _ _ ?_
        refine T_seq fun K15 hK15 => ?_
        refine T_seq fun K16 hK16 => ?_
        refine T_region ?_
        refine L_y (y_fieldA 0 Tryz.underlying149 rfl sz9 rfl rfl rfl) rfl ?_
        refine L_y (y_ldc Tryz.underlying9 rfl rfl (((S90.blk 1 rfl).cell _).trans (ef_0 _ _ _))) rfl ?_
        refine L_o (o_call Tryz.func142 rfl rfl (Tre.pname _ w12) rfl rfl ?_)
        rintro e13 w13 ⟨v13, rfl, l13, rfl⟩
        refine ⟨_, rfl, ?_⟩
        have S13 := S90.like l13
        refine L_y ((by first | exact y_notD rfl | exact y_not rfl)) rfl ?_
        refine L_nil ?_
        refine hK16 _ _ ?_
        refine T_condB rfl (fun h43 => ?_) (fun h43 => ?_)
        ·
          refine T_seq fun K17 hK17 => ?_
          refine T_region ?_
          refine L_y (y_ldW Tryz.underlying149 rfl sz149 rfl (S13.blk 1 rfl) (ef_whole _ _ (by first | exact zB_len | exact hq32))) rfl ?_
          refine L_o (o_stW S13 0 rfl rfl rfl (by rw [List.size_toArray, ef_len _ _ (by first | exact zB_len | exact hq32)]; exact sz149) (by first | (rw [List.size_toArray, List.size_toArray, ef_len _ _ (by first | exact zB_len | exact hq32), ef_len _ _ zB_len]; done) | (rw [List.size_toArray, ef_len _ _ (by first | exact zB_len | exact hq32)]; rfl)) (fun u hu => ef_one _ _ _ u (by rw [List.toList_toArray] at hu; exact hu)) fun w14 S14 => ?_)
          refine L_y (y_assign rfl) rfl ?_
          refine L_y (y_assign rfl) rfl ?_
          refine L_nil ?_
          refine hK17 _ _ ?_
          refine T_ret ?_
          repeat (first | with_reducible refine up_then ?_ | with_reducible refine up_in ?_)
          refine retctt rfl rfl rfl rfl (S14.blk 0 rfl) Tryz.underlying149 rfl (by rw [List.size_toArray, ef_len _ _ (by first | exact zB_len | exact hq32)]; exact sz149) ?_
          exact ⟨_, rfl, S14.like0, OneV.bad zB_len (one_n15 (Classical.not_not.1 h18) hcf (by simpa using h43)) (by decide)⟩
        ·
          refine T_skip ?_
          refine hK15 _ _ ?_
          refine T_seq fun K18 hK18 => ?_
          refine T_seq fun K19 hK19 => ?_
          refine T_region ?_
          refine L_y (y_move rfl) rfl ?_
          refine L_y ((by first | exact y_notD rfl | exact y_not rfl)) rfl ?_
          refine L_y (y_move rfl) rfl ?_
          refine L_gno rfl rfl rfl ?_
          refine L_gno rfl rfl rfl ?_
          refine L_gno rfl rfl rfl ?_
          refine L_y ((by first | exact y_pickT rfl rfl | exact y_pickF rfl rfl)) rfl ?_
          refine L_nil ?_
          refine hK19 _ _ ?_
          refine T_true rfl ?_
          refine T_seq fun K20 hK20 => ?_
          refine T_region ?_
          refine L_y (y_ldW Tryz.underlying149 rfl sz149 rfl (S13.blk 1 rfl) (ef_whole _ _ (by first | exact zB_len | exact hq32))) rfl ?_
          refine L_o (o_stW S13 0 rfl rfl rfl (by rw [List.size_toArray, ef_len _ _ (by first | exact zB_len | exact hq32)]; exact sz149) (by first | (rw [List.size_toArray, List.size_toArray, ef_len _ _ (by first | exact zB_len | exact hq32), ef_len _ _ zB_len]; done) | (rw [List.size_toArray, ef_len _ _ (by first | exact zB_len | exact hq32)]; rfl)) (fun u hu => ef_one _ _ _ u (by rw [List.toList_toArray] at hu; exact hu)) fun w15 S15 => ?_)
          refine L_y (y_assign rfl) rfl ?_
          refine L_y (y_assign rfl) rfl ?_
          refine L_nil ?_
          refine hK20 _ _ ?_
          refine T_ret ?_
          repeat (first | with_reducible refine up_then ?_ | with_reducible refine up_in ?_)
          refine retctt rfl rfl rfl rfl (S15.blk 0 rfl) Tryz.underlying149 rfl (by rw [List.size_toArray, ef_len _ _ (by first | exact zB_len | exact hq32)]; exact sz149) ?_
          exact ⟨_, rfl, S15.like0, OneV.bad zB_len (one_n10 (Classical.not_not.1 h18) hcf (by simpa using h43)) (by decide)⟩


theorem one (a : Addr) (n c : Nat) (m : UInt8) (r : List UInt8) (w0 : World) (hb : Rs w0 1 (some a) n c (bL (m :: r))) : Calls Tryz.prog 106 #[.slice (some a) n c] w0 fun e w' => ∃ u, e = .returned u ∧ Like w0 w' ∧ OneV a n c (m :: r) u := by
  cases h : cutF 0 ((m :: r).drop 2) with
  | none => exact one0 a n c m r w0 hb h
  | some pq => exact one1 a n c m r w0 hb pq.1 pq.2 h
end Go.Proofs.YtgaklngnfecdaaaGreat.Obj


/-
  Bytes as a tree.
-/
namespace Go.Proofs.YtgaklngnfecdaaaGreat.Obj
open Go.RowKit Zk Zx
open Oid (idf idf_len)
open Tre (nmOk EV enf enf_len mdOk chkE)
open Rev (cutF cutF_some cutF_none)
set_option linter.unusedVariables false
set_option linter.unusedSimpArgs false

def stp (y : EV) : ByteArray × Int := (y.nm, y.md)
theorem chk1_congr : ∀ {l k : List EV}, l.map stp = k.map stp → Tre.chk1 l = Tre.chk1 k
  | [], [], _ => rfl
  | [], y :: k, h => by cases h
  | x :: l, [], h => by cases h
  | x :: l, y :: k, h => by
    rw [List.map_cons, List.map_cons] at h
    injection h with h1 h2
    have e1 : x.nm = y.nm := congrArg Prod.fst h1
    have e2 : x.md = y.md := congrArg Prod.snd h1
    unfold Tre.chk1
    rw [e1, e2, chk1_congr h2]
theorem key_congr {x y : EV} (h : stp x = stp y) : Tre.keyB x = Tre.keyB y := by
  have e1 : x.nm = y.nm := congrArg Prod.fst h
  have e2 : x.md = y.md := congrArg Prod.snd h
  unfold Tre.keyB
  rw [e1, e2]
theorem risK_congr : ∀ {l k : List EV}, l.map stp = k.map stp → Tre.risK l = Tre.risK k
  | [], [], _ => rfl
  | [], y :: k, h => by cases h
  | x :: l, [], h => by cases h
  | [x], [y], _ => rfl
  | [x], y :: z :: k, h => by simp at h
  | x :: z :: l, [y], h => by simp at h
  | x :: x2 :: l, y :: y2 :: k, h => by
    rw [List.map_cons, List.map_cons] at h
    injection h with h1 h2
    have h3 : stp x2 :: l.map stp = stp y2 :: k.map stp := h2
    injection h3 with h3 _
    unfold Tre.risK
    rw [risK_congr (show (x2 :: l).map stp = (y2 :: k).map stp from h2)]
    unfold Tre.ltK
    rw [key_congr h1, key_congr h3]
theorem once_congr {l k : List EV} (h : l.map stp = k.map stp) : Tre.once l ↔ Tre.once k := by
  have e : l.map EV.nm = k.map EV.nm := by
    have := congrArg (List.map Prod.fst) h
    rwa [List.map_map, List.map_map] at this
  unfold Tre.once
  rw [e]
theorem chkE_congr {l k : List EV} (h : l.map stp = k.map stp) : chkE l = chkE k := by
  have hl : l.length = k.length := by have := congrArg List.length h; simpa using this
  unfold chkE
  rw [hl, chk1_congr h, risK_congr h]
  by_cases ho : Tre.once k
  · have ho2 := (once_congr h).2 ho
    simp only [ho, ho2]
  · have ho2 : ¬ Tre.once l := fun q => ho ((once_congr h).1 q)
    simp only [ho, ho2]
/-- An entry, its id left out. -/
def zEV (nm : ByteArray) (md : Int) : EV := if h : nm.size ≤ 1000000000 then ⟨nm, md, zB, rfl, h⟩ else ⟨⟨#[]⟩, md, zB, rfl, by decide⟩
theorem zEV_st {nm : ByteArray} {md : Int} (h : nm.size ≤ 1000000000) : stp (zEV nm md) = (nm, md) := by unfold zEV; rw [dif_pos h]; rfl
def getT : Nat → List UInt8 → List EV → Int × List EV
  | 0, _, acc => (0, acc)
  | k + 1, b, acc => if b = [] then (0, acc) else if (oneC b).1 ≠ 0 then ((oneC b).1, []) else getT k (oneC b).2.2 (acc ++ [zEV ⟨(oneC b).2.1.toArray⟩ (((b.getD 0 0).toNat : Int) - 48)])
def finT (r : Int × List EV) : Int := if r.1 ≠ 0 then r.1 else chkE r.2
/-- The error of bytes as a tree. -/
def treeE (b : List UInt8) : Int := finT (getT (b.length + 1) b [])
theorem getT_nil (k : Nat) (acc : List EV) : getT k [] acc = (0, acc) := by cases k <;> simp [getT]
theorem getT_bad {k : Nat} {b : List UInt8} {acc : List EV} (hb : b ≠ []) (h : (oneC b).1 ≠ 0) : getT (k + 1) b acc = ((oneC b).1, []) := by unfold getT; rw [if_neg hb, if_pos h]
theorem getT_ok {k : Nat} {b : List UInt8} {acc : List EV} (hb : b ≠ []) (h : ¬ (oneC b).1 ≠ 0) : getT (k + 1) b acc = getT k (oneC b).2.2 (acc ++ [zEV ⟨(oneC b).2.1.toArray⟩ (((b.getD 0 0).toNat : Int) - 48)]) := by
  conv => lhs; unfold getT
  rw [if_neg hb, if_neg h]
theorem some_of {w : World} {A : Option Addr} {n c : Nat} {xs : List Value} (h : Rs w 1 A n c xs) (hn : 0 < n) : ∃ a, A = some a := by
  obtain ⟨ad, h1, _⟩ := h.rd.2 hn
  exact ⟨ad, h1⟩
theorem one_name {b : List UInt8} : (oneC b).2.1.length ≤ b.length := by
  unfold oneC
  match b with
  | [] => simp
  | m :: r =>
    simp only []
    split
    · simp
    · match r with
      | [] => simp
      | s :: t =>
        simp only []
        split
        · simp
        · cases hc : cutF 0 t with
          | none => simp only []; split <;> simp
          | some pq =>
            obtain ⟨p, q⟩ := pq
            simp only []
            split
            · simp
            · split
              · simp
              · have h9 := (cutF_some hc).1
                simp only [List.length_cons]
                rw [h9, List.length_append, List.length_cons]
                omega


set_option maxRecDepth 100000 in
theorem get (A : Option Addr) (n c : Nat) (b0 : List UInt8) (w0 : World) (hb : Rs w0 1 A n c (bL b0)) (h9 : b0.length ≤ 9000) :
    Calls Tryz.prog 73 #[.slice A n c] w0 fun e w' => ∃ u, e = .returned u ∧ Like w0 w' ∧ ∃ A k cp, u = .tuple #[.slice A k cp, .int .i64 (treeE b0)] := by
  refine enter1 (env := [(0, .slice A n c)]) [.slice A n c] Tryz.func73 rfl Tryz.ntmps73 rfl rfl ?_
  have S0 := St.start w0 noM
  refine T_seq fun K1 hK1 => ?_
  refine T_region ?_
  refine L_y (y_assign rfl) rfl ?_
  refine L_y (y_assign rfl) rfl ?_
  refine L_nil ?_
  refine hK1 _ _ ?_
  refine T_seq fun K2 hK2 => ?_
  refine T_region ?_
  have S1 := S0.nilrow 149 34
  refine L_y (y_assign rfl) rfl ?_
  refine L_nil ?_
  refine hK2 _ _ ?_
  refine T_seq fun K3 hK3 => ?_
  refine T_block ?_
  refine T_loop9 [] (fun (A : Option Addr) (n : Nat) (c : Nat) (b : List UInt8) (k : Nat) (acc : List EV) (l : List EV) (A4 : Option Addr) (c4 : Nat) => [(0, .slice A n c), (4, .slice A4 l.length c4)]) (fun (A : Option Addr) (n : Nat) (c : Nat) (b : List UInt8) (k : Nat) (acc : List EV) (l : List EV) (A4 : Option Addr) (c4 : Nat) => b.length) (fun (A : Option Addr) (n : Nat) (c : Nat) (b : List UInt8) (k : Nat) (acc : List EV) (l : List EV) (A4 : Option Addr) (c4 : Nat) (w : World) => (b.length < k ∧ b.length ≤ 9000 ∧ l.length + b.length ≤ 9000 ∧ l.map stp = acc.map stp ∧ treeE b0 = finT (getT k b acc)) ∧ Rs w0 1 A n c (bL b) ∧ Zx.St w0 noM [Zx.row 149 34 A4 l.length c4 (l.flatMap enf)] w) A n c b0 (b0.length + 1) [] [] none 0 (Sub.cons rfl (by first | rfl | exact congrArg (Value.int _) (by omega)) (Sub.cons rfl (by first | rfl | exact congrArg (Value.int _) (by omega)) (Sub.nil _))) (Sub.nil _) ?_ ?_
  ·
    exact ⟨⟨by omega, by omega, by simp; omega, rfl, rfl⟩, hb, S1⟩
  ·
    intro A n c b k acc l A4 c4 w2 hrel
    obtain ⟨⟨hbk, hb9, hlb, hst, ht⟩, hb, S2⟩ := hrel
    have hln := hb.lenb; have hcap := hb.cap; have hmax := hb.max
    refine T_seq fun K4 hK4 => ?_
    refine T_seq fun K5 hK5 => ?_
    refine T_region ?_
    refine L_y (y_move rfl) rfl ?_
    refine L_y (y_len Tryz.underlying22 rfl) rfl ?_
    refine L_y (y_gtr rfl rfl) rfl ?_
    refine L_nil ?_
    refine hK5 _ _ ?_
    refine T_cond rfl (fun h11 => ?_) (fun h11 => ?_)
    ·
      obtain ⟨a, rfl⟩ := some_of hb (by omega)
      obtain ⟨m, r, rfl⟩ : ∃ m r, b = m :: r := by cases b with | nil => (simp at hln; omega) | cons m r => exact ⟨m, r, rfl⟩
      obtain ⟨k, rfl⟩ : ∃ j, k = j + 1 := ⟨k - 1, by omega⟩
      refine T_skip ?_
      refine hK4 _ _ ?_
      refine T_block ?_
      refine T_seq fun K6 hK6 => ?_
      refine T_region ?_
      refine L_y (y_move rfl) rfl ?_
      refine L_o (o_call Tryz.func106 rfl rfl (one a n c m r w2 (S2.rd hb)) rfl rfl ?_)
      rintro e3 w3 ⟨v3, rfl, l3, ⟨nm, md, id, A9, k9, c9, hid, rfl, hgood⟩⟩
      refine ⟨_, rfl, ?_⟩
      have S3 := S2.like l3
      refine L_y (y_move rfl) rfl ?_
      refine L_y (y_extract rfl rfl) rfl ?_
      refine L_y (y_extract rfl rfl) rfl ?_
      refine L_y (y_extract rfl rfl) rfl ?_
      refine L_o (o_alloc zz149 S3 rfl fun b4 w4 hb4 S4 => ?_)
      refine L_o (o_stW S4 1 rfl rfl rfl (by rw [List.size_toArray, ef_len _ _ hid]; exact sz149) (by rw [List.size_toArray, ef_len _ _ hid]; rfl) (fun u hu => ef_one _ _ _ u (by rw [List.toList_toArray] at hu; exact hu)) fun w5 S5 => ?_)
      refine L_y (y_assign rfl) rfl ?_
      refine L_y (y_assign rfl) rfl ?_
      refine L_nil ?_
      refine hK6 _ _ ?_
      refine T_seq fun K7 hK7 => ?_
      refine T_seq fun K8 hK8 => ?_
      refine T_region ?_
      refine L_y (y_move rfl) rfl ?_
      refine L_y (y_neq rfl rfl) rfl ?_
      refine L_nil ?_
      refine hK8 _ _ ?_
      refine T_cond rfl (fun h19 => ?_) (fun h19 => ?_)
      ·
        refine T_seq fun K9 hK9 => ?_
        refine T_region ?_
        refine L_y (y_move rfl) rfl ?_
        refine L_y (y_assign rfl) rfl ?_
        refine L_y (y_assign rfl) rfl ?_
        refine L_nil ?_
        refine hK9 _ _ ?_
        refine T_ret ?_
        repeat (first | with_reducible refine up_then ?_ | with_reducible refine up_in ?_)
        refine ret2 rfl rfl rfl ?_
        have he : treeE b0 = (oneC (m :: r)).1 := by rw [ht, getT_bad (by simp) (fun q => h19 q)]; unfold finT; rw [if_pos (fun q => h19 q)]
        exact ⟨_, rfl, S5.like0, none, 0, 0, by rw [he]; rfl⟩
      ·
        have he0 : (oneC (m :: r)).1 = 0 := Classical.byContradiction fun q => h19 q
        obtain ⟨hnm, hmd, hrest⟩ := hgood he0
        have hns : nm.size ≤ 1000000000 := by rw [hnm, Rev.bsz]; have h9 := one_name (b := m :: r); omega
        obtain ⟨yE, hyE⟩ : ∃ y : EV, y = ⟨nm, md, id, hid, hns⟩ := ⟨_, rfl⟩
        have hye : ef nm md id = enf yE := by rw [hyE]; rfl
        have hys : stp yE = (⟨(oneC (m :: r)).2.1.toArray⟩, (((m :: r).getD 0 0).toNat : Int) - 48) := by rw [hyE, ← hnm, ← hmd]; rfl
        rw [hye] at S5
        refine T_skip ?_
        refine hK7 _ _ ?_
        refine T_seq fun K10 hK10 => ?_
        refine T_region ?_
        refine L_y (y_move rfl) rfl ?_
        refine L_y (y_ldW Tryz.underlying149 rfl sz149 rfl (S5.blk 1 rfl) (by first | exact Tre.whole_enf yE | exact ⟨Tre.take_enf yE, enf_len yE⟩)) rfl ?_
        refine L_o (o_bsl (enf yE) te78 zz149 S5 rfl rfl rfl (by simp [Value.cells, enf_len]) (by simp [Value.cells]) rfl rfl rfl fun b6 w6 S6 => ?_)
        refine L_o (o_app te78 S6 0 rfl rfl rfl (by first | exact S6.row 0 rfl | exact S6.row 2 rfl) (fun u hu => by rw [ef_en] at hu; exact ef_one _ _ _ u hu) rfl (by omega) (by omega) fun A7 c7 w7 S7 => ?_)
        have S7d := S7.drop (rs' := [_, _]) (.cons_cons _ (.cons_cons _ (.cons _ (.refl _))))
        refine L_y (y_assign rfl) rfl ?_
        refine L_nil ?_
        refine hK10 _ _ ?_
        refine T_region ?_
        refine L_y (y_move rfl) rfl ?_
        refine L_y (y_assign rfl) rfl ?_
        refine L_nil ?_
        have hz := one_less (b := m :: r) (by omega : (oneC (m :: r)).1 = 0)
        have hsz : (⟨(oneC (m :: r)).2.1.toArray⟩ : ByteArray).size ≤ 1000000000 := by rw [Rev.bsz]; have h9 := one_name (b := m :: r); omega
        simp only [List.length_cons] at hz hlb hbk hb9 hln
        have S91 := S7d.sel [0] (by decide)
        have S92 := S91.rowc 0 rfl (n' := (l ++ [yE]).length) (xs' := (l ++ [yE]).flatMap enf) (by rw [List.length_append]; rfl) (by rw [List.flatMap_append]; simp [hyE])
        refine ⟨_, _, _, (oneC (m :: r)).2.2, k, acc ++ [zEV ⟨(oneC (m :: r)).2.1.toArray⟩ ((((m :: r).getD 0 0).toNat : Int) - 48)], l ++ [yE], _, _, by simp only [List.length_cons]; omega, ⟨⟨by omega, by omega, by rw [List.length_append]; simp only [List.length_cons, List.length_nil]; omega, by rw [List.map_append, List.map_append, hst, List.map_cons, List.map_nil, List.map_cons, List.map_nil, zEV_st hsz, hys], by rw [ht, getT_ok (by simp) (fun q => q (by omega))]⟩, hrest _ hb, S92⟩, ?_⟩
        exact (Sub.cons rfl (by first | rfl | exact congrArg (Value.int _) (by omega)) (Sub.cons rfl (by rw [List.length_append]; rfl) (Sub.nil _)))
    ·
      have hb0 : b = [] := List.length_eq_zero_iff.1 (by omega)
      subst hb0
      refine T_exit ?_
      refine hK3 _ _ ?_
      refine T_seq fun K11 hK11 => ?_
      refine T_seq fun K12 hK12 => ?_
      refine T_region ?_
      refine L_y (y_move rfl) rfl ?_
      refine L_o (o_call Tryz.func107 rfl rfl (Tre.pcheck A4 _ c4 l w2 (S2.row 0 rfl) (by omega)) rfl rfl ?_)
      rintro e8 w8 ⟨v8, rfl, l8, rfl⟩
      refine ⟨_, rfl, ?_⟩
      have S8 := S2.like l8
      refine L_y (y_assign rfl) rfl ?_
      refine L_nil ?_
      refine hK12 _ _ ?_
      refine T_seq fun K13 hK13 => ?_
      refine T_region ?_
      refine L_y (y_move rfl) rfl ?_
      refine L_y (y_neq rfl rfl) rfl ?_
      refine L_nil ?_
      refine hK13 _ _ ?_
      refine T_cond rfl (fun h29 => ?_) (fun h29 => ?_)
      ·
        refine T_seq fun K14 hK14 => ?_
        refine T_region ?_
        refine L_y (y_move rfl) rfl ?_
        refine L_y (y_assign rfl) rfl ?_
        refine L_y (y_assign rfl) rfl ?_
        refine L_nil ?_
        refine hK14 _ _ ?_
        refine T_ret ?_
        repeat (first | with_reducible refine up_then ?_ | with_reducible refine up_in ?_)
        refine ret2 rfl rfl rfl ?_
        have he : treeE b0 = chkE l := by rw [ht, getT_nil]; unfold finT; rw [if_neg (by simp)]; exact chkE_congr hst.symm
        exact ⟨_, rfl, S8.like0, none, 0, 0, by rw [he]⟩
      ·
        refine T_skip ?_
        refine hK11 _ _ ?_
        refine T_seq fun K15 hK15 => ?_
        refine T_region ?_
        refine L_y (y_move rfl) rfl ?_
        refine L_y (y_assign rfl) rfl ?_
        refine L_y (y_assign rfl) rfl ?_
        refine L_nil ?_
        refine hK15 _ _ ?_
        refine T_ret ?_
        repeat (first | with_reducible refine up_then ?_ | with_reducible refine up_in ?_)
        refine ret2 rfl rfl rfl ?_
        have he : treeE b0 = 0 := by rw [ht, getT_nil]; unfold finT; rw [if_neg (by simp)]; exact (chkE_congr hst.symm).trans (Classical.byContradiction fun q => h29 q)
        exact ⟨_, rfl, S8.like0, A4, l.length, c4, by rw [he]⟩
end Go.Proofs.YtgaklngnfecdaaaGreat.Obj


/-
  '[]byte(s)': a row of the call's own that bears a mark behind its cells; append onto it.
-/
namespace Go.Proofs.YtgaklngnfecdaaaGreat.Zx
open Go.RowKit Zk
set_option linter.unusedVariables false
set_option linter.unusedSimpArgs false
/-- A row whose mark, if there is one, lies behind its cells. -/
def OwnM (w : World) (e : TypeId) (A : Option Addr) (n c : Nat) (xs : List Value) : Prop :=
  xs.length = n ∧ ∃ g cur fz, A = some ⟨g, 0, none⟩ ∧ w.heap[g]? = some (.cells cur e fz) ∧ (fz = (0, 0) ∨ cur.size ≤ fz.1) ∧ n ≤ c ∧ c ≤ maxLen ∧ cur.size = c ∧ cur.toList.take n = xs
def rowM (e : TypeId) (A : Option Addr) (n c : Nat) (xs : List Value) : Res where
  dom i := (Value.slice A n c).ownBlock = some i
  holds w := OwnM w e A n c xs
  stable w w' h hh := by
    obtain ⟨h0, g, cur, fz, h1, h2, h3⟩ := hh
    refine ⟨h0, g, cur, fz, h1, ?_, h3⟩
    rw [← h2]
    exact h g (by rw [h1]; rfl)
theorem OwnM.rs {w : World} {e : TypeId} {A : Option Addr} {n c : Nat} {xs : List Value} (h : OwnM w e A n c xs) : Rs w 1 A n c xs := by
  obtain ⟨h0, g, cur, fz, rfl, hg, hfz, hnc, hcm, hcs, htk⟩ := h
  refine ⟨⟨by omega, fun hn => ⟨_, rfl, (Array.getElem?_eq_some_iff.1 hg).1, fun j u hu => ?_⟩⟩, hnc, by unfold maxLen at hcm; exact hcm⟩
  rw [Addr.add_mid, cell_of_row w g _ cur e fz hg, Nat.zero_add]
  rw [← htk, List.getElem?_take] at hu
  split at hu
  · simpa using hu
  · cases hu
section
variable {P : Program} {N : Nat} {Q : Exit → Env → World → Prop} {env : Env} {w w0 : World} {M : Nat → Prop} {rs : List Res} {K : Env → World → Prop} {d : Tmp} {ty : TypeId} {pos : String} {after : Array Edge} {g : Option (Nat × Bool)}
theorem St.rowM (S : St w0 M rs w) (k : Nat) {e n c : Nat} {A : Option Addr} {xs : List Value} (hk : rs[k]? = some (Zx.rowM e A n c xs)) : Rs w 1 A n c xs := OwnM.rs (S.get k hk)
theorem St.frM (S : St w0 noM rs w) (k : Nat) {e n c : Nat} {A : Option Addr} {xs : List Value} (hk : rs[k]? = some (Zx.rowM e A n c xs)) : Fr w0 w 1 A n c xs :=
  ⟨S.rowM k hk, fun ad hn hA => by
    have := ((S.res _ (List.mem_of_getElem? hk)).2 ad.block (by show (Value.slice A n c).ownBlock = _; rw [hA]; rfl)).2
    rcases this with h | h
    · exact h
    · exact h.elim⟩
theorem o_sbytesM {src dt e : TypeId} {x : Operand} {s : ByteArray} (hs : P.underlying src = some .string) (hd : P.underlying dt = some (.slice e)) (he : P.underlying e = some (.int .u8)) (hx : ev env x = some (.string s)) (hlen : s.size ≤ 4611686018427387904) (S : St w0 M rs w) (hdN : Nat.blt d N = true)
    (h : ∀ b c w', Like w w' → St w0 M (rs ++ [rowM e (some ⟨b, 0, none⟩) s.size c (bL s.data.toList)]) w' → K ((d, .slice (some ⟨b, 0, none⟩) s.size c) :: env) w') :
    O P N Q ⟨some d, .convert src dt x, ty, pos, after, g⟩ env w K := fun a ha => by
  have hr := run_bytes_of_string (P := P) w src dt e s hs hd he
  have hcap := grownCap_ge w s.size 0 e
  have hmax := grownCap_le_maxLen w s.size 0 e (by unfold maxLen; omega)
  generalize grownCap w s.size 0 e = cap at *
  have hsz : (bytesRow s cap).size = cap := by unfold bytesRow; simp only [Array.size_append, Array.size_map, Array.size_replicate]; have : s.data.size = s.size := rfl; omega
  have htk : (bytesRow s cap).toList.take s.size = bL s.data.toList := by
    unfold bytesRow
    rw [Array.toList_append, List.take_append_of_le_length (by simp)]
    rw [List.take_of_length_le (by simp)]
    simp [bL]
    intro a _
    rfl
  generalize bytesRow s cap = C at *
  have hl : Like w (w.drew.alloc (.cells C e (C.size, C.size + 1))) := Like.trans (Like.drew w) (like_alloc _ _)
  have hblk : (w.drew.alloc (.cells C e (C.size, C.size + 1))).heap[w.heap.size]? = some (.cells C e (C.size, C.size + 1)) := heap_alloc_new w.drew _
  unfold Oper.wp execOp
  simp only [ha.eval hx, Sem.run_bind, hr, Result.andThen_ok, Sem.run_pure]
  refine ⟨_, ha.put d _ hdN, h _ _ _ hl (S.new hl _ ⟨by simp [size_toList], w.heap.size, C, _, rfl, hblk, .inr (Nat.le_refl _), hcap, hmax, hsz, htk⟩ fun i hi => ?_)⟩
  change (Value.slice (some ⟨w.heap.size, 0, none⟩) s.size cap).ownBlock = some i at hi
  simp only [Value.ownBlock, Option.some.injEq] at hi
  subst hi
  exact ⟨Nat.le_refl _, (Array.getElem?_eq_some_iff.1 hblk).1⟩
theorem storeCellsM (b o : Nat) (t : TypeId) (fz : Nat × Nat) : ∀ (vs : List Value) (i : Nat) (cur : Array Value) (w : World), w.heap[b]? = some (.cells cur t fz) → (fz = (0, 0) ∨ cur.size ≤ fz.1) → o + i + vs.length ≤ cur.size → (∀ v ∈ vs, v.oneCell' = true) →
    (storeCells ⟨b, o, none⟩ vs i).run P w = .ok () (w.setRow b (cur.toList.take (o + i) ++ vs ++ cur.toList.drop (o + i + vs.length)).toArray)
  | [], i, cur, w, hg, _, _, _ => by
    simp only [storeCells, List.append_nil, List.length_nil, Nat.add_zero, List.take_append_drop, Array.toArray_toList]
    rw [setRow_self w b cur t fz hg]
    rfl
  | v :: rest, i, cur, w, hg, hfz, hl, h1 => by
    have hi : o + i < cur.size := by simp at hl; omega
    have hadd : (⟨b, o, none⟩ : Addr).add i = ⟨b, o + i, none⟩ := by unfold Addr.add; split <;> simp_all
    have hcell : w.cell? ⟨b, o + i, none⟩ = some cur[o + i] := by simp [World.cell?, hg, hi]
    have hfro : w.frozen? ⟨b, o + i, none⟩ = false := by
      obtain ⟨lo, hi'⟩ := fz
      rcases hfz with h | h
      · cases h
        simp [World.frozen?, hg]
      · simp only [World.frozen?, hg, Bool.and_eq_false_iff, decide_eq_false_iff_not]
        left
        simp only at h
        omega
    have hst : (store ((⟨b, o, none⟩ : Addr).add i) v).run P w = .ok () (w.setRow b (cur.setIfInBounds (o + i) v)) := by
      rw [hadd, run_store P w _ v _ (h1 v (by simp)), hcell]
      simp [hfro, setCell_eq_setRow w b (o + i) cur t fz v hg]
    have ih := storeCellsM b o t fz rest (i + 1) (cur.setIfInBounds (o + i) v) (w.setRow b (cur.setIfInBounds (o + i) v)) (setRow_heap w b cur _ t _ hg) (by simpa using hfz) (by simp at hl ⊢; omega) (fun x hx => h1 x (by simp [hx]))
    simp only [storeCells, Sem.run_bind, hst, Result.andThen_ok, ih, setRow_setRow]
    congr 3
    have e := list_seg_step cur.toList (o + i) v rest (by simp at hl ⊢; omega)
    simpa [Array.toList_setIfInBounds, Nat.add_assoc] using e
theorem appendRoomM (w : World) (t ty e : TypeId) (i : TypeInfo) (ht : P.underlying t = some (.slice e)) (hi : P.info? e = some i) (hs1 : i.size = 1)
    (b sLen sCap : Nat) (cur : Array Value) (fz : Nat × Nat) (hg : w.heap[b]? = some (.cells cur e fz)) (hfz : fz = (0, 0) ∨ cur.size ≤ fz.1)
    (a : Addr) (m c : Nat) (news : List Value) (hl : news.length = m) (hnews : ∀ j u, news[j]? = some u → w.cell? (a.add j) = some u) (h1 : ∀ u ∈ news, u.oneCell' = true)
    (hroom : sLen + m ≤ sCap) (hfit : sLen + news.length ≤ cur.size) :
    (Builtin.append_ #[t, t] ty #[.slice (some ⟨b, 0, none⟩) sLen sCap, .slice (some a) m c]).run P w =
      .ok (.slice (some ⟨b, 0, none⟩) (sLen + m) sCap) (w.setRow b (cur.toList.take sLen ++ news ++ cur.toList.drop (sLen + news.length)).toArray) := by
  have hf := run_firstCells_some (P := P) w 1 m a m c news (by omega) hnews
  have hst := storeCellsM (P := P) b sLen e fz news 0 cur w hg hfz (by simpa using hfit) h1
  simp only [Nat.add_zero] at hst
  simp [Builtin.append_, run_underlying ht, sizeOf, typeInfo, hi, hs1, Builtin.lenOf, hroom, hf, Addr.add_lit, hst]
theorem run_appM (w : World) (t ty e : TypeId) (i : TypeInfo) (z : Value) (ht : P.underlying t = some (.slice e)) (hi : P.info? e = some i) (hz : i.zero = some z)
    (hsize : i.size = 1) (hzs : z.cells.size = 1) {A : Option Addr} {n c : Nat} {xs : List Value} (hown : OwnM w e A n c xs)
    (A' : Option Addr) (m c' : Nat) (news : List Value) (hr : Reads w w.heap.size 1 A' m news) (h1 : ∀ u ∈ news, u.oneCell' = true)
    (h63 : n + m ≤ maxLen) (hbytes : (n + m) * i.bytes ≤ 140737488355328) :
    ∃ A2 c2 w', (Builtin.append_ #[t, t] ty #[.slice A n c, .slice A' m c']).run P w = .ok (.slice A2 (n + m) c2) w' ∧ OwnM w' e A2 (n + m) c2 (xs ++ news) ∧ w.grownBy w' (Value.slice A n c).ownBlock ∧
      ((Value.slice A2 (n + m) c2).ownBlock = (Value.slice A n c).ownBlock ∨ (Value.slice A2 (n + m) c2).ownBlock = some w.heap.size ∧ w.heap.size < w'.heap.size) := by
  have hown0 := hown
  obtain ⟨h0, b, cur, fz, rfl, hg, hfz, hnc, hcm, hcs, htk⟩ := hown
  have hnl : news.length = m := by have := hr.1; omega
  rcases A' with _ | ad
  · have hm : m = 0 := by
      rcases Nat.eq_zero_or_pos m with h | h
      · exact h
      · obtain ⟨ad, h, _⟩ := hr.2 h
        cases h
    subst hm
    have hn : news = [] := List.eq_nil_of_length_eq_zero hnl
    subst hn
    refine ⟨_, c, w, ?_, by simpa using hown0, World.grownBy.refl w _, .inl rfl⟩
    simp [Builtin.append_, run_underlying ht, sizeOf, typeInfo, hi, Builtin.lenOf, Builtin.firstCells, hnc, storeCells]
  · have hcells : ∀ j u, news[j]? = some u → w.cell? (ad.add j) = some u := by
      intro j u hu
      rcases Nat.eq_zero_or_pos m with hm0 | hm0
      · have : news = [] := List.eq_nil_of_length_eq_zero (by omega)
        rw [this] at hu
        simp at hu
      · obtain ⟨ad', h, _, hc⟩ := hr.2 hm0
        injection h with h
        subst h
        exact hc j u hu
    have hlen : (xs ++ news).length = n + m := by rw [List.length_append]; omega
    by_cases hroom : n + m ≤ c
    · have hr2 := appendRoomM (P := P) w t ty e i ht hi hsize b n c cur fz hg hfz ad m c' news hnl hcells h1 hroom (by omega)
      refine ⟨_, c, _, hr2, ⟨hlen, b, _, fz, rfl, setRow_heap w b cur _ e _ hg, ?_, hroom, hcm, ?_, ?_⟩, ⟨rfl, rfl, rfl, by simp, fun k _ hk => setRow_other w b k _ (fun q => hk (by simp [Value.ownBlock, q]))⟩, .inl rfl⟩
      · rcases hfz with h | h
        · exact .inl h
        · right
          simp only [List.size_toArray, List.length_append, List.length_take, List.length_drop, Array.length_toList]
          omega
      · simp only [List.size_toArray, List.length_append, List.length_take, List.length_drop, Array.length_toList]
        omega
      · rw [htk, ← hlen]
        exact List.take_left
    · have holds : ∀ j u, xs[j]? = some u → w.cell? ((⟨b, 0, none⟩ : Addr).add j) = some u := fun j u hu => by
        rw [Addr.add_mid, cell_of_row w b _ cur e fz hg, Nat.zero_add]
        rw [← htk, List.getElem?_take] at hu
        split at hu
        · simpa using hu
        · cases hu
      have hr2 := run_append_grow (P := P) w t ty e i z ht hi hz ⟨b, 0, none⟩ n c xs (by rw [hsize]; omega) holds ad m c' news (by rw [hsize]; omega) hcells (by omega) (by unfold maxLen at h63; omega) (growslice_fits (by omega) hbytes)
      have hge := grownCap_ge w (n + m) c e
      have hcm2 : grownCap w (n + m) c e ≤ maxLen := grownCap_le_maxLen w (n + m) c e h63
      refine ⟨_, _, _, hr2, ⟨hlen, w.heap.size, _, (0, 0), rfl, heap_alloc_new w.drew _, .inl rfl, hge, hcm2, ?_, ?_⟩, ⟨rfl, rfl, rfl, by simp, fun k hk _ => heap_alloc_old w.drew _ hk⟩, .inr ⟨rfl, by simp⟩⟩
      · simp only [Array.size_append, List.size_toArray, size_zeroCells, hzs]
        omega
      · simp only [Array.toList_append, List.append_assoc]
        rw [← List.append_assoc, ← hlen]
        exact List.take_left
/-- append onto it. -/
theorem o_appM {s x : Operand} {t e : TypeId} {z : Value} {bytes : Nat} (TE : Elem P t e z 1 bytes) (S : St w0 M rs w) (k : Nat) {A : Option Addr} {n c : Nat} {xs : List Value} (hk : rs[k]? = some (rowM e A n c xs))
    (hs : ev env s = some (.slice A n c)) {A' : Option Addr} {m c' : Nat} {news : List Value} (hx : ev env x = some (.slice A' m c')) (hr : Rs w 1 A' m c' news) (h1 : ∀ u ∈ news, u.oneCell' = true)
    (hd : Nat.blt d N = true) (hbytes : (n + m) * bytes ≤ 140737488355328) (h63 : n + m ≤ 9223372036854775807)
    (h : ∀ A2 c2 w', St w0 M (rs.set k (rowM e A2 (n + m) c2 (xs ++ news))) w' → K ((d, .slice A2 (n + m) c2) :: env) w') :
    O P N Q ⟨some d, .call { callee := .builtin .append, args := #[s, x], argTypes := #[t, t] }, ty, pos, after, g⟩ env w K := fun a ha => by
  have hown : OwnM w e A n c xs := S.get k hk
  obtain ⟨i, hi, hz, hsize, hby⟩ := info_parts TE.hi
  obtain ⟨A2, c2, w', hrun, h2, h3, h4⟩ := run_appM (P := P) w t ty e i z TE.ht hi hz hsize TE.hzs hown A' m c' news hr.rd h1 (by unfold maxLen; exact h63) (by rw [hby]; exact hbytes)
  unfold Oper.wp execOp
  simp only [resolve, invoke, builtin, Sem.run_bind, Sem.run_pure, Result.andThen_ok, List.map_toArray, List.map_cons, List.map_nil, ha.eval hs, ha.eval hx, hrun]
  refine ⟨_, ha.put d _ hd, h A2 c2 w' (S.upd k hk h3.os h3.tape h3.output h3.size (fun j hj hn => h3.block j hj (fun e => hn e.symm)) h2 fun j hj => ?_)⟩
  change (Value.slice A2 (n + m) c2).ownBlock = some j at hj
  rcases h4 with h4 | ⟨h4, h5⟩
  · left; rw [h4] at hj; exact hj
  · right
    rw [h4] at hj
    cases hj
    exact ⟨Nat.le_refl _, h5⟩
end
end Go.Proofs.YtgaklngnfecdaaaGreat.Zx


/-
  Objects as bytes.
-/
namespace Go.Proofs.YtgaklngnfecdaaaGreat.Obj
open Go.RowKit Zk Zx
open Oid (idf idf_len)
open Tre (nmOk EV enf enf_len mdOk chkE)
open Rev (cutF cutF_some cutF_none)
set_option linter.unusedVariables false
set_option linter.unusedSimpArgs false

def wordB (k : Int) : List UInt8 := if k = 1 then [98, 108, 111, 98] else if k = 2 then [116, 114, 101, 101] else if k = 3 then [99, 111, 109, 109, 105, 116] else if k = 4 then [116, 97, 103] else []
def wordS (k : Int) : ByteArray := ⟨(wordB k).toArray⟩
theorem wordS_1 {k : Int} (h : k = 1) : (⟨#[98, 108, 111, 98]⟩ : ByteArray) = wordS k := by subst h; rfl
theorem wordS_2 {k : Int} (h : k = 2) : (⟨#[116, 114, 101, 101]⟩ : ByteArray) = wordS k := by subst h; rfl
theorem wordS_3 {k : Int} (h : k = 3) : (⟨#[99, 111, 109, 109, 105, 116]⟩ : ByteArray) = wordS k := by subst h; rfl
theorem wordS_4 {k : Int} (h : k = 4) : (⟨#[116, 97, 103]⟩ : ByteArray) = wordS k := by subst h; rfl
theorem wordS_0 {k : Int} (h1 : ¬ k = 1) (h2 : ¬ k = 2) (h3 : ¬ k = 3) (h4 : ¬ k = 4) : (⟨#[]⟩ : ByteArray) = wordS k := by unfold wordS wordB; rw [if_neg h1, if_neg h2, if_neg h3, if_neg h4]
theorem wordS_len (k : Int) : (wordS k).size ≤ 6 := by
  unfold wordS wordB
  rw [Rev.bsz]
  repeat' split
  all_goals decide
theorem word_nil (k : Int) : wordS k = ⟨#[]⟩ ↔ ¬ (1 ≤ k ∧ k ≤ 4) := by
  constructor
  · intro h q
    have hk : k = 1 ∨ k = 2 ∨ k = 3 ∨ k = 4 := by omega
    rcases hk with rfl | rfl | rfl | rfl <;> exact absurd h (by decide)
  · intro h
    exact (wordS_0 (by omega) (by omega) (by omega) (by omega)).symm
/-- The error of a kind and a body. -/
def objE (k : Int) (b : List UInt8) : Int := if ¬ (1 ≤ k ∧ k ≤ 4) then 19 else if 4000 < b.length then 3 else if k = 2 then treeE b else if k = 3 then Rev.gcode b else if k = 4 then Rev.mcode b else 0
def objB (k : Int) (b : List UInt8) : List UInt8 := wordB k ++ [32] ++ Rev.digS (b.length : Int) ++ [0] ++ b
/-- What Bytes answers. -/
def BytesV (w0 w' : World) (k : Int) (b : List UInt8) (u : Value) : Prop := (objE k b ≠ 0 ∧ u = .tuple #[.slice none 0 0, .int .i64 (objE k b)]) ∨ (objE k b = 0 ∧ ∃ A c, u = .tuple #[.slice A (objB k b).length c, .int .i64 0] ∧ Fr w0 w' 1 A (objB k b).length c (bL (objB k b)))
theorem hdr_list (k : Int) (d : List UInt8) : ((wordS k ++ (⟨#[32]⟩ : ByteArray)) ++ (⟨d.toArray⟩ : ByteArray)).data.toList = wordB k ++ [32] ++ d := by
  simp [wordS]
theorem hdr_size (k : Int) (d : List UInt8) : ((wordS k ++ (⟨#[32]⟩ : ByteArray)) ++ (⟨d.toArray⟩ : ByteArray)).size = (wordB k ++ [32] ++ d).length := by
  rw [← hdr_list]
  exact Array.length_toList.symm
theorem spsz : (⟨#[32]⟩ : ByteArray).size = 1 := rfl


set_option maxRecDepth 100000 in
theorem word_ (k : Int) (w0 : World)  :
    Calls Tryz.prog 17 #[.int .i64 k] w0 fun e w' => ∃ u, e = .returned u ∧ Like w0 w' ∧ u = .string (wordS k) := by
  refine enter1 (env := [(0, .int .i64 k)]) [.int .i64 k] Tryz.func17 rfl Tryz.ntmps17 rfl rfl ?_
  have S0 := St.start w0 noM
  refine T_seq fun K1 hK1 => ?_
  refine T_region ?_
  refine L_y (y_assign rfl) rfl ?_
  refine L_nil ?_
  refine hK1 _ _ ?_
  refine T_seq fun K2 hK2 => ?_
  refine T_seq fun K3 hK3 => ?_
  refine T_region ?_
  refine L_y (y_move rfl) rfl ?_
  refine L_nil ?_
  refine hK3 _ _ ?_
  refine T_block ?_
  refine T_seq fun K4 hK4 => ?_
  refine T_region ?_
  refine L_y (y_eql rfl rfl) rfl ?_
  refine L_y (y_assign rfl) rfl ?_
  refine L_nil ?_
  refine hK4 _ _ ?_
  refine T_cond rfl (fun h4 => ?_) (fun h4 => ?_)
  ·
    refine T_seq fun K5 hK5 => ?_
    refine T_region ?_
    refine L_y (y_assign rfl) rfl ?_
    refine L_nil ?_
    refine hK5 _ _ ?_
    refine T_ret ?_
    repeat (first | with_reducible refine up_then ?_ | with_reducible refine up_in ?_)
    refine ret1 rfl rfl ?_
    exact ⟨_, rfl, S0.like0, congrArg Value.string (wordS_1 h4)⟩
  ·
    refine T_seq fun K6 hK6 => ?_
    refine T_region ?_
    refine L_y (y_eql rfl rfl) rfl ?_
    refine L_y (y_assign rfl) rfl ?_
    refine L_nil ?_
    refine hK6 _ _ ?_
    refine T_cond rfl (fun h6 => ?_) (fun h6 => ?_)
    ·
      refine T_seq fun K7 hK7 => ?_
      refine T_region ?_
      refine L_y (y_assign rfl) rfl ?_
      refine L_nil ?_
      refine hK7 _ _ ?_
      refine T_ret ?_
      repeat (first | with_reducible refine up_then ?_ | with_reducible refine up_in ?_)
      refine ret1 rfl rfl ?_
      exact ⟨_, rfl, S0.like0, congrArg Value.string (wordS_2 h6)⟩
    ·
      refine T_seq fun K8 hK8 => ?_
      refine T_region ?_
      refine L_y (y_eql rfl rfl) rfl ?_
      refine L_y (y_assign rfl) rfl ?_
      refine L_nil ?_
      refine hK8 _ _ ?_
      refine T_cond rfl (fun h8 => ?_) (fun h8 => ?_)
      ·
        refine T_seq fun K9 hK9 => ?_
        refine T_region ?_
        refine L_y (y_assign rfl) rfl ?_
        refine L_nil ?_
        refine hK9 _ _ ?_
        refine T_ret ?_
        repeat (first | with_reducible refine up_then ?_ | with_reducible refine up_in ?_)
        refine ret1 rfl rfl ?_
        exact ⟨_, rfl, S0.like0, congrArg Value.string (wordS_3 h8)⟩
      ·
        refine T_seq fun K10 hK10 => ?_
        refine T_region ?_
        refine L_y (y_eql rfl rfl) rfl ?_
        refine L_y (y_assign rfl) rfl ?_
        refine L_nil ?_
        refine hK10 _ _ ?_
        refine T_cond rfl (fun h10 => ?_) (fun h10 => ?_)
        ·
          refine T_seq fun K11 hK11 => ?_
          refine T_region ?_
          refine L_y (y_assign rfl) rfl ?_
          refine L_nil ?_
          refine hK11 _ _ ?_
          refine T_ret ?_
          repeat (first | with_reducible refine up_then ?_ | with_reducible refine up_in ?_)
          refine ret1 rfl rfl ?_
          exact ⟨_, rfl, S0.like0, congrArg Value.string (wordS_4 h10)⟩
        ·
          refine T_skip ?_
          refine hK2 _ _ ?_
          refine T_seq fun K12 hK12 => ?_
          refine T_region ?_
          refine L_y (y_assign rfl) rfl ?_
          refine L_nil ?_
          refine hK12 _ _ ?_
          refine T_ret ?_
          repeat (first | with_reducible refine up_then ?_ | with_reducible refine up_in ?_)
          refine ret1 rfl rfl ?_
          exact ⟨_, rfl, S0.like0, congrArg Value.string (wordS_0 h4 h6 h8 h10)⟩


set_option maxRecDepth 100000 in
theorem read (k : Int) (B : Option Addr) (m d : Nat) (b : List UInt8) (w0 : World) (hb : Rs w0 1 B m d (bL b)) :
    Calls Tryz.prog 40 #[.int .i64 k, .slice B m d] w0 fun e w' => ∃ u, e = .returned u ∧ Like w0 w' ∧ ∃ v, u = .tuple #[v, .int .i64 (objE k b)] := by
  refine enter1 (env := [(0, .int .i64 k), (1, .slice B m d)]) [.int .i64 k, .slice B m d] Tryz.func40 rfl Tryz.ntmps40 rfl rfl ?_
  have hl := hb.lenb; have hcap := hb.cap; have hmax := hb.max
  have S0 := St.start w0 noM
  refine T_seq fun K1 hK1 => ?_
  refine T_region ?_
  refine L_y (y_assign rfl) rfl ?_
  refine L_y (y_assign rfl) rfl ?_
  refine L_nil ?_
  refine hK1 _ _ ?_
  refine T_seq fun K2 hK2 => ?_
  refine T_seq fun K3 hK3 => ?_
  refine T_region ?_
  refine L_y (y_move rfl) rfl ?_
  refine L_o (o_call Tryz.func17 rfl rfl (word_ k w0) rfl rfl ?_)
  rintro e1 w1 ⟨v1, rfl, l1, rfl⟩
  refine ⟨_, rfl, ?_⟩
  have S1 := S0.like l1
  refine L_y (y_seql rfl rfl) rfl ?_
  refine L_nil ?_
  refine hK3 _ _ ?_
  refine T_cond rfl (fun h14 => ?_) (fun h14 => ?_)
  ·
    refine T_seq fun K4 hK4 => ?_
    refine T_region ?_
    refine L_y (y_assign rfl) rfl ?_
    refine L_y (y_assign rfl) rfl ?_
    refine L_nil ?_
    refine hK4 _ _ ?_
    refine T_ret ?_
    repeat (first | with_reducible refine up_then ?_ | with_reducible refine up_in ?_)
    refine ret2 rfl rfl rfl ?_
    have he : objE k b = 19 := by unfold objE; rw [if_pos ((word_nil k).1 h14)]
    exact ⟨_, rfl, S1.like0, _, by first | (rw [he]; done) | (rw [he]; rfl)⟩
  ·
    have hk : 1 ≤ k ∧ k ≤ 4 := Classical.byContradiction fun q => h14 ((word_nil k).2 q)
    refine T_skip ?_
    refine hK2 _ _ ?_
    refine T_seq fun K5 hK5 => ?_
    refine T_seq fun K6 hK6 => ?_
    refine T_region ?_
    refine L_y (y_move rfl) rfl ?_
    refine L_y (y_len Tryz.underlying22 rfl) rfl ?_
    refine L_y (y_gtr rfl rfl) rfl ?_
    refine L_nil ?_
    refine hK6 _ _ ?_
    refine T_cond rfl (fun h17 => ?_) (fun h17 => ?_)
    ·
      refine T_seq fun K7 hK7 => ?_
      refine T_region ?_
      refine L_y (y_assign rfl) rfl ?_
      refine L_y (y_assign rfl) rfl ?_
      refine L_nil ?_
      refine hK7 _ _ ?_
      refine T_ret ?_
      repeat (first | with_reducible refine up_then ?_ | with_reducible refine up_in ?_)
      refine ret2 rfl rfl rfl ?_
      have he : objE k b = 3 := by unfold objE; rw [if_neg (fun q => q hk), if_pos (by omega)]
      exact ⟨_, rfl, S1.like0, _, by first | (rw [he]; done) | (rw [he]; rfl)⟩
    ·
      refine T_skip ?_
      refine hK5 _ _ ?_
      refine T_seq fun K8 hK8 => ?_
      refine T_seq fun K9 hK9 => ?_
      refine T_region ?_
      refine L_y (y_move rfl) rfl ?_
      refine L_nil ?_
      refine hK9 _ _ ?_
      refine T_block ?_
      refine T_seq fun K10 hK10 => ?_
      refine T_region ?_
      refine L_y (y_eql rfl rfl) rfl ?_
      refine L_y (y_assign rfl) rfl ?_
      refine L_nil ?_
      refine hK10 _ _ ?_
      refine T_cond rfl (fun h19 => ?_) (fun h19 => ?_)
      ·
        refine T_seq fun K11 hK11 => ?_
        refine T_region ?_
        refine L_y (y_move rfl) rfl ?_
        refine L_o (o_call Tryz.func73 rfl rfl (get B m d b w1 (S1.rd hb) (by omega)) rfl rfl ?_)
        rintro e2 w2 ⟨v2, rfl, l2, A23, k23, c23, rfl⟩
        refine ⟨_, rfl, ?_⟩
        have S2 := S1.like l2
        refine L_y (y_move rfl) rfl ?_
        refine L_y (y_extract rfl rfl) rfl ?_
        refine L_y (y_extract rfl rfl) rfl ?_
        refine L_y (y_assign rfl) rfl ?_
        refine L_y (y_assign rfl) rfl ?_
        refine L_nil ?_
        refine hK11 _ _ ?_
        refine T_seq fun K12 hK12 => ?_
        refine T_region ?_
        refine L_y (y_move rfl) rfl ?_
        refine L_y (y_mkI (by kernel_rfl) rfl) rfl ?_
        refine L_y (y_move rfl) rfl ?_
        refine L_y (y_assign rfl) rfl ?_
        refine L_y (y_assign rfl) rfl ?_
        refine L_nil ?_
        refine hK12 _ _ ?_
        refine T_ret ?_
        repeat (first | with_reducible refine up_then ?_ | with_reducible refine up_in ?_)
        refine ret2 rfl rfl rfl ?_
        have he : objE k b = treeE b := by unfold objE; rw [if_neg (fun q => q hk), if_neg (by omega), if_pos h19]
        exact ⟨_, rfl, S2.like0, _, by first | (rw [he]; done) | (rw [he]; rfl)⟩
      ·
        refine T_seq fun K13 hK13 => ?_
        refine T_region ?_
        refine L_y (y_eql rfl rfl) rfl ?_
        refine L_y (y_assign rfl) rfl ?_
        refine L_nil ?_
        refine hK13 _ _ ?_
        refine T_cond rfl (fun h29 => ?_) (fun h29 => ?_)
        ·
          refine T_seq fun K14 hK14 => ?_
          refine T_region ?_
          refine L_y (y_move rfl) rfl ?_
          refine L_o (o_call Tryz.func74 rfl rfl (Rev.getB B m d b w1 (S1.rd hb) (by omega)) rfl rfl ?_)
          rintro e3 w3 ⟨v3, rfl, l3, A33, c33, F33, rfl⟩
          refine ⟨_, rfl, ?_⟩
          have S3 := S1.like l3
          refine L_y (y_move rfl) rfl ?_
          refine L_y (y_extract rfl rfl) rfl ?_
          refine L_y (y_extract rfl rfl) rfl ?_
          refine L_o (o_alloc zz83 S3 rfl fun b4 w4 hb4 S4 => ?_)
          refine L_o (o_stW S4 0 rfl rfl rfl (by rw [Rev.cmf_sz]; exact sz83) (by first | (rw [Rev.cmf_sz]; done) | (rw [Rev.cmf_sz]; rfl)) (fun u hu => Rev.cmf_one _ u (by rw [List.toList_toArray] at hu; exact hu)) fun w5 S5 => ?_)
          refine L_y (y_assign rfl) rfl ?_
          refine L_nil ?_
          refine hK14 _ _ ?_
          refine T_seq fun K15 hK15 => ?_
          refine T_region ?_
          refine L_y (y_ldW Tryz.underlying83 rfl sz83 rfl (S5.blk 0 rfl) (Rev.cm_whole _)) rfl ?_
          refine L_y (y_mkI (by kernel_rfl) rfl) rfl ?_
          refine L_y (y_move rfl) rfl ?_
          refine L_y (y_assign rfl) rfl ?_
          refine L_y (y_assign rfl) rfl ?_
          refine L_nil ?_
          refine hK15 _ _ ?_
          refine T_ret ?_
          repeat (first | with_reducible refine up_then ?_ | with_reducible refine up_in ?_)
          refine ret2 rfl rfl rfl ?_
          have he : objE k b = Rev.gcode b := by unfold objE; rw [if_neg (fun q => q hk), if_neg (by omega), if_neg h19, if_pos h29]
          exact ⟨_, rfl, S5.like0, _, by first | (rw [he]; done) | (rw [he]; rfl)⟩
        ·
          refine T_seq fun K16 hK16 => ?_
          refine T_region ?_
          refine L_y (y_eql rfl rfl) rfl ?_
          refine L_y (y_assign rfl) rfl ?_
          refine L_nil ?_
          refine hK16 _ _ ?_
          refine T_cond rfl (fun h39 => ?_) (fun h39 => ?_)
          ·
            refine T_seq fun K17 hK17 => ?_
            refine T_region ?_
            refine L_y (y_move rfl) rfl ?_
            refine L_o (o_call Tryz.func75 rfl rfl (Rev.getMB B m d b w1 (S1.rd hb) (by omega)) rfl rfl ?_)
            rintro e6 w6 ⟨v6, rfl, l6, rfl⟩
            refine ⟨_, rfl, ?_⟩
            have S6 := S1.like l6
            refine L_y (y_move rfl) rfl ?_
            refine L_y (y_extract rfl rfl) rfl ?_
            refine L_y (y_extract rfl rfl) rfl ?_
            refine L_o (o_alloc zz87 S6 rfl fun b7 w7 hb7 S7 => ?_)
            refine L_o (o_stW S7 0 rfl rfl rfl (by rw [Rev.mkf_sz]; exact sz87) (by first | (rw [Rev.mkf_sz]; done) | (rw [Rev.mkf_sz]; rfl)) (fun u hu => Rev.mkf_one _ u (by rw [List.toList_toArray] at hu; exact hu)) fun w8 S8 => ?_)
            refine L_y (y_assign rfl) rfl ?_
            refine L_nil ?_
            refine hK17 _ _ ?_
            refine T_seq fun K18 hK18 => ?_
            refine T_region ?_
            refine L_y (y_ldW Tryz.underlying87 rfl sz87 rfl (S8.blk 0 rfl) (Rev.mk_whole _)) rfl ?_
            refine L_y (y_mkI (by kernel_rfl) rfl) rfl ?_
            refine L_y (y_move rfl) rfl ?_
            refine L_y (y_assign rfl) rfl ?_
            refine L_y (y_assign rfl) rfl ?_
            refine L_nil ?_
            refine hK18 _ _ ?_
            refine T_ret ?_
            repeat (first | with_reducible refine up_then ?_ | with_reducible refine up_in ?_)
            refine ret2 rfl rfl rfl ?_
            have he : objE k b = Rev.mcode b := by unfold objE; rw [if_neg (fun q => q hk), if_neg (by omega), if_neg h19, if_neg h29, if_pos h39]
            exact ⟨_, rfl, S8.like0, _, by first | (rw [he]; done) | (rw [he]; rfl)⟩
          ·
            refine T_skip ?_
            refine hK8 _ _ ?_
            refine T_seq fun K19 hK19 => ?_
            refine T_region ?_
            refine L_y (y_move rfl) rfl ?_
            refine L_y (y_mkI (by kernel_rfl) rfl) rfl ?_
            refine L_y (y_assign rfl) rfl ?_
            refine L_y (y_assign rfl) rfl ?_
            refine L_nil ?_
            refine hK19 _ _ ?_
            refine T_ret ?_
            repeat (first | with_reducible refine up_then ?_ | with_reducible refine up_in ?_)
            refine ret2 rfl rfl rfl ?_
            have he : objE k b = 0 := by unfold objE; rw [if_neg (fun q => q hk), if_neg (by omega), if_neg h19, if_neg h29, if_neg h39]
            exact ⟨_, rfl, S1.like0, _, by first | (rw [he]; done) | (rw [he]; rfl)⟩


set_option maxRecDepth 100000 in
theorem check_ (k : Int) (B : Option Addr) (m d : Nat) (b : List UInt8) (w0 : World) (hb : Rs w0 1 B m d (bL b)) :
    Calls Tryz.prog 15 #[.int .i64 k, .slice B m d] w0 fun e w' => ∃ u, e = .returned u ∧ Like w0 w' ∧ u = .int .i64 (objE k b) := by
  refine enter1 (env := [(0, .int .i64 k), (1, .slice B m d)]) [.int .i64 k, .slice B m d] Tryz.func15 rfl Tryz.ntmps15 rfl rfl ?_
  have hl := hb.lenb; have hcap := hb.cap; have hmax := hb.max
  have S0 := St.start w0 noM
  refine T_seq fun K1 hK1 => ?_
  refine T_region ?_
  refine L_y (y_assign rfl) rfl ?_
  refine L_nil ?_
  refine hK1 _ _ ?_
  refine T_seq fun K2 hK2 => ?_
  refine T_region ?_
  refine L_y (y_move rfl) rfl ?_
  refine L_y (y_move rfl) rfl ?_
  refine L_o (o_call Tryz.func40 rfl rfl (read k B m d b w0 (S0.rd hb)) rfl rfl ?_)
  rintro e1 w1 ⟨v1, rfl, l1, v9, rfl⟩
  refine ⟨_, rfl, ?_⟩
  have S1 := S0.like l1
  refine L_y (y_move rfl) rfl ?_
  refine L_y (y_extract rfl rfl) rfl ?_
  refine L_y (y_extract rfl rfl) rfl ?_
  refine L_y (y_assign rfl) rfl ?_
  refine L_y (y_assign rfl) rfl ?_
  refine L_nil ?_
  refine hK2 _ _ ?_
  refine T_seq fun K3 hK3 => ?_
  refine T_region ?_
  refine L_y (y_move rfl) rfl ?_
  refine L_y (y_assign rfl) rfl ?_
  refine L_nil ?_
  refine hK3 _ _ ?_
  refine T_ret ?_
  repeat (first | with_reducible refine up_then ?_ | with_reducible refine up_in ?_)
  refine ret1 rfl rfl ?_
  exact ⟨_, rfl, S1.like0, rfl⟩


set_option maxRecDepth 100000 in
theorem bytes_ (k : Int) (B : Option Addr) (m d : Nat) (b : List UInt8) (w0 : World) (hb : Rs w0 1 B m d (bL b)) (hm9 : m ≤ 90000) :
    Calls Tryz.prog 12 #[.int .i64 k, .slice B m d] w0 fun e w' => ∃ u, e = .returned u ∧ Like w0 w' ∧ BytesV w0 w' k b u := by
  refine enter1 (env := [(0, .int .i64 k), (1, .slice B m d)]) [.int .i64 k, .slice B m d] Tryz.func12 rfl Tryz.ntmps12 rfl rfl ?_
  have hl := hb.lenb; have hcap := hb.cap; have hmax := hb.max
  have S0 := St.start w0 noM
  refine T_seq fun K1 hK1 => ?_
  refine T_region ?_
  refine L_y (y_assign rfl) rfl ?_
  refine L_y (y_assign rfl) rfl ?_
  refine L_nil ?_
  refine hK1 _ _ ?_
  refine T_seq fun K2 hK2 => ?_
  refine T_seq fun K3 hK3 => ?_
  refine T_region ?_
  refine L_y (y_move rfl) rfl ?_
  refine L_y (y_move rfl) rfl ?_
  refine L_o (o_call Tryz.func15 rfl rfl (check_ k B m d b w0 (S0.rd hb)) rfl rfl ?_)
  rintro e1 w1 ⟨v1, rfl, l1, rfl⟩
  refine ⟨_, rfl, ?_⟩
  have S1 := S0.like l1
  refine L_y (y_assign rfl) rfl ?_
  refine L_nil ?_
  refine hK3 _ _ ?_
  refine T_seq fun K4 hK4 => ?_
  refine T_region ?_
  refine L_y (y_move rfl) rfl ?_
  refine L_y (y_neq rfl rfl) rfl ?_
  refine L_nil ?_
  refine hK4 _ _ ?_
  refine T_cond rfl (fun h12 => ?_) (fun h12 => ?_)
  ·
    refine T_seq fun K5 hK5 => ?_
    refine T_region ?_
    refine L_y (y_move rfl) rfl ?_
    refine L_y (y_assign rfl) rfl ?_
    refine L_y (y_assign rfl) rfl ?_
    refine L_nil ?_
    refine hK5 _ _ ?_
    refine T_ret ?_
    repeat (first | with_reducible refine up_then ?_ | with_reducible refine up_in ?_)
    refine ret2 rfl rfl rfl ?_
    exact ⟨_, rfl, S1.like0, .inl ⟨h12, rfl⟩⟩
  ·
    refine T_skip ?_
    refine hK2 _ _ ?_
    refine T_seq fun K6 hK6 => ?_
    refine T_region ?_
    refine L_y (y_move rfl) rfl ?_
    refine L_o (o_call Tryz.func17 rfl rfl (word_ k w1) rfl rfl ?_)
    rintro e2 w2 ⟨v2, rfl, l2, rfl⟩
    refine ⟨_, rfl, ?_⟩
    have S2 := S1.like l2
    refine L_y (y_cat rfl rfl (by have h9 := wordS_len k; rw [spsz]; omega)) rfl ?_
    refine L_y (y_move rfl) rfl ?_
    refine L_y (y_len Tryz.underlying22 rfl) rfl ?_
    refine L_o (o_call Tryz.func38 rfl rfl (Rev.digits (m : Int) w2 (by omega)) rfl rfl ?_)
    rintro e3 w3 ⟨v3, rfl, l3, rfl⟩
    refine ⟨_, rfl, ?_⟩
    have S3 := S2.like l3
    have hd9 := Rev.digS_len (n := (m : Int)) (by omega)
    have hw9 := wordS_len k
    have hs1 : (wordS k ++ (⟨#[32]⟩ : ByteArray)).size = (wordS k).size + 1 := by rw [ByteArray.size_append, spsz]
    have hs2 : ((wordS k ++ (⟨#[32]⟩ : ByteArray)) ++ (⟨(Rev.digS (m : Int)).toArray⟩ : ByteArray)).size = (wordS k).size + 1 + (Rev.digS (m : Int)).length := by rw [ByteArray.size_append, hs1, Rev.bsz (Rev.digS (m : Int))]
    refine L_y (y_cat rfl rfl (by rw [hs1, Rev.bsz (Rev.digS (m : Int))]; omega)) rfl ?_
    refine L_o (o_sbytesM Tryz.underlying9 Tryz.underlying22 Tryz.underlying5 rfl (by rw [hs2]; omega) S3 rfl fun bb cc w4 ll S4 => ?_)
    refine L_y (y_assign rfl) rfl ?_
    refine L_nil ?_
    refine hK6 _ _ ?_
    refine T_seq fun K7 hK7 => ?_
    refine T_region ?_
    refine L_y (y_move rfl) rfl ?_
    refine L_o (o_bsl [_] te22 zz5 S4 rfl rfl rfl rfl rfl rfl rfl rfl fun b5 w5 S5 => ?_)
    refine L_o (o_appM te22 S5 0 rfl rfl rfl (S5.row 1 rfl) (by intro u hu; simp at hu; subst hu; rfl) rfl (by rw [hs2]; omega) (by rw [hs2]; omega) fun AA ca w6 S6 => ?_)
    refine L_y (y_move rfl) rfl ?_
    refine L_o (o_appM te22 S6 0 rfl rfl rfl (S6.rd hb) (bL_one _) rfl (by rw [hs2]; omega) (by rw [hs2]; omega) fun AB cb w7 S7 => ?_)
    refine L_y (y_assign rfl) rfl ?_
    refine L_y (y_assign rfl) rfl ?_
    refine L_nil ?_
    refine hK7 _ _ ?_
    refine T_ret ?_
    repeat (first | with_reducible refine up_then ?_ | with_reducible refine up_in ?_)
    refine ret2 rfl rfl rfl ?_
    have he : objE k b = 0 := Classical.byContradiction fun q => h12 q
    have e1 : (((wordS k ++ (⟨#[32]⟩ : ByteArray)) ++ (⟨(Rev.digS (m : Int)).toArray⟩ : ByteArray)).size + 1 + m) = (objB k b).length := by rw [hdr_size]; unfold objB; simp only [List.length_append, List.length_cons, List.length_nil]; rw [hl]
    have e2 : (bL (((wordS k ++ (⟨#[32]⟩ : ByteArray)) ++ (⟨(Rev.digS (m : Int)).toArray⟩ : ByteArray)).data.toList) ++ [Value.int .u8 0]) ++ bL b = bL (objB k b) := by rw [hdr_list]; unfold objB; rw [hl]; unfold bL; simp only [List.map_append, List.map_cons, List.map_nil]; rfl
    have FF := S7.frM 0 rfl
    rw [e1, e2] at FF
    exact ⟨_, rfl, S7.like0, .inr ⟨he, _, _, by rw [e1], FF⟩⟩
end Go.Proofs.YtgaklngnfecdaaaGreat.Obj


/-
  Bytes as an object.
-/
namespace Go.Proofs.YtgaklngnfecdaaaGreat.Obj
open Go.RowKit Zk Zx
open Oid (idf idf_len)
open Tre (nmOk EV enf enf_len mdOk chkE)
open Rev (cutF cutF_some cutF_none)
set_option linter.unusedVariables false
set_option linter.unusedSimpArgs false

section
variable {b p q wd dg : List UInt8}
end


end Go.Proofs.YtgaklngnfecdaaaGreat.Obj


/-
  The law ObjectBack.
-/
namespace Go.Proofs.YtgaklngnfecdaaaGreat.Obj
open Go.RowKit Zk Zx
open Oid (idf idf_len)
open Tre (nmOk EV enf enf_len mdOk chkE)
open Rev (cutF cutF_some cutF_none)
set_option linter.unusedVariables false
set_option linter.unusedSimpArgs false

theorem objE_k {k : Int} {b : List UInt8} (h : objE k b = 0) : (1 ≤ k ∧ k ≤ 4) ∧ b.length ≤ 4000 := by
  unfold objE at h
  split at h
  · cases h
  · rename_i h1
    split at h
    · cases h
    · rename_i h2
      exact ⟨Classical.not_not.1 h1, by omega⟩
theorem wordB_len (k : Int) : (wordB k).length ≤ 6 := by
  unfold wordB
  repeat' split
  all_goals decide
theorem dgt_small {n : Nat} (h : n ≤ 4000) : (Rev.dgt n).length ≤ 4 := Rev.dgt_len 3 n (by omega)
theorem bytesGood (k : Int) (B : Option Addr) (m d : Nat) (b : List UInt8) (w0 : World) (hb : Rs w0 1 B m d (bL b)) (hm9 : m ≤ 90000) (he : objE k b = 0) : Calls Tryz.prog 12 #[.int .i64 k, .slice B m d] w0 fun e w' => ∃ u, e = .returned u ∧ Like w0 w' ∧ ∃ A c, u = .tuple #[.slice A (objB k b).length c, .int .i64 0] ∧ Fr w0 w' 1 A (objB k b).length c (bL (objB k b)) :=
  (bytes_ k B m d b w0 hb hm9).mono fun e w' ⟨u, h1, h2, h3⟩ => by
    rcases h3 with ⟨h, _⟩ | ⟨_, A, c, h4, h5⟩
    · exact absurd he h
    · exact ⟨u, h1, h2, A, c, h4, h5⟩
theorem bytesBad (k : Int) (B : Option Addr) (m d : Nat) (b : List UInt8) (w0 : World) (hb : Rs w0 1 B m d (bL b)) (hm9 : m ≤ 90000) (he : objE k b ≠ 0) : Calls Tryz.prog 12 #[.int .i64 k, .slice B m d] w0 fun e w' => ∃ u, e = .returned u ∧ Like w0 w' ∧ u = .tuple #[.slice none 0 0, .int .i64 (objE k b)] :=
  (bytes_ k B m d b w0 hb hm9).mono fun e w' ⟨u, h1, h2, h3⟩ => by
    rcases h3 with ⟨_, h⟩ | ⟨h, _⟩
    · exact ⟨u, h1, h2, h⟩
    · exact absurd h he
theorem objB_len {k : Int} {b : List UInt8} (h : objE k b = 0) : (objB k b).length ≤ b.length + 20 := by
  obtain ⟨hk, hb⟩ := objE_k h
  have hD := dgt_small hb
  have hW := wordB_len k
  unfold objB
  rw [Rev.digS_nat]
  simp only [List.length_append, List.length_cons, List.length_nil]
  omega
theorem hi_ok : objE 1 [104, 105] = 0 := by unfold objE; rw [if_neg (by decide), if_neg (by decide), if_neg (by decide), if_neg (by decide), if_neg (by decide)]
theorem hi_b : objB 1 [104, 105] = [98, 108, 111, 98, 32, 50, 0, 104, 105] := by
  unfold objB
  rw [show (([104, 105] : List UInt8).length : Int) = ((2 : Nat) : Int) from rfl, Rev.digS_nat, Rev.dgt_eq, show 2 / 10 = 0 from rfl, Rev.dg0_zero]
  rfl


set_option maxRecDepth 100000 in
theorem works8  (w0 : World)  :
    Calls Tryz.prog 11 #[] w0 fun e w' => ∃ u, e = .returned u ∧ Like w0 w' ∧ u = .bool true := by
  refine enter1 (env := []) [] Tryz.func11 rfl Tryz.ntmps11 rfl rfl ?_
  have S0 := St.start w0 noM
  refine T_seq fun K1 hK1 => ?_
  refine T_region ?_
  refine L_y (y_assign rfl) rfl ?_
  refine L_nil ?_
  refine hK1 _ _ ?_
  refine T_seq fun K2 hK2 => ?_
  refine T_region ?_
  refine L_o (o_bsl [_, _] te22 zz5 S0 rfl rfl rfl rfl rfl rfl rfl rfl fun b1 w1 S1 => ?_)
  refine L_o (o_bconst S1 0 rfl Tryz.underlying22 Tryz.underlying5 rfl (by omega) rfl fun w2 S2 => ?_)
  refine L_o (o_call Tryz.func12 rfl rfl (bytesGood 1 _ 2 _ [104, 105] w2 (S2.fix 0 rfl) (by omega) hi_ok) rfl rfl ?_)
  rintro e3 w3 ⟨v3, rfl, l3, A3, c3, rfl, F3⟩
  refine ⟨_, rfl, ?_⟩
  have S3 := S2.adoptF l3 F3
  refine L_y (y_move rfl) rfl ?_
  refine L_y (y_extract rfl rfl) rfl ?_
  refine L_y (y_extract rfl rfl) rfl ?_
  refine L_y (y_assign rfl) rfl ?_
  refine L_y (y_assign rfl) rfl ?_
  refine L_nil ?_
  refine hK2 _ _ ?_
  refine T_seq fun K3 hK3 => ?_
  refine T_region ?_
  refine L_y (y_move rfl) rfl ?_
  refine L_y (y_eql rfl rfl) rfl ?_
  refine L_y (y_move rfl) rfl ?_
  refine L_split 11 rfl (fun h11 => ?_) (fun h11 => ?_)
  ·
    refine L_gyes rfl rfl ?_
    refine L_y (y_move rfl) rfl ?_
    refine L_gyes rfl rfl ?_
    refine L_y (y_bstr Tryz.underlying22 Tryz.underlying5 Tryz.underlying9 rfl (S3.fix 1 rfl)) rfl ?_
    rw [hi_b]
    refine L_gyes rfl rfl ?_
    refine L_y (y_seql rfl rfl) rfl ?_
    refine L_y ((by first | exact y_pickT rfl rfl | exact y_pickF rfl rfl)) rfl ?_
    refine L_y (y_assign rfl) rfl ?_
    refine L_nil ?_
    refine hK3 _ _ ?_
    refine T_ret ?_
    repeat (first | with_reducible refine up_then ?_ | with_reducible refine up_in ?_)
    refine ret1 rfl rfl ?_
    exact ⟨_, rfl, S3.like0, congrArg Value.bool (decide_eq_true rfl)⟩
  ·
    exact absurd rfl h11


end Go.Proofs.YtgaklngnfecdaaaGreat.Obj


/-
  The document: Check.
-/
namespace Go.Proofs.YtgaklngnfecdaaaGreat.Tre
open Go.RowKit Zk Zx
set_option linter.unusedVariables false
set_option linter.unusedSimpArgs false

set_option maxRecDepth 100000 in
theorem rcheck (A : Option Addr) (n c : Nat) (l : List EV) (w0 : World) (hl : Rs w0 34 A n c (l.flatMap enf)) (hn5 : n ≤ 10000) :
    Calls Tryz.prog 77 #[.slice A n c] w0 fun e w' => ∃ u, e = .returned u ∧ Like w0 w' ∧ u = .int .i64 (chkE l) := by
  refine enter1 (env := [(0, .slice A n c)]) [.slice A n c] Tryz.func77 rfl Tryz.ntmps77 rfl rfl ?_
  have hn := ens_n hl; have hcap := hl.cap; have hmax := hl.max; have S0 := St.start w0 noM
  refine T_seq fun K1 hK1 => ?_
  refine T_region ?_
  refine L_y (y_assign rfl) rfl ?_
  refine L_nil ?_
  refine hK1 _ _ ?_
  refine T_seq fun K2 hK2 => ?_
  refine T_seq fun K3 hK3 => ?_
  refine T_region ?_
  refine L_y (y_move rfl) rfl ?_
  refine L_y (y_len Tryz.underlying78 rfl) rfl ?_
  refine L_y (y_gtr rfl rfl) rfl ?_
  refine L_nil ?_
  refine hK3 _ _ ?_
  refine T_cond rfl (fun h9 => ?_) (fun h9 => ?_)
  ·
    refine T_seq fun K4 hK4 => ?_
    refine T_region ?_
    refine L_y (y_assign rfl) rfl ?_
    refine L_nil ?_
    refine hK4 _ _ ?_
    refine T_ret ?_
    repeat (first | with_reducible refine up_then ?_ | with_reducible refine up_in ?_)
    refine ret1 rfl rfl ?_
    exact ⟨_, rfl, S0.like0, congrArg (Value.int _) (chkE_long (by omega)).symm⟩
  ·
    refine T_skip ?_
    refine hK2 _ _ ?_
    refine T_seq fun K5 hK5 => ?_
    refine T_seq fun K6 hK6 => ?_
    refine T_region ?_
    refine L_y (y_assign rfl) rfl ?_
    refine L_nil ?_
    refine hK6 _ _ ?_
    refine T_block ?_
    refine T_loop1 [(0, _)] (fun (k : Nat) => [(3, .int .i64 (k : Int))]) (fun (k : Nat) => n - k) (fun (k : Nat) (w : World) => (k ≤ n ∧ (∀ j e, j < k → l[j]? = some e → mdOk e.md ∧ nmOk e.nm = true)) ∧ St w0 noM [] w) 0 (Sub.cons rfl (by first | rfl | exact congrArg (Value.int _) (by omega)) (Sub.nil _)) (Sub.cons rfl rfl (Sub.nil _)) ?_ ?_
    ·
      exact ⟨⟨Nat.zero_le _, fun j e hj => absurd hj (by omega)⟩, S0⟩
    ·
      intro k w1 hrel
      obtain ⟨⟨hk, hok⟩, S1⟩ := hrel
      refine T_seq fun K7 hK7 => ?_
      refine T_seq fun K8 hK8 => ?_
      refine T_region ?_
      refine L_y (y_move rfl) rfl ?_
      refine L_y (y_move rfl) rfl ?_
      refine L_y (y_len Tryz.underlying78 rfl) rfl ?_
      refine L_y (y_lss rfl rfl) rfl ?_
      refine L_nil ?_
      refine hK8 _ _ ?_
      refine T_cond rfl (fun h13 => ?_) (fun h13 => ?_)
      ·
        obtain ⟨x, hx⟩ : ∃ x, l[k]? = some x := ⟨_, List.getElem?_eq_getElem (by omega)⟩
        refine T_skip ?_
        refine hK7 _ _ ?_
        refine T_seq fun K9 hK9 => ?_
        refine T_block ?_
        refine T_seq fun K10 hK10 => ?_
        refine T_seq fun K11 hK11 => ?_
        refine T_region ?_
        refine L_y (y_move rfl) rfl ?_
        refine L_y (y_move rfl) rfl ?_
        refine L_y (y_idx Tryz.underlying78 sz149 rfl rfl (S1.rd hl) (Nt.mk (by omega) : Nt _ (k)) (by omega)) rfl ?_
        refine L_y (y_fieldR 1 Tryz.underlying149 rfl sz3 rfl rfl (S1.rd hl) (by omega) rfl) rfl ?_
        refine L_y (y_ldf Tryz.underlying3 rfl rfl (S1.rd hl) (by omega) (en_md hx)) rfl ?_
        refine L_y (y_lss rfl rfl) rfl ?_
        refine L_y (y_move rfl) rfl ?_
        refine L_split 22 rfl (fun h22 => ?_) (fun h22 => ?_)
        ·
          have hmd : ¬ mdOk x.md := by unfold mdOk; omega
          refine L_gno rfl rfl rfl ?_
          refine L_gno rfl rfl rfl ?_
          refine L_gno rfl rfl rfl ?_
          refine L_gno rfl rfl rfl ?_
          refine L_gno rfl rfl rfl ?_
          refine L_gno rfl rfl rfl ?_
          refine L_y ((by first | exact y_pickT rfl rfl | exact y_pickF rfl rfl)) rfl ?_
          refine L_nil ?_
          refine hK11 _ _ ?_
          refine T_true rfl ?_
          refine T_seq fun K12 hK12 => ?_
          refine T_region ?_
          refine L_y (y_assign rfl) rfl ?_
          refine L_nil ?_
          refine hK12 _ _ ?_
          refine T_ret ?_
          repeat (first | with_reducible refine up_then ?_ | with_reducible refine up_in ?_)
          refine ret1 rfl rfl ?_
          exact ⟨_, rfl, S1.like0, congrArg (Value.int _) (chkE_one (by omega) ((chk1_at k hok (by omega)).trans (chk1_md hx hmd)) (by decide)).symm⟩
        ·
          refine L_gyes rfl rfl ?_
          refine L_y (y_move rfl) rfl ?_
          refine L_gyes rfl rfl ?_
          refine L_y (y_move rfl) rfl ?_
          refine L_gyes rfl rfl ?_
          refine L_y (y_idx Tryz.underlying78 sz149 rfl rfl (S1.rd hl) (Nt.mk (by omega) : Nt _ (k)) (by omega)) rfl ?_
          refine L_gyes rfl rfl ?_
          refine L_y (y_fieldR 1 Tryz.underlying149 rfl sz3 rfl rfl (S1.rd hl) (by omega) rfl) rfl ?_
          refine L_gyes rfl rfl ?_
          refine L_y (y_ldf Tryz.underlying3 rfl rfl (S1.rd hl) (by omega) (en_md hx)) rfl ?_
          refine L_gyes rfl rfl ?_
          refine L_y (y_gtr rfl rfl) rfl ?_
          refine L_y ((by first | exact y_pickT rfl rfl | exact y_pickF rfl rfl)) rfl ?_
          refine L_nil ?_
          refine hK11 _ _ ?_
          refine T_cond rfl (fun h29 => ?_) (fun h29 => ?_)
          ·
            have hmd : ¬ mdOk x.md := by unfold mdOk; omega
            refine T_seq fun K13 hK13 => ?_
            refine T_region ?_
            refine L_y (y_assign rfl) rfl ?_
            refine L_nil ?_
            refine hK13 _ _ ?_
            refine T_ret ?_
            repeat (first | with_reducible refine up_then ?_ | with_reducible refine up_in ?_)
            refine ret1 rfl rfl ?_
            exact ⟨_, rfl, S1.like0, congrArg (Value.int _) (chkE_one (by omega) ((chk1_at k hok (by omega)).trans (chk1_md hx hmd)) (by decide)).symm⟩
          ·
            have hmd : mdOk x.md := by unfold mdOk; omega
            refine T_skip ?_
            refine hK10 _ _ ?_
            refine T_seq fun K14 hK14 => ?_
            refine T_region ?_
            refine L_y (y_move rfl) rfl ?_
            refine L_y (y_move rfl) rfl ?_
            refine L_y (y_idx Tryz.underlying78 sz149 rfl rfl (S1.rd hl) (Nt.mk (by omega) : Nt _ (k)) (by omega)) rfl ?_
            refine L_y (y_fieldR 0 Tryz.underlying149 rfl sz9 rfl rfl (S1.rd hl) (by omega) rfl) rfl ?_
            refine L_y (y_ldf Tryz.underlying9 rfl rfl (S1.rd hl) (by omega) (en_nm hx)) rfl ?_
            refine L_o (o_call Tryz.func76 rfl rfl (rname x.nm w1) rfl rfl ?_)
            rintro e3 w3 ⟨v3, rfl, l3, rfl⟩
            refine ⟨_, rfl, ?_⟩
            have S3 := S1.like l3
            refine L_y ((by first | exact y_notD rfl | exact y_not rfl)) rfl ?_
            refine L_nil ?_
            refine hK14 _ _ ?_
            refine T_condB rfl (fun h36 => ?_) (fun h36 => ?_)
            ·
              have hnm : nmOk x.nm = false := by simpa using h36
              refine T_seq fun K15 hK15 => ?_
              refine T_region ?_
              refine L_y (y_assign rfl) rfl ?_
              refine L_nil ?_
              refine hK15 _ _ ?_
              refine T_ret ?_
              repeat (first | with_reducible refine up_then ?_ | with_reducible refine up_in ?_)
              refine ret1 rfl rfl ?_
              exact ⟨_, rfl, S3.like0, congrArg (Value.int _) (chkE_one (by omega) ((chk1_at k hok (by omega)).trans (chk1_nm hx hmd hnm)) (by decide)).symm⟩
            ·
              have hnm : nmOk x.nm = true := by simpa using h36
              refine T_skip ?_
              refine hK9 _ _ ?_
              refine T_region ?_
              refine L_y (y_move rfl) rfl ?_
              refine L_y (y_add rfl rfl (i64w (by omega))) rfl ?_
              refine L_y (y_assign rfl) rfl ?_
              refine L_nil ?_
              refine ⟨k + 1, by omega, ⟨⟨by omega, ok_next hok hx hmd hnm⟩, S3⟩, ?_⟩
              exact (Sub.cons rfl (by first | rfl | exact congrArg (Value.int _) (by omega)) (Sub.cons rfl rfl (Sub.nil _)))
      ·
        have hc1 : chk1 l = 0 := (chk1_at k hok (by omega)).trans (by rw [List.drop_of_length_le (by omega)]; rfl)
        refine T_exit ?_
        refine hK5 _ _ ?_
        refine T_seq fun K16 hK16 => ?_
        refine T_seq fun K17 hK17 => ?_
        refine T_region ?_
        refine L_y (y_assign rfl) rfl ?_
        refine L_nil ?_
        refine hK17 _ _ ?_
        refine T_block ?_
        refine T_loop1 [(0, _)] (fun (k : Nat) => [(4, .int .i64 (k : Int))]) (fun (k : Nat) => n - k) (fun (k : Nat) (w : World) => (k ≤ n ∧ once (l.take k)) ∧ St w0 noM [] w) 0 (Sub.cons rfl (by first | rfl | exact congrArg (Value.int _) (by omega)) (Sub.nil _)) (Sub.cons rfl rfl (Sub.nil _)) ?_ ?_
        ·
          exact ⟨⟨Nat.zero_le _, by simp [once]⟩, S1⟩
        ·
          intro k w4 hrel
          obtain ⟨⟨hk, hon⟩, S4⟩ := hrel
          refine T_seq fun K18 hK18 => ?_
          refine T_seq fun K19 hK19 => ?_
          refine T_region ?_
          refine L_y (y_move rfl) rfl ?_
          refine L_y (y_move rfl) rfl ?_
          refine L_y (y_len Tryz.underlying78 rfl) rfl ?_
          refine L_y (y_lss rfl rfl) rfl ?_
          refine L_nil ?_
          refine hK19 _ _ ?_
          refine T_cond rfl (fun h40 => ?_) (fun h40 => ?_)
          ·
            obtain ⟨x, hx⟩ : ∃ x, l[k]? = some x := ⟨_, List.getElem?_eq_getElem (by omega)⟩
            refine T_skip ?_
            refine hK18 _ _ ?_
            refine T_seq fun K20 hK20 => ?_
            refine T_block ?_
            refine T_seq fun K21 hK21 => ?_
            refine T_region ?_
            refine L_y (y_assign rfl) rfl ?_
            refine L_nil ?_
            refine hK21 _ _ ?_
            refine T_block ?_
            refine T_loop1 [(0, _), (4, _)] (fun (j : Nat) => [(5, .int .i64 (j : Int))]) (fun (j : Nat) => k - j) (fun (j : Nat) (w : World) => (j ≤ k ∧ (∀ i y, i < j → l[i]? = some y → y.nm ≠ x.nm)) ∧ St w0 noM [] w) 0 (Sub.cons rfl (by first | rfl | exact congrArg (Value.int _) (by omega)) (Sub.nil _)) (Sub.cons rfl rfl (Sub.cons rfl rfl (Sub.nil _))) ?_ ?_
            ·
              exact ⟨⟨Nat.zero_le _, fun i y hi => absurd hi (by omega)⟩, S4⟩
            ·
              intro j w5 hrel
              obtain ⟨⟨hj, hno⟩, S5⟩ := hrel
              refine T_seq fun K22 hK22 => ?_
              refine T_seq fun K23 hK23 => ?_
              refine T_region ?_
              refine L_y (y_move rfl) rfl ?_
              refine L_y (y_move rfl) rfl ?_
              refine L_y (y_lss rfl rfl) rfl ?_
              refine L_nil ?_
              refine hK23 _ _ ?_
              refine T_cond rfl (fun h45 => ?_) (fun h45 => ?_)
              ·
                obtain ⟨y, hy⟩ : ∃ y, l[j]? = some y := ⟨_, List.getElem?_eq_getElem (by omega)⟩
                refine T_skip ?_
                refine hK22 _ _ ?_
                refine T_seq fun K24 hK24 => ?_
                refine T_block ?_
                refine T_seq fun K25 hK25 => ?_
                refine T_drawnL [(0, true), (1, true), (2, true), (3, true), (4, true), (5, true), (6, true), (7, true), (8, true), (9, true), (10, true)] hmix (by kernel_rfl) fun w6 l6 => ?_
                have S6 := S5.like l6
                refine DL_y rfl (y_move rfl) rfl ?_
                refine DL_y rfl (y_move rfl) rfl ?_
                refine DL_y rfl (y_idx Tryz.underlying78 sz149 rfl rfl (S6.rd hl) (Nt.mk (by omega) : Nt _ (j)) (by omega)) rfl ?_
                refine DL_y rfl (y_fieldR 0 Tryz.underlying149 rfl sz9 rfl rfl (S6.rd hl) (by omega) rfl) rfl ?_
                refine DL_y rfl (y_ldf Tryz.underlying9 rfl rfl (S6.rd hl) (by omega) (en_nm hy)) rfl ?_
                refine DL_y rfl (y_move rfl) rfl ?_
                refine DL_y rfl (y_move rfl) rfl ?_
                refine DL_y rfl (y_idx Tryz.underlying78 sz149 rfl rfl (S6.rd hl) (Nt.mk (by omega) : Nt _ (k)) (by omega)) rfl ?_
                refine DL_y rfl (y_fieldR 0 Tryz.underlying149 rfl sz9 rfl rfl (S6.rd hl) (by omega) rfl) rfl ?_
                refine DL_y rfl (y_ldf Tryz.underlying9 rfl rfl (S6.rd hl) (by omega) (en_nm hx)) rfl ?_
                refine DL_y rfl (y_seql rfl rfl) rfl ?_
                refine DL_nil ?_
                refine hK25 _ _ ?_
                refine T_cond rfl (fun h58 => ?_) (fun h58 => ?_)
                ·
                  refine T_seq fun K26 hK26 => ?_
                  refine T_region ?_
                  refine L_y (y_assign rfl) rfl ?_
                  refine L_nil ?_
                  refine hK26 _ _ ?_
                  refine T_ret ?_
                  repeat (first | with_reducible refine up_then ?_ | with_reducible refine up_in ?_)
                  refine ret1 rfl rfl ?_
                  exact ⟨_, rfl, S6.like0, congrArg (Value.int _) (chkE_twice (by omega) hc1 (not_once hx (by rw [← h58]; exact once_in hy (by omega)))).symm⟩
                ·
                  refine T_skip ?_
                  refine hK24 _ _ ?_
                  refine T_region ?_
                  refine L_y (y_move rfl) rfl ?_
                  refine L_y (y_add rfl rfl (i64w (by omega))) rfl ?_
                  refine L_y (y_assign rfl) rfl ?_
                  refine L_nil ?_
                  refine ⟨j + 1, by omega, ⟨⟨by omega, fun i z hi hz => by rcases Nat.lt_or_ge i j with q | q; exact hno i z q hz; (have e9 : i = j := by omega); subst e9; rw [hy] at hz; cases hz; exact h58⟩, S6⟩, ?_⟩
                  exact (Sub.cons rfl (by first | rfl | exact congrArg (Value.int _) (by omega)) (Sub.cons rfl rfl (Sub.cons rfl rfl (Sub.nil _))))
              ·
                refine T_exit ?_
                refine hK20 _ _ ?_
                refine T_region ?_
                refine L_y (y_move rfl) rfl ?_
                refine L_y (y_add rfl rfl (i64w (by omega))) rfl ?_
                refine L_y (y_assign rfl) rfl ?_
                refine L_nil ?_
                refine ⟨k + 1, by omega, ⟨⟨by omega, once_snoc hx hon (once_out (fun i y hi hy => hno i y (by omega) hy))⟩, S5⟩, ?_⟩
                exact (Sub.cons rfl (by first | rfl | exact congrArg (Value.int _) (by omega)) (Sub.cons rfl rfl (Sub.nil _)))
          ·
            have hon : once l := by rwa [List.take_of_length_le (by omega)] at hon
            refine T_exit ?_
            refine hK16 _ _ ?_
            refine T_seq fun K27 hK27 => ?_
            refine T_seq fun K28 hK28 => ?_
            refine T_region ?_
            refine L_y (y_assign rfl) rfl ?_
            refine L_nil ?_
            refine hK28 _ _ ?_
            refine T_block ?_
            refine T_loop1 [(0, _)] (fun (k : Nat) => [(6, .int .i64 (k : Int))]) (fun (k : Nat) => n - k) (fun (k : Nat) (w : World) => ((k + 1 ≤ n ∨ k = 0) ∧ (∀ j x y, j < k → l[j]? = some x → l[j + 1]? = some y → ltK x y = true)) ∧ St w0 noM [] w) 0 (Sub.cons rfl (by first | rfl | exact congrArg (Value.int _) (by omega)) (Sub.nil _)) (Sub.cons rfl rfl (Sub.nil _)) ?_ ?_
            ·
              exact ⟨⟨.inr rfl, fun j x y hj => absurd hj (by omega)⟩, S4⟩
            ·
              intro k w7 hrel
              obtain ⟨⟨hk2, hri⟩, S7⟩ := hrel
              refine T_seq fun K29 hK29 => ?_
              refine T_seq fun K30 hK30 => ?_
              refine T_region ?_
              refine L_y (y_move rfl) rfl ?_
              refine L_y (y_add rfl rfl (i64w (by omega))) rfl ?_
              refine L_y (y_move rfl) rfl ?_
              refine L_y (y_len Tryz.underlying78 rfl) rfl ?_
              refine L_y (y_lss rfl rfl) rfl ?_
              refine L_nil ?_
              refine hK30 _ _ ?_
              refine T_cond rfl (fun h63 => ?_) (fun h63 => ?_)
              ·
                obtain ⟨x, hx⟩ : ∃ x, l[k]? = some x := ⟨_, List.getElem?_eq_getElem (by omega)⟩
                obtain ⟨y, hy⟩ : ∃ y, l[k + 1]? = some y := ⟨_, List.getElem?_eq_getElem (by omega)⟩
                refine T_skip ?_
                refine hK29 _ _ ?_
                refine T_seq fun K31 hK31 => ?_
                refine T_block ?_
                refine T_seq fun K32 hK32 => ?_
                refine T_drawnL [(0, true), (1, true), (2, true), (3, true), (5, true), (6, true), (7, true), (8, true), (9, true), (4, false), (10, false), (11, true)] hmix (by kernel_rfl) fun w8 l8 => ?_
                have S8 := S7.like l8
                refine DL_y rfl (y_move rfl) rfl ?_
                refine DL_y rfl (y_move rfl) rfl ?_
                refine DL_y rfl (y_idx Tryz.underlying78 sz149 rfl rfl (S8.rd hl) (Nt.mk (by omega) : Nt _ (k)) (by omega)) rfl ?_
                refine DL_y rfl (y_ldp (f := enf) enf_len Tryz.underlying149 rfl sz149 rfl (S8.rd hl) (by omega) hx) rfl ?_
                refine DL_y rfl (y_move rfl) rfl ?_
                refine DL_y rfl (y_move rfl) rfl ?_
                refine DL_y rfl (y_add rfl rfl (i64w (by omega))) rfl ?_
                refine DL_y rfl (y_idx Tryz.underlying78 sz149 rfl rfl (S8.rd hl) (Nt.mk (by omega) : Nt _ (k + 1)) (by omega)) rfl ?_
                refine DL_y rfl (y_ldp (f := enf) enf_len Tryz.underlying149 rfl sz149 rfl (S8.rd hl) (by omega) hy) rfl ?_
                refine DL_o rfl (o_call Tryz.func114 rfl rfl (rkey x w8) rfl rfl ?_)
                rintro e9 w9 ⟨v9, rfl, l9, rfl⟩
                refine ⟨_, rfl, l9, ?_⟩
                have S9 := S8.like l9
                have q9 := l9
                refine DL_o rfl (o_call Tryz.func114 rfl rfl (rkey y w9) rfl rfl ?_)
                rintro e10 w10 ⟨v10, rfl, l10, rfl⟩
                refine ⟨_, rfl, (Like.trans q9 l10), ?_⟩
                have S10 := S9.like l10
                have q10 := (Like.trans q9 l10)
                refine DL_y rfl (y_sgeq rfl rfl) rfl ?_
                refine DL_nil ?_
                refine hK32 _ _ ?_
                refine T_condB rfl (fun h77 => ?_) (fun h77 => ?_)
                ·
                  have hxy : ltK x y = false := by unfold ltK; simpa using h77
                  refine T_seq fun K33 hK33 => ?_
                  refine T_region ?_
                  refine L_y (y_assign rfl) rfl ?_
                  refine L_nil ?_
                  refine hK33 _ _ ?_
                  refine T_ret ?_
                  repeat (first | with_reducible refine up_then ?_ | with_reducible refine up_in ?_)
                  refine ret1 rfl rfl ?_
                  exact ⟨_, rfl, S10.like0, congrArg (Value.int _) (chkE_ord (by omega) hc1 hon ((risK_at l (k + 1) (fun j x y hj => hri j x y (by omega)) (by omega)).trans (risK_no hx hy hxy))).symm⟩
                ·
                  have hxy : ltK x y = true := by unfold ltK; simpa using h77
                  refine T_skip ?_
                  refine hK31 _ _ ?_
                  refine T_region ?_
                  refine L_y (y_move rfl) rfl ?_
                  refine L_y (y_add rfl rfl (i64w (by omega))) rfl ?_
                  refine L_y (y_assign rfl) rfl ?_
                  refine L_nil ?_
                  refine ⟨k + 1, by omega, ⟨⟨by omega, fun j a b hj ha hb => ris_next (k := k + 1) (fun j a b hj => hri j a b (by omega)) hx hy (by omega) hxy j a b (by omega) ha hb⟩, S10⟩, ?_⟩
                  exact (Sub.cons rfl (by first | rfl | exact congrArg (Value.int _) (by omega)) (Sub.cons rfl rfl (Sub.nil _)))
              ·
                refine T_exit ?_
                refine hK27 _ _ ?_
                refine T_seq fun K34 hK34 => ?_
                refine T_region ?_
                refine L_y (y_assign rfl) rfl ?_
                refine L_nil ?_
                refine hK34 _ _ ?_
                refine T_ret ?_
                repeat (first | with_reducible refine up_then ?_ | with_reducible refine up_in ?_)
                refine ret1 rfl rfl ?_
                exact ⟨_, rfl, S7.like0, congrArg (Value.int _) (chkE_ok (by omega) hc1 hon (risK_fin (k := k + 1) (fun j x y hj => hri j x y (by omega)) (by omega) (by omega))).symm⟩
end Go.Proofs.YtgaklngnfecdaaaGreat.Tre


/-
  The document: bytes as a tree.
-/
namespace Go.Proofs.YtgaklngnfecdaaaGreat.Obj
open Go.RowKit Zk Zx
open Oid (idf idf_len)
open Tre (nmOk EV enf enf_len mdOk chkE)
open Rev (cutF cutF_some cutF_none)
set_option linter.unusedVariables false
set_option linter.unusedSimpArgs false

theorem drop_cons {b r : List UInt8} {k : Nat} {x : UInt8} (h : b.drop k = x :: r) : b[k]? = some x ∧ b.drop (k + 1) = r := by
  constructor
  · have h2 := congrArg (fun l => l[0]?) h
    simpa using h2
  · rw [← List.drop_drop, h]; rfl
theorem ef_setId {nm : ByteArray} {md : Int} {id : List UInt8} (j : Nat) (x : UInt8) : (ef nm md id).toArray.setIfInBounds (2 + j) (.int .u8 (x.toNat : Int)) = (ef nm md (id.set j x)).toArray := by
  rw [List.setIfInBounds_toArray, show 2 + j = j + 1 + 1 by omega]
  unfold ef
  rw [List.set_cons_succ, List.set_cons_succ, bL_setX]
def idJ (q : List UInt8) (j : Nat) : List UInt8 := q.take j ++ zB.drop j
theorem idJ_len {q : List UInt8} {j : Nat} (h : j ≤ q.length) (h2 : j ≤ 32) : (idJ q j).length = 32 := by
  unfold idJ
  rw [List.length_append, List.length_take, List.length_drop, zB_len]
  omega
theorem idJ_set {q : List UInt8} {j : Nat} {x : UInt8} (h : q[j]? = some x) (h2 : j < 32) : (idJ q j).set j x = idJ q (j + 1) := by
  have hj := (List.getElem?_eq_some_iff.1 h).1
  unfold idJ
  have hl : (q.take j).length = j := by rw [List.length_take]; omega
  obtain ⟨z, hz⟩ : ∃ z, zB[j]? = some z := ⟨_, List.getElem?_eq_getElem (by rw [zB_len]; exact h2)⟩
  have hd : zB.drop j = z :: zB.drop (j + 1) := by rw [List.drop_eq_getElem_cons (by rw [zB_len]; exact h2)]; congr 1; exact (List.getElem?_eq_some_iff.1 hz).2
  rw [hd, List.set_append_right _ _ (by omega), hl, Nat.sub_self, List.set_cons_zero, List.take_add_one, h]
  simp
theorem zero_in {t : List UInt8} {i : Nat} (hi : i < t.length) (hz : t[i]? = some 0) (hn : (0 : UInt8) ∉ t.take i) : cutF 0 t = some (t.take i, t.drop (i + 1)) := by
  have e : t = t.take i ++ 0 :: t.drop (i + 1) := by
    conv => lhs; rw [← List.take_append_drop i t]
    rw [List.drop_eq_getElem_cons hi, (List.getElem?_eq_some_iff.1 hz).2]
  conv => lhs; rw [e]
  exact Rev.cutF_of hn
theorem notin_succ {t : List UInt8} {i : Nat} {x : UInt8} (h : t[i]? = some x) (hx : x ≠ 0) (hn : (0 : UInt8) ∉ t.take i) : (0 : UInt8) ∉ t.take (i + 1) := by
  rw [List.take_add_one, h]
  intro hm
  rcases List.mem_append.1 hm with h1 | h1
  · exact hn h1
  · simp at h1; exact hx h1.symm
theorem u8z {x : UInt8} (h : (x.toNat : Int) ≠ 0) : x ≠ 0 := fun e => h (by rw [e]; rfl)
theorem u8z' {x : UInt8} (h : ¬ (x.toNat : Int) ≠ 0) : x = 0 := UInt8.toNat_inj.1 (by show x.toNat = 0; omega)


set_option maxRecDepth 100000 in
theorem rget (A : Option Addr) (n c : Nat) (b0 : List UInt8) (w0 : World) (hb : Rs w0 1 A n c (bL b0)) (h9 : b0.length ≤ 9000) :
    Calls Tryz.prog 41 #[.slice A n c] w0 fun e w' => ∃ u, e = .returned u ∧ Like w0 w' ∧ ∃ A k cp, u = .tuple #[.slice A k cp, .int .i64 (treeE b0)] := by
  refine enter1 (env := [(0, .slice A n c)]) [.slice A n c] Tryz.func41 rfl Tryz.ntmps41 rfl rfl ?_
  have hln := hb.lenb; have hcap := hb.cap; have hmax := hb.max
  have S0 := St.start w0 noM
  refine T_seq fun K1 hK1 => ?_
  refine T_region ?_
  refine L_y (y_assign rfl) rfl ?_
  refine L_y (y_assign rfl) rfl ?_
  refine L_nil ?_
  refine hK1 _ _ ?_
  refine T_seq fun K2 hK2 => ?_
  refine T_region ?_
  have S1 := S0.nilrow 149 34
  refine L_y (y_assign rfl) rfl ?_
  refine L_nil ?_
  refine hK2 _ _ ?_
  refine T_seq fun K3 hK3 => ?_
  refine T_region ?_
  refine L_y (y_assign rfl) rfl ?_
  refine L_nil ?_
  refine hK3 _ _ ?_
  refine T_seq fun K4 hK4 => ?_
  refine T_block ?_
  refine T_loop6 [(0, _)] (fun (at_ : Nat) (k : Nat) (acc : List EV) (l : List EV) (A4 : Option Addr) (c4 : Nat) => [(4, .slice A4 l.length c4), (5, .int .i64 (at_ : Int))]) (fun (at_ : Nat) (k : Nat) (acc : List EV) (l : List EV) (A4 : Option Addr) (c4 : Nat) => n - at_) (fun (at_ : Nat) (k : Nat) (acc : List EV) (l : List EV) (A4 : Option Addr) (c4 : Nat) (w : World) => (at_ ≤ n ∧ n - at_ < k ∧ l.length + (n - at_) ≤ 9000 ∧ l.map stp = acc.map stp ∧ treeE b0 = finT (getT k (b0.drop at_) acc)) ∧ Zx.St w0 noM [Zx.row 149 34 A4 l.length c4 (l.flatMap enf)] w) 0 (b0.length + 1) [] [] none 0 (Sub.cons rfl (by first | rfl | exact congrArg (Value.int _) (by omega)) (Sub.cons rfl (by first | rfl | exact congrArg (Value.int _) (by omega)) (Sub.nil _))) (Sub.cons rfl rfl (Sub.nil _)) ?_ ?_
  ·
    exact ⟨⟨by omega, by omega, by simp; omega, rfl, rfl⟩, S1⟩
  ·
    intro at_ k acc l A4 c4 w2 hrel
    obtain ⟨⟨han, hbk, hlb, hst, ht⟩, S2⟩ := hrel
    refine T_seq fun K5 hK5 => ?_
    refine T_seq fun K6 hK6 => ?_
    refine T_region ?_
    refine L_y (y_move rfl) rfl ?_
    refine L_y (y_move rfl) rfl ?_
    refine L_y (y_len Tryz.underlying22 rfl) rfl ?_
    refine L_y (y_lss rfl rfl) rfl ?_
    refine L_nil ?_
    refine hK6 _ _ ?_
    refine T_cond rfl (fun h13 => ?_) (fun h13 => ?_)
    ·
      obtain ⟨m, r, hd⟩ : ∃ m r, b0.drop at_ = m :: r := by cases h0 : b0.drop at_ with | nil => (have h9 := congrArg List.length h0; rw [List.length_drop] at h9; simp at h9; omega) | cons m r => exact ⟨m, r, rfl⟩
      obtain ⟨hm, hr⟩ := drop_cons hd
      have hm9 := m.toNat_lt
      obtain ⟨k, rfl⟩ : ∃ j, k = j + 1 := ⟨k - 1, by omega⟩
      refine T_skip ?_
      refine hK5 _ _ ?_
      refine T_block ?_
      refine T_seq fun K7 hK7 => ?_
      refine T_region ?_
      refine L_y (y_move rfl) rfl ?_
      refine L_y (y_move rfl) rfl ?_
      refine L_y (y_idx Tryz.underlying22 sz5 rfl rfl (by first | exact S2.rd hb | exact S2.row 0 rfl) inferInstance (by omega)) rfl ?_
      refine L_y (y_ldr Tryz.underlying5 rfl rfl (S2.rd hb) (bL_get _ _ _ hm)) rfl ?_
      refine L_y (y_conv is5 Tryz.underlying3 rfl (i64w (by omega))) rfl ?_
      refine L_y (y_sub rfl rfl (i64w (by omega))) rfl ?_
      refine L_y (y_build rfl (show _ = some (ef ⟨#[]⟩ ((m.toNat : Int) - 48) zB).toArray by kernel_rfl)) rfl ?_
      refine L_o (o_alloc zz149 S2 rfl fun b3 w3 hb3 S3 => ?_)
      refine L_o (o_stW S3 1 rfl rfl rfl (by rw [List.size_toArray, ef_len _ _ zB_len]; exact sz149) (by first | (rw [List.size_toArray, List.size_toArray, ef_len _ _ zB_len, ef_len _ _ zB_len]; done) | (rw [List.size_toArray, ef_len _ _ zB_len]; rfl)) (fun u hu => ef_one _ _ _ u (by rw [List.toList_toArray] at hu; exact hu)) fun w4 S4 => ?_)
      refine L_nil ?_
      refine hK7 _ _ ?_
      refine T_seq fun K8 hK8 => ?_
      refine T_seq fun K9 hK9 => ?_
      refine T_region ?_
      refine L_y (y_fieldA 1 Tryz.underlying149 rfl sz3 rfl rfl rfl) rfl ?_
      refine L_y (y_ldc Tryz.underlying3 rfl rfl (((S4.blk 1 rfl).cell _).trans (ef_1 _ _ _))) rfl ?_
      refine L_y (y_lss rfl rfl) rfl ?_
      refine L_y (y_move rfl) rfl ?_
      refine L_split 24 rfl (fun h24 => ?_) (fun h24 => ?_)
      ·
        refine L_gno rfl rfl rfl ?_
        refine L_gno rfl rfl rfl ?_
        refine L_gno rfl rfl rfl ?_
        refine L_y ((by first | exact y_pickT rfl rfl | exact y_pickF rfl rfl)) rfl ?_
        refine L_nil ?_
        refine hK9 _ _ ?_
        refine T_true rfl ?_
        refine T_seq fun K10 hK10 => ?_
        refine T_region ?_
        refine L_y (y_assign rfl) rfl ?_
        refine L_y (y_assign rfl) rfl ?_
        refine L_nil ?_
        refine hK10 _ _ ?_
        refine T_ret ?_
        repeat (first | with_reducible refine up_then ?_ | with_reducible refine up_in ?_)
        refine ret2 rfl rfl rfl ?_
        have ho := one_16 (m := m) (r := r) (fun q => by unfold mok at q; omega)
        have he : treeE b0 = 16 := by rw [ht, hd, getT_bad (by simp) (by rw [ho]; decide), ho]; rfl
        exact ⟨_, rfl, S4.like0, none, 0, 0, by rw [he]⟩
      ·
        refine L_gyes rfl rfl ?_
        refine L_y (y_fieldA 1 Tryz.underlying149 rfl sz3 rfl rfl rfl) rfl ?_
        refine L_gyes rfl rfl ?_
        refine L_y (y_ldc Tryz.underlying3 rfl rfl (((S4.blk 1 rfl).cell _).trans (ef_1 _ _ _))) rfl ?_
        refine L_gyes rfl rfl ?_
        refine L_y (y_gtr rfl rfl) rfl ?_
        refine L_y ((by first | exact y_pickT rfl rfl | exact y_pickF rfl rfl)) rfl ?_
        refine L_nil ?_
        refine hK9 _ _ ?_
        refine T_cond rfl (fun h28 => ?_) (fun h28 => ?_)
        ·
          refine T_seq fun K11 hK11 => ?_
          refine T_region ?_
          refine L_y (y_assign rfl) rfl ?_
          refine L_y (y_assign rfl) rfl ?_
          refine L_nil ?_
          refine hK11 _ _ ?_
          refine T_ret ?_
          repeat (first | with_reducible refine up_then ?_ | with_reducible refine up_in ?_)
          refine ret2 rfl rfl rfl ?_
          have ho := one_16 (m := m) (r := r) (fun q => by unfold mok at q; omega)
          have he : treeE b0 = 16 := by rw [ht, hd, getT_bad (by simp) (by rw [ho]; decide), ho]; rfl
          exact ⟨_, rfl, S4.like0, none, 0, 0, by rw [he]⟩
        ·
          have hmk : mok m := by unfold mok; omega
          refine T_skip ?_
          refine hK8 _ _ ?_
          refine T_seq fun K12 hK12 => ?_
          refine T_seq fun K13 hK13 => ?_
          refine T_region ?_
          refine L_y (y_move rfl) rfl ?_
          refine L_y (y_add rfl rfl (i64w (by omega))) rfl ?_
          refine L_y (y_move rfl) rfl ?_
          refine L_y (y_len Tryz.underlying22 rfl) rfl ?_
          refine L_y (y_eql rfl rfl) rfl ?_
          refine L_nil ?_
          refine hK13 _ _ ?_
          refine T_cond rfl (fun h33 => ?_) (fun h33 => ?_)
          ·
            refine T_seq fun K14 hK14 => ?_
            refine T_region ?_
            refine L_y (y_assign rfl) rfl ?_
            refine L_y (y_assign rfl) rfl ?_
            refine L_nil ?_
            refine hK14 _ _ ?_
            refine T_ret ?_
            repeat (first | with_reducible refine up_then ?_ | with_reducible refine up_in ?_)
            refine ret2 rfl rfl rfl ?_
            have hr0 : r = [] := by cases r with | nil => rfl | cons s t => (have h9 := congrArg List.length hr; rw [List.length_drop] at h9; simp at h9; omega)
            subst hr0
            have ho := one_10 (m := m) hmk
            have he : treeE b0 = 10 := by rw [ht, hd, getT_bad (by simp) (by rw [ho]; decide), ho]; rfl
            exact ⟨_, rfl, S4.like0, none, 0, 0, by rw [he]⟩
          ·
            obtain ⟨s, t, rfl⟩ : ∃ s t, r = s :: t := by cases r with | nil => (have h9 := congrArg List.length hr; rw [List.length_drop] at h9; simp at h9; omega) | cons s t => exact ⟨s, t, rfl⟩
            obtain ⟨hs, htt⟩ := drop_cons hr
            have hs9 := s.toNat_lt
            have htt2 : b0.drop (at_ + 2) = t := htt
            have htl : t.length = n - (at_ + 2) := by rw [← htt2, List.length_drop, hln]
            refine T_skip ?_
            refine hK12 _ _ ?_
            refine T_seq fun K15 hK15 => ?_
            refine T_seq fun K16 hK16 => ?_
            refine T_region ?_
            refine L_y (y_move rfl) rfl ?_
            refine L_y (y_move rfl) rfl ?_
            refine L_y (y_add rfl rfl (i64w (by omega))) rfl ?_
            refine L_y (y_idx Tryz.underlying22 sz5 rfl rfl (by first | exact S4.rd hb | exact S4.row 0 rfl) inferInstance (by omega)) rfl ?_
            refine L_y (y_ldr Tryz.underlying5 rfl rfl (S4.rd hb) (bL_get _ _ _ hs)) rfl ?_
            refine L_y (y_neq rfl rfl) rfl ?_
            refine L_nil ?_
            refine hK16 _ _ ?_
            refine T_cond rfl (fun h39 => ?_) (fun h39 => ?_)
            ·
              refine T_seq fun K17 hK17 => ?_
              refine T_region ?_
              refine L_y (y_assign rfl) rfl ?_
              refine L_y (y_assign rfl) rfl ?_
              refine L_nil ?_
              refine hK17 _ _ ?_
              refine T_ret ?_
              repeat (first | with_reducible refine up_then ?_ | with_reducible refine up_in ?_)
              refine ret2 rfl rfl rfl ?_
              have ho := one_16b (m := m) (s := s) (t := t) hmk (fun e => h39 (by rw [e]; rfl))
              have he : treeE b0 = 16 := by rw [ht, hd, getT_bad (by simp) (by rw [ho]; decide), ho]; rfl
              exact ⟨_, rfl, S4.like0, none, 0, 0, by rw [he]⟩
            ·
              obtain rfl := nat32 h39
              refine T_skip ?_
              refine hK15 _ _ ?_
              refine T_seq fun K18 hK18 => ?_
              refine T_region ?_
              refine L_y (y_move rfl) rfl ?_
              refine L_y (y_add rfl rfl (i64w (by omega))) rfl ?_
              refine L_y (y_assign rfl) rfl ?_
              refine L_nil ?_
              refine hK18 _ _ ?_
              refine T_seq fun K19 hK19 => ?_
              refine T_block ?_
              refine T_loop1 [(0, _), (4, _), (5, _), (6, _)] (fun (i : Nat) => [(7, .int .i64 ((at_ + 2 + i : Nat) : Int))]) (fun (i : Nat) => n - (at_ + 2 + i)) (fun (i : Nat) (w : World) => (at_ + 2 + i ≤ n ∧ (0 : UInt8) ∉ t.take i) ∧ Zx.St w0 noM [Zx.row 149 34 A4 l.length c4 (l.flatMap enf), blk b3 149 (ef ⟨#[]⟩ ((m.toNat : Int) - 48) zB).toArray] w) 0 (Sub.cons rfl (by first | rfl | exact congrArg (Value.int _) (by omega)) (Sub.nil _)) (Sub.cons rfl rfl (Sub.cons rfl rfl (Sub.cons rfl rfl (Sub.cons rfl rfl (Sub.nil _))))) ?_ ?_
              ·
                exact ⟨⟨by omega, by simp⟩, S4⟩
              ·
                intro i w6 hrel
                obtain ⟨⟨hin, hnz⟩, S6⟩ := hrel
                refine T_seq fun K20 hK20 => ?_
                refine T_seq fun K21 hK21 => ?_
                refine T_region ?_
                refine L_y (y_move rfl) rfl ?_
                refine L_y (y_move rfl) rfl ?_
                refine L_y (y_len Tryz.underlying22 rfl) rfl ?_
                refine L_y (y_lss rfl rfl) rfl ?_
                refine L_y (y_move rfl) rfl ?_
                refine L_split 46 rfl (fun h46 => ?_) (fun h46 => ?_)
                ·
                  obtain ⟨x, hx⟩ : ∃ x, t[i]? = some x := ⟨_, List.getElem?_eq_getElem (by omega)⟩
                  have hbx : b0[at_ + 2 + i]? = some x := by rw [← hx, ← htt2, List.getElem?_drop]
                  have hx9 := x.toNat_lt
                  refine L_gyes rfl rfl ?_
                  refine L_y (y_move rfl) rfl ?_
                  refine L_gyes rfl rfl ?_
                  refine L_y (y_move rfl) rfl ?_
                  refine L_gyes rfl rfl ?_
                  refine L_y (y_idx Tryz.underlying22 sz5 rfl rfl (by first | exact S6.rd hb | exact S6.row 0 rfl) inferInstance (by omega)) rfl ?_
                  refine L_gyes rfl rfl ?_
                  refine L_y (y_ldr Tryz.underlying5 rfl rfl (S6.rd hb) (bL_get _ _ _ hbx)) rfl ?_
                  refine L_gyes rfl rfl ?_
                  refine L_y (y_neq rfl rfl) rfl ?_
                  refine L_y ((by first | exact y_pickT rfl rfl | exact y_pickF rfl rfl)) rfl ?_
                  refine L_nil ?_
                  refine hK21 _ _ ?_
                  refine T_cond rfl (fun h52 => ?_) (fun h52 => ?_)
                  ·
                    refine T_skip ?_
                    refine hK20 _ _ ?_
                    refine T_block ?_
                    refine T_region ?_
                    refine L_y (y_move rfl) rfl ?_
                    refine L_y (y_add rfl rfl (i64w (by omega))) rfl ?_
                    refine L_y (y_assign rfl) rfl ?_
                    refine L_nil ?_
                    refine ⟨i + 1, by omega, ⟨⟨by omega, notin_succ hx (u8z h52) hnz⟩, S6⟩, ?_⟩
                    exact (Sub.cons rfl (by first | rfl | exact congrArg (Value.int _) (by omega)) (Sub.cons rfl rfl (Sub.cons rfl rfl (Sub.cons rfl rfl (Sub.cons rfl rfl (Sub.nil _))))))
                  ·
                    obtain rfl := u8z' h52
                    have hcf := zero_in (by omega) hx hnz
                    refine T_exit ?_
                    refine hK19 _ _ ?_
                    refine T_seq fun K22 hK22 => ?_
                    refine T_region ?_
                    refine L_y (y_move rfl) rfl ?_
                    refine L_y (y_move rfl) rfl ?_
                    refine L_y (y_add rfl rfl (i64w (by omega))) rfl ?_
                    refine L_y (y_move rfl) rfl ?_
                    have hbt := hb.cutb (l := at_ + 2) (u := at_ + 2 + i) (by omega) (by omega)
                    rw [show (b0.drop (at_ + 2)).take (at_ + 2 + i - (at_ + 2)) = t.take i by rw [htt2, Nat.add_sub_cancel_left]] at hbt
                    refine L_y (y_slice Tryz.underlying22 sz5 rfl rfl rfl inferInstance inferInstance (by omega) (by omega)) rfl ?_
                    refine L_y (y_bstr Tryz.underlying22 Tryz.underlying5 Tryz.underlying9 rfl (S6.rd hbt)) rfl ?_
                    refine L_y (y_fieldA 0 Tryz.underlying149 rfl sz9 rfl rfl rfl) rfl ?_
                    refine L_o (o_st1 S6 1 rfl rfl rfl rfl sz9 (by rw [List.size_toArray, ef_len _ _ zB_len]; omega) fun w8 S8 => ?_)
                    have S90 := S8.blkc 1 rfl ef_set0
                    refine L_nil ?_
                    refine hK22 _ _ ?_
                    refine T_seq fun K23 hK23 => ?_
                    refine T_seq fun K24 hK24 => ?_
                    refine T_region ?_
                    refine L_y (y_fieldA 0 Tryz.underlying149 rfl sz9 rfl rfl rfl) rfl ?_
                    refine L_y (y_ldc Tryz.underlying9 rfl rfl (((S90.blk 1 rfl).cell _).trans (ef_0 _ _ _))) rfl ?_
                    refine L_o (o_call Tryz.func76 rfl rfl (Tre.rname _ w8) rfl rfl ?_)
                    rintro e9 w9 ⟨v9, rfl, l9, rfl⟩
                    refine ⟨_, rfl, ?_⟩
                    have S9 := S90.like l9
                    refine L_y ((by first | exact y_notD rfl | exact y_not rfl)) rfl ?_
                    refine L_nil ?_
                    refine hK24 _ _ ?_
                    refine T_condB rfl (fun h65 => ?_) (fun h65 => ?_)
                    ·
                      refine T_seq fun K25 hK25 => ?_
                      refine T_region ?_
                      refine L_y (y_assign rfl) rfl ?_
                      refine L_y (y_assign rfl) rfl ?_
                      refine L_nil ?_
                      refine hK25 _ _ ?_
                      refine T_ret ?_
                      repeat (first | with_reducible refine up_then ?_ | with_reducible refine up_in ?_)
                      refine ret2 rfl rfl rfl ?_
                      have ho := one_s15 hmk hcf (by simpa using h65)
                      have he : treeE b0 = 15 := by rw [ht, hd, getT_bad (by simp) (by rw [ho]; decide), ho]; rfl
                      exact ⟨_, rfl, S9.like0, none, 0, 0, by rw [he]⟩
                    ·
                      refine T_skip ?_
                      refine hK23 _ _ ?_
                      refine T_seq fun K26 hK26 => ?_
                      refine T_seq fun K27 hK27 => ?_
                      refine T_region ?_
                      refine L_y (y_move rfl) rfl ?_
                      refine L_y (y_add rfl rfl (i64w (by omega))) rfl ?_
                      refine L_y (y_move rfl) rfl ?_
                      refine L_y (y_len Tryz.underlying22 rfl) rfl ?_
                      refine L_y (y_gtr rfl rfl) rfl ?_
                      refine L_nil ?_
                      refine hK27 _ _ ?_
                      refine T_cond rfl (fun h70 => ?_) (fun h70 => ?_)
                      ·
                        refine T_seq fun K28 hK28 => ?_
                        refine T_region ?_
                        refine L_y (y_assign rfl) rfl ?_
                        refine L_y (y_assign rfl) rfl ?_
                        refine L_nil ?_
                        refine hK28 _ _ ?_
                        refine T_ret ?_
                        repeat (first | with_reducible refine up_then ?_ | with_reducible refine up_in ?_)
                        refine ret2 rfl rfl rfl ?_
                        have ho := one_s10 hmk hcf (by simpa using h65) (by rw [List.length_drop]; omega)
                        have he : treeE b0 = 10 := by rw [ht, hd, getT_bad (by simp) (by rw [ho]; decide), ho]; rfl
                        exact ⟨_, rfl, S9.like0, none, 0, 0, by rw [he]⟩
                      ·
                        have hq : (t.drop (i + 1)).length = n - (at_ + 2 + i + 1) := by rw [List.length_drop]; omega
                        have hone := one_s0 hmk hcf (by simpa using h65) (by omega : ¬ (t.drop (i + 1)).length < 32)
                        refine T_skip ?_
                        refine hK26 _ _ ?_
                        refine T_seq fun K29 hK29 => ?_
                        refine T_seq fun K30 hK30 => ?_
                        refine T_region ?_
                        refine L_y (y_assign rfl) rfl ?_
                        refine L_nil ?_
                        refine hK30 _ _ ?_
                        refine T_block ?_
                        refine T_loop1 [(0, _), (4, _), (6, _), (7, _)] (fun (j : Nat) => [(8, .int .i64 (j : Int))]) (fun (j : Nat) => 32 - j) (fun (j : Nat) (w : World) => j ≤ 32 ∧ Zx.St w0 noM [Zx.row 149 34 A4 l.length c4 (l.flatMap enf), blk b3 149 (ef ⟨(t.take i).toArray⟩ ((m.toNat : Int) - 48) (idJ (t.drop (i + 1)) j)).toArray] w) 0 (Sub.cons rfl (by first | rfl | exact congrArg (Value.int _) (by omega)) (Sub.nil _)) (Sub.cons rfl rfl (Sub.cons rfl rfl (Sub.cons rfl rfl (Sub.cons rfl rfl (Sub.nil _))))) ?_ ?_
                        ·
                          exact ⟨by omega, S9⟩
                        ·
                          intro j w10 hrel
                          obtain ⟨hj, S10⟩ := hrel
                          refine T_seq fun K31 hK31 => ?_
                          refine T_seq fun K32 hK32 => ?_
                          refine T_region ?_
                          refine L_y (y_move rfl) rfl ?_
                          refine L_y (y_lss rfl rfl) rfl ?_
                          refine L_nil ?_
                          refine hK32 _ _ ?_
                          refine T_cond rfl (fun h72 => ?_) (fun h72 => ?_)
                          ·
                            obtain ⟨y, hy⟩ : ∃ y, (t.drop (i + 1))[j]? = some y := ⟨_, List.getElem?_eq_getElem (by omega)⟩
                            have hby : b0[at_ + 2 + i + 1 + j]? = some y := by rw [← hy, ← htt2, List.getElem?_drop, List.getElem?_drop]; congr 1; omega
                            have hy9 := y.toNat_lt
                            refine T_skip ?_
                            refine hK31 _ _ ?_
                            refine T_seq fun K33 hK33 => ?_
                            refine T_block ?_
                            refine T_region ?_
                            refine L_y (y_move rfl) rfl ?_
                            refine L_y (y_move rfl) rfl ?_
                            refine L_y (y_move rfl) rfl ?_
                            refine L_y (y_add rfl rfl (i64w (by omega))) rfl ?_
                            refine L_y (y_move rfl) rfl ?_
                            refine L_y (y_add rfl rfl (i64w (by omega))) rfl ?_
                            refine L_y (y_idx Tryz.underlying22 sz5 rfl rfl (by first | exact S10.rd hb | exact S10.row 0 rfl) inferInstance (by omega)) rfl ?_
                            refine L_y (y_ldr Tryz.underlying5 rfl rfl (S10.rd hb) (bL_get _ _ _ hby)) rfl ?_
                            refine L_y (y_fieldA 2 Tryz.underlying149 rfl sz41 rfl rfl rfl) rfl ?_
                            refine L_y (y_idxA1 Tryz.underlying41 sz5 rfl rfl inferInstance (by omega)) rfl ?_
                            refine L_o (o_st1 S10 1 rfl rfl rfl rfl sz5 (by rw [List.size_toArray, ef_len _ _ (idJ_len (by omega) (by omega))]; omega) fun w11 S11 => ?_)
                            have S90 := S11.blkc 1 rfl ((ef_setId j y).trans (by rw [idJ_set hy (by omega)]))
                            refine L_nil ?_
                            refine hK33 _ _ ?_
                            refine T_region ?_
                            refine L_y (y_move rfl) rfl ?_
                            refine L_y (y_add rfl rfl (i64w (by omega))) rfl ?_
                            refine L_y (y_assign rfl) rfl ?_
                            refine L_nil ?_
                            refine ⟨j + 1, by omega, ⟨by omega, S90⟩, ?_⟩
                            exact (Sub.cons rfl (by first | rfl | exact congrArg (Value.int _) (by omega)) (Sub.cons rfl rfl (Sub.cons rfl rfl (Sub.cons rfl rfl (Sub.cons rfl rfl (Sub.nil _))))))
                          ·
                            obtain rfl : j = 32 := by omega
                            have hns : (⟨(t.take i).toArray⟩ : ByteArray).size ≤ 1000000000 := by rw [Rev.bsz, List.length_take]; omega
                            obtain ⟨yE, hyE⟩ : ∃ y : EV, y = ⟨⟨(t.take i).toArray⟩, ((m.toNat : Int) - 48), idJ (t.drop (i + 1)) 32, idJ_len (by omega) (by omega), hns⟩ := ⟨_, rfl⟩
                            have hye : ef ⟨(t.take i).toArray⟩ ((m.toNat : Int) - 48) (idJ (t.drop (i + 1)) 32) = enf yE := by rw [hyE]; rfl
                            have hsz : (⟨(oneC (m :: 32 :: t)).2.1.toArray⟩ : ByteArray).size ≤ 1000000000 := by rw [hone]; exact hns
                            have hys : stp yE = (⟨(oneC (m :: 32 :: t)).2.1.toArray⟩, (((m :: 32 :: t).getD 0 0).toNat : Int) - 48) := by rw [hyE, hone]; rfl
                            have hdr : b0.drop (at_ + 2 + i + 33) = (oneC (m :: 32 :: t)).2.2 := by rw [hone, ← htt2, List.drop_drop, List.drop_drop]; first | done | (congr 1 <;> omega)
                            rw [hye] at S10
                            refine T_exit ?_
                            refine hK29 _ _ ?_
                            refine T_seq fun K34 hK34 => ?_
                            refine T_region ?_
                            refine L_y (y_move rfl) rfl ?_
                            refine L_y (y_ldW Tryz.underlying149 rfl sz149 rfl (S10.blk 1 rfl) (by first | exact Tre.whole_enf yE | exact ⟨Tre.take_enf yE, enf_len yE⟩)) rfl ?_
                            refine L_o (o_bsl (enf yE) te78 zz149 S10 rfl rfl rfl (by simp [Value.cells, enf_len]) (by simp [Value.cells]) rfl rfl rfl fun b12 w12 S12 => ?_)
                            refine L_o (o_app te78 S12 0 rfl rfl rfl (by first | exact S12.rd hb | exact S12.row 0 rfl | exact S12.row 2 rfl) (fun u hu => by rw [ef_en] at hu; exact ef_one _ _ _ u hu) rfl (by omega) (by omega) fun A13 c13 w13 S13 => ?_)
                            have S13d := S13.drop (rs' := [_, _]) (.cons_cons _ (.cons_cons _ (.cons _ (.refl _))))
                            refine L_y (y_assign rfl) rfl ?_
                            refine L_nil ?_
                            refine hK34 _ _ ?_
                            refine T_region ?_
                            refine L_y (y_move rfl) rfl ?_
                            refine L_y (y_add rfl rfl (i64w (by omega))) rfl ?_
                            refine L_y (y_assign rfl) rfl ?_
                            refine L_nil ?_
                            have S91 := S13d.sel [0] (by decide)
                            have S92 := S91.rowc 0 rfl (n' := (l ++ [yE]).length) (xs' := (l ++ [yE]).flatMap enf) (by rw [List.length_append]; rfl) (by rw [List.flatMap_append]; simp [hyE])
                            refine ⟨at_ + 2 + i + 33, k, acc ++ [zEV ⟨(oneC (m :: 32 :: t)).2.1.toArray⟩ ((((m :: 32 :: t).getD 0 0).toNat : Int) - 48)], l ++ [yE], _, _, by omega, ⟨⟨by omega, by omega, by rw [List.length_append]; simp only [List.length_cons, List.length_nil]; omega, by rw [List.map_append, List.map_append, hst, List.map_cons, List.map_nil, List.map_cons, List.map_nil, zEV_st hsz, hys], by rw [ht, hd, getT_ok (by simp) (fun q => q (by rw [hone])), hdr]⟩, S92⟩, ?_⟩
                            exact (Sub.cons rfl (by rw [List.length_append]; rfl) (Sub.cons rfl (by first | rfl | exact congrArg (Value.int _) (by omega)) (Sub.cons rfl rfl (Sub.nil _))))
                ·
                  have hit : i = t.length := by omega
                  have hcf : cutF 0 t = none := Rev.cutF_no (by rw [hit, List.take_length] at hnz; exact hnz)
                  refine L_gno rfl rfl rfl ?_
                  refine L_gno rfl rfl rfl ?_
                  refine L_gno rfl rfl rfl ?_
                  refine L_gno rfl rfl rfl ?_
                  refine L_gno rfl rfl rfl ?_
                  refine L_y ((by first | exact y_pickT rfl rfl | exact y_pickF rfl rfl)) rfl ?_
                  refine L_nil ?_
                  refine hK21 _ _ ?_
                  refine T_false rfl ?_
                  refine T_exit ?_
                  refine hK19 _ _ ?_
                  refine T_seq fun K35 hK35 => ?_
                  refine T_region ?_
                  refine L_y (y_move rfl) rfl ?_
                  refine L_y (y_move rfl) rfl ?_
                  refine L_y (y_add rfl rfl (i64w (by omega))) rfl ?_
                  refine L_y (y_move rfl) rfl ?_
                  have hbt := hb.cutb (l := at_ + 2) (u := at_ + 2 + i) (by omega) (by omega)
                  rw [show (b0.drop (at_ + 2)).take (at_ + 2 + i - (at_ + 2)) = t.take i by rw [htt2, Nat.add_sub_cancel_left]] at hbt
                  refine L_y (y_slice Tryz.underlying22 sz5 rfl rfl rfl inferInstance inferInstance (by omega) (by omega)) rfl ?_
                  refine L_y (y_bstr Tryz.underlying22 Tryz.underlying5 Tryz.underlying9 rfl (S6.rd hbt)) rfl ?_
                  refine L_y (y_fieldA 0 Tryz.underlying149 rfl sz9 rfl rfl rfl) rfl ?_
                  refine L_o (o_st1 S6 1 rfl rfl rfl rfl sz9 (by rw [List.size_toArray, ef_len _ _ zB_len]; omega) fun w14 S14 => ?_)
                  have S90 := S14.blkc 1 rfl ef_set0
                  refine L_nil ?_
                  refine hK35 _ _ ?_
                  refine T_seq fun K36 hK36 => ?_
                  refine T_seq fun K37 hK37 => ?_
                  refine T_region ?_
                  refine L_y (y_fieldA 0 Tryz.underlying149 rfl sz9 rfl rfl rfl) rfl ?_
                  refine L_y (y_ldc Tryz.underlying9 rfl rfl (((S90.blk 1 rfl).cell _).trans (ef_0 _ _ _))) rfl ?_
                  refine L_o (o_call Tryz.func76 rfl rfl (Tre.rname _ w14) rfl rfl ?_)
                  rintro e15 w15 ⟨v15, rfl, l15, rfl⟩
                  refine ⟨_, rfl, ?_⟩
                  have S15 := S90.like l15
                  refine L_y ((by first | exact y_notD rfl | exact y_not rfl)) rfl ?_
                  refine L_nil ?_
                  refine hK37 _ _ ?_
                  refine T_condB rfl (fun h65 => ?_) (fun h65 => ?_)
                  ·
                    refine T_seq fun K38 hK38 => ?_
                    refine T_region ?_
                    refine L_y (y_assign rfl) rfl ?_
                    refine L_y (y_assign rfl) rfl ?_
                    refine L_nil ?_
                    refine hK38 _ _ ?_
                    refine T_ret ?_
                    repeat (first | with_reducible refine up_then ?_ | with_reducible refine up_in ?_)
                    refine ret2 rfl rfl rfl ?_
                    have ho := one_n15 hmk hcf (by rw [hit, List.take_length] at h65; simpa using h65)
                    have he : treeE b0 = 15 := by rw [ht, hd, getT_bad (by simp) (by rw [ho]; decide), ho]; rfl
                    exact ⟨_, rfl, S15.like0, none, 0, 0, by rw [he]⟩
                  ·
                    refine T_skip ?_
                    refine hK36 _ _ ?_
                    refine T_seq fun K39 hK39 => ?_
                    refine T_seq fun K40 hK40 => ?_
                    refine T_region ?_
                    refine L_y (y_move rfl) rfl ?_
                    refine L_y (y_add rfl rfl (i64w (by omega))) rfl ?_
                    refine L_y (y_move rfl) rfl ?_
                    refine L_y (y_len Tryz.underlying22 rfl) rfl ?_
                    refine L_y (y_gtr rfl rfl) rfl ?_
                    refine L_nil ?_
                    refine hK40 _ _ ?_
                    refine T_cond rfl (fun h70 => ?_) (fun h70 => ?_)
                    ·
                      refine T_seq fun K41 hK41 => ?_
                      refine T_region ?_
                      refine L_y (y_assign rfl) rfl ?_
                      refine L_y (y_assign rfl) rfl ?_
                      refine L_nil ?_
                      refine hK41 _ _ ?_
                      refine T_ret ?_
                      repeat (first | with_reducible refine up_then ?_ | with_reducible refine up_in ?_)
                      refine ret2 rfl rfl rfl ?_
                      have ho := one_n10 hmk hcf (by rw [hit, List.take_length] at h65; simpa using h65)
                      have he : treeE b0 = 10 := by rw [ht, hd, getT_bad (by simp) (by rw [ho]; decide), ho]; rfl
                      exact ⟨_, rfl, S15.like0, none, 0, 0, by rw [he]⟩
                    ·
                      exfalso; omega
    ·
      have hdn : b0.drop at_ = [] := List.drop_of_length_le (by omega)
      refine T_exit ?_
      refine hK4 _ _ ?_
      refine T_seq fun K42 hK42 => ?_
      refine T_region ?_
      refine L_y (y_move rfl) rfl ?_
      refine L_o (o_call Tryz.func77 rfl rfl (Tre.rcheck A4 _ c4 l w2 (S2.row 0 rfl) (by omega)) rfl rfl ?_)
      rintro e16 w16 ⟨v16, rfl, l16, rfl⟩
      refine ⟨_, rfl, ?_⟩
      have S16 := S2.like l16
      refine L_y (y_assign rfl) rfl ?_
      refine L_nil ?_
      refine hK42 _ _ ?_
      refine T_seq fun K43 hK43 => ?_
      refine T_seq fun K44 hK44 => ?_
      refine T_region ?_
      refine L_y (y_move rfl) rfl ?_
      refine L_y (y_neq rfl rfl) rfl ?_
      refine L_nil ?_
      refine hK44 _ _ ?_
      refine T_cond rfl (fun h94 => ?_) (fun h94 => ?_)
      ·
        refine T_seq fun K45 hK45 => ?_
        refine T_region ?_
        refine L_y (y_move rfl) rfl ?_
        refine L_y (y_assign rfl) rfl ?_
        refine L_y (y_assign rfl) rfl ?_
        refine L_nil ?_
        refine hK45 _ _ ?_
        refine T_ret ?_
        repeat (first | with_reducible refine up_then ?_ | with_reducible refine up_in ?_)
        refine ret2 rfl rfl rfl ?_
        have he : treeE b0 = chkE l := by rw [ht, hdn, getT_nil]; unfold finT; rw [if_neg (by simp)]; exact chkE_congr hst.symm
        exact ⟨_, rfl, S16.like0, none, 0, 0, by rw [he]⟩
      ·
        refine T_skip ?_
        refine hK43 _ _ ?_
        refine T_seq fun K46 hK46 => ?_
        refine T_region ?_
        refine L_y (y_move rfl) rfl ?_
        refine L_y (y_assign rfl) rfl ?_
        refine L_y (y_assign rfl) rfl ?_
        refine L_nil ?_
        refine hK46 _ _ ?_
        refine T_ret ?_
        repeat (first | with_reducible refine up_then ?_ | with_reducible refine up_in ?_)
        refine ret2 rfl rfl rfl ?_
        have he : treeE b0 = 0 := by rw [ht, hdn, getT_nil]; unfold finT; rw [if_neg (by simp)]; exact (chkE_congr hst.symm).trans (Classical.byContradiction fun q => h94 q)
        exact ⟨_, rfl, S16.like0, A4, l.length, c4, by rw [he]⟩
end Go.Proofs.YtgaklngnfecdaaaGreat.Obj
