import Derived.Test.YtgaklngnfecdaaaGreatMgPTurned9
import Derived.Test.YtgaklngnfecdaaaGreatMgPTurned2
set_option linter.unusedSimpArgs false
set_option linter.unusedVariables false
set_option maxRecDepth 100000
set_option maxHeartbeats 1000000
namespace Go.Proofs.YtgaklngnfecdaaaGreat.Pak
open Go.RowKit Zk Zx
open Sha (N xorN andN notN N_ge N_le)
open Go.Proofs.YtgaklngnfecdaaaGreat.Obj (objE objB nameI nameI_len nameI_ok nameI_no zB zB_len rs_tail)
open Oct (vaN rwL rwP rwE rnL rnP rnE be vr tl length_tl)
open Del (scA opf OP OkO mkV encV putR readV aplR)
theorem xor8 (a b : UInt8) : bits .xor .u8 (a.toNat : Int) (b.toNat : Int) = ((a ^^^ b).toNat : Int) := by
  rw [u8_xor_nat _ _ a.toNat_lt b.toNat_lt, UInt8.toNat_xor]
theorem shrT (t j : Nat) (h : j < 4) : Int.fdiv (t : Int) (2 ^ (min ((8 : Int) * (j : Int)).toNat IntKind.u32.bits)) = ((t / 256 ^ j : Nat) : Int) := by
  have e1 : min ((8 : Int) * (j : Int)).toNat IntKind.u32.bits = 8 * j := by simp only [IntKind.bits]; omega
  rw [e1, Int.fdiv_eq_ediv_of_nonneg _ (Int.pow_nonneg (by omega)), Int.natCast_ediv, Int.natCast_pow, Int.pow_mul]
  rfl
theorem byT_of (t j : Nat) : IntKind.u8.wrap ((t / 256 ^ j : Nat) : Int) = ((byT t j).toNat : Int) := Oct.byteOf _
theorem nx_le {chain : Int} {l : List IV} (h : Written chain l) {k : Nat} {o : Ob} (ho : (packV chain l).os[k]? = some o) : nx (packV chain l).os (packV chain l).bs k ≤ (packV chain l).bs.length := by
  have hL := h.inv.each k o ho
  rcases hL.ent with ⟨x, post, e, _, _, _, u4⟩ | ⟨j, p, post, _, _, _, _, _, _, _, e, u4⟩ <;>
  · have h1 := congrArg List.length e
    have := hL.lt
    rw [List.length_drop, List.length_append] at h1
    omega
theorem nx_ge {l : List IV} (h : Written 0 l) {k : Nat} {o : Ob} (ho : (packV 0 l).os[k]? = some o) : o.l.length ≤ nx (packV 0 l).os (packV 0 l).bs k := by
  have hL := h.inv.each k o ho
  have hd := dep_zero o (List.mem_of_getElem? ho)
  rcases hL.ent with ⟨x, post, e, _, _, _, u4⟩ | ⟨j, p, post, _, _, _, _, r3, _⟩
  · rw [← u4]
    unfold entB
    simp only [List.length_append]
    omega
  · omega
theorem write_no {A : Option Addr} {n c : Nat} {its : List It} {chain : Int} {w0 : World} (hits : Rs w0 2 A n c (its.flatMap itf)) (hok : OkI w0 its) (hs : SmallI its) (h : wrE chain (its.map It.v) ≠ 0) :
    Calls Tryz.prog 28 #[.slice A n c, .int .i64 chain] w0 fun e w' => ∃ u, e = .returned u ∧ Like w0 w' ∧ u = .tuple #[.slice none 0 0, .slice none 0 0, .int .i64 (wrE chain (its.map It.v))] :=
  (write_ hits hok hs).mono fun e w' ⟨u, h1, h2⟩ => by
    obtain ⟨_, h3, h4⟩ := h2.resolve_right (fun q => h q.1)
    exact ⟨u, h1, h3, h4⟩
theorem tn_succ (b : List UInt8) (p t j : Nat) {y : UInt8} (hy : (tnL b p t j)[p + j]? = some y) : tnL b p t (j + 1) = (tnL b p t j).set (p + j) (y ^^^ byT t j) := by
  conv => lhs; unfold tnL
  rw [hy]
  rfl
theorem lturned0 (A : Option Addr) (n c : Nat) (its : List It) (a t : Nat) (w0 : World) (hits : Rs w0 2 A n c (its.flatMap itf)) (hok : OkI w0 its) (ha : a < 256) (ht : t < 4294967296) (hsm : ¬ SmallI its) :
    Calls Tryz.prog 8 #[.slice A n c, .int .u8 (a : Int), .int .u32 (t : Int)] w0 fun e w' => ∃ u, e = .returned u ∧ Like w0 w' ∧ u = .bool true := by
 refine enter1 (env := [(0, .slice A n c), (1, .int .u8 (a : Int)), (2, .int .u32 (t : Int))]) [.slice A n c, .int .u8 (a : Int), .int .u32 (t : Int)] Tryz.func8 rfl Tryz.ntmps8 rfl rfl ?_; have hn := its_len hits; have hcap := hits.cap; have hmax := hits.max; have S0 := St.start w0 noM; refine T_seq fun K1 hK1 => T_region (L_y (y_assign rfl) rfl (L_nil (hK1 _ _ (T_seq fun K2 hK2 => T_seq fun K3 hK3 => T_region (L_y (y_move rfl) rfl (L_o (o_call Tryz.func26 rfl rfl (small A n c its w0 (S0.rd hits)) rfl rfl ?_))))))); rintro e1 w1 ⟨v1, rfl, l1, b, rfl, hb⟩; refine ⟨_, rfl, ?_⟩; have S1 := S0.like l1; obtain rfl : b = false := by cases b; rfl; exact absurd (hb.1 rfl) hsm
 refine L_y ((by first | exact y_notD rfl | exact y_not rfl)) rfl ?_; refine L_y (y_move rfl) rfl (L_gno rfl rfl rfl (L_gno rfl rfl rfl (L_gno rfl rfl rfl (L_y ((by first | exact y_pickT rfl rfl | exact y_pickF rfl rfl)) rfl ?_)))); refine L_nil (hK3 _ _ (T_true rfl (T_seq fun K4 hK4 => T_region (L_o (o_call Tryz.func27 rfl rfl (works w1) rfl rfl ?_))))); rintro e2 w2 ⟨v2, rfl, l2, rfl⟩; refine ⟨_, rfl, ?_⟩; have S2 := S1.like l2; refine L_y (y_assign rfl) rfl (L_nil (hK4 _ _ (T_ret ?_))); repeat (first | with_reducible refine up_then ?_ | with_reducible refine up_in ?_)
 refine ret1 rfl rfl ?_; exact ⟨_, rfl, S2.like0, rfl⟩
theorem lturned1 (A : Option Addr) (n c : Nat) (its : List It) (a t : Nat) (w0 : World) (hits : Rs w0 2 A n c (its.flatMap itf)) (hok : OkI w0 its) (ha : a < 256) (ht : t < 4294967296) (hsm : SmallI its) (hwr : wrE 0 (its.map It.v) ≠ 0) :
    Calls Tryz.prog 8 #[.slice A n c, .int .u8 (a : Int), .int .u32 (t : Int)] w0 fun e w' => ∃ u, e = .returned u ∧ Like w0 w' ∧ u = .bool true := by
 refine enter1 (env := [(0, .slice A n c), (1, .int .u8 (a : Int)), (2, .int .u32 (t : Int))]) [.slice A n c, .int .u8 (a : Int), .int .u32 (t : Int)] Tryz.func8 rfl Tryz.ntmps8 rfl rfl ?_; have hn := its_len hits; have hcap := hits.cap; have hmax := hits.max; have h24 := hsm.1; have S0 := St.start w0 noM; refine T_seq fun K1 hK1 => T_region (L_y (y_assign rfl) rfl (L_nil (hK1 _ _ (T_seq fun K2 hK2 => T_seq fun K3 hK3 => T_region (L_y (y_move rfl) rfl (L_o (o_call Tryz.func26 rfl rfl (small A n c its w0 (S0.rd hits)) rfl rfl ?_))))))); rintro e1 w1 ⟨v1, rfl, l1, b, rfl, hb⟩; refine ⟨_, rfl, ?_⟩; have S1 := S0.like l1; obtain rfl : b = true := hb.2 hsm; refine L_y ((by first | exact y_notD rfl | exact y_not rfl)) rfl ?_; refine L_y (y_move rfl) rfl (L_gyes rfl rfl (L_y (y_move rfl) rfl (L_gyes rfl rfl (L_y (y_len Tryz.underlying48 rfl) rfl (L_gyes rfl rfl (L_y (y_eql rfl rfl) rfl (L_y ((by first | exact y_pickT rfl rfl | exact y_pickF rfl rfl)) rfl ?_))))))); refine L_nil (hK3 _ _ ?_); refine T_cond rfl (fun h25 => ?_) (fun h25 => ?_)
 ·
  refine T_seq fun K4 hK4 => T_region (L_o (o_call Tryz.func27 rfl rfl (works w1) rfl rfl ?_)); rintro e2 w2 ⟨v2, rfl, l2, rfl⟩; refine ⟨_, rfl, ?_⟩; have S2 := S1.like l2; refine L_y (y_assign rfl) rfl (L_nil (hK4 _ _ (T_ret ?_))); repeat (first | with_reducible refine up_then ?_ | with_reducible refine up_in ?_)
  refine ret1 rfl rfl ?_; exact ⟨_, rfl, S2.like0, rfl⟩
 ·
  refine T_skip (hK2 _ _ (T_seq fun K5 hK5 => T_region (L_y (y_move rfl) rfl (L_o (o_call Tryz.func28 rfl rfl (write_no (S1.rd hits) (OkI.like hok S1.like0) hsm hwr) rfl rfl ?_))))); rintro e3 w3 ⟨v3, rfl, l3, rfl⟩; refine ⟨_, rfl, ?_⟩; have S3 := S1.like l3; refine L_y (y_move rfl) rfl (L_y (y_extract rfl rfl) rfl (L_y (y_extract rfl rfl) rfl (L_y (y_extract rfl rfl) rfl (L_y (y_assign rfl) rfl (L_y (y_assign rfl) rfl (L_y (y_assign rfl) rfl (L_nil (hK5 _ _ (T_seq fun K6 hK6 => ?_))))))))); refine T_seq fun K7 hK7 => T_region (L_y (y_move rfl) rfl (L_y (y_neq rfl rfl) rfl (L_nil (hK7 _ _ ?_)))); refine T_cond rfl (fun h34 => ?_) (fun h34 => ?_)
  ·
   refine T_seq fun K8 hK8 => T_region (L_o (o_call Tryz.func27 rfl rfl (works w3) rfl rfl ?_)); rintro e4 w4 ⟨v4, rfl, l4, rfl⟩; refine ⟨_, rfl, ?_⟩; have S4 := S3.like l4; refine L_y (y_assign rfl) rfl (L_nil (hK8 _ _ (T_ret ?_))); repeat (first | with_reducible refine up_then ?_ | with_reducible refine up_in ?_)
   refine ret1 rfl rfl ?_; exact ⟨_, rfl, S4.like0, rfl⟩
  ·
   exact absurd hwr h34
theorem lturned2 (A : Option Addr) (n c : Nat) (its : List It) (a t : Nat) (w0 : World) (hits : Rs w0 2 A n c (its.flatMap itf)) (hok : OkI w0 its) (ha : a < 256) (ht : t < 4294967296) (hsm : SmallI its) (hwr : wrE 0 (its.map It.v) = 0) (hWr : Written 0 (its.map It.v)) :
    Calls Tryz.prog 8 #[.slice A n c, .int .u8 (a : Int), .int .u32 (t : Int)] w0 fun e w' => ∃ u, e = .returned u ∧ Like w0 w' ∧ u = .bool true := by
 refine enter1 (env := [(0, .slice A n c), (1, .int .u8 (a : Int)), (2, .int .u32 (t : Int))]) [.slice A n c, .int .u8 (a : Int), .int .u32 (t : Int)] Tryz.func8 rfl Tryz.ntmps8 rfl rfl ?_; have hn := its_len hits; have hcap := hits.cap; have hmax := hits.max; have h24 := hsm.1; have S0 := St.start w0 noM; refine T_seq fun K1 hK1 => T_region (L_y (y_assign rfl) rfl (L_nil (hK1 _ _ (T_seq fun K2 hK2 => T_seq fun K3 hK3 => T_region (L_y (y_move rfl) rfl (L_o (o_call Tryz.func26 rfl rfl (small A n c its w0 (S0.rd hits)) rfl rfl ?_))))))); rintro e1 w1 ⟨v1, rfl, l1, b, rfl, hb⟩; refine ⟨_, rfl, ?_⟩; have S1 := S0.like l1; obtain rfl : b = true := hb.2 hsm; refine L_y ((by first | exact y_notD rfl | exact y_not rfl)) rfl ?_; refine L_y (y_move rfl) rfl (L_gyes rfl rfl (L_y (y_move rfl) rfl (L_gyes rfl rfl (L_y (y_len Tryz.underlying48 rfl) rfl (L_gyes rfl rfl (L_y (y_eql rfl rfl) rfl (L_y ((by first | exact y_pickT rfl rfl | exact y_pickF rfl rfl)) rfl ?_))))))); refine L_nil (hK3 _ _ ?_); refine T_cond rfl (fun h25 => ?_) (fun h25 => ?_)
 ·
  refine T_seq fun K4 hK4 => T_region (L_o (o_call Tryz.func27 rfl rfl (works w1) rfl rfl ?_)); rintro e2 w2 ⟨v2, rfl, l2, rfl⟩; refine ⟨_, rfl, ?_⟩; have S2 := S1.like l2; refine L_y (y_assign rfl) rfl (L_nil (hK4 _ _ (T_ret ?_))); repeat (first | with_reducible refine up_then ?_ | with_reducible refine up_in ?_)
  refine ret1 rfl rfl ?_; exact ⟨_, rfl, S2.like0, rfl⟩
 ·
  refine T_skip (hK2 _ _ (T_seq fun K5 hK5 => T_region (L_y (y_move rfl) rfl (L_o (o_call Tryz.func28 rfl rfl (write_ (S1.rd hits) (OkI.like hok S1.like0) hsm) rfl rfl ?_))))); rintro e3 w3 ⟨v3, rfl, hW3⟩; refine ⟨_, rfl, ?_⟩; have S3 := S1; obtain ⟨Ap, cp, Aq, cq, rfl, T3⟩ := write_yes hW3 hwr; have S4 := S1.adoptS T3; refine L_y (y_move rfl) rfl (L_y (y_extract rfl rfl) rfl (L_y (y_extract rfl rfl) rfl (L_y (y_extract rfl rfl) rfl (L_y (y_assign rfl) rfl (L_y (y_assign rfl) rfl (L_y (y_assign rfl) rfl (L_nil (hK5 _ _ (T_seq fun K6 hK6 => ?_))))))))); refine T_seq fun K7 hK7 => T_region (L_y (y_move rfl) rfl (L_y (y_neq rfl rfl) rfl (L_nil (hK7 _ _ ?_)))); refine T_cond rfl (fun h34 => ?_) (fun h34 => ?_)
  ·
   exact absurd rfl h34
  ·
   refine T_skip (hK6 _ _ (T_seq fun K8 hK8 => T_seq fun K9 hK9 => ?_)); have hpl : (packB 0 (its.map It.v)).length = (packV 0 (its.map It.v)).bs.length + 32 := by unfold packB; rw [List.length_append, Sha.length_ofL]
   have hlo := hWr.lo; have hhi := hWr.hi; have hvl : (its.map It.v).length = n := by rw [List.length_map]; exact hn.symm
   refine T_region (L_y (y_move rfl) rfl (L_y (y_len Tryz.underlying50 rfl) rfl (L_y (y_move rfl) rfl (L_y (y_len Tryz.underlying48 rfl) rfl (L_y (y_neq rfl rfl) rfl (L_y (y_move rfl) rfl ?_)))))); refine L_split 41 rfl (fun h41 => ?_) (fun h41 => ?_)
   ·
    omega
   ·
    refine L_gyes rfl rfl (L_y (y_move rfl) rfl (L_gyes rfl rfl (L_y (y_len Tryz.underlying22 rfl) rfl (L_gyes rfl rfl (L_y (y_lss rfl rfl) rfl (L_y ((by first | exact y_pickT rfl rfl | exact y_pickF rfl rfl)) rfl ?_)))))); refine L_nil (hK9 _ _ ?_); refine T_cond rfl (fun h45 => ?_) (fun h45 => ?_)
    ·
     omega
    ·
     refine T_skip (hK8 _ _ (T_seq fun K10 hK10 => ?_)); have hkn := Nat.mod_lt a (show 0 < n by omega); obtain ⟨x, hx⟩ : ∃ x, its[(a % n)]? = some x := ⟨_, List.getElem?_eq_getElem (by omega)⟩; obtain ⟨o, ho⟩ : ∃ o, (packV 0 (its.map It.v)).os[(a % n)]? = some o := ⟨_, List.getElem?_eq_getElem (by rw [hWr.cnt]; omega)⟩; have hxo := (hok x (List.mem_of_getElem? hx)).lenb; have hol : o.l = x.p.l := by have h1 := hWr.item ho; rw [vs_at hx] at h1; exact (congrArg Prod.snd (Option.some.inj h1)).symm
     have hnl := nx_le hWr ho; have hng := nx_ge hWr ho; rw [hol] at hng; refine T_region (L_y (y_move rfl) rfl (L_y (y_conv is5 Tryz.underlying3 rfl (i64w (by omega))) rfl (L_y (y_move rfl) rfl (L_y (y_len Tryz.underlying48 rfl) rfl (L_y (y_rem rfl rfl (by omega) (remI (by omega))) rfl (L_y (y_assign rfl) rfl (L_nil (hK10 _ _ (T_seq fun K11 hK11 => ?_))))))))); refine T_region (L_y (y_move rfl) rfl (L_y (y_move rfl) rfl (L_y (y_idx Tryz.underlying48 sz65 rfl rfl (S4.rd hits) (Nt.mk (by omega) : Nt _ ((a % n))) (by omega)) rfl (L_y (y_fieldR 1 Tryz.underlying65 rfl sz22 rfl rfl (S4.rd hits) (by omega) rfl) rfl (L_y (y_ldf Tryz.underlying22 rfl rfl (S4.rd hits) (by omega) ((flat_at itf 2 itf_len its (a % n) x hx 1 (by omega)).trans (by rfl))) rfl ?_))))); refine L_y (y_len Tryz.underlying22 rfl) rfl (L_y (y_assign rfl) rfl (L_nil (hK11 _ _ (T_seq fun K12 hK12 => T_region (L_y (y_move rfl) rfl (L_y (y_len Tryz.underlying22 rfl) rfl (L_y (y_sub rfl rfl (i64w (by omega))) rfl (L_y (y_assign rfl) rfl ?_)))))))); refine L_nil (hK12 _ _ (T_seq fun K13 hK13 => T_seq fun K14 hK14 => T_region (L_y (y_move rfl) rfl (L_y (y_add rfl rfl (i64w (by omega))) rfl (L_y (y_move rfl) rfl (L_y (y_len Tryz.underlying50 rfl) rfl (L_y (y_lss rfl rfl) rfl ?_))))))); refine L_nil (hK14 _ _ ?_); refine T_cond rfl (fun h64 => ?_) (fun h64 => ?_)
     ·
      obtain ⟨o2, ho2⟩ : ∃ o2, (packV 0 (its.map It.v)).os[(a % n) + 1]? = some o2 := ⟨_, List.getElem?_eq_getElem (by rw [hWr.cnt]; omega)⟩; refine T_region (L_y (y_move rfl) rfl (L_y (y_move rfl) rfl (L_y (y_add rfl rfl (i64w (by omega))) rfl (L_y (y_idx Tryz.underlying50 sz67 rfl rfl (S4.row 1 rfl) (Nt.mk (by omega) : Nt _ ((a % n) + 1)) (by omega)) rfl (L_y (y_fieldR 32 Tryz.underlying67 rfl sz3 rfl rfl (S4.row 1 rfl) (by omega) rfl) rfl (L_y (y_ldf Tryz.underlying3 rfl rfl (S4.row 1 rfl) (by omega) ((flat_at plO 34 plO_len _ ((a % n) + 1) o2 ho2 32 (by omega)).trans (plOl32 o2))) rfl (L_y (y_assign rfl) rfl (L_nil (hK13 _ _ ?_))))))))); refine T_seq fun K15 hK15 => T_seq fun K16 hK16 => ?_; have hnx : nx (packV 0 (its.map It.v)).os (packV 0 (its.map It.v)).bs (a % n) = o2.at_ := by unfold nx; rw [ho2]; rfl
      refine T_region (L_y (y_move rfl) rfl (L_y (y_lss rfl rfl) rfl (L_y (y_move rfl) rfl ?_))); refine L_split 73 rfl (fun h73 => ?_) (fun h73 => ?_)
      ·
       refine L_gno rfl rfl rfl (L_gno rfl rfl rfl (L_gno rfl rfl rfl (L_y ((by first | exact y_pickT rfl rfl | exact y_pickF rfl rfl)) rfl ?_))); refine L_y (y_move rfl) rfl (L_gno rfl rfl rfl (L_gno rfl rfl rfl (L_y ((by first | exact y_pickT rfl rfl | exact y_pickF rfl rfl)) rfl ?_))); refine L_nil (hK16 _ _ (T_true rfl (T_seq fun K17 hK17 => T_region (L_o (o_call Tryz.func27 rfl rfl (works w3) rfl rfl ?_))))); rintro e7 w7 ⟨v7, rfl, l7, rfl⟩; refine ⟨_, rfl, ?_⟩; have S7 := S4.like l7; refine L_y (y_assign rfl) rfl (L_nil (hK17 _ _ (T_ret ?_))); repeat (first | with_reducible refine up_then ?_ | with_reducible refine up_in ?_)
       refine ret1 rfl rfl ?_; exact ⟨_, rfl, S7.like0, rfl⟩
      ·
       refine L_gyes rfl rfl (L_y (y_move rfl) rfl (L_gyes rfl rfl (L_y (y_move rfl) rfl (L_gyes rfl rfl (L_y (y_lss rfl rfl) rfl (L_y ((by first | exact y_pickT rfl rfl | exact y_pickF rfl rfl)) rfl ?_)))))); refine L_y (y_move rfl) rfl ?_; refine L_split 78 rfl (fun h78 => ?_) (fun h78 => ?_)
       ·
        refine L_gno rfl rfl rfl (L_gno rfl rfl rfl (L_y ((by first | exact y_pickT rfl rfl | exact y_pickF rfl rfl)) rfl ?_)); refine L_nil (hK16 _ _ (T_true rfl (T_seq fun K18 hK18 => T_region (L_o (o_call Tryz.func27 rfl rfl (works w3) rfl rfl ?_))))); rintro e9 w9 ⟨v9, rfl, l9, rfl⟩; refine ⟨_, rfl, ?_⟩; have S9 := S4.like l9; refine L_y (y_assign rfl) rfl (L_nil (hK18 _ _ (T_ret ?_))); repeat (first | with_reducible refine up_then ?_ | with_reducible refine up_in ?_)
        refine ret1 rfl rfl ?_; exact ⟨_, rfl, S9.like0, rfl⟩
       ·
        refine L_gyes rfl rfl (L_y (y_move rfl) rfl (L_gyes rfl rfl (L_y (y_eql rfl rfl) rfl (L_y ((by first | exact y_pickT rfl rfl | exact y_pickF rfl rfl)) rfl ?_)))); refine L_nil (hK16 _ _ ?_); refine T_cond rfl (fun h81 => ?_) (fun h81 => ?_)
        ·
         refine T_seq fun K19 hK19 => T_region (L_o (o_call Tryz.func27 rfl rfl (works w3) rfl rfl ?_)); rintro e10 w10 ⟨v10, rfl, l10, rfl⟩; refine ⟨_, rfl, ?_⟩; have S10 := S4.like l10; refine L_y (y_assign rfl) rfl (L_nil (hK19 _ _ (T_ret ?_))); repeat (first | with_reducible refine up_then ?_ | with_reducible refine up_in ?_)
         refine ret1 rfl rfl ?_; exact ⟨_, rfl, S10.like0, rfl⟩
        ·
         refine T_skip (hK15 _ _ (T_seq fun K20 hK20 => ?_)); have ht0 : t ≠ 0 := by omega
         have hPj : (nx (packV 0 (its.map It.v)).os (packV 0 (its.map It.v)).bs (a % n) - o.l.length) + 4 ≤ (packB 0 (its.map It.v)).length := by rw [hol]; omega
         refine T_region (L_o (o_bsl0 te22 S4 rfl fun b11 w11 l11 S11 => L_y (y_move rfl) rfl (L_o (o_app te22 S11 2 rfl rfl rfl (S11.row 0 rfl) (bL_one _) rfl (by omega) (by omega) fun A12 c12 w12 S12 => L_y (y_assign rfl) rfl (L_nil (hK20 _ _ (T_seq fun K21 hK21 => T_seq fun K22 hK22 => T_region ?_))))))); refine L_y (y_assign rfl) rfl (L_nil (hK22 _ _ (T_block ?_))); refine T_loop1 [(2, _), (8, _), (10, _), (11, _), (12, _), (13, _)] (fun (j : Nat) => [(14, .int .i64 (j : Int))]) (fun (j : Nat) => 4 - j) (fun (j : Nat) (w : World) => j ≤ 4 ∧ Zx.St w0 noM [row 5 1 Ap (packB 0 (its.map It.v)).length cp (bL (packB 0 (its.map It.v))), row 67 34 Aq (its.map It.v).length cq ((packV 0 (its.map It.v)).os.flatMap plO), row 5 1 A12 (0 + (packB 0 (its.map It.v)).length) c12 (bL (tnL (packB 0 (its.map It.v)) (nx (packV 0 (its.map It.v)).os (packV 0 (its.map It.v)).bs (a % n) - o.l.length) t j))] w) 0 (Sub.cons rfl (by first | rfl | exact congrArg (Value.int _) (by omega)) (Sub.nil _)) (Sub.cons rfl rfl (Sub.cons rfl rfl (Sub.cons rfl rfl (Sub.cons rfl rfl (Sub.cons rfl rfl (Sub.cons rfl rfl (Sub.nil _))))))) ?_ ?_
         ·
          exact ⟨by omega, S12⟩
         ·
          intro j w13 hrel; obtain ⟨hj, S13⟩ := hrel; refine T_seq fun K23 hK23 => T_seq fun K24 hK24 => T_region (L_y (y_move rfl) rfl (L_y (y_lss rfl rfl) rfl (L_nil (hK24 _ _ ?_)))); refine T_cond rfl (fun h87 => ?_) (fun h87 => ?_)
          ·
           obtain ⟨y, hy⟩ : ∃ y, (tnL (packB 0 (its.map It.v)) (nx (packV 0 (its.map It.v)).os (packV 0 (its.map It.v)).bs (a % n) - o.l.length) t j)[(nx (packV 0 (its.map It.v)).os (packV 0 (its.map It.v)).bs (a % n) - o.l.length) + j]? = some y := ⟨_, List.getElem?_eq_getElem (by rw [tnL_len]; omega)⟩; refine T_skip (hK23 _ _ (T_seq fun K25 hK25 => T_block (T_region (L_y (y_move rfl) rfl (L_y (y_move rfl) rfl (L_y (y_move rfl) rfl (L_y (y_sub rfl rfl (i64w (by omega))) rfl (L_y (y_move rfl) rfl ?_)))))))); refine L_y (y_add rfl rfl (i64w (by omega))) rfl (L_y (y_idx Tryz.underlying22 sz5 rfl rfl (S13.row 2 rfl) (Nt.mk (by rw [hol]; omega) : Nt _ ((nx (packV 0 (its.map It.v)).os (packV 0 (its.map It.v)).bs (a % n) - o.l.length) + j)) (by omega)) rfl ?_); refine L_y (y_ldr Tryz.underlying5 rfl rfl (S13.row 2 rfl) (bL_get _ _ _ hy)) rfl (L_y (y_move rfl) rfl (L_y (y_move rfl) rfl (L_y (y_mul rfl rfl (i64w (by omega))) rfl (L_y (y_conv is3 Tryz.underlying68 rfl (u64w (by omega))) rfl (L_y (y_shr rfl rfl (by omega) (shrT t j (by omega))) rfl (L_y (y_conv is63 Tryz.underlying5 rfl (byT_of t j)) rfl (L_y (y_bits rfl rfl rfl (xor8 _ _)) rfl (L_y (y_idx Tryz.underlying22 sz5 rfl rfl (S13.row 2 rfl) (Nt.mk (by rw [hol]; omega) : Nt _ ((nx (packV 0 (its.map It.v)).os (packV 0 (its.map It.v)).bs (a % n) - o.l.length) + j)) (by omega)) rfl ?_)))))))); refine L_o (o_strow S13 2 rfl rfl rfl rfl sz5 (by omega) fun w14 S14 => L_nil (hK25 _ _ (T_region (L_y (y_move rfl) rfl (L_y (y_add rfl rfl (i64w (by omega))) rfl (L_y (y_assign rfl) rfl (L_nil ?_))))))); have S91 := S14.rowc 2 rfl (n' := 0 + (packB 0 (its.map It.v)).length) (xs' := bL (tnL (packB 0 (its.map It.v)) (nx (packV 0 (its.map It.v)).os (packV 0 (its.map It.v)).bs (a % n) - o.l.length) t (j + 1))) rfl (by rw [tn_succ _ _ _ _ hy]; exact bL_setX _ _ _); refine ⟨j + 1, by omega, ⟨by omega, S91⟩, ?_⟩; exact (Sub.cons rfl (by first | rfl | exact congrArg (Value.int _) (by omega)) (Sub.cons rfl rfl (Sub.cons rfl rfl (Sub.cons rfl rfl (Sub.cons rfl rfl (Sub.cons rfl rfl (Sub.cons rfl rfl (Sub.nil _))))))))
          ·
           obtain rfl : j = 4 := by omega
           refine T_exit (hK21 _ _ (T_seq fun K26 hK26 => T_region (L_y (y_move rfl) rfl (L_y (y_move rfl) rfl (L_y (y_move rfl) rfl (L_y (y_idx Tryz.underlying50 sz67 rfl rfl (S13.row 1 rfl) (Nt.mk (by omega) : Nt _ ((a % n))) (by omega)) rfl (L_y (y_fieldR 32 Tryz.underlying67 rfl sz3 rfl rfl (S13.row 1 rfl) (by omega) rfl) rfl (L_y (y_ldf Tryz.underlying3 rfl rfl (S13.row 1 rfl) (by omega) ((flat_at plO 34 plO_len _ (a % n) o ho 32 (by omega)).trans (plOl32 o))) rfl ?_)))))))); refine L_o (o_call Tryz.func32 rfl rfl (read_ _ _ _ (tnL (packB 0 (its.map It.v)) (nx (packV 0 (its.map It.v)).os (packV 0 (its.map It.v)).bs (a % n) - o.l.length) t 4) (o.at_ : Int) w13 (S13.row 2 rfl) (by omega) (by have := (hWr.inv.each _ _ ho).lt; omega)) rfl rfl ?_); rintro e15 w15 ⟨v15, rfl, l15, hW15⟩; refine ⟨_, rfl, ?_⟩; have S15 := S13.like l15; rw [turned_read hWr ho (by rw [hol]; omega) ht ht0] at hW15; obtain ⟨A15, c15, rfl, O15⟩ := hW15; have S16 := S13.adopt l15 O15; refine L_y (y_move rfl) rfl (L_y (y_extract rfl rfl) rfl (L_y (y_extract rfl rfl) rfl (L_y (y_extract rfl rfl) rfl (L_y (y_assign rfl) rfl (L_y (y_assign rfl) rfl (L_y (y_assign rfl) rfl (L_nil (hK26 _ _ (T_seq fun K27 hK27 => ?_))))))))); refine T_region (L_y (y_move rfl) rfl (L_y (y_eql rfl rfl) rfl (L_y (y_move rfl) rfl ?_))); refine L_split 119 rfl (fun h119 => ?_) (fun h119 => ?_)
           ·
            refine L_gyes rfl rfl (L_y (y_move rfl) rfl (L_gyes rfl rfl (L_y (y_eql rfl rfl) rfl (L_y ((by first | exact y_pickT rfl rfl | exact y_pickF rfl rfl)) rfl ?_)))); refine L_y (y_move rfl) rfl ?_; refine L_split 123 rfl (fun h123 => ?_) (fun h123 => ?_)
            ·
             refine L_gyes rfl rfl (L_y (y_move rfl) rfl (L_gyes rfl rfl (L_y (y_len Tryz.underlying22 rfl) rfl (L_gyes rfl rfl (L_y (y_eql rfl rfl) rfl (L_y ((by first | exact y_pickT rfl rfl | exact y_pickF rfl rfl)) rfl ?_)))))); refine L_y (y_move rfl) rfl ?_; refine L_split 128 rfl (fun h128 => ?_) (fun h128 => ?_)
             ·
              refine L_gyes rfl rfl (L_o (o_call Tryz.func27 rfl rfl (works w15) rfl rfl ?_)); rintro e20 w20 ⟨v20, rfl, l20, rfl⟩; refine ⟨_, rfl, ?_⟩; have S20 := S16.like l20; refine L_y ((by first | exact y_pickT rfl rfl | exact y_pickF rfl rfl)) rfl ?_; refine L_y (y_assign rfl) rfl (L_nil (hK27 _ _ (T_ret ?_))); repeat (first | with_reducible refine up_then ?_ | with_reducible refine up_in ?_)
              refine ret1 rfl rfl ?_; exact ⟨_, rfl, S20.like0, rfl⟩
             ·
              exact absurd rfl h128
            ·
             exact absurd rfl h123
           ·
            exact absurd rfl h119
     ·
      refine T_skip (hK13 _ _ (T_seq fun K28 hK28 => T_seq fun K29 hK29 => ?_)); have hnx : nx (packV 0 (its.map It.v)).os (packV 0 (its.map It.v)).bs (a % n) = (packV 0 (its.map It.v)).bs.length := by unfold nx; rw [List.getElem?_eq_none (by rw [hWr.cnt]; omega)]; rfl
      refine T_region (L_y (y_move rfl) rfl (L_y (y_lss rfl rfl) rfl (L_y (y_move rfl) rfl ?_))); refine L_split 73 rfl (fun h73 => ?_) (fun h73 => ?_)
      ·
       refine L_gno rfl rfl rfl (L_gno rfl rfl rfl (L_gno rfl rfl rfl (L_y ((by first | exact y_pickT rfl rfl | exact y_pickF rfl rfl)) rfl ?_))); refine L_y (y_move rfl) rfl (L_gno rfl rfl rfl (L_gno rfl rfl rfl (L_y ((by first | exact y_pickT rfl rfl | exact y_pickF rfl rfl)) rfl ?_))); refine L_nil (hK29 _ _ (T_true rfl (T_seq fun K30 hK30 => T_region (L_o (o_call Tryz.func27 rfl rfl (works w3) rfl rfl ?_))))); rintro e22 w22 ⟨v22, rfl, l22, rfl⟩; refine ⟨_, rfl, ?_⟩; have S22 := S4.like l22; refine L_y (y_assign rfl) rfl (L_nil (hK30 _ _ (T_ret ?_))); repeat (first | with_reducible refine up_then ?_ | with_reducible refine up_in ?_)
       refine ret1 rfl rfl ?_; exact ⟨_, rfl, S22.like0, rfl⟩
      ·
       refine L_gyes rfl rfl (L_y (y_move rfl) rfl (L_gyes rfl rfl (L_y (y_move rfl) rfl (L_gyes rfl rfl (L_y (y_lss rfl rfl) rfl (L_y ((by first | exact y_pickT rfl rfl | exact y_pickF rfl rfl)) rfl ?_)))))); refine L_y (y_move rfl) rfl ?_; refine L_split 78 rfl (fun h78 => ?_) (fun h78 => ?_)
       ·
        refine L_gno rfl rfl rfl (L_gno rfl rfl rfl (L_y ((by first | exact y_pickT rfl rfl | exact y_pickF rfl rfl)) rfl ?_)); refine L_nil (hK29 _ _ (T_true rfl (T_seq fun K31 hK31 => T_region (L_o (o_call Tryz.func27 rfl rfl (works w3) rfl rfl ?_))))); rintro e24 w24 ⟨v24, rfl, l24, rfl⟩; refine ⟨_, rfl, ?_⟩; have S24 := S4.like l24; refine L_y (y_assign rfl) rfl (L_nil (hK31 _ _ (T_ret ?_))); repeat (first | with_reducible refine up_then ?_ | with_reducible refine up_in ?_)
        refine ret1 rfl rfl ?_; exact ⟨_, rfl, S24.like0, rfl⟩
       ·
        refine L_gyes rfl rfl (L_y (y_move rfl) rfl (L_gyes rfl rfl (L_y (y_eql rfl rfl) rfl (L_y ((by first | exact y_pickT rfl rfl | exact y_pickF rfl rfl)) rfl ?_)))); refine L_nil (hK29 _ _ ?_); refine T_cond rfl (fun h81 => ?_) (fun h81 => ?_)
        ·
         refine T_seq fun K32 hK32 => T_region (L_o (o_call Tryz.func27 rfl rfl (works w3) rfl rfl ?_)); rintro e25 w25 ⟨v25, rfl, l25, rfl⟩; refine ⟨_, rfl, ?_⟩; have S25 := S4.like l25; refine L_y (y_assign rfl) rfl (L_nil (hK32 _ _ (T_ret ?_))); repeat (first | with_reducible refine up_then ?_ | with_reducible refine up_in ?_)
         refine ret1 rfl rfl ?_; exact ⟨_, rfl, S25.like0, rfl⟩
        ·
         refine T_skip (hK28 _ _ (T_seq fun K33 hK33 => ?_)); have ht0 : t ≠ 0 := by omega
         have hPj : (nx (packV 0 (its.map It.v)).os (packV 0 (its.map It.v)).bs (a % n) - o.l.length) + 4 ≤ (packB 0 (its.map It.v)).length := by rw [hol]; omega
         refine T_region (L_o (o_bsl0 te22 S4 rfl fun b26 w26 l26 S26 => L_y (y_move rfl) rfl (L_o (o_app te22 S26 2 rfl rfl rfl (S26.row 0 rfl) (bL_one _) rfl (by omega) (by omega) fun A27 c27 w27 S27 => L_y (y_assign rfl) rfl (L_nil (hK33 _ _ (T_seq fun K34 hK34 => T_seq fun K35 hK35 => T_region ?_))))))); refine L_y (y_assign rfl) rfl (L_nil (hK35 _ _ (T_block ?_))); refine T_loop1 [(2, _), (8, _), (10, _), (11, _), (12, _), (13, _)] (fun (j : Nat) => [(14, .int .i64 (j : Int))]) (fun (j : Nat) => 4 - j) (fun (j : Nat) (w : World) => j ≤ 4 ∧ Zx.St w0 noM [row 5 1 Ap (packB 0 (its.map It.v)).length cp (bL (packB 0 (its.map It.v))), row 67 34 Aq (its.map It.v).length cq ((packV 0 (its.map It.v)).os.flatMap plO), row 5 1 A27 (0 + (packB 0 (its.map It.v)).length) c27 (bL (tnL (packB 0 (its.map It.v)) (nx (packV 0 (its.map It.v)).os (packV 0 (its.map It.v)).bs (a % n) - o.l.length) t j))] w) 0 (Sub.cons rfl (by first | rfl | exact congrArg (Value.int _) (by omega)) (Sub.nil _)) (Sub.cons rfl rfl (Sub.cons rfl rfl (Sub.cons rfl rfl (Sub.cons rfl rfl (Sub.cons rfl rfl (Sub.cons rfl rfl (Sub.nil _))))))) ?_ ?_
         ·
          exact ⟨by omega, S27⟩
         ·
          intro j w28 hrel; obtain ⟨hj, S28⟩ := hrel; refine T_seq fun K36 hK36 => T_seq fun K37 hK37 => T_region (L_y (y_move rfl) rfl (L_y (y_lss rfl rfl) rfl (L_nil (hK37 _ _ ?_)))); refine T_cond rfl (fun h87 => ?_) (fun h87 => ?_)
          ·
           obtain ⟨y, hy⟩ : ∃ y, (tnL (packB 0 (its.map It.v)) (nx (packV 0 (its.map It.v)).os (packV 0 (its.map It.v)).bs (a % n) - o.l.length) t j)[(nx (packV 0 (its.map It.v)).os (packV 0 (its.map It.v)).bs (a % n) - o.l.length) + j]? = some y := ⟨_, List.getElem?_eq_getElem (by rw [tnL_len]; omega)⟩; refine T_skip (hK36 _ _ (T_seq fun K38 hK38 => T_block (T_region (L_y (y_move rfl) rfl (L_y (y_move rfl) rfl (L_y (y_move rfl) rfl (L_y (y_sub rfl rfl (i64w (by omega))) rfl (L_y (y_move rfl) rfl ?_)))))))); refine L_y (y_add rfl rfl (i64w (by omega))) rfl (L_y (y_idx Tryz.underlying22 sz5 rfl rfl (S28.row 2 rfl) (Nt.mk (by rw [hol]; omega) : Nt _ ((nx (packV 0 (its.map It.v)).os (packV 0 (its.map It.v)).bs (a % n) - o.l.length) + j)) (by omega)) rfl ?_); refine L_y (y_ldr Tryz.underlying5 rfl rfl (S28.row 2 rfl) (bL_get _ _ _ hy)) rfl (L_y (y_move rfl) rfl (L_y (y_move rfl) rfl (L_y (y_mul rfl rfl (i64w (by omega))) rfl (L_y (y_conv is3 Tryz.underlying68 rfl (u64w (by omega))) rfl (L_y (y_shr rfl rfl (by omega) (shrT t j (by omega))) rfl (L_y (y_conv is63 Tryz.underlying5 rfl (byT_of t j)) rfl (L_y (y_bits rfl rfl rfl (xor8 _ _)) rfl (L_y (y_idx Tryz.underlying22 sz5 rfl rfl (S28.row 2 rfl) (Nt.mk (by rw [hol]; omega) : Nt _ ((nx (packV 0 (its.map It.v)).os (packV 0 (its.map It.v)).bs (a % n) - o.l.length) + j)) (by omega)) rfl ?_)))))))); refine L_o (o_strow S28 2 rfl rfl rfl rfl sz5 (by omega) fun w29 S29 => L_nil (hK38 _ _ (T_region (L_y (y_move rfl) rfl (L_y (y_add rfl rfl (i64w (by omega))) rfl (L_y (y_assign rfl) rfl (L_nil ?_))))))); have S91 := S29.rowc 2 rfl (n' := 0 + (packB 0 (its.map It.v)).length) (xs' := bL (tnL (packB 0 (its.map It.v)) (nx (packV 0 (its.map It.v)).os (packV 0 (its.map It.v)).bs (a % n) - o.l.length) t (j + 1))) rfl (by rw [tn_succ _ _ _ _ hy]; exact bL_setX _ _ _); refine ⟨j + 1, by omega, ⟨by omega, S91⟩, ?_⟩; exact (Sub.cons rfl (by first | rfl | exact congrArg (Value.int _) (by omega)) (Sub.cons rfl rfl (Sub.cons rfl rfl (Sub.cons rfl rfl (Sub.cons rfl rfl (Sub.cons rfl rfl (Sub.cons rfl rfl (Sub.nil _))))))))
          ·
           obtain rfl : j = 4 := by omega
           refine T_exit (hK34 _ _ (T_seq fun K39 hK39 => T_region (L_y (y_move rfl) rfl (L_y (y_move rfl) rfl (L_y (y_move rfl) rfl (L_y (y_idx Tryz.underlying50 sz67 rfl rfl (S28.row 1 rfl) (Nt.mk (by omega) : Nt _ ((a % n))) (by omega)) rfl (L_y (y_fieldR 32 Tryz.underlying67 rfl sz3 rfl rfl (S28.row 1 rfl) (by omega) rfl) rfl (L_y (y_ldf Tryz.underlying3 rfl rfl (S28.row 1 rfl) (by omega) ((flat_at plO 34 plO_len _ (a % n) o ho 32 (by omega)).trans (plOl32 o))) rfl ?_)))))))); refine L_o (o_call Tryz.func32 rfl rfl (read_ _ _ _ (tnL (packB 0 (its.map It.v)) (nx (packV 0 (its.map It.v)).os (packV 0 (its.map It.v)).bs (a % n) - o.l.length) t 4) (o.at_ : Int) w28 (S28.row 2 rfl) (by omega) (by have := (hWr.inv.each _ _ ho).lt; omega)) rfl rfl ?_); rintro e30 w30 ⟨v30, rfl, l30, hW30⟩; refine ⟨_, rfl, ?_⟩; have S30 := S28.like l30; rw [turned_read hWr ho (by rw [hol]; omega) ht ht0] at hW30; obtain ⟨A30, c30, rfl, O30⟩ := hW30; have S31 := S28.adopt l30 O30; refine L_y (y_move rfl) rfl (L_y (y_extract rfl rfl) rfl (L_y (y_extract rfl rfl) rfl (L_y (y_extract rfl rfl) rfl (L_y (y_assign rfl) rfl (L_y (y_assign rfl) rfl (L_y (y_assign rfl) rfl (L_nil (hK39 _ _ (T_seq fun K40 hK40 => ?_))))))))); refine T_region (L_y (y_move rfl) rfl (L_y (y_eql rfl rfl) rfl (L_y (y_move rfl) rfl ?_))); refine L_split 119 rfl (fun h119 => ?_) (fun h119 => ?_)
           ·
            refine L_gyes rfl rfl (L_y (y_move rfl) rfl (L_gyes rfl rfl (L_y (y_eql rfl rfl) rfl (L_y ((by first | exact y_pickT rfl rfl | exact y_pickF rfl rfl)) rfl ?_)))); refine L_y (y_move rfl) rfl ?_; refine L_split 123 rfl (fun h123 => ?_) (fun h123 => ?_)
            ·
             refine L_gyes rfl rfl (L_y (y_move rfl) rfl (L_gyes rfl rfl (L_y (y_len Tryz.underlying22 rfl) rfl (L_gyes rfl rfl (L_y (y_eql rfl rfl) rfl (L_y ((by first | exact y_pickT rfl rfl | exact y_pickF rfl rfl)) rfl ?_)))))); refine L_y (y_move rfl) rfl ?_; refine L_split 128 rfl (fun h128 => ?_) (fun h128 => ?_)
             ·
              refine L_gyes rfl rfl (L_o (o_call Tryz.func27 rfl rfl (works w30) rfl rfl ?_)); rintro e35 w35 ⟨v35, rfl, l35, rfl⟩; refine ⟨_, rfl, ?_⟩; have S35 := S31.like l35; refine L_y ((by first | exact y_pickT rfl rfl | exact y_pickF rfl rfl)) rfl ?_; refine L_y (y_assign rfl) rfl (L_nil (hK40 _ _ (T_ret ?_))); repeat (first | with_reducible refine up_then ?_ | with_reducible refine up_in ?_)
              refine ret1 rfl rfl ?_; exact ⟨_, rfl, S35.like0, rfl⟩
             ·
              exact absurd rfl h128
            ·
             exact absurd rfl h123
           ·
            exact absurd rfl h119
end Go.Proofs.YtgaklngnfecdaaaGreat.Pak
namespace Go.Proofs.YtgaklngnfecdaaaGreat.Pak
open Go.ChangeShapes Go.WideShapes Go.ChangeAt Go.RowKit Go.Deep Zk Zx
section
variable {H : Type} {enc : TypeId × Value → H} {w : World} {base : Nat} {spare : Nat → Bool} {held : Bool}
theorem read_item {fuel : Nat} {cs : List Value} {x : DataW H × List MemPlace} (hlen : cs.length = 2) (h : DataW.trod enc Tryz.prog w base spare held fuel 65 cs = some x) : ∃ o : It, cs = itf o ∧ o.p.ok w := by
  obtain ⟨xs, n, _, hx, hl, hlen2, hg⟩ := DataW.trod_struct Tryz.underlying65 h
  have e0 := hg 0 _ rfl
  have e1 := hg 1 _ rfl
  change DataW.trod enc Tryz.prog w base spare held n 3 ((cs.drop 0).take (Tryz.prog.cellsOf 3)) = _ at e0
  change DataW.trod enc Tryz.prog w base spare held n 22 ((cs.drop 1).take (Tryz.prog.cellsOf 22)) = _ at e1
  have c3 : Tryz.prog.cellsOf 3 = 1 := by kernel_rfl
  have c22 : Tryz.prog.cellsOf 22 = 1 := by kernel_rfl
  rw [c3] at e0
  rw [c22] at e1
  have hxl : xs.length = 2 := hlen2
  match cs, hlen, xs, hxl with
  | [v0, v1], _, [y0, y1], _ =>
    have e0 : DataW.trod enc Tryz.prog w base spare held n 3 [v0] = some y0 := e0
    have e1 : DataW.trod enc Tryz.prog w base spare held n 22 [v1] = some y1 := e1
    obtain ⟨i0, h0, _, _⟩ := DataW.trod_int Tryz.underlying3 e0
    obtain ⟨A, n, c, l, h1, h2⟩ := read_bytesS Tryz.underlying22 Tryz.underlying5 (by kernel_rfl) e1
    cases h0
    cases h1
    exact ⟨⟨i0, ⟨A, n, c, l⟩⟩, rfl, h2⟩
theorem open_items {r : Reach} {b0 : Nat} {v : Value} {d : DataW H} {p : List MemPlace} (hv : Value.okWide Tryz.prog w r b0 48 v) (h : DataW.Trod enc Tryz.prog w base spare held 48 v d p) :
    ∃ A n c, ∃ its : List It, v = .slice A n c ∧ Rs w 2 A n c (its.flatMap itf) ∧ OkI w its := by
  obtain ⟨fuel, hf⟩ := h
  obtain ⟨A, n, c, l, h1, h2, h3, _⟩ := read_rowNB itf (fun o => o.p.ok w) (fun _ => 1) 2 Tryz.underlying48 (by kernel_rfl) (by decide) itf_len (fun k cs x hl hx => by
    obtain ⟨o, ho, h6⟩ := read_item hl hx
    exact ⟨o, ho, h6, bulk_pos _⟩) hf
  exact ⟨A, n, c, l, slice_of_cells Tryz.underlying48 hv h1, h2, h3⟩
end
theorem u8_wf {n : Int} (h : (Lit.int .u8 n).wf = true) : ∃ m : Nat, n = (m : Int) ∧ m < 256 := by
  obtain ⟨h1, h2⟩ : 0 ≤ n ∧ n ≤ 255 := by simpa [Lit.wf, IntKind.min, IntKind.max, IntKind.signed, IntKind.bits] using h
  exact ⟨n.toNat, by omega, by omega⟩
theorem u32_wf {n : Int} (h : (Lit.int .u32 n).wf = true) : ∃ m : Nat, n = (m : Int) ∧ m < 4294967296 := by
  obtain ⟨h1, h2⟩ : 0 ≤ n ∧ n ≤ 4294967295 := by simpa [Lit.wf, IntKind.min, IntKind.max, IntKind.signed, IntKind.bits] using h
  exact ⟨n.toNat, by omega, by omega⟩
theorem lturned (A : Option Addr) (n c : Nat) (its : List It) (a t : Int) (w0 : World) (hits : Rs w0 2 A n c (its.flatMap itf)) (hok : OkI w0 its) (ha : (Lit.int .u8 a).wf = true) (ht : (Lit.int .u32 t).wf = true) :
    Calls Tryz.prog 8 #[.slice A n c, .int .u8 a, .int .u32 t] w0 fun e w' => e = .returned (.bool true) ∧ Like w0 w' := by
  obtain ⟨a, rfl, ha2⟩ := u8_wf ha
  obtain ⟨t, rfl, ht2⟩ := u32_wf ht
  have key : Calls Tryz.prog 8 #[.slice A n c, .int .u8 (a : Int), .int .u32 (t : Int)] w0 fun e w' => ∃ u, e = .returned u ∧ Like w0 w' ∧ u = .bool true := by
    by_cases hsm : SmallI its
    · by_cases hwr : wrE 0 (its.map It.v) = 0
      · have hne : nameE (its.map It.v) = 0 := by unfold wrE at hwr; rwa [if_neg (by omega)] at hwr
        refine lturned2 A n c its a t w0 hits hok ha2 ht2 hsm hwr (written (by omega) (by rw [List.length_map]; exact hsm.1) (fun x hx => ?_) (nameE_ok hne).1)
        obtain ⟨y, hy, rfl⟩ := List.mem_map.1 hx
        have h1 := (hok y hy).lenb
        have h2 := hsm.2 y hy
        show y.p.l.length ≤ 300
        omega
      · exact lturned1 A n c its a t w0 hits hok ha2 ht2 hsm hwr
    · exact lturned0 A n c its a t w0 hits hok ha2 ht2 hsm
  exact key.mono fun e w' ⟨u, h1, h2, h3⟩ => ⟨by rw [h1, h3], h2⟩
end Go.Proofs.YtgaklngnfecdaaaGreat.Pak
