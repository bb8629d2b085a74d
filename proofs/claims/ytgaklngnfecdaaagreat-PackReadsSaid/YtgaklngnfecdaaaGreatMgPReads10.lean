import Derived.Test.YtgaklngnfecdaaaGreatMgPReads9
import Derived.Test.YtgaklngnfecdaaaGreatMgPReads3
set_option linter.unusedSimpArgs false
set_option linter.unusedVariables false
set_option maxRecDepth 100000
namespace Go.Proofs.YtgaklngnfecdaaaGreat.Pak
open Go.RowKit Zk Zx
open Sha (N xorN andN notN N_ge N_le)
open Go.Proofs.YtgaklngnfecdaaaGreat.Obj (objE objB nameI nameI_len nameI_ok nameI_no zB zB_len rs_tail)
open Oct (vaN rwL rwP rwE rnL rnP rnE be vr tl length_tl)
open Del (scA opf OP OkO mkV encV putR readV aplR)
def SmallI (its : List It) : Prop := its.length ≤ 24 ∧ ∀ x ∈ its, x.p.n ≤ 300
theorem write_ {A : Option Addr} {n c : Nat} {its : List It} {chain : Int} {w0 : World} (hits : Rs w0 2 A n c (its.flatMap itf)) (hok : OkI w0 its) (hs : SmallI its) :
    Calls Tryz.prog 28 #[.slice A n c, .int .i64 chain] w0 fun e w' => ∃ u, e = .returned u ∧ WriteV w0 w' chain (its.map It.v) u := by
  by_cases h : nameE (its.map It.v) = 0
  · exact write1 A n c its chain w0 hits hok hs.2 hs.1 h
  · exact write0 A n c its chain w0 hits hok hs.2 hs.1 h
def hiB : List UInt8 := [104, 105]
def hiI (p : Part) : It := ⟨1, p⟩
theorem hi_ok : objE 1 hiB = 0 := by unfold objE hiB; rfl
theorem hi_name : nameE [(1, hiB)] = 0 := nameE_0 (by unfold nmE; rw [if_neg (fun q => q hi_ok)]; rfl) (by simp [idsV])
theorem hi_wr : wrE 2 [(1, hiB)] = 0 := by unfold wrE; rw [if_neg (by omega)]; exact hi_name
theorem hi_written : Written 2 [(1, hiB)] := written (by omega) (by simp) (fun x hx => by obtain rfl := List.mem_singleton.1 hx; decide) (fun x hx => by obtain rfl := List.mem_singleton.1 hx; exact hi_ok)
theorem hi_os : ∃ o, (packV 2 [(1, hiB)]).os[0]? = some o ∧ o.at_ = 12 := by
  have h1 := hi_written.cnt
  obtain ⟨o, ho⟩ : ∃ o, (packV 2 [(1, hiB)]).os[0]? = some o := ⟨_, List.getElem?_eq_getElem (by rw [h1]; simp)⟩
  refine ⟨o, ho, ?_⟩
  have h2 : (packV 2 [(1, hiB)]).os[0]?.elim (packV 2 [(1, hiB)]).bs.length Ob.at_ = 12 := first_at
  rwa [ho] at h2
theorem hi_read : readP (packB 2 [(1, hiB)]) 12 = (1, hiB, 0) := by
  obtain ⟨o, ho, h12⟩ := hi_os
  have h := hi_written.read ho
  rw [h12] at h
  have hi := hi_written.item ho
  have h2 : (1, hiB) = (o.kind, o.l) := Option.some.inj hi
  have e1 : o.kind = 1 := (congrArg Prod.fst h2).symm
  have e2 : o.l = hiB := (congrArg Prod.snd h2).symm
  rw [e1, e2] at h
  exact h
theorem hi_len : (packB 2 [(1, hiB)]).length ≤ 100000 := by
  have := hi_written.hi
  unfold packB
  rw [List.length_append, Sha.length_ofL]
  omega
theorem write_yes {w0 w' : World} {chain : Int} {l : List IV} {u : Value} (h : WriteV w0 w' chain l u) (he : wrE chain l = 0) : ∃ A c A2 c2, u = .tuple #[.slice A (packB chain l).length c, .slice A2 l.length c2, .int .i64 0] ∧ Zx.St w0 noM [row 5 1 A (packB chain l).length c (bL (packB chain l)), row 67 34 A2 l.length c2 ((packV chain l).os.flatMap plO)] w' := by
  rcases h with ⟨h, _⟩ | ⟨_, h⟩
  · exact absurd he h
  · exact h
theorem hi_str (l : List UInt8) (h : l = hiB) : decide ((⟨l.toArray⟩ : ByteArray) = ⟨#[104, 105]⟩) = true := by subst h; rfl
theorem works  (w0 : World)  :
    Calls Tryz.prog 27 #[] w0 fun e w' => ∃ u, e = .returned u ∧ Like w0 w' ∧ u = .bool true := by
 refine enter1 (env := []) [] Tryz.func27 rfl Tryz.ntmps27 rfl rfl ?_; have S0 := St.start w0 noM; refine T_seq fun K1 hK1 => ?_; obtain ⟨o, ho, h12⟩ := hi_os; refine T_region (L_y (y_assign rfl) rfl (L_nil (hK1 _ _ (T_seq fun K2 hK2 => T_region (L_o (o_bsl [_, _] te22 zz5 S0 rfl rfl rfl rfl rfl rfl rfl rfl fun b1 w1 S1 => L_o (o_bconst S1 0 rfl Tryz.underlying22 Tryz.underlying5 rfl (by omega) rfl fun w2 S2 => L_y (y_build rfl (show _ = some #[.int .i64 1, .slice (some ⟨b1, 0, none⟩) 2 2] by kernel_rfl)) rfl (L_o (o_bsl (itf (hiI ⟨some ⟨b1, 0, none⟩, 2, 2, hiB⟩)) te48 zz65 S2 rfl rfl rfl rfl rfl rfl rfl rfl fun b3 w3 S3 => L_o (o_call Tryz.func28 rfl rfl (write_ (its := [hiI ⟨some ⟨b1, 0, none⟩, 2, 2, hiB⟩]) (S3.row 1 rfl) (fun x hx => by obtain rfl := List.mem_singleton.1 hx; exact S3.fix 0 rfl) ⟨by simp, fun x hx => by obtain rfl := List.mem_singleton.1 hx; show 2 ≤ 300; omega⟩) rfl rfl ?_)))))))))); rintro e4 w4 ⟨v4, rfl, hW4⟩; refine ⟨_, rfl, ?_⟩; have S4 := S3; obtain ⟨Ap, cp, Aq, cq, rfl, T4⟩ := write_yes hW4 hi_wr; have S5 := S3.adoptS T4; refine L_y (y_move rfl) rfl (L_y (y_extract rfl rfl) rfl (L_y (y_extract rfl rfl) rfl (L_y (y_extract rfl rfl) rfl (L_y (y_assign rfl) rfl (L_y (y_assign rfl) rfl (L_y (y_assign rfl) rfl (L_nil (hK2 _ _ (T_seq fun K3 hK3 => T_seq fun K4 hK4 => T_region (L_y (y_move rfl) rfl (L_y (y_neq rfl rfl) rfl ?_))))))))))); refine L_y (y_move rfl) rfl ?_; refine L_split 18 rfl (fun h18 => ?_) (fun h18 => ?_)
 ·
  exact absurd rfl h18
 ·
  refine L_gyes rfl rfl (L_y (y_move rfl) rfl (L_gyes rfl rfl (L_y (y_len Tryz.underlying50 rfl) rfl (L_gyes rfl rfl (L_y (y_neq rfl rfl) rfl (L_y (y_pk rfl rfl) rfl (L_y (y_move rfl) rfl ?_))))))); refine L_split 23 rfl (fun h23 => ?_) (fun h23 => ?_)
  ·
   exact absurd rfl h23
  ·
   refine L_gyes rfl rfl (L_y (y_move rfl) rfl (L_gyes rfl rfl (L_y (y_idx Tryz.underlying50 sz67 rfl rfl (S5.row 3 rfl) inferInstance (by omega)) rfl (L_gyes rfl rfl (L_y (y_fieldR 32 Tryz.underlying67 rfl sz3 rfl rfl (S5.row 3 rfl) (by omega) rfl) rfl (L_gyes rfl rfl (L_y (y_ldf Tryz.underlying3 rfl rfl (S5.row 3 rfl) (by omega) ((flat_at plO 34 plO_len _ 0 o ho 32 (by omega)).trans ((plOl32 o).trans (show _ = some (Value.int .i64 12) by rw [h12]; rfl)))) rfl ?_))))))); refine L_gyes rfl rfl (L_y (y_neq rfl rfl) rfl (L_y (y_pk rfl rfl) rfl (L_nil (hK4 _ _ ?_)))); refine T_cond rfl (fun h29 => ?_) (fun h29 => ?_)
   ·
    exact absurd rfl h29
   ·
    refine T_skip (hK3 _ _ (T_seq fun K5 hK5 => T_region (L_y (y_move rfl) rfl (L_o (o_call Tryz.func32 rfl rfl (read_ _ _ _ (packB 2 [(1, hiB)]) 12 w4 (S5.row 2 rfl) hi_len (by omega)) rfl rfl ?_))))); rintro e8 w8 ⟨v8, rfl, l8, hW8⟩; refine ⟨_, rfl, ?_⟩; have S8 := S5.like l8; rw [hi_read] at hW8; obtain ⟨A8, c8, rfl, O8⟩ := hW8; have S9 := S5.adopt l8 O8; refine L_y (y_move rfl) rfl (L_y (y_extract rfl rfl) rfl (L_y (y_extract rfl rfl) rfl (L_y (y_extract rfl rfl) rfl (L_y (y_assign rfl) rfl (L_y (y_assign rfl) rfl (L_y (y_assign rfl) rfl (L_nil (hK5 _ _ (T_seq fun K6 hK6 => T_region (L_y (y_move rfl) rfl (L_y (y_eql rfl rfl) rfl (L_y (y_move rfl) rfl ?_)))))))))))); refine L_split 38 rfl (fun h38 => ?_) (fun h38 => ?_)
    ·
     refine L_gyes rfl rfl (L_y (y_move rfl) rfl (L_gyes rfl rfl (L_y (y_eql rfl rfl) rfl (L_y (y_pk rfl rfl) rfl (L_y (y_move rfl) rfl ?_))))); refine L_split 42 rfl (fun h42 => ?_) (fun h42 => ?_)
     ·
      refine L_gyes rfl rfl (L_y (y_move rfl) rfl (L_gyes rfl rfl (L_y (y_bstr Tryz.underlying22 Tryz.underlying5 Tryz.underlying9 rfl (by first | exact S9.fix 0 rfl | exact S9.row 1 rfl | exact S9.row 4 rfl)) rfl ?_))); refine L_gyes rfl rfl (L_y (y_seql rfl rfl) rfl (L_y (y_pk rfl rfl) rfl (L_y (y_assign rfl) rfl (L_nil (hK6 _ _ (T_ret (ur (ret1 rfl rfl ?_)))))))); exact ⟨_, rfl, S9.like0, congrArg Value.bool (hi_str _ rfl)⟩
     ·
      exact absurd rfl h42
    ·
     exact absurd rfl h38
end Go.Proofs.YtgaklngnfecdaaaGreat.Pak
namespace Go.Proofs.YtgaklngnfecdaaaGreat.Pak
open Go.RowKit Zk Zx
open Sha (N xorN andN notN N_ge N_le)
open Go.Proofs.YtgaklngnfecdaaaGreat.Obj (objE objB nameI nameI_len nameI_ok nameI_no zB zB_len rs_tail)
open Oct (vaN rwL rwP rwE rnL rnP rnE be vr tl length_tl)
open Del (scA opf OP OkO mkV encV putR readV aplR)
theorem rread0 (B : Option Addr) (m d : Nat) (b : List UInt8) (hm5 : m ≤ 100000) (a : Int) (w : World) (hb : Rs w 1 B m d (bL b)) (ha : -9223372036854775808 ≤ a ∧ a ≤ 9223372036854775807) :
    Calls Tryz.prog 33 #[.slice B m d, .int .i64 a, .int .i64 0] w fun e w' => ∃ u, e = .returned u ∧ Like w w' ∧ RreadV w w' (readP b a) u := by
  have h := rreadP B m d b hm5 8 (Nat.le_refl _) a w hb ha
  exact h
theorem i64_wf {n : Int} (h : (Lit.int .i64 n).wf = true) : -9223372036854775808 ≤ n ∧ n ≤ 9223372036854775807 := by
  have h1 : -9223372036854775808 ≤ n ∧ n ≤ 9223372036854775807 := by simpa [Lit.wf, IntKind.min, IntKind.max, IntKind.signed, IntKind.bits] using h
  exact h1
theorem lreads (B : Option Addr) (m d : Nat) (b : List UInt8) (at_ : Int) (w0 : World) (hb : Rs w0 1 B m d (bL b)) (hat : -9223372036854775808 ≤ at_ ∧ at_ ≤ 9223372036854775807) :
    Calls Tryz.prog 7 #[.slice B m d, .int .i64 at_] w0 fun e w' => ∃ u, e = .returned u ∧ Like w0 w' ∧ u = .bool true := by
 refine enter1 (env := [(0, .slice B m d), (1, .int .i64 at_)]) [.slice B m d, .int .i64 at_] Tryz.func7 rfl Tryz.ntmps7 rfl rfl ?_; have hl := hb.lenb; have hcap := hb.cap; have hmax := hb.max; have S0 := St.start w0 noM; refine T_seq fun K1 hK1 => T_region (L_y (y_assign rfl) rfl (L_nil (hK1 _ _ (T_seq fun K2 hK2 => T_seq fun K3 hK3 => T_region (L_y (y_move rfl) rfl (L_y (y_len Tryz.underlying22 rfl) rfl (L_y (y_gtr rfl rfl) rfl (L_nil (hK3 _ _ ?_))))))))); refine T_cond rfl (fun h13 => ?_) (fun h13 => ?_)
 ·
  refine T_seq fun K4 hK4 => T_region (L_o (o_call Tryz.func27 rfl rfl (works w0) rfl rfl ?_)); rintro e1 w1 ⟨v1, rfl, l1, rfl⟩; refine ⟨_, rfl, (have S1 := S0.like l1; L_y (y_assign rfl) rfl (L_nil (hK4 _ _ (T_ret (ur (ret1 rfl rfl ?_))))))⟩; exact ⟨_, rfl, S1.like0, rfl⟩
 ·
  refine T_skip (hK2 _ _ (T_seq fun K5 hK5 => T_region (L_y (y_move rfl) rfl (L_y (y_move rfl) rfl (L_o (o_call Tryz.func32 rfl rfl (read_ B m d b at_ w0 (S0.rd hb) (by omega) hat) rfl rfl ?_)))))); rintro e2 w2 ⟨v2, rfl, l2, hW2⟩; refine ⟨_, rfl, ?_⟩; have S2 := S0.like l2; obtain ⟨A2, c2, rfl, O2⟩ := hW2; have S3 := S0.adopt l2 O2; refine L_y (y_move rfl) rfl (L_y (y_extract rfl rfl) rfl (L_y (y_extract rfl rfl) rfl (L_y (y_extract rfl rfl) rfl (L_y (y_assign rfl) rfl (L_y (y_assign rfl) rfl (L_y (y_assign rfl) rfl (L_nil (hK5 _ _ (T_seq fun K6 hK6 => T_region (L_y (y_move rfl) rfl (L_y (y_move rfl) rfl (L_o (o_call Tryz.func33 rfl rfl (rread0 B m d b (by omega) at_ w2 (S3.rd hb) hat) rfl rfl ?_))))))))))))); rintro e4 w4 ⟨v4, rfl, l4, hR4⟩; refine ⟨_, rfl, ?_⟩; have S4 := S3.like l4; obtain ⟨q, rfl, hq, hf⟩ := hR4; have S5 := addNew S3 l4 hf; have hn := NP.new S3 hf; refine L_y (y_move rfl) rfl (L_y (y_extract rfl rfl) rfl (L_y (y_extract rfl rfl) rfl (L_y (y_extract rfl rfl) rfl (L_y (y_assign rfl) rfl (L_y (y_assign rfl) rfl (L_y (y_assign rfl) rfl (L_nil (hK6 _ _ (T_seq fun K7 hK7 => T_region (L_y (y_move rfl) rfl (L_y (y_move rfl) rfl (L_y (y_eql rfl rfl) rfl ?_)))))))))))); refine L_y (y_move rfl) rfl ?_; refine L_split 32 rfl (fun h32 => ?_) (fun h32 => ?_)
  ·
   refine L_gyes rfl rfl (L_y (y_move rfl) rfl (L_gyes rfl rfl (L_y (y_move rfl) rfl (L_gyes rfl rfl (L_o (o_call Tryz.func14 rfl rfl (Oct.same _ _ _ _ _ _ _ _ w4 (S5.row 0 rfl) (hn.ok S5 (S5.get 1 rfl))) rfl rfl ?_)))))); rintro e7 w7 ⟨v7, rfl, l7, rfl⟩; refine ⟨_, rfl, (have S7 := S5.like l7; L_y (y_pk rfl rfl) rfl (L_y (y_move rfl) rfl ?_))⟩; refine L_split 37 rfl (fun h37 => ?_) (fun h37 => ?_)
   ·
    refine L_gyes rfl rfl (L_y (y_move rfl) rfl (L_gyes rfl rfl (L_y (y_move rfl) rfl (L_gyes rfl rfl (L_y (y_eql rfl rfl) rfl (L_y (y_pk rfl rfl) rfl (L_y (y_move rfl) rfl ?_))))))); refine L_split 42 rfl (fun h42 => ?_) (fun h42 => ?_)
    ·
     refine L_gyes rfl rfl (L_o (o_call Tryz.func27 rfl rfl (works w7) rfl rfl ?_)); rintro e10 w10 ⟨v10, rfl, l10, rfl⟩; refine ⟨_, rfl, (have S10 := S7.like l10; L_y (y_pk rfl rfl) rfl (L_y (y_assign rfl) rfl (L_nil (hK7 _ _ (T_ret (ur (ret1 rfl rfl ?_)))))))⟩; exact ⟨_, rfl, S10.like0, rfl⟩
    ·
     exact absurd rfl h42
   ·
    exact absurd hq.symm h37
  ·
   exact absurd rfl h32
theorem lreads_law (B : Option Addr) (m d : Nat) (b : List UInt8) (a : Int) (w0 : World) (hb : Rs w0 1 B m d (bL b)) (ha : (Lit.int .i64 a).wf = true) :
    Calls Tryz.prog 7 #[.slice B m d, .int .i64 a] w0 fun e w' => e = .returned (.bool true) ∧ Like w0 w' :=
  (lreads B m d b a w0 hb (i64_wf ha)).mono fun e w' ⟨u, h1, h2, h3⟩ => ⟨by rw [h1, h3], h2⟩
end Go.Proofs.YtgaklngnfecdaaaGreat.Pak
