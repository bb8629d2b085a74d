import Derived.Test.YtgaklngnfecdaaaGreatMgPReads5
import Derived.Test.YtgaklngnfecdaaaGreatMgPReads2
import Derived.Test.YtgaklngnfecdaaaGreatMgPReads4
import Derived.Test.YtgaklngnfecdaaaGreatMgPReads3
set_option linter.unusedSimpArgs false
set_option linter.unusedVariables false
set_option maxRecDepth 100000
namespace Go.Proofs.YtgaklngnfecdaaaGreat.Del
open Go.RowKit Zk Zx
theorem rcheck (A : Option Addr) (n c : Nat) (l : List OP) (b t : Int) (w0 : World) (hl : Rs w0 4 A n c (l.flatMap opf)) (hok : OkO w0 l) :
    Calls Tryz.prog 103 #[.agg (scA b t A n c)] w0 fun e w' => ∃ u, e = .returned u ∧ Like w0 w' ∧ u = .int .i64 (errV b t (l.map OP.v)) := by
 refine enter1 (env := [(0, .agg (scA b t A n c))]) [.agg (scA b t A n c)] Tryz.func103 rfl Tryz.ntmps103 rfl rfl ?_; have hn := ops_n hl; have hcap := hl.cap; have hmax := hl.max; have S0 := St.start w0 noM; refine T_seq fun K1 hK1 => T_region (L_o (o_box rfl S0 rfl fun b1 w1 hb1 S1 => L_y (y_assign rfl) rfl (L_nil (hK1 _ _ (T_seq fun K2 hK2 => T_seq fun K3 hK3 => T_region (L_y (y_fieldA 0 Tryz.underlying137 rfl sz3 rfl rfl rfl) rfl (L_y (y_ldc Tryz.underlying3 rfl rfl (((S1.blk 0 rfl).cell _).trans (by rfl))) rfl ?_))))))); refine L_y (y_lss rfl rfl) rfl (L_y (y_move rfl) rfl ?_); refine L_split 9 rfl (fun h9 => ?_) (fun h9 => ?_)
 ·
  refine L_gno rfl rfl rfl (L_gno rfl rfl rfl (L_gno rfl rfl rfl (L_y (y_pk rfl rfl) rfl (L_y (y_move rfl) rfl (L_gno rfl rfl rfl (L_gno rfl rfl rfl (L_gno rfl rfl rfl (L_y (y_pk rfl rfl) rfl (L_y (y_move rfl) rfl (L_gno rfl rfl rfl (L_gno rfl rfl rfl (L_gno rfl rfl rfl (L_y (y_pk rfl rfl) rfl ?_))))))))))))); refine L_nil (hK3 _ _ (T_true rfl (T_seq fun K4 hK4 => T_region (L_y (y_assign rfl) rfl (L_nil (hK4 _ _ (T_ret (ur (ret1 rfl rfl ?_))))))))); first | exact ⟨_, rfl, S1.like0, by rw [chk_no (by omega)]⟩ | exact ⟨_, rfl, S1.like0, by rw [chk_eq (by omega), hch, hbad]; rfl⟩ | exact ⟨_, rfl, S1.like0, by rw [chk_eq (by omega), hch, chkL_end (by omega), decide_eq_false (by omega)]; rfl⟩ | exact ⟨_, rfl, S1.like0, by rw [chk_eq (by omega), hch, chkL_end (by omega), decide_eq_true (by omega)]; rfl⟩
 ·
  refine L_gyes rfl rfl (L_y (y_fieldA 0 Tryz.underlying137 rfl sz3 rfl rfl rfl) rfl (L_gyes rfl rfl (L_y (y_ldc Tryz.underlying3 rfl rfl (((S1.blk 0 rfl).cell _).trans (by rfl))) rfl ?_))); refine L_gyes rfl rfl (L_y (y_gtr rfl rfl) rfl (L_y (y_pk rfl rfl) rfl (L_y (y_move rfl) rfl ?_))); refine L_split 14 rfl (fun h14 => ?_) (fun h14 => ?_)
  ·
   refine L_gno rfl rfl rfl (L_gno rfl rfl rfl (L_gno rfl rfl rfl (L_y (y_pk rfl rfl) rfl (L_y (y_move rfl) rfl (L_gno rfl rfl rfl (L_gno rfl rfl rfl (L_gno rfl rfl rfl (L_y (y_pk rfl rfl) rfl (L_nil (hK3 _ _ (T_true rfl (T_seq fun K5 hK5 => T_region ?_)))))))))))); refine L_y (y_assign rfl) rfl (L_nil (hK5 _ _ (T_ret (ur (ret1 rfl rfl ?_))))); first | exact ⟨_, rfl, S1.like0, by rw [chk_no (by omega)]⟩ | exact ⟨_, rfl, S1.like0, by rw [chk_eq (by omega), hch, hbad]; rfl⟩ | exact ⟨_, rfl, S1.like0, by rw [chk_eq (by omega), hch, chkL_end (by omega), decide_eq_false (by omega)]; rfl⟩ | exact ⟨_, rfl, S1.like0, by rw [chk_eq (by omega), hch, chkL_end (by omega), decide_eq_true (by omega)]; rfl⟩
  ·
   refine L_gyes rfl rfl (L_y (y_fieldA 1 Tryz.underlying137 rfl sz3 rfl rfl rfl) rfl (L_gyes rfl rfl (L_y (y_ldc Tryz.underlying3 rfl rfl (((S1.blk 0 rfl).cell _).trans (by rfl))) rfl ?_))); refine L_gyes rfl rfl (L_y (y_lss rfl rfl) rfl (L_y (y_pk rfl rfl) rfl (L_y (y_move rfl) rfl ?_))); refine L_split 19 rfl (fun h19 => ?_) (fun h19 => ?_)
   ·
    refine L_gno rfl rfl rfl (L_gno rfl rfl rfl (L_gno rfl rfl rfl (L_y (y_pk rfl rfl) rfl (L_nil (hK3 _ _ (T_true rfl (T_seq fun K6 hK6 => T_region (L_y (y_assign rfl) rfl (L_nil (hK6 _ _ (T_ret (ur ?_)))))))))))); refine ret1 rfl rfl ?_; first | exact ⟨_, rfl, S1.like0, by rw [chk_no (by omega)]⟩ | exact ⟨_, rfl, S1.like0, by rw [chk_eq (by omega), hch, hbad]; rfl⟩ | exact ⟨_, rfl, S1.like0, by rw [chk_eq (by omega), hch, chkL_end (by omega), decide_eq_false (by omega)]; rfl⟩ | exact ⟨_, rfl, S1.like0, by rw [chk_eq (by omega), hch, chkL_end (by omega), decide_eq_true (by omega)]; rfl⟩
   ·
    refine L_gyes rfl rfl (L_y (y_fieldA 1 Tryz.underlying137 rfl sz3 rfl rfl rfl) rfl (L_gyes rfl rfl (L_y (y_ldc Tryz.underlying3 rfl rfl (((S1.blk 0 rfl).cell _).trans (by rfl))) rfl ?_))); refine L_gyes rfl rfl (L_y (y_gtr rfl rfl) rfl (L_y (y_pk rfl rfl) rfl (L_nil (hK3 _ _ ?_)))); refine T_cond rfl (fun h23 => ?_) (fun h23 => ?_)
    ·
     refine T_seq fun K7 hK7 => T_region (L_y (y_assign rfl) rfl (L_nil (hK7 _ _ (T_ret (ur (ret1 rfl rfl ?_)))))); first | exact ⟨_, rfl, S1.like0, by rw [chk_no (by omega)]⟩ | exact ⟨_, rfl, S1.like0, by rw [chk_eq (by omega), hch, hbad]; rfl⟩ | exact ⟨_, rfl, S1.like0, by rw [chk_eq (by omega), hch, chkL_end (by omega), decide_eq_false (by omega)]; rfl⟩ | exact ⟨_, rfl, S1.like0, by rw [chk_eq (by omega), hch, chkL_end (by omega), decide_eq_true (by omega)]; rfl⟩
    ·
     refine T_skip (hK2 _ _ (T_seq fun K8 hK8 => T_region (L_y (y_assign rfl) rfl (L_nil (hK8 _ _ (T_seq fun K9 hK9 => T_seq fun K10 hK10 => T_region (L_y (y_assign rfl) rfl (L_nil (hK10 _ _ (T_block ?_)))))))))); refine T_loop2 [(1, _)] (fun (k : Nat) (laid : Int) => [(4, .int .i64 (k : Int)), (3, .int .i64 laid)]) (fun (k : Nat) (laid : Int) => n - k) (fun (k : Nat) (laid : Int) (w : World) => (k ≤ n ∧ 0 ≤ laid ∧ laid ≤ t ∧ chkL b t (l.map OP.v) = chkL b (t - laid) ((l.map OP.v).drop k)) ∧ St w0 noM [blk b1 137 (scA b t A n c)] w) 0 0 (Sub.cons rfl (by first | rfl | exact congrArg (Value.int _) (by omega)) (Sub.cons rfl (by first | rfl | exact congrArg (Value.int _) (by omega)) (Sub.nil _))) (Sub.cons rfl rfl (Sub.nil _)) ?_ ?_
     ·
      exact ⟨⟨Nat.zero_le _, by omega, by omega, by rw [Int.sub_zero]; rfl⟩, S1⟩
     ·
      intro k laid w5 hrel; obtain ⟨⟨hk, hl0, hl1, hch⟩, S5⟩ := hrel; refine T_seq fun K11 hK11 => T_seq fun K12 hK12 => T_region (L_y (y_move rfl) rfl (L_y (y_fieldA 2 Tryz.underlying137 rfl sz135 rfl rfl rfl) rfl (L_y (y_ldc Tryz.underlying135 rfl rfl (((S5.blk 0 rfl).cell _).trans (by rfl))) rfl ?_))); refine L_y (y_len Tryz.underlying135 rfl) rfl (L_y (y_lss rfl rfl) rfl (L_nil (hK12 _ _ ?_))); refine T_cond rfl (fun h28 => ?_) (fun h28 => ?_)
      ·
       obtain ⟨o, ho⟩ : ∃ o, l[k]? = some o := ⟨_, List.getElem?_eq_getElem (by omega)⟩; have hol : o.p.l.length = o.p.n := Rs.lenb (hok o (List.mem_of_getElem? ho)); refine T_skip (hK11 _ _ (T_seq fun K13 hK13 => T_block (T_seq fun K14 hK14 => T_region (L_y (y_fieldA 2 Tryz.underlying137 rfl sz135 rfl rfl rfl) rfl (L_y (y_ldc Tryz.underlying135 rfl rfl (((S5.blk 0 rfl).cell _).trans (by rfl))) rfl ?_))))); refine L_y (y_move rfl) rfl (L_y (y_idx Tryz.underlying135 sz190 rfl rfl (S5.rd hl) (Nt.mk (by omega) : Nt _ (k)) (by omega)) rfl (L_y (y_ldp (f := opf) opf_len Tryz.underlying190 rfl sz190 rfl (S5.rd hl) (by omega) ho) rfl (L_o (o_alloc zz190 S5 rfl fun b6 w6 hb6 S6 => L_o (o_stW S6 1 rfl rfl rfl sz190 rfl (opf_one o) fun w7 S7 => L_nil (hK14 _ _ (T_seq fun K15 hK15 => T_seq fun K16 hK16 => T_region (L_y (y_fieldA 0 Tryz.underlying190 rfl sz4 rfl rfl rfl) rfl (L_y (y_ldc Tryz.underlying4 rfl rfl (((S7.blk 1 rfl).cell _).trans (by rfl))) rfl ?_))))))))); refine L_y (y_move rfl) rfl ?_; refine L_splitB 38 rfl (fun h38 => ?_) (fun h38 => ?_)
       ·
        refine L_gyes rfl rfl (L_y (y_fieldA 2 Tryz.underlying190 rfl sz3 rfl rfl rfl) rfl (L_gyes rfl rfl (L_y (y_ldc Tryz.underlying3 rfl rfl (((S7.blk 1 rfl).cell _).trans (by rfl))) rfl ?_))); refine L_gyes rfl rfl (L_y (y_lss rfl rfl) rfl (L_gyes rfl rfl (L_y (y_move rfl) rfl ?_))); refine L_split 42 rfl (fun h42 => ?_) (fun h42 => ?_)
        ·
         refine L_gno rfl rfl rfl (L_gno rfl rfl rfl (L_gno rfl rfl rfl (L_gno rfl rfl rfl (L_gno rfl rfl rfl (L_gyes rfl rfl (L_y (y_pk rfl rfl) rfl (L_gyes rfl rfl (L_y (y_move rfl) rfl (L_gno rfl rfl rfl (L_gno rfl rfl rfl (L_gno rfl rfl rfl (L_gyes rfl rfl (L_y (y_pk rfl rfl) rfl ?_))))))))))))); refine L_gyes rfl rfl (L_y (y_move rfl) rfl (L_gno rfl rfl rfl (L_gno rfl rfl rfl (L_gno rfl rfl rfl (L_gno rfl rfl rfl (L_gno rfl rfl rfl (L_gno rfl rfl rfl (L_gno rfl rfl rfl (L_gno rfl rfl rfl (L_gyes rfl rfl (L_y (y_pk rfl rfl) rfl (L_gyes rfl rfl (L_y (y_move rfl) rfl ?_))))))))))))); refine L_gno rfl rfl rfl (L_gno rfl rfl rfl (L_gno rfl rfl rfl (L_gno rfl rfl rfl (L_gyes rfl rfl (L_y (y_pk rfl rfl) rfl (L_y (y_pk rfl rfl) rfl (L_nil (hK16 _ _ (T_true rfl (T_seq fun K17 hK17 => ?_)))))))))); have hbad : chkL b (t - laid) ((l.map OP.v).drop k) = false := by first | (exfalso; rw [h38] at h74; cases h74; done) | exact chkL_bad ho (.inl (by unfold rtV; simp [OP.v, *]; try omega))
         refine T_region (L_y (y_assign rfl) rfl (L_nil (hK17 _ _ (T_ret (ur (ret1 rfl rfl ?_)))))); first | exact ⟨_, rfl, S7.like0, by rw [chk_no (by omega)]⟩ | exact ⟨_, rfl, S7.like0, by rw [chk_eq (by omega), hch, hbad]; rfl⟩ | exact ⟨_, rfl, S7.like0, by rw [chk_eq (by omega), hch, chkL_end (by omega), decide_eq_false (by omega)]; rfl⟩ | exact ⟨_, rfl, S7.like0, by rw [chk_eq (by omega), hch, chkL_end (by omega), decide_eq_true (by omega)]; rfl⟩
        ·
         refine L_gyes rfl rfl (L_y (y_fieldA 2 Tryz.underlying190 rfl sz3 rfl rfl rfl) rfl (L_gyes rfl rfl (L_y (y_ldc Tryz.underlying3 rfl rfl (((S7.blk 1 rfl).cell _).trans (by rfl))) rfl ?_))); refine L_gyes rfl rfl (L_y (y_fieldA 0 Tryz.underlying137 rfl sz3 rfl rfl rfl) rfl (L_gyes rfl rfl (L_y (y_ldc Tryz.underlying3 rfl rfl (((S7.blk 0 rfl).cell _).trans (by rfl))) rfl ?_))); refine L_gyes rfl rfl (L_y (y_gtr rfl rfl) rfl (L_gyes rfl rfl (L_y (y_pk rfl rfl) rfl (L_gyes rfl rfl (L_y (y_move rfl) rfl ?_))))); refine L_split 49 rfl (fun h49 => ?_) (fun h49 => ?_)
         ·
          refine L_gno rfl rfl rfl (L_gno rfl rfl rfl (L_gno rfl rfl rfl (L_gyes rfl rfl (L_y (y_pk rfl rfl) rfl (L_gyes rfl rfl (L_y (y_move rfl) rfl (L_gno rfl rfl rfl (L_gno rfl rfl rfl (L_gno rfl rfl rfl (L_gno rfl rfl rfl (L_gno rfl rfl rfl (L_gno rfl rfl rfl (L_gno rfl rfl rfl ?_))))))))))))); refine L_gno rfl rfl rfl (L_gyes rfl rfl (L_y (y_pk rfl rfl) rfl (L_gyes rfl rfl (L_y (y_move rfl) rfl (L_gno rfl rfl rfl (L_gno rfl rfl rfl (L_gno rfl rfl rfl (L_gno rfl rfl rfl (L_gyes rfl rfl (L_y (y_pk rfl rfl) rfl (L_y (y_pk rfl rfl) rfl (L_nil (hK16 _ _ ?_))))))))))))); refine T_true rfl (T_seq fun K18 hK18 => ?_); have hbad : chkL b (t - laid) ((l.map OP.v).drop k) = false := by first | (exfalso; rw [h38] at h74; cases h74; done) | exact chkL_bad ho (.inl (by unfold rtV; simp [OP.v, *]; try omega))
          refine T_region (L_y (y_assign rfl) rfl (L_nil (hK18 _ _ (T_ret (ur (ret1 rfl rfl ?_)))))); first | exact ⟨_, rfl, S7.like0, by rw [chk_no (by omega)]⟩ | exact ⟨_, rfl, S7.like0, by rw [chk_eq (by omega), hch, hbad]; rfl⟩ | exact ⟨_, rfl, S7.like0, by rw [chk_eq (by omega), hch, chkL_end (by omega), decide_eq_false (by omega)]; rfl⟩ | exact ⟨_, rfl, S7.like0, by rw [chk_eq (by omega), hch, chkL_end (by omega), decide_eq_true (by omega)]; rfl⟩
         ·
          refine L_gyes rfl rfl (L_y (y_fieldA 1 Tryz.underlying190 rfl sz3 rfl rfl rfl) rfl (L_gyes rfl rfl (L_y (y_ldc Tryz.underlying3 rfl rfl (((S7.blk 1 rfl).cell _).trans (by rfl))) rfl ?_))); refine L_gyes rfl rfl (L_y (y_lss rfl rfl) rfl (L_gyes rfl rfl (L_y (y_pk rfl rfl) rfl (L_gyes rfl rfl (L_y (y_move rfl) rfl ?_))))); refine L_split 54 rfl (fun h54 => ?_) (fun h54 => ?_)
          ·
           refine L_gno rfl rfl rfl (L_gno rfl rfl rfl (L_gno rfl rfl rfl (L_gno rfl rfl rfl (L_gno rfl rfl rfl (L_gno rfl rfl rfl (L_gno rfl rfl rfl (L_gno rfl rfl rfl (L_gyes rfl rfl (L_y (y_pk rfl rfl) rfl (L_gyes rfl rfl (L_y (y_move rfl) rfl (L_gno rfl rfl rfl (L_gno rfl rfl rfl ?_))))))))))))); refine L_gno rfl rfl rfl (L_gno rfl rfl rfl (L_gyes rfl rfl (L_y (y_pk rfl rfl) rfl (L_y (y_pk rfl rfl) rfl (L_nil (hK16 _ _ (T_true rfl (T_seq fun K19 hK19 => ?_)))))))); have hbad : chkL b (t - laid) ((l.map OP.v).drop k) = false := by first | (exfalso; rw [h38] at h74; cases h74; done) | exact chkL_bad ho (.inl (by unfold rtV; simp [OP.v, *]; try omega))
           refine T_region (L_y (y_assign rfl) rfl (L_nil (hK19 _ _ (T_ret (ur (ret1 rfl rfl ?_)))))); first | exact ⟨_, rfl, S7.like0, by rw [chk_no (by omega)]⟩ | exact ⟨_, rfl, S7.like0, by rw [chk_eq (by omega), hch, hbad]; rfl⟩ | exact ⟨_, rfl, S7.like0, by rw [chk_eq (by omega), hch, chkL_end (by omega), decide_eq_false (by omega)]; rfl⟩ | exact ⟨_, rfl, S7.like0, by rw [chk_eq (by omega), hch, chkL_end (by omega), decide_eq_true (by omega)]; rfl⟩
          ·
           refine L_gyes rfl rfl (L_y (y_fieldA 1 Tryz.underlying190 rfl sz3 rfl rfl rfl) rfl (L_gyes rfl rfl (L_y (y_ldc Tryz.underlying3 rfl rfl (((S7.blk 1 rfl).cell _).trans (by rfl))) rfl ?_))); refine L_gyes rfl rfl (L_y (y_fieldA 0 Tryz.underlying137 rfl sz3 rfl rfl rfl) rfl (L_gyes rfl rfl (L_y (y_ldc Tryz.underlying3 rfl rfl (((S7.blk 0 rfl).cell _).trans (by rfl))) rfl ?_))); refine L_gyes rfl rfl (L_y (y_fieldA 2 Tryz.underlying190 rfl sz3 rfl rfl rfl) rfl (L_gyes rfl rfl (L_y (y_ldc Tryz.underlying3 rfl rfl (((S7.blk 1 rfl).cell _).trans (by rfl))) rfl ?_))); refine L_gyes rfl rfl (L_y (y_sub rfl rfl (i64w (by omega))) rfl (L_gyes rfl rfl (L_y (y_gtr rfl rfl) rfl (L_gyes rfl rfl (L_y (y_pk rfl rfl) rfl (L_gyes rfl rfl (L_y (y_move rfl) rfl ?_))))))); refine L_split 64 rfl (fun h64 => ?_) (fun h64 => ?_)
           ·
            refine L_gno rfl rfl rfl (L_gno rfl rfl rfl (L_gno rfl rfl rfl (L_gno rfl rfl rfl (L_gyes rfl rfl (L_y (y_pk rfl rfl) rfl (L_y (y_pk rfl rfl) rfl (L_nil (hK16 _ _ (T_true rfl (T_seq fun K20 hK20 => ?_)))))))))); have hbad : chkL b (t - laid) ((l.map OP.v).drop k) = false := by first | (exfalso; rw [h38] at h74; cases h74; done) | exact chkL_bad ho (.inl (by unfold rtV; simp [OP.v, *]; try omega))
            refine T_region (L_y (y_assign rfl) rfl (L_nil (hK20 _ _ (T_ret (ur (ret1 rfl rfl ?_)))))); first | exact ⟨_, rfl, S7.like0, by rw [chk_no (by omega)]⟩ | exact ⟨_, rfl, S7.like0, by rw [chk_eq (by omega), hch, hbad]; rfl⟩ | exact ⟨_, rfl, S7.like0, by rw [chk_eq (by omega), hch, chkL_end (by omega), decide_eq_false (by omega)]; rfl⟩ | exact ⟨_, rfl, S7.like0, by rw [chk_eq (by omega), hch, chkL_end (by omega), decide_eq_true (by omega)]; rfl⟩
           ·
            refine L_gyes rfl rfl (L_y (y_fieldA 3 Tryz.underlying190 rfl sz22 rfl rfl rfl) rfl (L_gyes rfl rfl (L_y (y_ldc Tryz.underlying22 rfl rfl (((S7.blk 1 rfl).cell _).trans (by rfl))) rfl ?_))); refine L_gyes rfl rfl (L_y (y_len Tryz.underlying22 rfl) rfl (L_gyes rfl rfl (L_y (y_gtr rfl rfl) rfl (L_gyes rfl rfl (L_y (y_pk rfl rfl) rfl (L_y (y_pk rfl rfl) rfl (L_nil (hK16 _ _ ?_)))))))); refine T_cond rfl (fun h70 => ?_) (fun h70 => ?_)
            ·
             refine T_seq fun K21 hK21 => ?_; have hbad : chkL b (t - laid) ((l.map OP.v).drop k) = false := by first | (exfalso; rw [h38] at h74; cases h74; done) | exact chkL_bad ho (.inl (by unfold rtV; simp [OP.v, *]; try omega))
             refine T_region (L_y (y_assign rfl) rfl (L_nil (hK21 _ _ (T_ret (ur (ret1 rfl rfl ?_)))))); first | exact ⟨_, rfl, S7.like0, by rw [chk_no (by omega)]⟩ | exact ⟨_, rfl, S7.like0, by rw [chk_eq (by omega), hch, hbad]; rfl⟩ | exact ⟨_, rfl, S7.like0, by rw [chk_eq (by omega), hch, chkL_end (by omega), decide_eq_false (by omega)]; rfl⟩ | exact ⟨_, rfl, S7.like0, by rw [chk_eq (by omega), hch, chkL_end (by omega), decide_eq_true (by omega)]; rfl⟩
            ·
             refine T_skip (hK15 _ _ (T_seq fun K22 hK22 => T_seq fun K23 hK23 => T_region (L_y (y_fieldA 0 Tryz.underlying190 rfl sz4 rfl rfl rfl) rfl (L_y (y_ldc Tryz.underlying4 rfl rfl (((S7.blk 1 rfl).cell _).trans (by rfl))) rfl ?_)))); refine L_y ((by first | exact y_notD rfl | exact y_not rfl)) rfl ?_; refine L_y (y_move rfl) rfl ?_; refine L_splitB 74 rfl (fun h74 => ?_) (fun h74 => ?_)
             ·
              refine L_gyes rfl rfl (L_y (y_fieldA 3 Tryz.underlying190 rfl sz22 rfl rfl rfl) rfl (L_gyes rfl rfl (L_y (y_ldc Tryz.underlying22 rfl rfl (((S7.blk 1 rfl).cell _).trans (by rfl))) rfl ?_))); refine L_gyes rfl rfl (L_y (y_len Tryz.underlying22 rfl) rfl (L_gyes rfl rfl (L_y (y_eql rfl rfl) rfl (L_gyes rfl rfl (L_y (y_move rfl) rfl ?_))))); refine L_split 79 rfl (fun h79 => ?_) (fun h79 => ?_)
              ·
               refine L_gno rfl rfl rfl (L_gno rfl rfl rfl (L_gno rfl rfl rfl (L_gyes rfl rfl (L_y (y_pk rfl rfl) rfl (L_gyes rfl rfl (L_y (y_move rfl) rfl (L_gno rfl rfl rfl (L_gno rfl rfl rfl (L_gno rfl rfl rfl (L_gyes rfl rfl (L_y (y_pk rfl rfl) rfl (L_y (y_pk rfl rfl) rfl (L_nil ?_))))))))))))); refine hK23 _ _ (T_true rfl (T_seq fun K24 hK24 => ?_)); have hbad : chkL b (t - laid) ((l.map OP.v).drop k) = false := by first | (exfalso; rw [h38] at h74; cases h74; done) | exact chkL_bad ho (.inl (by unfold rtV; simp [OP.v, *]; try omega))
               refine T_region (L_y (y_assign rfl) rfl (L_nil (hK24 _ _ (T_ret (ur (ret1 rfl rfl ?_)))))); first | exact ⟨_, rfl, S7.like0, by rw [chk_no (by omega)]⟩ | exact ⟨_, rfl, S7.like0, by rw [chk_eq (by omega), hch, hbad]; rfl⟩ | exact ⟨_, rfl, S7.like0, by rw [chk_eq (by omega), hch, chkL_end (by omega), decide_eq_false (by omega)]; rfl⟩ | exact ⟨_, rfl, S7.like0, by rw [chk_eq (by omega), hch, chkL_end (by omega), decide_eq_true (by omega)]; rfl⟩
              ·
               refine L_gyes rfl rfl (L_y (y_fieldA 1 Tryz.underlying190 rfl sz3 rfl rfl rfl) rfl (L_gyes rfl rfl (L_y (y_ldc Tryz.underlying3 rfl rfl (((S7.blk 1 rfl).cell _).trans (by rfl))) rfl ?_))); refine L_gyes rfl rfl (L_y (y_neq rfl rfl) rfl (L_gyes rfl rfl (L_y (y_pk rfl rfl) rfl (L_gyes rfl rfl (L_y (y_move rfl) rfl ?_))))); refine L_split 84 rfl (fun h84 => ?_) (fun h84 => ?_)
               ·
                refine L_gno rfl rfl rfl (L_gno rfl rfl rfl (L_gno rfl rfl rfl (L_gyes rfl rfl (L_y (y_pk rfl rfl) rfl (L_y (y_pk rfl rfl) rfl (L_nil (hK23 _ _ (T_true rfl (T_seq fun K25 hK25 => ?_))))))))); have hbad : chkL b (t - laid) ((l.map OP.v).drop k) = false := by first | (exfalso; rw [h38] at h74; cases h74; done) | exact chkL_bad ho (.inl (by unfold rtV; simp [OP.v, *]; try omega))
                refine T_region (L_y (y_assign rfl) rfl (L_nil (hK25 _ _ (T_ret (ur (ret1 rfl rfl ?_)))))); first | exact ⟨_, rfl, S7.like0, by rw [chk_no (by omega)]⟩ | exact ⟨_, rfl, S7.like0, by rw [chk_eq (by omega), hch, hbad]; rfl⟩ | exact ⟨_, rfl, S7.like0, by rw [chk_eq (by omega), hch, chkL_end (by omega), decide_eq_false (by omega)]; rfl⟩ | exact ⟨_, rfl, S7.like0, by rw [chk_eq (by omega), hch, chkL_end (by omega), decide_eq_true (by omega)]; rfl⟩
               ·
                refine L_gyes rfl rfl (L_y (y_fieldA 2 Tryz.underlying190 rfl sz3 rfl rfl rfl) rfl (L_gyes rfl rfl (L_y (y_ldc Tryz.underlying3 rfl rfl (((S7.blk 1 rfl).cell _).trans (by rfl))) rfl ?_))); refine L_gyes rfl rfl (L_y (y_neq rfl rfl) rfl (L_gyes rfl rfl (L_y (y_pk rfl rfl) rfl (L_y (y_pk rfl rfl) rfl (L_nil (hK23 _ _ ?_)))))); refine T_cond rfl (fun h89 => ?_) (fun h89 => ?_)
                ·
                 refine T_seq fun K26 hK26 => ?_; have hbad : chkL b (t - laid) ((l.map OP.v).drop k) = false := by first | (exfalso; rw [h38] at h74; cases h74; done) | exact chkL_bad ho (.inl (by unfold rtV; simp [OP.v, *]; try omega))
                 refine T_region (L_y (y_assign rfl) rfl (L_nil (hK26 _ _ (T_ret (ur (ret1 rfl rfl ?_)))))); first | exact ⟨_, rfl, S7.like0, by rw [chk_no (by omega)]⟩ | exact ⟨_, rfl, S7.like0, by rw [chk_eq (by omega), hch, hbad]; rfl⟩ | exact ⟨_, rfl, S7.like0, by rw [chk_eq (by omega), hch, chkL_end (by omega), decide_eq_false (by omega)]; rfl⟩ | exact ⟨_, rfl, S7.like0, by rw [chk_eq (by omega), hch, chkL_end (by omega), decide_eq_true (by omega)]; rfl⟩
                ·
                 refine T_skip (hK22 _ _ (T_seq fun K27 hK27 => T_seq fun K28 hK28 => ?_)); have hgood : rtV b o.v = true := by first | (exfalso; rw [h38] at h74; cases h74; done) | (unfold rtV; simp [OP.v, *]; try omega)
                 have hszp := sz_nonneg hgood; refine T_drawnL [(0, true), (2, true), (3, true), (4, true), (5, true), (1, false), (6, true)] hmix (by kernel_rfl) fun w16 l16 => have S16 := S7.like l16; DL_y rfl (y_ldW Tryz.underlying190 rfl sz190 rfl (S16.blk 1 rfl) (show _ = opf o ∧ _ from ⟨rfl, rfl⟩)) rfl (DL_y rfl (y_fieldA 1 Tryz.underlying137 rfl sz3 rfl rfl rfl) rfl (DL_y rfl (y_ldc Tryz.underlying3 rfl rfl (((S16.blk 0 rfl).cell _).trans (by rfl))) rfl ?_)); refine DL_y rfl (y_move rfl) rfl (DL_y rfl (y_sub rfl rfl (i64w (by omega))) rfl (DL_o rfl (o_call Tryz.func136 rfl rfl (rsize o w16 (hok.like S16.like0 o (List.mem_of_getElem? ho))) rfl rfl ?_))); rintro e17 w17 ⟨v17, rfl, l17, rfl⟩; refine ⟨_, rfl, l17, (have S17 := S16.like l17; have q17 := l17; DL_y rfl (y_gtr rfl rfl) rfl (DL_nil (hK28 _ _ ?_)))⟩; refine T_cond rfl (fun h96 => ?_) (fun h96 => ?_)
                 ·
                  refine T_seq fun K29 hK29 => have hbad : chkL b (t - laid) ((l.map OP.v).drop k) = false := chkL_bad ho (.inr (by omega)); T_region (L_y (y_assign rfl) rfl (L_nil (hK29 _ _ (T_ret (ur (ret1 rfl rfl ?_)))))); first | exact ⟨_, rfl, S17.like0, by rw [chk_no (by omega)]⟩ | exact ⟨_, rfl, S17.like0, by rw [chk_eq (by omega), hch, hbad]; rfl⟩ | exact ⟨_, rfl, S17.like0, by rw [chk_eq (by omega), hch, chkL_end (by omega), decide_eq_false (by omega)]; rfl⟩ | exact ⟨_, rfl, S17.like0, by rw [chk_eq (by omega), hch, chkL_end (by omega), decide_eq_true (by omega)]; rfl⟩
                 ·
                  refine T_skip (hK27 _ _ (T_region (L_y (y_move rfl) rfl (L_y (y_ldW Tryz.underlying190 rfl sz190 rfl (S17.blk 1 rfl) (show _ = opf o ∧ _ from ⟨rfl, rfl⟩)) rfl (L_o (o_call Tryz.func136 rfl rfl (rsize o w17 (hok.like S17.like0 o (List.mem_of_getElem? ho))) rfl rfl ?_)))))); rintro e18 w18 ⟨v18, rfl, l18, rfl⟩; refine ⟨_, rfl, (have S18 := S17.like l18; L_y (y_add rfl rfl (i64w (by omega))) rfl (L_y (y_assign rfl) rfl (L_nil (hK13 _ _ (T_region (L_y (y_move rfl) rfl (L_y (y_add rfl rfl (i64w (by omega))) rfl (L_y (y_assign rfl) rfl (L_nil (have S91 := S18.drop (rs' := [_]) (.cons_cons _ (.cons _ (.refl _))); ⟨k + 1, laid + szV o.v, by omega, ⟨⟨by omega, by omega, by omega, by rw [hch, chkL_ok ho hgood (by omega), show t - laid - szV o.v = t - (laid + szV o.v) by omega]⟩, S91⟩, ?_⟩))))))))))⟩; exact (Sub.cons rfl (by first | rfl | exact congrArg (Value.int _) (by omega)) (Sub.cons rfl (by first | rfl | exact congrArg (Value.int _) (by omega)) (Sub.cons rfl rfl (Sub.nil _))))
             ·
              refine L_gno rfl rfl rfl (L_gno rfl rfl rfl (L_gno rfl rfl rfl (L_gno rfl rfl rfl (L_gno rfl rfl rfl (L_gnu rfl rfl rfl (L_gnu rfl rfl rfl (L_gnu rfl rfl rfl (L_gno rfl rfl rfl (L_gno rfl rfl rfl (L_gnu rfl rfl rfl (L_gnu rfl rfl rfl (L_gnu rfl rfl rfl (L_gno rfl rfl rfl ?_))))))))))))); refine L_y (y_pk rfl rfl) rfl (L_nil (hK23 _ _ (T_false rfl (T_skip (hK22 _ _ (T_seq fun K30 hK30 => T_seq fun K31 hK31 => ?_)))))); have hgood : rtV b o.v = true := by first | (exfalso; rw [h38] at h74; cases h74; done) | (unfold rtV; simp [OP.v, *]; try omega)
              have hszp := sz_nonneg hgood; refine T_drawnL [(0, true), (2, true), (3, true), (4, true), (5, true), (1, false), (6, true)] hmix (by kernel_rfl) fun w19 l19 => have S19 := S7.like l19; DL_y rfl (y_ldW Tryz.underlying190 rfl sz190 rfl (S19.blk 1 rfl) (show _ = opf o ∧ _ from ⟨rfl, rfl⟩)) rfl (DL_y rfl (y_fieldA 1 Tryz.underlying137 rfl sz3 rfl rfl rfl) rfl (DL_y rfl (y_ldc Tryz.underlying3 rfl rfl (((S19.blk 0 rfl).cell _).trans (by rfl))) rfl ?_)); refine DL_y rfl (y_move rfl) rfl (DL_y rfl (y_sub rfl rfl (i64w (by omega))) rfl (DL_o rfl (o_call Tryz.func136 rfl rfl (rsize o w19 (hok.like S19.like0 o (List.mem_of_getElem? ho))) rfl rfl ?_))); rintro e20 w20 ⟨v20, rfl, l20, rfl⟩; refine ⟨_, rfl, l20, (have S20 := S19.like l20; have q20 := l20; DL_y rfl (y_gtr rfl rfl) rfl (DL_nil (hK31 _ _ ?_)))⟩; refine T_cond rfl (fun h96 => ?_) (fun h96 => ?_)
              ·
               refine T_seq fun K32 hK32 => have hbad : chkL b (t - laid) ((l.map OP.v).drop k) = false := chkL_bad ho (.inr (by omega)); T_region (L_y (y_assign rfl) rfl (L_nil (hK32 _ _ (T_ret (ur (ret1 rfl rfl ?_)))))); first | exact ⟨_, rfl, S20.like0, by rw [chk_no (by omega)]⟩ | exact ⟨_, rfl, S20.like0, by rw [chk_eq (by omega), hch, hbad]; rfl⟩ | exact ⟨_, rfl, S20.like0, by rw [chk_eq (by omega), hch, chkL_end (by omega), decide_eq_false (by omega)]; rfl⟩ | exact ⟨_, rfl, S20.like0, by rw [chk_eq (by omega), hch, chkL_end (by omega), decide_eq_true (by omega)]; rfl⟩
              ·
               refine T_skip (hK30 _ _ (T_region (L_y (y_move rfl) rfl (L_y (y_ldW Tryz.underlying190 rfl sz190 rfl (S20.blk 1 rfl) (show _ = opf o ∧ _ from ⟨rfl, rfl⟩)) rfl (L_o (o_call Tryz.func136 rfl rfl (rsize o w20 (hok.like S20.like0 o (List.mem_of_getElem? ho))) rfl rfl ?_)))))); rintro e21 w21 ⟨v21, rfl, l21, rfl⟩; refine ⟨_, rfl, (have S21 := S20.like l21; L_y (y_add rfl rfl (i64w (by omega))) rfl (L_y (y_assign rfl) rfl (L_nil (hK13 _ _ (T_region (L_y (y_move rfl) rfl (L_y (y_add rfl rfl (i64w (by omega))) rfl (L_y (y_assign rfl) rfl (L_nil (have S91 := S21.drop (rs' := [_]) (.cons_cons _ (.cons _ (.refl _))); ⟨k + 1, laid + szV o.v, by omega, ⟨⟨by omega, by omega, by omega, by rw [hch, chkL_ok ho hgood (by omega), show t - laid - szV o.v = t - (laid + szV o.v) by omega]⟩, S91⟩, ?_⟩))))))))))⟩; exact (Sub.cons rfl (by first | rfl | exact congrArg (Value.int _) (by omega)) (Sub.cons rfl (by first | rfl | exact congrArg (Value.int _) (by omega)) (Sub.cons rfl rfl (Sub.nil _))))
       ·
        refine L_gno rfl rfl rfl (L_gno rfl rfl rfl (L_gno rfl rfl rfl (L_gno rfl rfl rfl (L_gnu rfl rfl rfl (L_gnu rfl rfl rfl (L_gnu rfl rfl rfl (L_gnu rfl rfl rfl (L_gnu rfl rfl rfl (L_gno rfl rfl rfl (L_gno rfl rfl rfl (L_gnu rfl rfl rfl (L_gnu rfl rfl rfl (L_gnu rfl rfl rfl ?_))))))))))))); refine L_gno rfl rfl rfl (L_gno rfl rfl rfl (L_gnu rfl rfl rfl (L_gnu rfl rfl rfl (L_gnu rfl rfl rfl (L_gnu rfl rfl rfl (L_gnu rfl rfl rfl (L_gnu rfl rfl rfl (L_gnu rfl rfl rfl (L_gnu rfl rfl rfl (L_gno rfl rfl rfl (L_gno rfl rfl rfl (L_gnu rfl rfl rfl (L_gnu rfl rfl rfl ?_))))))))))))); refine L_gnu rfl rfl rfl (L_gnu rfl rfl rfl (L_gno rfl rfl rfl (L_y (y_pk rfl rfl) rfl (L_nil (hK16 _ _ (T_false rfl (T_skip (hK15 _ _ (T_seq fun K33 hK33 => T_seq fun K34 hK34 => T_region (L_y (y_fieldA 0 Tryz.underlying190 rfl sz4 rfl rfl rfl) rfl (L_y (y_ldc Tryz.underlying4 rfl rfl (((S7.blk 1 rfl).cell _).trans (by rfl))) rfl ?_))))))))))); refine L_y ((by first | exact y_notD rfl | exact y_not rfl)) rfl ?_; refine L_y (y_move rfl) rfl ?_; refine L_splitB 74 rfl (fun h74 => ?_) (fun h74 => ?_)
        ·
         refine L_gyes rfl rfl (L_y (y_fieldA 3 Tryz.underlying190 rfl sz22 rfl rfl rfl) rfl (L_gyes rfl rfl (L_y (y_ldc Tryz.underlying22 rfl rfl (((S7.blk 1 rfl).cell _).trans (by rfl))) rfl ?_))); refine L_gyes rfl rfl (L_y (y_len Tryz.underlying22 rfl) rfl (L_gyes rfl rfl (L_y (y_eql rfl rfl) rfl (L_gyes rfl rfl (L_y (y_move rfl) rfl ?_))))); refine L_split 79 rfl (fun h79 => ?_) (fun h79 => ?_)
         ·
          refine L_gno rfl rfl rfl (L_gno rfl rfl rfl (L_gno rfl rfl rfl (L_gyes rfl rfl (L_y (y_pk rfl rfl) rfl (L_gyes rfl rfl (L_y (y_move rfl) rfl (L_gno rfl rfl rfl (L_gno rfl rfl rfl (L_gno rfl rfl rfl (L_gyes rfl rfl (L_y (y_pk rfl rfl) rfl (L_y (y_pk rfl rfl) rfl (L_nil ?_))))))))))))); refine hK34 _ _ (T_true rfl (T_seq fun K35 hK35 => ?_)); have hbad : chkL b (t - laid) ((l.map OP.v).drop k) = false := by first | (exfalso; rw [h38] at h74; cases h74; done) | exact chkL_bad ho (.inl (by unfold rtV; simp [OP.v, *]; try omega))
          refine T_region (L_y (y_assign rfl) rfl (L_nil (hK35 _ _ (T_ret (ur (ret1 rfl rfl ?_)))))); first | exact ⟨_, rfl, S7.like0, by rw [chk_no (by omega)]⟩ | exact ⟨_, rfl, S7.like0, by rw [chk_eq (by omega), hch, hbad]; rfl⟩ | exact ⟨_, rfl, S7.like0, by rw [chk_eq (by omega), hch, chkL_end (by omega), decide_eq_false (by omega)]; rfl⟩ | exact ⟨_, rfl, S7.like0, by rw [chk_eq (by omega), hch, chkL_end (by omega), decide_eq_true (by omega)]; rfl⟩
         ·
          refine L_gyes rfl rfl (L_y (y_fieldA 1 Tryz.underlying190 rfl sz3 rfl rfl rfl) rfl (L_gyes rfl rfl (L_y (y_ldc Tryz.underlying3 rfl rfl (((S7.blk 1 rfl).cell _).trans (by rfl))) rfl ?_))); refine L_gyes rfl rfl (L_y (y_neq rfl rfl) rfl (L_gyes rfl rfl (L_y (y_pk rfl rfl) rfl (L_gyes rfl rfl (L_y (y_move rfl) rfl ?_))))); refine L_split 84 rfl (fun h84 => ?_) (fun h84 => ?_)
          ·
           refine L_gno rfl rfl rfl (L_gno rfl rfl rfl (L_gno rfl rfl rfl (L_gyes rfl rfl (L_y (y_pk rfl rfl) rfl (L_y (y_pk rfl rfl) rfl (L_nil (hK34 _ _ (T_true rfl (T_seq fun K36 hK36 => ?_))))))))); have hbad : chkL b (t - laid) ((l.map OP.v).drop k) = false := by first | (exfalso; rw [h38] at h74; cases h74; done) | exact chkL_bad ho (.inl (by unfold rtV; simp [OP.v, *]; try omega))
           refine T_region (L_y (y_assign rfl) rfl (L_nil (hK36 _ _ (T_ret (ur (ret1 rfl rfl ?_)))))); first | exact ⟨_, rfl, S7.like0, by rw [chk_no (by omega)]⟩ | exact ⟨_, rfl, S7.like0, by rw [chk_eq (by omega), hch, hbad]; rfl⟩ | exact ⟨_, rfl, S7.like0, by rw [chk_eq (by omega), hch, chkL_end (by omega), decide_eq_false (by omega)]; rfl⟩ | exact ⟨_, rfl, S7.like0, by rw [chk_eq (by omega), hch, chkL_end (by omega), decide_eq_true (by omega)]; rfl⟩
          ·
           refine L_gyes rfl rfl (L_y (y_fieldA 2 Tryz.underlying190 rfl sz3 rfl rfl rfl) rfl (L_gyes rfl rfl (L_y (y_ldc Tryz.underlying3 rfl rfl (((S7.blk 1 rfl).cell _).trans (by rfl))) rfl ?_))); refine L_gyes rfl rfl (L_y (y_neq rfl rfl) rfl (L_gyes rfl rfl (L_y (y_pk rfl rfl) rfl (L_y (y_pk rfl rfl) rfl (L_nil (hK34 _ _ ?_)))))); refine T_cond rfl (fun h89 => ?_) (fun h89 => ?_)
           ·
            refine T_seq fun K37 hK37 => ?_; have hbad : chkL b (t - laid) ((l.map OP.v).drop k) = false := by first | (exfalso; rw [h38] at h74; cases h74; done) | exact chkL_bad ho (.inl (by unfold rtV; simp [OP.v, *]; try omega))
            refine T_region (L_y (y_assign rfl) rfl (L_nil (hK37 _ _ (T_ret (ur (ret1 rfl rfl ?_)))))); first | exact ⟨_, rfl, S7.like0, by rw [chk_no (by omega)]⟩ | exact ⟨_, rfl, S7.like0, by rw [chk_eq (by omega), hch, hbad]; rfl⟩ | exact ⟨_, rfl, S7.like0, by rw [chk_eq (by omega), hch, chkL_end (by omega), decide_eq_false (by omega)]; rfl⟩ | exact ⟨_, rfl, S7.like0, by rw [chk_eq (by omega), hch, chkL_end (by omega), decide_eq_true (by omega)]; rfl⟩
           ·
            refine T_skip (hK33 _ _ (T_seq fun K38 hK38 => T_seq fun K39 hK39 => ?_)); have hgood : rtV b o.v = true := by first | (exfalso; rw [h38] at h74; cases h74; done) | (unfold rtV; simp [OP.v, *]; try omega)
            have hszp := sz_nonneg hgood; refine T_drawnL [(0, true), (2, true), (3, true), (4, true), (5, true), (1, false), (6, true)] hmix (by kernel_rfl) fun w25 l25 => have S25 := S7.like l25; DL_y rfl (y_ldW Tryz.underlying190 rfl sz190 rfl (S25.blk 1 rfl) (show _ = opf o ∧ _ from ⟨rfl, rfl⟩)) rfl (DL_y rfl (y_fieldA 1 Tryz.underlying137 rfl sz3 rfl rfl rfl) rfl (DL_y rfl (y_ldc Tryz.underlying3 rfl rfl (((S25.blk 0 rfl).cell _).trans (by rfl))) rfl ?_)); refine DL_y rfl (y_move rfl) rfl (DL_y rfl (y_sub rfl rfl (i64w (by omega))) rfl (DL_o rfl (o_call Tryz.func136 rfl rfl (rsize o w25 (hok.like S25.like0 o (List.mem_of_getElem? ho))) rfl rfl ?_))); rintro e26 w26 ⟨v26, rfl, l26, rfl⟩; refine ⟨_, rfl, l26, (have S26 := S25.like l26; have q26 := l26; DL_y rfl (y_gtr rfl rfl) rfl (DL_nil (hK39 _ _ ?_)))⟩; refine T_cond rfl (fun h96 => ?_) (fun h96 => ?_)
            ·
             refine T_seq fun K40 hK40 => have hbad : chkL b (t - laid) ((l.map OP.v).drop k) = false := chkL_bad ho (.inr (by omega)); T_region (L_y (y_assign rfl) rfl (L_nil (hK40 _ _ (T_ret (ur (ret1 rfl rfl ?_)))))); first | exact ⟨_, rfl, S26.like0, by rw [chk_no (by omega)]⟩ | exact ⟨_, rfl, S26.like0, by rw [chk_eq (by omega), hch, hbad]; rfl⟩ | exact ⟨_, rfl, S26.like0, by rw [chk_eq (by omega), hch, chkL_end (by omega), decide_eq_false (by omega)]; rfl⟩ | exact ⟨_, rfl, S26.like0, by rw [chk_eq (by omega), hch, chkL_end (by omega), decide_eq_true (by omega)]; rfl⟩
            ·
             refine T_skip (hK38 _ _ (T_region (L_y (y_move rfl) rfl (L_y (y_ldW Tryz.underlying190 rfl sz190 rfl (S26.blk 1 rfl) (show _ = opf o ∧ _ from ⟨rfl, rfl⟩)) rfl (L_o (o_call Tryz.func136 rfl rfl (rsize o w26 (hok.like S26.like0 o (List.mem_of_getElem? ho))) rfl rfl ?_)))))); rintro e27 w27 ⟨v27, rfl, l27, rfl⟩; refine ⟨_, rfl, (have S27 := S26.like l27; L_y (y_add rfl rfl (i64w (by omega))) rfl (L_y (y_assign rfl) rfl (L_nil (hK13 _ _ (T_region (L_y (y_move rfl) rfl (L_y (y_add rfl rfl (i64w (by omega))) rfl (L_y (y_assign rfl) rfl (L_nil (have S91 := S27.drop (rs' := [_]) (.cons_cons _ (.cons _ (.refl _))); ⟨k + 1, laid + szV o.v, by omega, ⟨⟨by omega, by omega, by omega, by rw [hch, chkL_ok ho hgood (by omega), show t - laid - szV o.v = t - (laid + szV o.v) by omega]⟩, S91⟩, ?_⟩))))))))))⟩; exact (Sub.cons rfl (by first | rfl | exact congrArg (Value.int _) (by omega)) (Sub.cons rfl (by first | rfl | exact congrArg (Value.int _) (by omega)) (Sub.cons rfl rfl (Sub.nil _))))
        ·
         refine L_gno rfl rfl rfl (L_gno rfl rfl rfl (L_gno rfl rfl rfl (L_gno rfl rfl rfl (L_gno rfl rfl rfl (L_gnu rfl rfl rfl (L_gnu rfl rfl rfl (L_gnu rfl rfl rfl (L_gno rfl rfl rfl (L_gno rfl rfl rfl (L_gnu rfl rfl rfl (L_gnu rfl rfl rfl (L_gnu rfl rfl rfl (L_gno rfl rfl rfl ?_))))))))))))); refine L_y (y_pk rfl rfl) rfl (L_nil (hK34 _ _ (T_false rfl (T_skip (hK33 _ _ (T_seq fun K41 hK41 => T_seq fun K42 hK42 => ?_)))))); have hgood : rtV b o.v = true := by first | (exfalso; rw [h38] at h74; cases h74; done) | (unfold rtV; simp [OP.v, *]; try omega)
         have hszp := sz_nonneg hgood; refine T_drawnL [(0, true), (2, true), (3, true), (4, true), (5, true), (1, false), (6, true)] hmix (by kernel_rfl) fun w28 l28 => have S28 := S7.like l28; DL_y rfl (y_ldW Tryz.underlying190 rfl sz190 rfl (S28.blk 1 rfl) (show _ = opf o ∧ _ from ⟨rfl, rfl⟩)) rfl (DL_y rfl (y_fieldA 1 Tryz.underlying137 rfl sz3 rfl rfl rfl) rfl (DL_y rfl (y_ldc Tryz.underlying3 rfl rfl (((S28.blk 0 rfl).cell _).trans (by rfl))) rfl ?_)); refine DL_y rfl (y_move rfl) rfl (DL_y rfl (y_sub rfl rfl (i64w (by omega))) rfl (DL_o rfl (o_call Tryz.func136 rfl rfl (rsize o w28 (hok.like S28.like0 o (List.mem_of_getElem? ho))) rfl rfl ?_))); rintro e29 w29 ⟨v29, rfl, l29, rfl⟩; refine ⟨_, rfl, l29, (have S29 := S28.like l29; have q29 := l29; DL_y rfl (y_gtr rfl rfl) rfl (DL_nil (hK42 _ _ ?_)))⟩; refine T_cond rfl (fun h96 => ?_) (fun h96 => ?_)
         ·
          refine T_seq fun K43 hK43 => have hbad : chkL b (t - laid) ((l.map OP.v).drop k) = false := chkL_bad ho (.inr (by omega)); T_region (L_y (y_assign rfl) rfl (L_nil (hK43 _ _ (T_ret (ur (ret1 rfl rfl ?_)))))); first | exact ⟨_, rfl, S29.like0, by rw [chk_no (by omega)]⟩ | exact ⟨_, rfl, S29.like0, by rw [chk_eq (by omega), hch, hbad]; rfl⟩ | exact ⟨_, rfl, S29.like0, by rw [chk_eq (by omega), hch, chkL_end (by omega), decide_eq_false (by omega)]; rfl⟩ | exact ⟨_, rfl, S29.like0, by rw [chk_eq (by omega), hch, chkL_end (by omega), decide_eq_true (by omega)]; rfl⟩
         ·
          refine T_skip (hK41 _ _ (T_region (L_y (y_move rfl) rfl (L_y (y_ldW Tryz.underlying190 rfl sz190 rfl (S29.blk 1 rfl) (show _ = opf o ∧ _ from ⟨rfl, rfl⟩)) rfl (L_o (o_call Tryz.func136 rfl rfl (rsize o w29 (hok.like S29.like0 o (List.mem_of_getElem? ho))) rfl rfl ?_)))))); rintro e30 w30 ⟨v30, rfl, l30, rfl⟩; refine ⟨_, rfl, (have S30 := S29.like l30; L_y (y_add rfl rfl (i64w (by omega))) rfl (L_y (y_assign rfl) rfl (L_nil (hK13 _ _ (T_region (L_y (y_move rfl) rfl (L_y (y_add rfl rfl (i64w (by omega))) rfl (L_y (y_assign rfl) rfl (L_nil (have S91 := S30.drop (rs' := [_]) (.cons_cons _ (.cons _ (.refl _))); ⟨k + 1, laid + szV o.v, by omega, ⟨⟨by omega, by omega, by omega, by rw [hch, chkL_ok ho hgood (by omega), show t - laid - szV o.v = t - (laid + szV o.v) by omega]⟩, S91⟩, ?_⟩))))))))))⟩; exact (Sub.cons rfl (by first | rfl | exact congrArg (Value.int _) (by omega)) (Sub.cons rfl (by first | rfl | exact congrArg (Value.int _) (by omega)) (Sub.cons rfl rfl (Sub.nil _))))
      ·
       refine T_exit (hK9 _ _ (T_seq fun K44 hK44 => T_seq fun K45 hK45 => T_region (L_y (y_move rfl) rfl (L_y (y_fieldA 1 Tryz.underlying137 rfl sz3 rfl rfl rfl) rfl (L_y (y_ldc Tryz.underlying3 rfl rfl (((S5.blk 0 rfl).cell _).trans (by rfl))) rfl ?_))))); refine L_y (y_neq rfl rfl) rfl (L_nil (hK45 _ _ ?_)); refine T_cond rfl (fun h104 => ?_) (fun h104 => ?_)
       ·
        refine T_seq fun K46 hK46 => T_region (L_y (y_assign rfl) rfl (L_nil (hK46 _ _ (T_ret (ur (ret1 rfl rfl ?_)))))); first | exact ⟨_, rfl, S5.like0, by rw [chk_no (by omega)]⟩ | exact ⟨_, rfl, S5.like0, by rw [chk_eq (by omega), hch, hbad]; rfl⟩ | exact ⟨_, rfl, S5.like0, by rw [chk_eq (by omega), hch, chkL_end (by omega), decide_eq_false (by omega)]; rfl⟩ | exact ⟨_, rfl, S5.like0, by rw [chk_eq (by omega), hch, chkL_end (by omega), decide_eq_true (by omega)]; rfl⟩
       ·
        refine T_skip (hK44 _ _ (T_seq fun K47 hK47 => T_region (L_y (y_assign rfl) rfl (L_nil (hK47 _ _ (T_ret (ur (ret1 rfl rfl ?_)))))))); first | exact ⟨_, rfl, S5.like0, by rw [chk_no (by omega)]⟩ | exact ⟨_, rfl, S5.like0, by rw [chk_eq (by omega), hch, hbad]; rfl⟩ | exact ⟨_, rfl, S5.like0, by rw [chk_eq (by omega), hch, chkL_end (by omega), decide_eq_false (by omega)]; rfl⟩ | exact ⟨_, rfl, S5.like0, by rw [chk_eq (by omega), hch, chkL_end (by omega), decide_eq_true (by omega)]; rfl⟩
end Go.Proofs.YtgaklngnfecdaaaGreat.Del
namespace Go.Proofs.YtgaklngnfecdaaaGreat.Del
open Go.RowKit Zk Zx
def comP : List UInt8 → List UInt8 → Nat
  | a :: x, b :: y => if a = b then comP x y + 1 else 0
  | _, _ => 0
theorem g8_cons (a : UInt8) (l : List UInt8) (k : Nat) : g8 (a :: l) (k + 1) = g8 l k := by simp [g8]
theorem g8_zero (a b : UInt8) (l m : List UInt8) : g8 (a :: l) 0 = g8 (b :: m) 0 ↔ a = b := by
  simp only [g8, List.getD_cons_zero]
  constructor
  · intro h; exact UInt8.toNat_inj.1 (by omega)
  · intro h; rw [h]
theorem comP_stop : ∀ (a b : List UInt8) (i : Nat), (∀ j, j < i → g8 a j = g8 b j) → i ≤ a.length → i ≤ b.length → (a.length ≤ i ∨ b.length ≤ i ∨ g8 a i ≠ g8 b i) → comP a b = i
  | [], b, i, _, h1, _, _ => by
    have : i = 0 := by simpa using h1
    subst this
    unfold comP
    rfl
  | a :: x, [], i, _, _, h2, _ => by
    have : i = 0 := by simpa using h2
    subst this
    rfl
  | a :: x, b :: y, 0, _, _, _, hs => by
    rcases hs with hs | hs | hs
    · simp at hs
    · simp at hs
    · have : a ≠ b := fun e => hs ((g8_zero a b x y).2 e)
      unfold comP
      rw [if_neg this]
  | a :: x, b :: y, i + 1, h, h1, h2, hs => by
    have e : a = b := (g8_zero a b x y).1 (h 0 (by omega))
    unfold comP
    rw [if_pos e, comP_stop x y i (fun j hj => by have := h (j + 1) (by omega); rwa [g8_cons, g8_cons] at this) (by simpa using h1) (by simpa using h2) (by simpa [g8_cons] using hs)]
theorem comP_le : ∀ a b : List UInt8, comP a b ≤ a.length ∧ comP a b ≤ b.length
  | [], b => by unfold comP; simp
  | a :: x, [] => by unfold comP; simp
  | a :: x, b :: y => by
    unfold comP
    split
    · have := comP_le x y; simp; omega
    · simp
theorem comP_take : ∀ (a b : List UInt8) (n : Nat), n ≤ comP a b ↔ n ≤ a.length ∧ n ≤ b.length ∧ a.take n = b.take n
  | a, b, 0 => by simp
  | [], b, n + 1 => by
    have : comP [] b = 0 := by unfold comP; rfl
    simp [this]
  | a :: x, [], n + 1 => by simp [comP]
  | a :: x, b :: y, n + 1 => by
    unfold comP
    split
    · rename_i e
      subst e
      have := comP_take x y n
      simp only [List.length_cons, Nat.add_le_add_iff_right, List.take_succ_cons, List.cons.injEq, true_and]
      exact this
    · rename_i e
      constructor
      · intro h; omega
      · rintro ⟨_, _, h⟩
        simp only [List.take_succ_cons, List.cons.injEq] at h
        exact (e h.1).elim
theorem palike (A B : Option Addr) (n c m d : Nat) (a b : List UInt8) (w0 : World) (ha : Rs w0 1 A n c (bL a)) (hb : Rs w0 1 B m d (bL b)) :
    Calls Tryz.prog 185 #[.slice A n c, .slice B m d] w0 fun e w' => ∃ u, e = .returned u ∧ Like w0 w' ∧ u = .int .i64 (comP a b : Int) := by
 refine enter1 (env := [(0, .slice A n c), (1, .slice B m d)]) [.slice A n c, .slice B m d] Tryz.func185 rfl Tryz.ntmps185 rfl rfl ?_; have hn := ha.lenb; have hm := hb.lenb; have hc1 := ha.cap; have hc2 := hb.cap; have hm1 := ha.max; have hm2 := hb.max; have S0 := St.start w0 noM; refine T_seq fun K1 hK1 => T_region (L_y (y_assign rfl) rfl (L_nil (hK1 _ _ (T_seq fun K2 hK2 => T_region (L_y (y_move rfl) rfl (L_y (y_len Tryz.underlying22 rfl) rfl (L_y (y_move rfl) rfl (L_y (y_len Tryz.underlying22 rfl) rfl (L_y (y_min rfl rfl) rfl (L_y (y_assign rfl) rfl (L_nil ?_))))))))))); refine hK2 _ _ (T_seq fun K3 hK3 => T_seq fun K4 hK4 => T_region (L_y (y_move rfl) rfl (L_y (y_move rfl) rfl (L_nil (hK4 _ _ (T_block ?_)))))); refine T_loop1 [(0, _), (1, _), (5, _), (12, _)] (fun (i : Nat) => [(13, .int .i64 (i : Int))]) (fun (i : Nat) => n - i) (fun (i : Nat) (w : World) => (i ≤ n ∧ i ≤ m ∧ ∀ j, j < i → g8 a j = g8 b j) ∧ St w0 noM [] w) 0 (Sub.cons rfl (by first | rfl | exact congrArg (Value.int _) (by omega)) (Sub.nil _)) (Sub.cons rfl rfl (Sub.cons rfl rfl (Sub.cons rfl rfl (Sub.cons rfl rfl (Sub.nil _))))) ?_ ?_
 ·
  exact ⟨⟨Nat.zero_le _, Nat.zero_le _, fun j h => by omega⟩, S0⟩
 ·
  intro i w1 hrel; obtain ⟨⟨hi, hi2, hj⟩, S1⟩ := hrel; refine T_seq fun K5 hK5 => T_region (L_y (y_lss rfl rfl) rfl (L_nil (hK5 _ _ (T_seq fun K6 hK6 => ?_)))); refine T_cond rfl (fun h14 => ?_) (fun h14 => ?_)
  ·
   refine T_skip (hK6 _ _ (T_seq fun K7 hK7 => T_block (T_seq fun K8 hK8 => T_region (L_y (y_move rfl) rfl (L_y (y_assign rfl) rfl (L_nil (hK8 _ _ (T_seq fun K9 hK9 => T_drawnL [(0, true), (1, true), (2, true), (3, true), (4, true), (5, true), (6, true), (7, true), (8, true)] hmix (by kernel_rfl) fun w2 l2 => have S2 := S1.like l2; DL_y rfl (y_move rfl) rfl ?_)))))))); refine DL_y rfl (y_move rfl) rfl (DL_y rfl (y_idx Tryz.underlying22 sz5 rfl rfl (S2.rd ha) (Nt.mk (by omega) : Nt _ (i)) (by omega)) rfl (DL_yb rfl (y_ldb Tryz.underlying5 rfl rfl (S2.rd ha) (by omega)) rfl fun _ _ => DL_y rfl (y_move rfl) rfl (DL_y rfl (y_move rfl) rfl (DL_y rfl (y_idx Tryz.underlying22 sz5 rfl rfl (S2.rd hb) (Nt.mk (by omega) : Nt _ (i)) (by omega)) rfl (DL_yb rfl (y_ldb Tryz.underlying5 rfl rfl (S2.rd hb) (by omega)) rfl fun _ _ => DL_y rfl (y_neq rfl rfl) rfl (DL_nil (hK9 _ _ ?_))))))); refine T_cond rfl (fun h24 => ?_) (fun h24 => ?_)
   ·
    refine T_seq fun K10 hK10 => T_region (L_y (y_move rfl) rfl (L_y (y_assign rfl) rfl (L_nil (hK10 _ _ (T_ret (ur (ret1 rfl rfl ?_))))))); first | exact ⟨_, rfl, S2.like0, by rw [comP_stop a b i hj (by omega) (by omega) (.inr (.inr h24))]⟩ | exact ⟨_, rfl, S2.like0, by rw [comP_stop a b i hj (by omega) (by omega) (by omega)]; congr 1; omega⟩
   ·
    refine T_skip (hK7 _ _ (T_region (L_y (y_add rfl rfl (i64w (by omega))) rfl (L_y (y_move rfl) rfl (L_nil (⟨i + 1, by omega, ⟨⟨by omega, by omega, fun j h => by rcases Nat.lt_or_ge j i with q | q; exact hj j q; (rw [show j = i by omega]; omega)⟩, S2⟩, ?_⟩)))))); exact (Sub.cons rfl (by first | rfl | exact congrArg (Value.int _) (by omega)) (Sub.cons rfl rfl (Sub.cons rfl rfl (Sub.cons rfl rfl (Sub.cons rfl rfl (Sub.nil _))))))
  ·
   refine T_exit (hK3 _ _ (T_seq fun K11 hK11 => T_region (L_y (y_move rfl) rfl (L_y (y_assign rfl) rfl (L_nil (hK11 _ _ (T_ret (ur (ret1 rfl rfl ?_))))))))); first | exact ⟨_, rfl, S1.like0, by rw [comP_stop a b i hj (by omega) (by omega) (.inr (.inr h24))]⟩ | exact ⟨_, rfl, S1.like0, by rw [comP_stop a b i hj (by omega) (by omega) (by omega)]; congr 1; omega⟩
theorem rs_nil1 {w : World} {A : Option Addr} {n c : Nat} {l : List UInt8} (hl : Rs w 1 A n c (bL l)) (h : A = none) : n = 0 := by
  subst h
  rcases Nat.eq_zero_or_pos n with q | q
  · exact q
  · obtain ⟨_, h2, _⟩ := hl.rd.2 q
    cases h2
theorem bclone (A : Option Addr) (n c : Nat) (a : List UInt8) (w0 : World) (ha : Rs w0 1 A n c (bL a)) (hmx : n ≤ 4611686018427) :
    Calls Tryz.prog 48 #[.slice A n c] w0 fun e w' => ∃ u, e = .returned u ∧ Like w0 w' ∧ ∃ A' c', u = .slice A' n c' ∧ w'.ownsRow w0.heap.size 5 1 (.slice A' n c') n (bL a) := by
 refine enter1 (env := [(0, .slice A n c)]) [.slice A n c] Tryz.func48 rfl Tryz.ntmps48 rfl rfl ?_; have hz := rs_nil1 ha; have hn := ha.lenb; have hcap := ha.cap; have hmax := ha.max; have S0 := St.start w0 noM; refine T_seq fun K1 hK1 => T_region (L_y (y_assign rfl) rfl (L_nil (hK1 _ _ (T_seq fun K2 hK2 => T_seq fun K3 hK3 => T_region (L_y (y_move rfl) rfl (L_y (y_seqn Tryz.underlying22 rfl) rfl (L_nil (hK3 _ _ ?_)))))))); refine T_condB rfl (fun h4 => ?_) (fun h4 => ?_)
 ·
  refine T_seq fun K4 hK4 => T_region (L_y (y_assign rfl) rfl (L_nil (hK4 _ _ (T_ret (ur (ret1 rfl rfl ?_)))))); first | exact ⟨_, rfl, S0.like0, _, _, by rw [Nat.zero_add], by have h9 := S0.own 0 rfl; rw [Nat.zero_add] at h9; exact h9⟩ | exact ⟨_, rfl, S0.like0, none, 0, by rw [hz (by simpa using h4)], by rw [hz (by simpa using h4), show a = [] from List.eq_nil_of_length_eq_zero (by have := hz (by simpa using h4); omega)]; exact World.ownsRow_nil _ _ _ _⟩
 ·
  refine T_skip (hK2 _ _ (T_seq fun K5 hK5 => T_region (L_o (o_bsl0 te22 S0 rfl fun b1 w1 l1 S1 => L_y (y_move rfl) rfl (L_o (o_app te22 S1 0 rfl rfl rfl (S1.rd ha) (bL_one _) rfl (by omega) (by omega) fun A2 c2 w2 S2 => L_y (y_assign rfl) rfl (L_nil (hK5 _ _ (T_ret (ur (ret1 rfl rfl ?_))))))))))); first | exact ⟨_, rfl, S2.like0, _, _, by rw [Nat.zero_add], by have h9 := S2.own 0 rfl; rw [Nat.zero_add] at h9; exact h9⟩ | exact ⟨_, rfl, S2.like0, none, 0, by rw [hz (by simpa using h4)], by rw [hz (by simpa using h4), show a = [] from List.eq_nil_of_length_eq_zero (by have := hz (by simpa using h4); omega)]; exact World.ownsRow_nil _ _ _ _⟩
end Go.Proofs.YtgaklngnfecdaaaGreat.Del
namespace Go.Proofs.YtgaklngnfecdaaaGreat.Del
open Go.RowKit Zk Zx
def nL (l : List Nat) : List Value := l.map fun (i : Nat) => Value.int .i64 (i : Int)
theorem nL_app (l m : List Nat) : nL (l ++ m) = nL l ++ nL m := by simp [nL]
theorem nL_one (l : List Nat) : ∀ u ∈ nL l, u.oneCell' = true := fun u hu => by
  obtain ⟨i, _, rfl⟩ := List.mem_map.1 hu
  rfl
theorem nL_len (l : List Nat) : (nL l).length = l.length := by simp [nL]
theorem nL_get {l : List Nat} {k v : Nat} (h : l[k]? = some v) : (nL l)[k]? = some (.int .i64 (v : Int)) := by simp [nL, h]
def six (a : List UInt8) (i : Nat) : List UInt8 := (a.drop i).take 6
def posF (a : List UInt8) (k : Nat) (key : List UInt8) : List Nat := (List.range k).filter fun i => six a i == key
theorem posF_succ (a : List UInt8) (k : Nat) (key : List UInt8) : posF a (k + 1) key = posF a k key ++ (if six a k = key then [k] else []) := by
  unfold posF
  rw [List.range_succ, List.filter_append]
  congr 1
  by_cases h : six a k = key <;> simp [h]
theorem posF_lt {a : List UInt8} {k i : Nat} {key : List UInt8} (h : i ∈ posF a k key) : i < k := by
  have := (List.mem_filter.1 h).1
  simpa using this
theorem posF_len (a : List UInt8) (k : Nat) (key : List UInt8) : (posF a k key).length ≤ k := by
  unfold posF
  have := List.length_filter_le (fun i => six a i == key) (List.range k)
  simpa using this
structure PE where
  k : List UInt8
  A : Option Addr
  n : Nat
  c : Nat
  xs : List Nat
def PE.ent (p : PE) : List UInt8 × Value := (p.k, .slice p.A p.n p.c)
def PE.row (p : PE) : Res := Zx.row 3 1 p.A p.n p.c (nL p.xs)
structure PI (a : List UInt8) (k : Nat) (pes : List PE) : Prop where
  each : ∀ p ∈ pes, p.xs = posF a k p.k
  nodup : (pes.map PE.k).Nodup
  all : ∀ i, i < k → six a i ∈ pes.map PE.k
theorem PI.start (a : List UInt8) : PI a 0 [] := ⟨fun p hp => (List.not_mem_nil hp).elim, List.Pairwise.nil, fun i h => by omega⟩
theorem ent_found {pes : List PE} {key : List UInt8} {i : Nat} {v : Value} (h : posB key (pes.map PE.ent) 0 = some (i, v)) : ∃ p, pes[i]? = some p ∧ p.k = key ∧ v = .slice p.A p.n p.c := by
  obtain ⟨_, h2⟩ := posB_some h
  rw [Nat.sub_zero, List.getElem?_map] at h2
  cases hp : pes[i]? with
  | none => rw [hp] at h2; cases h2
  | some p =>
    rw [hp] at h2
    have h3 := Option.some.inj h2
    exact ⟨p, rfl, congrArg Prod.fst h3, (congrArg Prod.snd h3).symm⟩
theorem ent_none {pes : List PE} {key : List UInt8} (h : posB key (pes.map PE.ent) 0 = none) : key ∉ pes.map PE.k := fun hm => by
  obtain ⟨p, hp, e⟩ := List.mem_map.1 hm
  exact posB_none h (PE.ent p) (List.mem_map.2 ⟨p, hp, rfl⟩) e
theorem PI.found {a : List UInt8} {k i : Nat} {pes : List PE} (h : PI a k pes) {p : PE} (hp : pes[i]? = some p) (hk : p.k = six a k) {q : PE} (hq : q.k = p.k) (hx : q.xs = p.xs ++ [k]) : PI a (k + 1) (pes.set i q) := by
  have hmap : (pes.set i q).map PE.k = pes.map PE.k := by
    rw [List.map_set, hq]
    have : (pes.map PE.k)[i]? = some p.k := by rw [List.getElem?_map, hp]; rfl
    obtain ⟨h1, h2⟩ := List.getElem?_eq_some_iff.1 this
    rw [← h2, List.set_getElem_self]
  have hil := (List.getElem?_eq_some_iff.1 hp).1
  refine ⟨fun r hr => ?_, by rw [hmap]; exact h.nodup, fun j hj => ?_⟩
  · obtain ⟨j, hj, rfl⟩ := List.getElem_of_mem hr
    rw [posF_succ]
    by_cases e : i = j
    · subst e
      rw [List.getElem_set_self, hx, if_pos (by rw [hq, hk]), hq, h.each p (List.mem_of_getElem? hp)]
    · rw [List.getElem_set_ne e]
      have hjl : j < pes.length := by rw [List.length_set] at hj; exact hj
      have hne : six a k ≠ (pes[j]'hjl).k := fun e2 => by
        have hnd := List.pairwise_iff_getElem.1 h.nodup
        have e3 : p.k = pes[j].k := hk.trans e2
        have hpi : pes[i] = p := by
          have := List.getElem?_eq_getElem hil
          rw [this] at hp
          exact Option.some.inj hp
        rcases Nat.lt_or_gt_of_ne e with q1 | q1
        · exact hnd i j (by rw [List.length_map]; exact hil) (by rw [List.length_map]; exact hjl) q1 (by rw [List.getElem_map, List.getElem_map, hpi]; exact e3)
        · exact hnd j i (by rw [List.length_map]; exact hjl) (by rw [List.length_map]; exact hil) q1 (by rw [List.getElem_map, List.getElem_map, hpi]; exact e3.symm)
      rw [if_neg hne, List.append_nil]
      exact h.each _ (List.getElem_mem hjl)
  · rw [hmap]
    rcases Nat.lt_or_ge j k with q1 | q1
    · exact h.all j q1
    · have e : j = k := by omega
      subst e
      rw [← hk]
      exact List.mem_map.2 ⟨p, List.mem_of_getElem? hp, rfl⟩
theorem PI.new {a : List UInt8} {k : Nat} {pes : List PE} (h : PI a k pes) (hk : six a k ∉ pes.map PE.k) {q : PE} (hq : q.k = six a k) (hx : q.xs = [k]) : PI a (k + 1) (pes ++ [q]) := by
  refine ⟨fun r hr => ?_, ?_, fun j hj => ?_⟩
  · rw [posF_succ]
    rcases List.mem_append.1 hr with hr | hr
    · have hne : six a k ≠ r.k := fun e => hk (by rw [e]; exact List.mem_map.2 ⟨r, hr, rfl⟩)
      rw [if_neg hne, List.append_nil]
      exact h.each r hr
    · obtain rfl := List.mem_singleton.1 hr
      rw [if_pos hq.symm, hx]
      have : posF a k r.k = [] := by
        rw [List.eq_nil_iff_forall_not_mem]
        intro i hi
        have h1 := posF_lt hi
        have h2 : six a i = r.k := by simpa using (List.mem_filter.1 hi).2
        exact hk (by rw [← hq, ← h2]; exact h.all i h1)
      rw [this]
      rfl
  · rw [List.map_append, List.map_cons, List.map_nil, List.nodup_append]
    refine ⟨h.nodup, by simp, fun x hx y hy => ?_⟩
    rw [List.mem_singleton.1 hy, hq]
    intro e
    exact hk (by rw [← e]; exact hx)
  · rw [List.map_append, List.mem_append]
    rcases Nat.lt_or_ge j k with q1 | q1
    · exact .inl (h.all j q1)
    · have e : j = k := by omega
      subst e
      exact .inr (by simp [hq])
theorem rows_at {pes : List PE} {i : Nat} {p : PE} (h : pes[i]? = some p) : pes.map PE.row = (pes.take i).map PE.row ++ p.row :: (pes.drop (i + 1)).map PE.row := by
  obtain ⟨h1, h2⟩ := List.getElem?_eq_some_iff.1 h
  rw [← h2, ← List.map_cons (f := PE.row), List.getElem_cons_drop, ← List.map_append, List.take_append_drop]
theorem rows_set {pes : List PE} {i : Nat} {q : PE} (h : i < pes.length) : (pes.take i).map PE.row ++ q.row :: (pes.drop (i + 1)).map PE.row = (pes.set i q).map PE.row := by
  rw [List.set_eq_take_append_cons_drop, if_pos h, List.map_append, List.map_cons]
theorem ents_set {pes : List PE} {i : Nat} {q : PE} : (pes.map PE.ent).set i (PE.ent q) = (pes.set i q).map PE.ent := by rw [List.map_set]
theorem look_pes {a : List UInt8} {k : Nat} {pes : List PE} (h : PI a k pes) (key : List UInt8) {w : World} (hf : (fam (pes.map PE.row)).holds w) : ∃ A n c, getB key (pes.map PE.ent) (.slice none 0 0) = .slice A n c ∧ Rs w 1 A n c (nL (posF a k key)) := by
  unfold getB
  cases hp : posB key (pes.map PE.ent) 0 with
  | some x =>
    obtain ⟨i, v⟩ := x
    obtain ⟨p, h1, h2, h3⟩ := ent_found hp
    have hm := List.mem_of_getElem? h1
    refine ⟨p.A, p.n, p.c, h3, ?_⟩
    have h4 : p.row.holds w := hf.1 _ (List.mem_map.2 ⟨p, hm, rfl⟩)
    rw [← h2, ← h.each p hm]
    exact rs_of_row h4
  | none =>
    refine ⟨none, 0, 0, rfl, ?_⟩
    have : posF a k key = [] := by
      rw [List.eq_nil_iff_forall_not_mem]
      intro i hi
      have h1 := posF_lt hi
      have h2 : six a i = key := by simpa using (List.mem_filter.1 hi).2
      exact ent_none hp (by rw [← h2]; exact h.all i h1)
    rw [this]
    exact Rs.nil w 1
def stepB (a t : List UInt8) (s : Nat × Nat) (k : Nat) : Nat × Nat := if s.2 < comP (a.drop k) t then (k, comP (a.drop k) t) else s
def bst (a t : List UInt8) : Nat × Nat := if t.length < 6 then (0, 0) else (posF a (a.length - 5) (t.take 6)).foldl (stepB a t) (0, 0)
theorem fold_bd {a t : List UInt8} : ∀ (xs : List Nat) (s : Nat × Nat), s.2 ≤ t.length ∧ s.1 + s.2 ≤ a.length → (xs.foldl (stepB a t) s).2 ≤ t.length ∧ (xs.foldl (stepB a t) s).1 + (xs.foldl (stepB a t) s).2 ≤ a.length
  | [], s, h => h
  | k :: xs, s, h => by
    refine fold_bd xs _ ?_
    unfold stepB
    split
    · rename_i hk
      have h1 := comP_le (a.drop k) t
      rw [List.length_drop] at h1
      refine ⟨h1.2, ?_⟩
      show k + comP (a.drop k) t ≤ a.length
      omega
    · exact h
theorem bst_bd (a t : List UInt8) : (bst a t).2 ≤ t.length ∧ (bst a t).1 + (bst a t).2 ≤ a.length := by
  unfold bst
  split
  · simp
  · exact fold_bd _ _ (by simp)
end Go.Proofs.YtgaklngnfecdaaaGreat.Del
namespace Go.Proofs.YtgaklngnfecdaaaGreat.Del
open Go.RowKit Zk Zx
theorem six_len {a : List UInt8} {k : Nat} (h : k + 6 ≤ a.length) : (six a k).length = 6 := by unfold six; rw [List.length_take, List.length_drop]; omega
theorem cut_six {w : World} {A : Option Addr} {n c k : Nat} {a : List UInt8} (h : Rs w 1 A n c (bL a)) (hk : k + 6 ≤ n) : Rs w 1 (cutA A c k 1) (k + 6 - k) (c - k) (bL (six a k)) := by
  have h2 := h.cut (l := k) (u := k + 6) (by omega) hk
  have e : ((bL a).drop (k * 1)).take ((k + 6 - k) * 1) = bL (six a k) := by
    rw [Nat.mul_one, Nat.mul_one, show k + 6 - k = 6 by omega]
    simp [bL, six]
  rwa [e] at h2
theorem take_six (a : List UInt8) (k : Nat) (h : k + 6 ≤ a.length) : (six a k).take 6 = six a k := List.take_of_length_le (by rw [six_len h]; exact Nat.le_refl _)
theorem places (A : Option Addr) (n c : Nat) (a : List UInt8) (w0 : World) (ha : Rs w0 1 A n c (bL a)) (hmx : n ≤ 4000) :
    Calls Tryz.prog 161 #[.slice A n c] w0 fun e w' => ∃ u, e = .returned u ∧ Like w0 w' ∧ ∃ b pes, u = .map (some b) ∧ PI a (a.length - 5) pes ∧ St w0 noM [mapB 6 b (pes.map PE.ent), fam (pes.map PE.row)] w' := by
 refine enter1 (env := [(0, .slice A n c)]) [.slice A n c] Tryz.func161 rfl Tryz.ntmps161 rfl rfl ?_; have hn := ha.lenb; have hcap := ha.cap; have hmax := ha.max; have S0 := St.start w0 noM; refine T_seq fun K1 hK1 => T_region (L_y (y_assign rfl) rfl (L_nil (hK1 _ _ (T_seq fun K2 hK2 => T_region (L_o (o_makeMapB (n := 6) S0 rfl fun b1 w1 hb1 S1 => L_y (y_assign rfl) rfl (L_nil (hK2 _ _ (T_seq fun K3 hK3 => T_seq fun K4 hK4 => T_region ?_))))))))); refine L_y (y_assign rfl) rfl (L_nil (hK4 _ _ (T_block ?_))); refine T_loop2 [(0, _), (3, _)] (fun (k : Nat) (pes : List PE) => [(4, .int .i64 (k : Int))]) (fun (k : Nat) (pes : List PE) => n - k) (fun (k : Nat) (pes : List PE) (w : World) => k ≤ n - 5 ∧ PI a k pes ∧ St w0 noM [mapB 6 b1 (pes.map PE.ent), fam (pes.map PE.row)] w) 0 [] (Sub.cons rfl (by first | rfl | exact congrArg (Value.int _) (by omega)) (Sub.nil _)) (Sub.cons rfl rfl (Sub.cons rfl rfl (Sub.nil _))) ?_ ?_
 ·
  have S9 := S1.fam0; exact ⟨Nat.zero_le _, PI.start a, S9⟩
 ·
  intro k pes w2 hrel; obtain ⟨hk, hpi0, S2⟩ := hrel; refine T_seq fun K5 hK5 => T_seq fun K6 hK6 => T_region (L_y (y_move rfl) rfl (L_y (y_add rfl rfl (i64w (by omega))) rfl (L_y (y_move rfl) rfl (L_y (y_len Tryz.underlying22 rfl) rfl (L_y (y_leq rfl rfl) rfl (L_nil (hK6 _ _ ?_))))))); refine T_cond rfl (fun h11 => ?_) (fun h11 => ?_)
  ·
   refine T_skip (hK5 _ _ (T_seq fun K7 hK7 => T_block (T_seq fun K8 hK8 => T_region (L_y (y_move rfl) rfl (L_y (y_move rfl) rfl (L_y (y_move rfl) rfl (L_y (y_add rfl rfl (i64w (by omega))) rfl (L_y (y_slice Tryz.underlying22 sz5 rfl rfl rfl (Nt.mk (by omega) : Nt _ (k)) (Nt.mk (by omega) : Nt _ (k + 6)) (by omega) (by omega)) rfl (L_y (y_arrAt Tryz.underlying265 rfl (by omega)) rfl (L_y (y_ldArr Tryz.underlying265 sz265 rfl (cut_six (S2.rd ha) (by omega)) (by omega) (by omega)) rfl (L_o (o_alloc zz265 S2 rfl fun b3 w3 hb3 S3 => ?_)))))))))))); refine L_o (o_stW S3 2 rfl rfl rfl (by rw [size_bA, List.length_take, six_len (by omega)]; exact sz265) (by rw [size_bA, List.length_take, six_len (by omega)]; rfl) (bL_one _) fun w4 S4 => ?_); refine L_nil (hK8 _ _ (T_region (L_y (y_move rfl) rfl (L_y (y_ldW Tryz.underlying265 rfl sz265 rfl (S4.blk 2 rfl) (show _ = bL (six a k) ∧ _ from ⟨by rw [take_six a k (by omega)]; exact List.take_of_length_le (by show (bL (six a k)).length ≤ 6; rw [length_bL, six_len (by omega)]; exact Nat.le_refl _), by rw [length_bL, six_len (by omega)]⟩)) rfl ?_)))); refine L_y (y_move rfl) rfl (L_o (o_bsl [_] te111 zz3 S4 rfl rfl rfl rfl rfl rfl rfl rfl fun b5 w5 S5 => ?_)); refine L_o (o_entryB S5 0 rfl Tryz.underlying248 Tryz.underlying265 Tryz.underlying5 sz5 zz111 rfl rfl (six_len (by omega)) rfl (fun i6 v6 hp6 S6 => ?_) (fun hp6 w6 S6 => ?_))
   ·
    obtain ⟨p, hpi, hpk, rfl⟩ := ent_found hp6; have hil := (List.getElem?_eq_some_iff.1 hpi).1; have S91 := S6.famOutAt 1 rfl (rows_at hpi); have hpx := hpi0.each p (List.mem_of_getElem? hpi); have hpn : p.n = p.xs.length := by have := (S91.row 4 rfl).len; rw [nL_len] at this; omega
    have hpl := posF_len a k p.k; rw [← hpx] at hpl; refine L_y (y_extract rfl rfl) rfl (L_o (o_app te111 S91 4 rfl rfl rfl (by first | exact S91.fix 1 rfl | exact S91.row 3 rfl | exact S91.row 4 rfl) (nL_one [k]) rfl (by omega) (by omega) fun A7 c7 w7 S7 => ?_)); have S7d := S7.drop (rs' := [_, _, _, _]) (.cons_cons _ (.cons_cons _ (.cons_cons _ (.cons _ (.refl _))))); refine L_y (y_extract rfl rfl) rfl ?_; refine L_o (o_entryStB S7d 0 rfl (show (pes.map PE.ent)[i6]? = some (six a k, Value.slice p.A p.n p.c) from by rw [List.getElem?_map, hpi, ← hpk]; rfl) rfl rfl rfl fun w8 S8 => ?_); refine L_nil (hK7 _ _ (T_region (L_y (y_move rfl) rfl (L_y (y_add rfl rfl (i64w (by omega))) rfl (L_y (y_assign rfl) rfl (L_nil ?_)))))); have S92 := S8.sel [0, 1, 3] (by decide); have S93 := St.famInAt (rs := [mapB 6 b1 ((pes.map PE.ent).set i6 (six a k, Value.slice A7 (p.n + 1) c7)), fam ((pes.take i6).map PE.row ++ (pes.drop (i6 + 1)).map PE.row)]) (r := row 3 1 A7 (p.n + 1) c7 (nL p.xs ++ nL [k])) S92 1 rfl; have e93 : (pes.map PE.ent).set i6 (six a k, Value.slice A7 (p.n + 1) c7) = (pes.set i6 (⟨p.k, A7, p.n + 1, c7, p.xs ++ [k]⟩ : PE)).map PE.ent := by rw [← ents_set]; unfold PE.ent; rw [hpk]
    have e94 : (pes.take i6).map PE.row ++ row 3 1 A7 (p.n + 1) c7 (nL p.xs ++ nL [k]) :: (pes.drop (i6 + 1)).map PE.row = (pes.set i6 (⟨p.k, A7, p.n + 1, c7, p.xs ++ [k]⟩ : PE)).map PE.row := by rw [← rows_set hil]; unfold PE.row; rw [nL_app]
    have S94 : St w0 noM [mapB 6 b1 ((pes.set i6 (⟨p.k, A7, p.n + 1, c7, p.xs ++ [k]⟩ : PE)).map PE.ent), fam ((pes.set i6 (⟨p.k, A7, p.n + 1, c7, p.xs ++ [k]⟩ : PE)).map PE.row)] w8 := by rw [← e93, ← e94]; exact S93
    refine ⟨k + 1, pes.set i6 (⟨p.k, A7, p.n + 1, c7, p.xs ++ [k]⟩ : PE), by omega, ⟨by omega, hpi0.found hpi hpk rfl rfl, S94⟩, ?_⟩; exact (Sub.cons rfl (by first | rfl | exact congrArg (Value.int _) (by omega)) (Sub.cons rfl rfl (Sub.cons rfl rfl (Sub.nil _))))
   ·
    have S91 := S6.nilrow 3 1; refine L_y (y_extract rfl rfl) rfl (L_o (o_app te111 S91 4 rfl rfl rfl (by first | exact S91.fix 1 rfl | exact S91.row 3 rfl | exact S91.row 4 rfl) (nL_one [k]) rfl (by omega) (by omega) fun A9 c9 w9 S9 => ?_)); have S9d := S9.drop (rs' := [_, _, _, _]) (.cons_cons _ (.cons_cons _ (.cons_cons _ (.cons _ (.refl _))))); refine L_y (y_extract rfl rfl) rfl ?_; refine L_o (o_entryStB S9d 0 rfl (show (pes.map PE.ent ++ [(six a k, Value.slice none 0 0)])[(pes.map PE.ent).length]? = some (six a k, Value.slice none 0 0) from List.getElem?_concat_length) rfl rfl rfl fun w10 S10 => ?_); refine L_nil (hK7 _ _ (T_region (L_y (y_move rfl) rfl (L_y (y_add rfl rfl (i64w (by omega))) rfl (L_y (y_assign rfl) rfl (L_nil ?_)))))); have S92 := S10.sel [0, 1, 3] (by decide); have S93 := St.famInAt (L1 := pes.map PE.row) (L2 := []) (rs := [mapB 6 b1 ((pes.map PE.ent ++ [(six a k, Value.slice none 0 0)]).set (pes.map PE.ent).length (six a k, Value.slice A9 (0 + 1) c9)), fam (pes.map PE.row ++ [])]) (r := row 3 1 A9 (0 + 1) c9 ([] ++ nL [k])) (by rw [List.append_nil]; exact S92) 1 rfl; have e93 : (pes.map PE.ent ++ [(six a k, Value.slice none 0 0)]).set (pes.map PE.ent).length (six a k, Value.slice A9 (0 + 1) c9) = (pes ++ [(⟨six a k, A9, 1, c9, [k]⟩ : PE)]).map PE.ent := by rw [List.set_append_right _ _ (Nat.le_refl _), Nat.sub_self, List.map_append]; rfl
    have S94 : St w0 noM [mapB 6 b1 ((pes ++ [(⟨six a k, A9, 1, c9, [k]⟩ : PE)]).map PE.ent), fam ((pes ++ [(⟨six a k, A9, 1, c9, [k]⟩ : PE)]).map PE.row)] w10 := by rw [← e93, List.map_append]; exact S93
    refine ⟨k + 1, pes ++ [(⟨six a k, A9, 1, c9, [k]⟩ : PE)], by omega, ⟨by omega, hpi0.new (ent_none hp6) rfl rfl, S94⟩, ?_⟩; exact (Sub.cons rfl (by first | rfl | exact congrArg (Value.int _) (by omega)) (Sub.cons rfl rfl (Sub.cons rfl rfl (Sub.nil _))))
  ·
   refine T_exit (hK3 _ _ (T_seq fun K9 hK9 => T_region (L_y (y_move rfl) rfl (L_y (y_assign rfl) rfl (L_nil (hK9 _ _ (T_ret (ur (ret1 rfl rfl ?_))))))))); have hke : k = a.length - 5 := by omega
   subst hke; exact ⟨_, rfl, S2.like0, b1, pes, rfl, hpi0, S2⟩
end Go.Proofs.YtgaklngnfecdaaaGreat.Del
namespace Go.Proofs.YtgaklngnfecdaaaGreat.Del
open Go.RowKit Zk Zx
theorem take1 {α : Type} {l : List α} {k : Nat} {x : α} (hx : l[k]? = some x) : l.take (k + 1) = l.take k ++ [x] := by rw [List.take_add_one, hx]; rfl
theorem cut_tail {w : World} {A : Option Addr} {n c k : Nat} {a : List UInt8} (h : Rs w 1 A n c (bL a)) (hk : k ≤ n) : Rs w 1 (cutA A c k 1) (n - k) (c - k) (bL (a.drop k)) := by
  have hl := h.lenb
  have h2 := h.cut (l := k) (u := n) hk (Nat.le_refl _)
  have e : ((bL a).drop (k * 1)).take ((n - k) * 1) = bL (a.drop k) := by
    rw [Nat.mul_one, Nat.mul_one]
    have e2 : (bL a).drop k = bL (a.drop k) := by simp [bL]
    rw [e2]
    exact List.take_of_length_le (by simp; omega)
  rwa [e] at h2
theorem cut_mid {w : World} {A : Option Addr} {n c k u : Nat} {a : List UInt8} (h : Rs w 1 A n c (bL a)) (hk : k ≤ u) (hu : u ≤ n) : Rs w 1 (cutA A c k 1) (u - k) (c - k) (bL ((a.drop k).take (u - k))) := by
  have h2 := h.cut (l := k) (u := u) hk hu
  have e : ((bL a).drop (k * 1)).take ((u - k) * 1) = bL ((a.drop k).take (u - k)) := by
    rw [Nat.mul_one, Nat.mul_one]
    simp [bL]
  rwa [e] at h2
theorem six0 (t : List UInt8) : (six t 0).take 6 = t.take 6 := by unfold six; rw [List.drop_zero, List.take_take, Nat.min_self]
theorem longest (A B : Option Addr) (n c m d b : Nat) (a t : List UInt8) (pes : List PE) (w0 : World) (ha : Rs w0 1 A n c (bL a)) (ht : Rs w0 1 B m d (bL t)) (hmx : n ≤ 4000) (hmt : m ≤ 4000) (hm : (mapB 6 b (pes.map PE.ent)).holds w0) (hmd : ∀ i, i = b → i < w0.heap.size) (hf : (fam (pes.map PE.row)).holds w0) (hpi : PI a (a.length - 5) pes) :
    Calls Tryz.prog 163 #[.slice A n c, .map (some b), .slice B m d] w0 fun e w' => ∃ u, e = .returned u ∧ Like w0 w' ∧ u = .tuple #[.int .i64 ((bst a t).1 : Int), .int .i64 ((bst a t).2 : Int)] := by
 refine enter1 (env := [(0, .slice A n c), (1, .map (some b)), (2, .slice B m d)]) [.slice A n c, .map (some b), .slice B m d] Tryz.func163 rfl Tryz.ntmps163 rfl rfl ?_; have hn := ha.lenb; have hcap := ha.cap; have hmax := ha.max; have hmn := ht.lenb; have hcap2 := ht.cap; have hmax2 := ht.max; have S0 := St.start w0 noM; refine T_seq fun K1 hK1 => T_region (L_y (y_assign rfl) rfl (L_y (y_assign rfl) rfl (L_nil (hK1 _ _ (T_seq fun K2 hK2 => T_seq fun K3 hK3 => T_region (L_y (y_move rfl) rfl (L_y (y_len Tryz.underlying22 rfl) rfl (L_y (y_lss rfl rfl) rfl (L_nil (hK3 _ _ ?_)))))))))); refine T_cond rfl (fun h15 => ?_) (fun h15 => ?_)
 ·
  refine T_seq fun K4 hK4 => T_region (L_y (y_assign rfl) rfl (L_y (y_assign rfl) rfl (L_nil (hK4 _ _ (T_ret (ur (ret2 rfl rfl rfl ?_))))))); first | exact ⟨_, rfl, S0.like0, by unfold bst; rw [if_pos (by omega)]; rfl⟩ | exact ⟨_, rfl, S0.like0, by unfold bst; rw [if_neg (by omega), hs, List.take_of_length_le (by omega)]⟩
 ·
  refine T_skip (hK2 _ _ (T_seq fun K5 hK5 => T_region (L_y (y_assign rfl) rfl (L_y (y_assign rfl) rfl (L_nil (hK5 _ _ (T_seq fun K6 hK6 => T_seq fun K7 hK7 => T_region (L_y (y_move rfl) rfl (L_y (y_move rfl) rfl (L_y (y_sliceH Tryz.underlying22 sz5 rfl rfl (Nt.mk rfl : Nt _ 6) (by omega)) rfl ?_)))))))))); refine L_y (y_arrAt Tryz.underlying265 rfl (Nat.le_refl 6)) rfl (L_y (y_ldArr Tryz.underlying265 sz265 rfl (cut_six (S0.rd ht) (by omega)) (Nat.le_refl 6) (by omega)) rfl ?_); obtain ⟨X, xn, xc, hg, hX⟩ := look_pes hpi ((six t 0).take 6) hf; rw [six0] at hX; have hxl : xn = (posF a (a.length - 5) (t.take 6)).length := by have := hX.len; rw [nL_len] at this; omega
  have hxc := hX.cap; have hxm := hX.max; have hpl := posF_len a (a.length - 5) (t.take 6); refine L_y ((show Y Tryz.prog _ _ _ (Value.slice X xn xc) from by rw [← hg]; exact y_lookB (S0.keepM hm hmd (fun _ _ h => h)) Tryz.underlying248 Tryz.underlying265 Tryz.underlying5 sz5 zz111 rfl rfl (by rw [six0, List.length_take]; omega))) rfl ?_; refine L_y (y_len Tryz.underlying111 rfl) rfl (L_y (y_move rfl) rfl (L_nil (hK7 _ _ (T_block ?_)))); refine T_loop2 [(0, _), (2, _), (21, _), (22, _)] (fun (q : Nat) (s : Nat × Nat) => [(23, .int .i64 (q : Int)), (8, .int .i64 (s.1 : Int)), (9, .int .i64 (s.2 : Int))]) (fun (q : Nat) (s : Nat × Nat) => xn - q) (fun (q : Nat) (s : Nat × Nat) (w : World) => (q ≤ xn ∧ s = ((posF a (a.length - 5) (t.take 6)).take q).foldl (stepB a t) (0, 0)) ∧ St w0 noM [] w) 0 (0, 0) (Sub.cons rfl (by first | rfl | exact congrArg (Value.int _) (by omega)) (Sub.cons rfl (by first | rfl | exact congrArg (Value.int _) (by omega)) (Sub.cons rfl (by first | rfl | exact congrArg (Value.int _) (by omega)) (Sub.nil _)))) (Sub.cons rfl rfl (Sub.cons rfl rfl (Sub.cons rfl rfl (Sub.cons rfl rfl (Sub.nil _))))) ?_ ?_
  ·
   exact ⟨⟨Nat.zero_le _, rfl⟩, S0⟩
  ·
   intro q s w1 hrel; obtain ⟨⟨hq, hs⟩, S1⟩ := hrel; refine T_seq fun K8 hK8 => T_region (L_y (y_lss rfl rfl) rfl (L_nil (hK8 _ _ (T_seq fun K9 hK9 => ?_)))); refine T_cond rfl (fun h24 => ?_) (fun h24 => ?_)
   ·
    obtain ⟨v, hv⟩ : ∃ v, (posF a (a.length - 5) (t.take 6))[q]? = some v := ⟨_, List.getElem?_eq_getElem (by omega)⟩; have hvl := posF_lt (List.mem_of_getElem? hv); refine T_skip (hK9 _ _ (T_seq fun K10 hK10 => T_block (T_seq fun K11 hK11 => T_region (L_y (y_idx Tryz.underlying111 sz3 rfl rfl (S1.rd hX) (Nt.mk (by omega) : Nt _ (q)) (by omega)) rfl (L_y (y_ldr Tryz.underlying3 rfl rfl (S1.rd hX) (nL_get hv)) rfl (L_y (y_assign rfl) rfl (L_nil (hK11 _ _ (T_seq fun K12 hK12 => T_region (L_y (y_move rfl) rfl ?_)))))))))); refine L_y (y_move rfl) rfl (L_y (y_sliceL Tryz.underlying22 sz5 rfl rfl (Nt.mk (by omega) : Nt _ (v)) (by omega)) rfl (L_y (y_move rfl) rfl (L_o (o_call Tryz.func185 rfl rfl (palike (cutA A c v 1) B (n - v) (c - v) m d (a.drop v) t w1 (cut_tail (S1.rd ha) (by omega)) (S1.rd ht)) rfl rfl ?_)))); rintro e2 w2 ⟨v2, rfl, l2, rfl⟩; refine ⟨_, rfl, (have S2 := S1.like l2; L_y (y_assign rfl) rfl (L_nil (hK12 _ _ (T_seq fun K13 hK13 => T_region (L_y (y_move rfl) rfl (L_y (y_move rfl) rfl (L_y (y_gtr rfl rfl) rfl (L_nil (hK13 _ _ ?_)))))))))⟩; refine T_cond rfl (fun h34 => ?_) (fun h34 => ?_)
    ·
     refine T_region (L_y (y_move rfl) rfl (L_y (y_move rfl) rfl (L_y (y_assign rfl) rfl (L_y (y_assign rfl) rfl (L_nil (hK10 _ _ (T_region (L_y (y_add rfl rfl (i64w (by omega))) rfl (L_y (y_move rfl) rfl (L_nil (⟨q + 1, stepB a t s v, by omega, ⟨⟨by omega, by rw [take1 hv, List.foldl_append, ← hs]; rfl⟩, S2⟩, ?_⟩))))))))))); exact (Sub.cons rfl (by first | rfl | exact congrArg (Value.int _) (by omega)) (Sub.cons rfl (by first | rfl | (unfold stepB; rw [if_pos (by omega)]) | (unfold stepB; rw [if_neg (by omega)])) (Sub.cons rfl (by first | rfl | (unfold stepB; rw [if_pos (by omega)]) | (unfold stepB; rw [if_neg (by omega)])) (Sub.cons rfl rfl (Sub.cons rfl rfl (Sub.cons rfl rfl (Sub.cons rfl rfl (Sub.nil _))))))))
    ·
     refine T_skip (hK10 _ _ (T_region (L_y (y_add rfl rfl (i64w (by omega))) rfl (L_y (y_move rfl) rfl (L_nil (⟨q + 1, stepB a t s v, by omega, ⟨⟨by omega, by rw [take1 hv, List.foldl_append, ← hs]; rfl⟩, S2⟩, ?_⟩)))))); exact (Sub.cons rfl (by first | rfl | exact congrArg (Value.int _) (by omega)) (Sub.cons rfl (by first | rfl | (unfold stepB; rw [if_pos (by omega)]) | (unfold stepB; rw [if_neg (by omega)])) (Sub.cons rfl (by first | rfl | (unfold stepB; rw [if_pos (by omega)]) | (unfold stepB; rw [if_neg (by omega)])) (Sub.cons rfl rfl (Sub.cons rfl rfl (Sub.cons rfl rfl (Sub.cons rfl rfl (Sub.nil _))))))))
   ·
    refine T_exit (hK6 _ _ (T_seq fun K14 hK14 => T_region (L_y (y_move rfl) rfl (L_y (y_move rfl) rfl (L_y (y_assign rfl) rfl (L_y (y_assign rfl) rfl (L_nil (hK14 _ _ (T_ret (ur (ret2 rfl rfl rfl ?_))))))))))); first | exact ⟨_, rfl, S1.like0, by unfold bst; rw [if_pos (by omega)]; rfl⟩ | exact ⟨_, rfl, S1.like0, by unfold bst; rw [if_neg (by omega), hs, List.take_of_length_le (by omega)]⟩
end Go.Proofs.YtgaklngnfecdaaaGreat.Del
namespace Go.Proofs.YtgaklngnfecdaaaGreat.Del
open Go.RowKit Zk Zx
theorem _root_.Go.Proofs.YtgaklngnfecdaaaGreat.Zx.St.rdBM {w0 w : World} {M : Nat → Prop} {rs : List Res} (S : St w0 M rs w) {g t : Nat} {cs : Array Value} (h : Blk w0 g t cs) (hM : ¬ M g) : Blk w g t cs := (S.old g h.lt hM).trans h
def scr (b : Nat) (x y : Int) (A : Option Addr) (n c : Nat) (ops : List OP) (ps : List Part) : Res := sep (blk b 179 (scA x y A n c)) (sep (row 221 4 A n c (ops.flatMap opf)) (fam (ps.map partR)))
def InP (ops : List OP) (ps : List Part) : Prop := ∀ o ∈ ops, o.p = p0 ∨ o.p ∈ ps
theorem scA_set (x y : Int) (A : Option Addr) (n c : Nat) (A' : Option Addr) (n' c' : Nat) : (scA x y A n c).setIfInBounds 2 (.slice A' n' c') = scA x y A' n' c' := by simp [scA]
def fl (t : List UInt8) (s e : Nat) : List OV := if s < e then [⟨false, 0, 0, (t.drop s).take (e - s)⟩] else []
theorem InP.add {ops : List OP} {ps : List Part} (h : InP ops ps) {o : OP} : InP (ops ++ [o]) (ps ++ [o.p]) := fun q hq => by
  rcases List.mem_append.1 hq with hq | hq
  · rcases h q hq with h1 | h1
    · exact .inl h1
    · exact .inr (List.mem_append_left _ h1)
  · obtain rfl := List.mem_singleton.1 hq
    exact .inr (List.mem_append_right _ (List.mem_singleton.2 rfl))
theorem InP.add0 {ops : List OP} {ps : List Part} (h : InP ops ps) {o : OP} (ho : o.p = p0) : InP (ops ++ [o]) ps := fun q hq => by
  rcases List.mem_append.1 hq with hq | hq
  · exact h q hq
  · obtain rfl := List.mem_singleton.1 hq
    exact .inl ho
theorem famAdd {w0 w : World} {M : Nat → Prop} {rs : List Res} {ps : List Part} {p : Part} (S : St w0 M (rs ++ [partR p]) w) (k : Nat) (hk : rs[k]? = some (fam (ps.map partR))) : St w0 M (rs.set k (fam ((ps ++ [p]).map partR))) w := by
  have h := St.famInAt (L1 := ps.map partR) (L2 := []) S k (by rw [List.append_nil]; exact hk)
  rw [List.map_append]
  exact h
theorem fin_scr {w0 w : World} {r : Res} {b : Nat} {x y : Int} {A : Option Addr} {n' c : Nat} {xs : List Value} {ops : List OP} {ps : List Part} (S : St w0 r.dom [blk b 179 (scA x y A n' c), row 221 4 A n' c xs, fam (ps.map partR)] w) (hn : n' = ops.length) (hx : xs = ops.flatMap opf) : Turned w0 w r (scr b x y A ops.length c ops ps) := by
  subst hn; subst hx
  have S1 := St.sepj (rs := [blk b 179 (scA x y A ops.length c)]) S
  have S2 := St.sepj (rs := []) S1
  exact S2.turned1 0 rfl
theorem open_scr {w : World} {b : Nat} {x y : Int} {A : Option Addr} {n c : Nat} {ops : List OP} {ps : List Part} (h : (scr b x y A n c ops ps).holds w) (hd : ∀ i, (scr b x y A n c ops ps).dom i → i < w.heap.size) : St w (scr b x y A n c ops ps).dom [blk b 179 (scA x y A n c), row 221 4 A n c (ops.flatMap opf), fam (ps.map partR)] w :=
  St.seps (rs := [blk b 179 (scA x y A n c)]) (St.seps (rs := []) (St.borrow1 _ h hd))
theorem flush (e0 s0 b8 b6 b3 : Nat) (x y : Int) (A B : Option Addr) (c m d : Nat) (ops : List OP) (ps : List Part) (t : List UInt8) (w0 : World) (hw : (scr b6 x y A ops.length c ops ps).holds w0) (hd : ∀ i, (scr b6 x y A ops.length c ops ps).dom i → i < w0.heap.size) (h8 : Blk w0 b8 3 #[.int .i64 (s0 : Int)]) (h8M : ¬ (scr b6 x y A ops.length c ops ps).dom b8) (h3 : Blk w0 b3 22 #[.slice B m d]) (h3M : ¬ (scr b6 x y A ops.length c ops ps).dom b3) (ht : Rs w0 1 B m d (bL t)) (htM : ∀ ad, 0 < m → B = some ad → ¬ (scr b6 x y A ops.length c ops ps).dom ad.block) (hmt : m ≤ 4000) (he : e0 ≤ m) (hin : InP ops ps) (hol : ops.length ≤ 100000) :
    Calls Tryz.prog 162 #[.int .i64 (e0 : Int), .pointer (some ⟨b8, 0, none⟩), .pointer (some ⟨b6, 0, none⟩), .pointer (some ⟨b3, 0, none⟩)] w0 fun e w' => ∃ u, e = .returned u ∧ ∃ A' c' ops' ps', ops'.map OP.v = ops.map OP.v ++ fl t s0 e0 ∧ ops'.length ≤ ops.length + 1 ∧ InP ops' ps' ∧ Turned w0 w' (scr b6 x y A ops.length c ops ps) (scr b6 x y A' ops'.length c' ops' ps') := by
 refine enter1 (env := [(0, .int .i64 (e0 : Int)), (1, .pointer (some ⟨b8, 0, none⟩)), (2, .pointer (some ⟨b6, 0, none⟩)), (3, .pointer (some ⟨b3, 0, none⟩))]) [.int .i64 (e0 : Int), .pointer (some ⟨b8, 0, none⟩), .pointer (some ⟨b6, 0, none⟩), .pointer (some ⟨b3, 0, none⟩)] Tryz.func162 rfl Tryz.ntmps162 rfl rfl ?_; have hmn := ht.lenb; have hcap2 := ht.cap; have hmax2 := ht.max; have S0 := open_scr hw hd; have hrc := (S0.row 1 rfl).cap; have hrm := (S0.row 1 rfl).max; refine T_seq fun K1 hK1 => T_region (L_y (y_move rfl) rfl (L_y (y_ldc Tryz.underlying3 rfl rfl (((S0.rdBM h8 h8M).cell _).trans (by rfl))) rfl ?_)); refine L_y (y_gtr rfl rfl) rfl (L_nil (hK1 _ _ ?_)); refine T_cond rfl (fun h7 => ?_) (fun h7 => ?_)
 ·
  refine T_zed [0, 1, 2, 3, 4, 5, 6, 7, 8] 9 [(0, 1), (1, 1), (2, 1), (3, 1), (4, 1), (5, 1), (6, 2), (7, 1), (8, 2), (9, 3), (10, 3), (11, 3)] hmix (by kernel_rfl) fun w1 l1 => have S1 := S0.like l1; ZA_B (Like w1) (Like.refl _) (ZB_y rfl (y_fieldA 2 Tryz.underlying179 rfl sz177 rfl rfl rfl) rfl (ZB_y rfl (y_ldc Tryz.underlying177 rfl rfl (((S1.blk 0 rfl).cell _).trans (by rfl))) rfl ?_)); refine ZB_y rfl (y_ldc Tryz.underlying22 rfl rfl (((S1.rdBM h3 h3M).cell _).trans (by rfl))) rfl ?_; refine ZB_y rfl (y_ldc Tryz.underlying3 rfl rfl (((S1.rdBM h8 h8M).cell _).trans (by rfl))) rfl ?_; refine ZB_y rfl (y_move rfl) rfl (ZB_y rfl (y_slice Tryz.underlying22 sz5 rfl rfl rfl (Nt.mk (by omega) : Nt _ (s0)) (Nt.mk (by omega) : Nt _ (e0)) (by omega) (by omega)) rfl (ZB_o rfl (o_call Tryz.func48 rfl rfl (bclone (cutA B d s0 1) (e0 - s0) (d - s0) ((t.drop s0).take (e0 - s0)) w1 (cut_mid (S1.rdM ht htM) (by omega) (by omega)) (by omega)) rfl rfl ?_))); rintro e2 w2 ⟨v2, rfl, l2, A14, c14, rfl, O2⟩; refine ⟨_, rfl, l2, (have S2 := S1.adopt l2 O2; have q2 := l2; ZB_y rfl (y_build rfl (show _ = some #[Value.bool false, Value.int .i64 0, Value.int .i64 0, Value.slice A14 (e0 - s0) c14] by kernel_rfl)) rfl (ZB_o rfl (o_bslL [_, _, _, _] te177 zz221 S2 rfl rfl rfl rfl rfl rfl rfl rfl fun b3 w3 l3 S3 => have q3 := Like.trans q2 l3; ⟨q3, (ZB_c rfl (o_app te177 S3 1 rfl rfl rfl (by first | exact S3.row 1 rfl | exact S3.fix 2 rfl | exact S3.row 3 rfl | exact S3.row 4 rfl) (fun u hu => opf_one ⟨false, 0, 0, ⟨A14, e0 - s0, c14, []⟩⟩ u hu) rfl (by omega) (by omega) fun A4 c4 w4 S4 => ?_))⟩)))⟩; have S4d := S4.drop (rs' := [_, _, _, _]) (.cons_cons _ (.cons_cons _ (.cons_cons _ (.cons_cons _ (.cons _ (.refl _)))))); refine ZA_oy rfl (y_fieldA 2 Tryz.underlying179 rfl sz177 rfl rfl rfl) rfl (ZA_o rfl (o_st1 S4d 0 rfl rfl rfl rfl sz177 (by show 2 < 3; decide) fun w5 S5 => ?_)); refine ZA_nil ?_; first | refine end0 (fn := Tryz.f162) rfl ?_ | (simp only [thenQ, inB, if_true]; refine end0 (fn := Tryz.f162) rfl ?_)
  have S90 := S5.blkc 0 rfl (scA_set x y A ops.length c A4 (ops.length + 1) c4); have S91 := S90.still 3 rfl; have S92 := famAdd (rs := [_, _, fam (ps.map partR)]) (ps := ps) (p := ⟨A14, e0 - s0, c14, (t.drop s0).take (e0 - s0)⟩) (S91.sel [0, 1, 2, 3] (by decide)) 2 rfl; exact ⟨_, rfl, _, _, ops ++ [⟨false, 0, 0, ⟨A14, e0 - s0, c14, (t.drop s0).take (e0 - s0)⟩⟩], _, by rw [List.map_append]; unfold fl; rw [if_pos (by omega)]; rfl, by rw [List.length_append]; exact Nat.le_refl _, hin.add (o := ⟨false, 0, 0, ⟨A14, e0 - s0, c14, (t.drop s0).take (e0 - s0)⟩⟩), fin_scr (A := A4) (n' := ops.length + 1) (c := c4) (xs := ops.flatMap opf ++ opf ⟨false, 0, 0, ⟨A14, e0 - s0, c14, []⟩⟩) (ps := ps ++ [(⟨A14, e0 - s0, c14, (t.drop s0).take (e0 - s0)⟩ : Part)]) S92 (by rw [List.length_append]; rfl) (by rw [List.flatMap_append]; rfl)⟩
 ·
  refine T_skip ?_; first | refine end0 (fn := Tryz.f162) rfl ?_ | (simp only [thenQ, inB, if_true]; refine end0 (fn := Tryz.f162) rfl ?_)
  exact ⟨_, rfl, A, c, ops, ps, by unfold fl; rw [if_neg (by omega), List.append_nil], Nat.le_succ _, hin, fin_scr S0 rfl rfl⟩
end Go.Proofs.YtgaklngnfecdaaaGreat.Del
namespace Go.Proofs.YtgaklngnfecdaaaGreat.Del
open Go.RowKit Zk Zx
section
variable {w0 w w' : World} {M : Nat → Prop} {rs : List Res} {b : Nat} {x y : Int} {A A' : Option Addr} {n n' c c' : Nat} {ops ops' : List OP} {ps ps' : List Part}
theorem packScr (S : St w0 M (rs ++ [blk b 179 (scA x y A n c), row 221 4 A n c (ops.flatMap opf), fam (ps.map partR)]) w) : St w0 M (rs ++ [scr b x y A n c ops ps]) w := by
  have S1 := St.sepj (rs := rs ++ [blk b 179 (scA x y A n c)]) (r := row 221 4 A n c (ops.flatMap opf)) (s := fam (ps.map partR)) (by simpa using S)
  exact St.sepj (rs := rs) (by simpa using S1)
theorem unpackScr (S : St w0 M (rs ++ [scr b x y A n c ops ps]) w) : St w0 M (rs ++ [blk b 179 (scA x y A n c), row 221 4 A n c (ops.flatMap opf), fam (ps.map partR)]) w := by
  have S1 := St.seps (rs := rs) S
  have S2 := St.seps (rs := rs ++ [blk b 179 (scA x y A n c)]) (r := row 221 4 A n c (ops.flatMap opf)) (s := fam (ps.map partR)) (by simpa using S1)
  simpa using S2
theorem flushScr (S : St w0 M (rs ++ [blk b 179 (scA x y A n c), row 221 4 A n c (ops.flatMap opf), fam (ps.map partR)]) w) (T : Turned w w' (scr b x y A n c ops ps) (scr b x y A' n' c' ops' ps')) :
    St w0 M (rs ++ [blk b 179 (scA x y A' n' c'), row 221 4 A' n' c' (ops'.flatMap opf), fam (ps'.map partR)]) w' := by
  have S1 := (packScr S).turn rs.length (by simp) T
  refine unpackScr ?_
  simpa using S1
theorem holdScr (S : St w0 M (rs ++ [blk b 179 (scA x y A n c), row 221 4 A n c (ops.flatMap opf), fam (ps.map partR)]) w) :
    (scr b x y A n c ops ps).holds w ∧ (∀ i, (scr b x y A n c ops ps).dom i → i < w.heap.size) ∧ (∀ r ∈ rs, ∀ i, r.dom i → ¬ (scr b x y A n c ops ps).dom i) ∧ (∀ i, i < w0.heap.size → ¬ M i → ¬ (scr b x y A n c ops ps).dom i) := by
  have S1 := packScr S
  obtain ⟨h1, h2⟩ := S1.res (scr b x y A n c ops ps) (by simp)
  have hap := S1.apart
  rw [List.pairwise_append] at hap
  refine ⟨h1, fun i hi => (h2 i hi).1, fun r hr i hi => hap.2.2 r hr _ (by simp) i hi, fun i hi hM hd => ?_⟩
  rcases (h2 i hd).2 with h | h
  · omega
  · exact hM h
end
theorem scA_one (x y : Int) (A : Option Addr) (n c : Nat) : ∀ u ∈ (scA x y A n c).toList, u.oneCell' = true := fun u hu => by
  have : u ∈ [Value.int .i64 x, .int .i64 y, .slice A n c] := hu
  simp only [List.mem_cons, List.not_mem_nil, or_false] at this
  rcases this with rfl | rfl | rfl <;> rfl
def mkR (a t : List UInt8) : Nat → Nat → Nat → List OV
  | 0, _, since => fl t since t.length
  | f + 1, at_, since => if at_ < t.length then (if (bst a (t.drop at_)).2 = 0 then mkR a t f (at_ + 1) since else fl t since at_ ++ [⟨true, ((bst a (t.drop at_)).1 : Int), ((bst a (t.drop at_)).2 : Int), []⟩] ++ mkR a t f (at_ + (bst a (t.drop at_)).2) (at_ + (bst a (t.drop at_)).2)) else fl t since t.length
def mkV (a t : List UInt8) : List OV := mkR a t t.length 0 0
theorem mkR_end {a t : List UInt8} {f k s : Nat} (h : t.length ≤ k) : mkR a t f k s = fl t s t.length := by
  cases f with
  | zero => rfl
  | succ f => unfold mkR; rw [if_neg (by omega)]
theorem mkR_zero {a t : List UInt8} {f k s : Nat} (h : k < t.length) (h0 : (bst a (t.drop k)).2 = 0) : mkR a t (f + 1) k s = mkR a t f (k + 1) s := by
  conv => lhs; unfold mkR
  rw [if_pos h, if_pos h0]
theorem mkR_copy {a t : List UInt8} {f k s : Nat} (h : k < t.length) (h0 : (bst a (t.drop k)).2 ≠ 0) : mkR a t (f + 1) k s = fl t s k ++ [⟨true, ((bst a (t.drop k)).1 : Int), ((bst a (t.drop k)).2 : Int), []⟩] ++ mkR a t f (k + (bst a (t.drop k)).2) (k + (bst a (t.drop k)).2) := by
  conv => lhs; unfold mkR
  rw [if_pos h, if_neg h0]
def MKI (a t : List UInt8) (k s : Nat) (ops : List OP) : Prop := ∃ f, t.length - k ≤ f ∧ ops.map OP.v ++ mkR a t f k s = mkV a t
theorem MKI.start (a t : List UInt8) : MKI a t 0 0 [] := ⟨t.length, by omega, rfl⟩
theorem MKI.zero {a t : List UInt8} {k s : Nat} {ops : List OP} (h : MKI a t k s ops) (hk : k < t.length) (h0 : (bst a (t.drop k)).2 = 0) : MKI a t (k + 1) s ops := by
  obtain ⟨f, h1, h2⟩ := h
  obtain ⟨g, rfl⟩ : ∃ g, f = g + 1 := ⟨f - 1, by omega⟩
  rw [mkR_zero hk h0] at h2
  exact ⟨g, by omega, h2⟩
theorem MKI.copy {a t : List UInt8} {k s : Nat} {ops ops' : List OP} (h : MKI a t k s ops) (hk : k < t.length) (h0 : (bst a (t.drop k)).2 ≠ 0) (ho : ops'.map OP.v = ops.map OP.v ++ fl t s k ++ [⟨true, ((bst a (t.drop k)).1 : Int), ((bst a (t.drop k)).2 : Int), []⟩]) :
    MKI a t (k + (bst a (t.drop k)).2) (k + (bst a (t.drop k)).2) ops' := by
  obtain ⟨f, h1, h2⟩ := h
  obtain ⟨g, rfl⟩ : ∃ g, f = g + 1 := ⟨f - 1, by omega⟩
  rw [mkR_copy hk h0] at h2
  refine ⟨g, by omega, ?_⟩
  rw [ho, ← h2]
  simp only [List.append_assoc]
theorem MKI.done {a t : List UInt8} {k s : Nat} {ops ops' : List OP} (h : MKI a t k s ops) (hk : t.length ≤ k) (ho : ops'.map OP.v = ops.map OP.v ++ fl t s t.length) : ops'.map OP.v = mkV a t := by
  obtain ⟨f, h1, h2⟩ := h
  rw [mkR_end hk] at h2
  rw [ho, h2]
theorem okO_of {w : World} {ops : List OP} {ps : List Part} (h : InP ops ps) (hf : (fam (ps.map partR)).holds w) : OkO w ops := fun o ho => by
  rcases h o ho with h1 | h1
  · rw [h1]; exact Rs.nil w 1
  · exact hf.1 (partR o.p) (List.mem_map.2 ⟨_, h1, rfl⟩)
end Go.Proofs.YtgaklngnfecdaaaGreat.Del
namespace Go.Proofs.YtgaklngnfecdaaaGreat.Del
open Go.RowKit Zk Zx
end Go.Proofs.YtgaklngnfecdaaaGreat.Del
namespace Go.Proofs.YtgaklngnfecdaaaGreat.Del
open Go.RowKit Zk Zx
end Go.Proofs.YtgaklngnfecdaaaGreat.Del
namespace Go.Proofs.YtgaklngnfecdaaaGreat.Del
open Go.RowKit Zk Zx
end Go.Proofs.YtgaklngnfecdaaaGreat.Del
namespace Go.Proofs.YtgaklngnfecdaaaGreat.Del
open Go.RowKit Zk Zx
def layV (a : List UInt8) (o : OV) : List UInt8 := if o.cp then (a.drop o.fr.toNat).take o.n.toNat else o.l
def aplV (a : List UInt8) (l : List OV) : List UInt8 := l.flatMap (layV a)
def aplR (a : List UInt8) (b t : Int) (l : List OV) : List UInt8 × Int := if errV b t l ≠ 0 then ([], errV b t l) else if (a.length : Int) ≠ b then ([], 21) else (aplV a l, 0)
theorem aplR_err {a : List UInt8} {b t : Int} {l : List OV} (h : errV b t l ≠ 0) : aplR a b t l = ([], errV b t l) := by unfold aplR; rw [if_pos h]
theorem aplR_base {a : List UInt8} {b t : Int} {l : List OV} (h : errV b t l = 0) (h2 : (a.length : Int) ≠ b) : aplR a b t l = ([], 21) := by unfold aplR; rw [if_neg (fun h3 => h3 h), if_pos h2]
theorem aplR_ok {a : List UInt8} {b t : Int} {l : List OV} (h : errV b t l = 0) (h2 : (a.length : Int) = b) : aplR a b t l = (aplV a l, 0) := by unfold aplR; rw [if_neg (fun h3 => h3 h), if_neg (fun h3 => h3 h2)]
theorem errV_zero {b t : Int} {l : List OV} (h : errV b t l = 0) : (0 ≤ b ∧ b ≤ 4000 ∧ 0 ≤ t ∧ t ≤ 4000) ∧ chkL b t l = true := by
  unfold errV at h
  split at h
  · rename_i h1
    unfold chkV at h1
    rw [Bool.and_eq_true] at h1
    exact ⟨of_decide_eq_true h1.1, h1.2⟩
  · cases h
theorem chkL_next {b left : Int} {l : List OP} {k : Nat} {o : OP} (ho : l[k]? = some o) (h : chkL b left ((l.map OP.v).drop k) = true) : rtV b o.v = true ∧ szV o.v ≤ left ∧ chkL b (left - szV o.v) ((l.map OP.v).drop (k + 1)) = true := by
  rw [drop_at' (map_at ho)] at h
  unfold chkL at h
  rw [Bool.and_eq_true, Bool.and_eq_true] at h
  exact ⟨h.1.1, of_decide_eq_true h.1.2, h.2⟩
theorem rt_cp {b : Int} {o : OP} (h : rtV b o.v = true) (hc : o.cp = true) : 1 ≤ o.n ∧ o.n ≤ b ∧ 0 ≤ o.fr ∧ o.fr ≤ b - o.n ∧ szV o.v = o.n := by
  unfold rtV at h
  rw [if_pos (show o.v.cp = true from hc)] at h
  simp only [Bool.and_eq_true, decide_eq_true_eq] at h
  exact ⟨h.1.1.1.1, h.1.1.1.2, h.1.1.2, h.1.2, by unfold szV; rw [if_pos (show o.v.cp = true from hc)]; rfl⟩
theorem rt_new {b : Int} {o : OP} (h : rtV b o.v = true) (hc : o.cp = false) : 1 ≤ o.p.l.length ∧ szV o.v = (o.p.l.length : Int) := by
  unfold rtV at h
  rw [if_neg (show ¬ o.v.cp = true from by rw [show o.v.cp = o.cp from rfl, hc]; exact Bool.false_ne_true)] at h
  simp only [Bool.and_eq_true, decide_eq_true_eq] at h
  exact ⟨h.1.1, by unfold szV; rw [if_neg (show ¬ o.v.cp = true from by rw [show o.v.cp = o.cp from rfl, hc]; exact Bool.false_ne_true)]; rfl⟩
theorem aplV_step {a : List UInt8} {l : List OP} {k : Nat} {o : OP} (ho : l[k]? = some o) : aplV a ((l.take (k + 1)).map OP.v) = aplV a ((l.take k).map OP.v) ++ layV a o.v := by
  rw [take1 ho, List.map_append]
  unfold aplV
  rw [List.flatMap_append]
  simp
theorem lay_cp {a : List UInt8} {o : OP} (hc : o.cp = true) : layV a o.v = (a.drop o.fr.toNat).take (o.fr.toNat + o.n.toNat - o.fr.toNat) := by
  unfold layV
  rw [if_pos (show o.v.cp = true from hc), Nat.add_sub_cancel_left]
  rfl
theorem lay_new {a : List UInt8} {o : OP} (hc : o.cp = false) : layV a o.v = o.p.l := by
  unfold layV
  rw [if_neg (show ¬ o.v.cp = true from by rw [show o.v.cp = o.cp from rfl, hc]; exact Bool.false_ne_true)]
  rfl
theorem bL_app' (l m : List UInt8) : bL l ++ bL m = bL (l ++ m) := by simp [bL]
theorem papply (A : Option Addr) (n c : Nat) (a : List UInt8) (B : Option Addr) (m d : Nat) (l : List OP) (b t : Int) (w0 : World) (ha : Rs w0 1 A n c (bL a)) (hl : Rs w0 4 B m d (l.flatMap opf)) (hok : OkO w0 l) :
    Calls Tryz.prog 99 #[.slice A n c, .agg (scA b t B m d)] w0 fun e w' => ∃ u, e = .returned u ∧ Like w0 w' ∧ ∃ A' c', u = .tuple #[.slice A' (aplR a b t (l.map OP.v)).1.length c', .int .i64 (aplR a b t (l.map OP.v)).2] ∧ w'.ownsRow w0.heap.size 5 1 (.slice A' (aplR a b t (l.map OP.v)).1.length c') (aplR a b t (l.map OP.v)).1.length (bL (aplR a b t (l.map OP.v)).1) := by
 refine enter1 (env := [(0, .slice A n c), (1, .agg (scA b t B m d))]) [.slice A n c, .agg (scA b t B m d)] Tryz.func99 rfl Tryz.ntmps99 rfl rfl ?_; have hm := ops_n hl; have hcapm := hl.cap; have hmaxm := hl.max; have hn := ha.lenb; have hcap := ha.cap; have hmax := ha.max; have S0 := St.start w0 noM; refine T_seq fun K1 hK1 => T_region (L_o (o_box rfl S0 rfl fun b1 w1 hb1 S1 => L_y (y_assign rfl) rfl (L_y (y_assign rfl) rfl (L_nil (hK1 _ _ (T_seq fun K2 hK2 => T_seq fun K3 hK3 => T_region (L_y (y_ldW Tryz.underlying179 rfl sz179 rfl (S1.blk 0 rfl) (show _ = (scA b t B m d).toList ∧ _ from ⟨rfl, rfl⟩)) rfl (L_o (o_call Tryz.func134 rfl rfl (pcheck B m d l b t w1 (S1.rd hl) (hok.like S1.like0)) rfl rfl ?_))))))))); rintro e2 w2 ⟨v2, rfl, l2, rfl⟩; refine ⟨_, rfl, (have S2 := S1.like l2; L_y (y_assign rfl) rfl (L_nil (hK3 _ _ (T_seq fun K4 hK4 => T_region (L_y (y_move rfl) rfl (L_y (y_neq rfl rfl) rfl (L_nil (hK4 _ _ ?_))))))))⟩; refine T_cond rfl (fun h13 => ?_) (fun h13 => ?_)
 ·
  refine T_seq fun K5 hK5 => T_region (L_y (y_move rfl) rfl (L_y (y_assign rfl) rfl (L_y (y_assign rfl) rfl (L_nil (hK5 _ _ (T_ret (ur (ret2 rfl rfl rfl ?_)))))))); first | exact ⟨_, rfl, S2.like0, none, 0, by rw [aplR_err h13]; rfl, by rw [aplR_err h13]; exact World.ownsRow_nil _ _ _ _⟩ | exact ⟨_, rfl, S2.like0, none, 0, by rw [aplR_base h130 (by omega)]; rfl, by rw [aplR_base h130 (by omega)]; exact World.ownsRow_nil _ _ _ _⟩ | (have hke : k = m := by omega); subst hke; rw [List.take_of_length_le (by omega)] at hout; exact ⟨_, rfl, S2.like0, A1, c1, by rw [aplR_ok h130 (by omega), ← hout], by rw [aplR_ok h130 (by omega), ← hout]; exact S2.own 1 rfl⟩
 ·
  have h130 := Decidable.byContradiction h13; obtain ⟨hrg, hall⟩ := errV_zero h130; refine T_skip (hK2 _ _ (T_seq fun K6 hK6 => T_seq fun K7 hK7 => T_region (L_y (y_move rfl) rfl (L_y (y_len Tryz.underlying22 rfl) rfl (L_y (y_fieldA 0 Tryz.underlying179 rfl sz3 rfl rfl rfl) rfl (L_y (y_ldc Tryz.underlying3 rfl rfl (((S2.blk 0 rfl).cell _).trans (by rfl))) rfl ?_)))))); refine L_y (y_neq rfl rfl) rfl (L_nil (hK7 _ _ ?_)); refine T_cond rfl (fun h19 => ?_) (fun h19 => ?_)
  ·
   refine T_seq fun K8 hK8 => T_region (L_y (y_assign rfl) rfl (L_y (y_assign rfl) rfl (L_nil (hK8 _ _ (T_ret (ur (ret2 rfl rfl rfl ?_))))))); first | exact ⟨_, rfl, S2.like0, none, 0, by rw [aplR_err h13]; rfl, by rw [aplR_err h13]; exact World.ownsRow_nil _ _ _ _⟩ | exact ⟨_, rfl, S2.like0, none, 0, by rw [aplR_base h130 (by omega)]; rfl, by rw [aplR_base h130 (by omega)]; exact World.ownsRow_nil _ _ _ _⟩ | (have hke : k = m := by omega); subst hke; rw [List.take_of_length_le (by omega)] at hout; exact ⟨_, rfl, S2.like0, A1, c1, by rw [aplR_ok h130 (by omega), ← hout], by rw [aplR_ok h130 (by omega), ← hout]; exact S2.own 1 rfl⟩
  ·
   refine T_skip (hK6 _ _ (T_seq fun K9 hK9 => T_region (L_y (y_fieldA 1 Tryz.underlying179 rfl sz3 rfl rfl rfl) rfl (L_y (y_ldc Tryz.underlying3 rfl rfl (((S2.blk 0 rfl).cell _).trans (by rfl))) rfl ?_)))); refine L_o (o_make te22 rfl S2 rfl rfl inferInstance (Nt.mk (by omega) : Nt _ t.toNat) rfl (by omega) (by omega) (by omega) fun b3 w3 S3 => L_y (y_assign rfl) rfl (L_nil (hK9 _ _ (T_seq fun K10 hK10 => T_seq fun K11 hK11 => T_region (L_y (y_fieldA 2 Tryz.underlying179 rfl sz177 rfl rfl rfl) rfl (L_y (y_ldc Tryz.underlying177 rfl rfl (((S3.blk 0 rfl).cell _).trans (by rfl))) rfl ?_)))))); refine L_y (y_len Tryz.underlying177 rfl) rfl (L_y (y_move rfl) rfl (L_nil (hK11 _ _ (T_block ?_)))); refine T_loop4 [(0, _), (24, _), (25, _)] (fun (k : Nat) (out : List UInt8) (A1 : Option Addr) (c1 : Nat) => [(26, .int .i64 (k : Int)), (7, .slice A1 out.length c1)]) (fun (k : Nat) (out : List UInt8) (A1 : Option Addr) (c1 : Nat) => m - k) (fun (k : Nat) (out : List UInt8) (A1 : Option Addr) (c1 : Nat) (w : World) => (k ≤ m ∧ out = aplV a ((l.take k).map OP.v) ∧ (out.length : Int) ≤ t ∧ chkL b (t - (out.length : Int)) ((l.map OP.v).drop k) = true) ∧ St w0 noM [blk b1 179 (scA b t B m d), row 5 1 A1 out.length c1 (bL out)] w) 0 [] (some ⟨b3, 0, none⟩) t.toNat (Sub.cons rfl (by first | rfl | exact congrArg (Value.int _) (by omega)) (Sub.cons rfl (by first | rfl | exact congrArg (Value.int _) (by omega)) (Sub.nil _))) (Sub.cons rfl rfl (Sub.cons rfl rfl (Sub.cons rfl rfl (Sub.nil _)))) ?_ ?_
   ·
    exact ⟨⟨Nat.zero_le _, rfl, by show (0 : Int) ≤ t; omega, by show chkL b (t - 0) _ = true; rw [Int.sub_zero]; exact hall⟩, S3⟩
   ·
    intro k out A1 c1 w4 hrel; obtain ⟨⟨hk, hout, hol, hch⟩, S4⟩ := hrel; refine T_seq fun K12 hK12 => T_region (L_y (y_lss rfl rfl) rfl (L_nil (hK12 _ _ (T_seq fun K13 hK13 => ?_)))); refine T_cond rfl (fun h27 => ?_) (fun h27 => ?_)
    ·
     obtain ⟨o, ho⟩ : ∃ o, l[k]? = some o := ⟨_, List.getElem?_eq_getElem (by omega)⟩; have hop := hok o (List.mem_of_getElem? ho); have hopn := hop.lenb; have hopc := hop.cap; have hopm := hop.max; obtain ⟨hrt, hsz, hrest⟩ := chkL_next ho hch; refine T_skip (hK13 _ _ (T_seq fun K14 hK14 => T_block (T_seq fun K15 hK15 => T_region (L_y (y_idx Tryz.underlying177 sz221 rfl rfl (S4.rd hl) (Nt.mk (by omega) : Nt _ (k)) (by omega)) rfl (L_y (y_ldp (f := opf) opf_len Tryz.underlying221 rfl sz221 rfl (S4.rd hl) (by omega) ho) rfl (L_o (o_alloc zz221 S4 rfl fun b5 w5 hb5 S5 => L_o (o_stW S5 2 rfl rfl rfl sz221 rfl (opf_one o) fun w6 S6 => L_nil (hK15 _ _ (T_seq fun K16 hK16 => T_region ?_)))))))))); refine L_y (y_fieldA 0 Tryz.underlying221 rfl sz4 rfl rfl rfl) rfl (L_y (y_ldc Tryz.underlying4 rfl rfl (((S6.blk 2 rfl).cell _).trans (by rfl))) rfl ?_); refine L_nil (hK16 _ _ ?_); refine T_condB rfl (fun h31 => ?_) (fun h31 => ?_)
     ·
      have hcp : o.cp = true := h31; obtain ⟨g1, g2, g3, g4, g5⟩ := rt_cp hrt hcp; refine T_region (L_y (y_move rfl) rfl (L_y (y_move rfl) rfl (L_y (y_fieldA 1 Tryz.underlying221 rfl sz3 rfl rfl rfl) rfl (L_y (y_ldc Tryz.underlying3 rfl rfl (((S6.blk 2 rfl).cell _).trans (by rfl))) rfl ?_)))); refine L_y (y_fieldA 1 Tryz.underlying221 rfl sz3 rfl rfl rfl) rfl (L_y (y_ldc Tryz.underlying3 rfl rfl (((S6.blk 2 rfl).cell _).trans (by rfl))) rfl ?_); refine L_y (y_fieldA 2 Tryz.underlying221 rfl sz3 rfl rfl rfl) rfl (L_y (y_ldc Tryz.underlying3 rfl rfl (((S6.blk 2 rfl).cell _).trans (by rfl))) rfl ?_); refine L_y (y_add rfl rfl (i64w (by omega))) rfl (L_y (y_slice Tryz.underlying22 sz5 rfl rfl rfl (Nt.mk (by omega) : Nt _ (o.fr.toNat)) (Nt.mk (by omega) : Nt _ (o.fr.toNat + o.n.toNat)) (by omega) (by omega)) rfl (L_o (o_app te22 S6 1 rfl rfl rfl (cut_mid (S6.rd ha) (k := o.fr.toNat) (u := o.fr.toNat + o.n.toNat) (by omega) (by omega)) (bL_one _) rfl (by omega) (by omega) fun A7 c7 w7 S7 => L_y (y_assign rfl) rfl (L_nil (hK14 _ _ (T_region (L_y (y_add rfl rfl (i64w (by omega))) rfl (L_y (y_move rfl) rfl (L_nil ?_))))))))); have hpl : ((a.drop o.fr.toNat).take (o.fr.toNat + o.n.toNat - o.fr.toNat)).length = o.n.toNat := by rw [List.length_take, List.length_drop]; omega
      have S91 := S7.rowc 1 rfl (n' := (out ++ ((a.drop o.fr.toNat).take (o.fr.toNat + o.n.toNat - o.fr.toNat))).length) (xs' := bL (out ++ ((a.drop o.fr.toNat).take (o.fr.toNat + o.n.toNat - o.fr.toNat)))) (by rw [List.length_append]; omega) (bL_app' _ _); have S92 := S91.sel [0, 1] (by decide); refine ⟨k + 1, out ++ ((a.drop o.fr.toNat).take (o.fr.toNat + o.n.toNat - o.fr.toNat)), A7, c7, by omega, ⟨⟨by omega, by rw [hout, aplV_step ho, lay_cp hcp], by rw [List.length_append]; omega, by rw [List.length_append, show t - ((out.length + ((a.drop o.fr.toNat).take (o.fr.toNat + o.n.toNat - o.fr.toNat)).length : Nat) : Int) = t - (out.length : Int) - szV o.v by omega]; exact hrest⟩, S92⟩, ?_⟩; exact (Sub.cons rfl (by first | rfl | exact congrArg (Value.int _) (by omega)) (Sub.cons rfl (by first | rfl | (rw [List.length_append]; congr 1; omega)) (Sub.cons rfl rfl (Sub.cons rfl rfl (Sub.cons rfl rfl (Sub.nil _))))))
     ·
      have hcp : o.cp = false := h31; obtain ⟨g1, g2⟩ := rt_new hrt hcp; refine T_region (L_y (y_move rfl) rfl (L_y (y_fieldA 3 Tryz.underlying221 rfl sz22 rfl rfl rfl) rfl (L_y (y_ldc Tryz.underlying22 rfl rfl (((S6.blk 2 rfl).cell _).trans (by rfl))) rfl ?_))); refine L_o (o_app te22 S6 1 rfl rfl rfl (S6.rd hop) (bL_one _) rfl (by omega) (by omega) fun A8 c8 w8 S8 => L_y (y_assign rfl) rfl (L_nil (hK14 _ _ (T_region (L_y (y_add rfl rfl (i64w (by omega))) rfl (L_y (y_move rfl) rfl (L_nil ?_))))))); have hpl : o.p.l.length = o.p.n := hop.lenb; have S91 := S8.rowc 1 rfl (n' := (out ++ o.p.l).length) (xs' := bL (out ++ o.p.l)) (by rw [List.length_append]; omega) (bL_app' _ _); have S92 := S91.sel [0, 1] (by decide); refine ⟨k + 1, out ++ o.p.l, A8, c8, by omega, ⟨⟨by omega, by rw [hout, aplV_step ho, lay_new hcp], by rw [List.length_append]; omega, by rw [List.length_append, show t - ((out.length + o.p.l.length : Nat) : Int) = t - (out.length : Int) - szV o.v by omega]; exact hrest⟩, S92⟩, ?_⟩; exact (Sub.cons rfl (by first | rfl | exact congrArg (Value.int _) (by omega)) (Sub.cons rfl (by first | rfl | (rw [List.length_append]; congr 1; omega)) (Sub.cons rfl rfl (Sub.cons rfl rfl (Sub.cons rfl rfl (Sub.nil _))))))
    ·
     refine T_exit (hK10 _ _ (T_seq fun K17 hK17 => T_region (L_y (y_move rfl) rfl (L_y (y_assign rfl) rfl (L_y (y_assign rfl) rfl (L_nil (hK17 _ _ (T_ret (ur (ret2 rfl rfl rfl ?_)))))))))); first | exact ⟨_, rfl, S4.like0, none, 0, by rw [aplR_err h13]; rfl, by rw [aplR_err h13]; exact World.ownsRow_nil _ _ _ _⟩ | exact ⟨_, rfl, S4.like0, none, 0, by rw [aplR_base h130 (by omega)]; rfl, by rw [aplR_base h130 (by omega)]; exact World.ownsRow_nil _ _ _ _⟩ | (have hke : k = m := by omega); subst hke; rw [List.take_of_length_le (by omega)] at hout; exact ⟨_, rfl, S4.like0, A1, c1, by rw [aplR_ok h130 (by omega), ← hout], by rw [aplR_ok h130 (by omega), ← hout]; exact S4.own 1 rfl⟩
theorem rapply (A : Option Addr) (n c : Nat) (a : List UInt8) (B : Option Addr) (m d : Nat) (l : List OP) (b t : Int) (w0 : World) (ha : Rs w0 1 A n c (bL a)) (hl : Rs w0 4 B m d (l.flatMap opf)) (hok : OkO w0 l) :
    Calls Tryz.prog 70 #[.slice A n c, .agg (scA b t B m d)] w0 fun e w' => ∃ u, e = .returned u ∧ Like w0 w' ∧ ∃ A' c', u = .tuple #[.slice A' (aplR a b t (l.map OP.v)).1.length c', .int .i64 (aplR a b t (l.map OP.v)).2] ∧ w'.ownsRow w0.heap.size 5 1 (.slice A' (aplR a b t (l.map OP.v)).1.length c') (aplR a b t (l.map OP.v)).1.length (bL (aplR a b t (l.map OP.v)).1) := by
 refine enter1 (env := [(0, .slice A n c), (1, .agg (scA b t B m d))]) [.slice A n c, .agg (scA b t B m d)] Tryz.func70 rfl Tryz.ntmps70 rfl rfl ?_; have hm := ops_n hl; have hcapm := hl.cap; have hmaxm := hl.max; have hn := ha.lenb; have hcap := ha.cap; have hmax := ha.max; have S0 := St.start w0 noM; refine T_seq fun K1 hK1 => T_region (L_o (o_box rfl S0 rfl fun b1 w1 hb1 S1 => L_y (y_assign rfl) rfl (L_y (y_assign rfl) rfl (L_nil (hK1 _ _ (T_seq fun K2 hK2 => T_region (L_y (y_ldW Tryz.underlying137 rfl sz137 rfl (S1.blk 0 rfl) (show _ = (scA b t B m d).toList ∧ _ from ⟨rfl, rfl⟩)) rfl (L_o (o_call Tryz.func103 rfl rfl (rcheck B m d l b t w1 (S1.rd hl) (hok.like S1.like0)) rfl rfl ?_))))))))); rintro e2 w2 ⟨v2, rfl, l2, rfl⟩; refine ⟨_, rfl, (have S2 := S1.like l2; L_y (y_assign rfl) rfl (L_nil (hK2 _ _ (T_seq fun K3 hK3 => T_seq fun K4 hK4 => T_region (L_y (y_move rfl) rfl (L_y (y_neq rfl rfl) rfl (L_nil (hK4 _ _ ?_))))))))⟩; refine T_cond rfl (fun h13 => ?_) (fun h13 => ?_)
 ·
  refine T_seq fun K5 hK5 => T_region (L_y (y_move rfl) rfl (L_y (y_assign rfl) rfl (L_y (y_assign rfl) rfl (L_nil (hK5 _ _ (T_ret (ur (ret2 rfl rfl rfl ?_)))))))); first | exact ⟨_, rfl, S2.like0, none, 0, by rw [aplR_err h13]; rfl, by rw [aplR_err h13]; exact World.ownsRow_nil _ _ _ _⟩ | exact ⟨_, rfl, S2.like0, none, 0, by rw [aplR_base h130 (by omega)]; rfl, by rw [aplR_base h130 (by omega)]; exact World.ownsRow_nil _ _ _ _⟩ | (have hke : k = m := by omega); subst hke; rw [List.take_of_length_le (by omega)] at hout; exact ⟨_, rfl, S2.like0, A1, c1, by rw [aplR_ok h130 (by omega), ← hout], by rw [aplR_ok h130 (by omega), ← hout]; exact S2.own 1 rfl⟩
 ·
  have h130 := Decidable.byContradiction h13; obtain ⟨hrg, hall⟩ := errV_zero h130; refine T_skip (hK3 _ _ (T_seq fun K6 hK6 => T_seq fun K7 hK7 => T_region (L_y (y_move rfl) rfl (L_y (y_len Tryz.underlying22 rfl) rfl (L_y (y_fieldA 0 Tryz.underlying137 rfl sz3 rfl rfl rfl) rfl (L_y (y_ldc Tryz.underlying3 rfl rfl (((S2.blk 0 rfl).cell _).trans (by rfl))) rfl ?_)))))); refine L_y (y_neq rfl rfl) rfl (L_nil (hK7 _ _ ?_)); refine T_cond rfl (fun h19 => ?_) (fun h19 => ?_)
  ·
   refine T_seq fun K8 hK8 => T_region (L_y (y_assign rfl) rfl (L_y (y_assign rfl) rfl (L_nil (hK8 _ _ (T_ret (ur (ret2 rfl rfl rfl ?_))))))); first | exact ⟨_, rfl, S2.like0, none, 0, by rw [aplR_err h13]; rfl, by rw [aplR_err h13]; exact World.ownsRow_nil _ _ _ _⟩ | exact ⟨_, rfl, S2.like0, none, 0, by rw [aplR_base h130 (by omega)]; rfl, by rw [aplR_base h130 (by omega)]; exact World.ownsRow_nil _ _ _ _⟩ | (have hke : k = m := by omega); subst hke; rw [List.take_of_length_le (by omega)] at hout; exact ⟨_, rfl, S2.like0, A1, c1, by rw [aplR_ok h130 (by omega), ← hout], by rw [aplR_ok h130 (by omega), ← hout]; exact S2.own 1 rfl⟩
  ·
   refine T_skip (hK6 _ _ (T_seq fun K9 hK9 => T_region (have S3 := S2.nilrow 5 1; L_y (y_assign rfl) rfl (L_nil (hK9 _ _ (T_seq fun K10 hK10 => T_seq fun K11 hK11 => T_region (L_y (y_assign rfl) rfl (L_nil (hK11 _ _ ?_))))))))); refine T_block ?_; refine T_loop4 [(0, _), (3, _)] (fun (k : Nat) (out : List UInt8) (A1 : Option Addr) (c1 : Nat) => [(8, .int .i64 (k : Int)), (7, .slice A1 out.length c1)]) (fun (k : Nat) (out : List UInt8) (A1 : Option Addr) (c1 : Nat) => m - k) (fun (k : Nat) (out : List UInt8) (A1 : Option Addr) (c1 : Nat) (w : World) => (k ≤ m ∧ out = aplV a ((l.take k).map OP.v) ∧ (out.length : Int) ≤ t ∧ chkL b (t - (out.length : Int)) ((l.map OP.v).drop k) = true) ∧ St w0 noM [blk b1 137 (scA b t B m d), row 5 1 A1 out.length c1 (bL out)] w) 0 [] none 0 (Sub.cons rfl (by first | rfl | exact congrArg (Value.int _) (by omega)) (Sub.cons rfl (by first | rfl | exact congrArg (Value.int _) (by omega)) (Sub.nil _))) (Sub.cons rfl rfl (Sub.cons rfl rfl (Sub.nil _))) ?_ ?_
   ·
    exact ⟨⟨Nat.zero_le _, rfl, by show (0 : Int) ≤ t; omega, by show chkL b (t - 0) _ = true; rw [Int.sub_zero]; exact hall⟩, S3⟩
   ·
    intro k out A1 c1 w4 hrel; obtain ⟨⟨hk, hout, hol, hch⟩, S4⟩ := hrel; refine T_seq fun K12 hK12 => T_seq fun K13 hK13 => T_region (L_y (y_move rfl) rfl (L_y (y_fieldA 2 Tryz.underlying137 rfl sz135 rfl rfl rfl) rfl (L_y (y_ldc Tryz.underlying135 rfl rfl (((S4.blk 0 rfl).cell _).trans (by rfl))) rfl ?_))); refine L_y (y_len Tryz.underlying135 rfl) rfl (L_y (y_lss rfl rfl) rfl (L_nil (hK13 _ _ ?_))); refine T_cond rfl (fun h24 => ?_) (fun h24 => ?_)
    ·
     obtain ⟨o, ho⟩ : ∃ o, l[k]? = some o := ⟨_, List.getElem?_eq_getElem (by omega)⟩; have hop := hok o (List.mem_of_getElem? ho); have hopn := hop.lenb; have hopc := hop.cap; have hopm := hop.max; obtain ⟨hrt, hsz, hrest⟩ := chkL_next ho hch; refine T_skip (hK12 _ _ (T_seq fun K14 hK14 => T_block (T_seq fun K15 hK15 => T_region (L_y (y_fieldA 2 Tryz.underlying137 rfl sz135 rfl rfl rfl) rfl (L_y (y_ldc Tryz.underlying135 rfl rfl (((S4.blk 0 rfl).cell _).trans (by rfl))) rfl ?_))))); refine L_y (y_move rfl) rfl (L_y (y_idx Tryz.underlying135 sz190 rfl rfl (S4.rd hl) (Nt.mk (by omega) : Nt _ (k)) (by omega)) rfl (L_y (y_ldp (f := opf) opf_len Tryz.underlying190 rfl sz190 rfl (S4.rd hl) (by omega) ho) rfl (L_o (o_alloc zz190 S4 rfl fun b5 w5 hb5 S5 => L_o (o_stW S5 2 rfl rfl rfl sz190 rfl (opf_one o) fun w6 S6 => L_nil (hK15 _ _ (T_seq fun K16 hK16 => T_region (L_y (y_fieldA 0 Tryz.underlying190 rfl sz4 rfl rfl rfl) rfl (L_y (y_ldc Tryz.underlying4 rfl rfl (((S6.blk 2 rfl).cell _).trans (by rfl))) rfl ?_))))))))); refine L_nil (hK16 _ _ ?_); refine T_condB rfl (fun h33 => ?_) (fun h33 => ?_)
     ·
      have hcp : o.cp = true := h33; obtain ⟨g1, g2, g3, g4, g5⟩ := rt_cp hrt hcp; refine T_region (L_y (y_move rfl) rfl (L_y (y_move rfl) rfl (L_y (y_fieldA 1 Tryz.underlying190 rfl sz3 rfl rfl rfl) rfl (L_y (y_ldc Tryz.underlying3 rfl rfl (((S6.blk 2 rfl).cell _).trans (by rfl))) rfl ?_)))); refine L_y (y_fieldA 1 Tryz.underlying190 rfl sz3 rfl rfl rfl) rfl (L_y (y_ldc Tryz.underlying3 rfl rfl (((S6.blk 2 rfl).cell _).trans (by rfl))) rfl ?_); refine L_y (y_fieldA 2 Tryz.underlying190 rfl sz3 rfl rfl rfl) rfl (L_y (y_ldc Tryz.underlying3 rfl rfl (((S6.blk 2 rfl).cell _).trans (by rfl))) rfl ?_); refine L_y (y_add rfl rfl (i64w (by omega))) rfl (L_y (y_slice Tryz.underlying22 sz5 rfl rfl rfl (Nt.mk (by omega) : Nt _ (o.fr.toNat)) (Nt.mk (by omega) : Nt _ (o.fr.toNat + o.n.toNat)) (by omega) (by omega)) rfl (L_o (o_app te22 S6 1 rfl rfl rfl (cut_mid (S6.rd ha) (k := o.fr.toNat) (u := o.fr.toNat + o.n.toNat) (by omega) (by omega)) (bL_one _) rfl (by omega) (by omega) fun A7 c7 w7 S7 => L_y (y_assign rfl) rfl (L_nil (hK14 _ _ (T_region (L_y (y_move rfl) rfl (L_y (y_add rfl rfl (i64w (by omega))) rfl (L_y (y_assign rfl) rfl (L_nil ?_)))))))))); have hpl : ((a.drop o.fr.toNat).take (o.fr.toNat + o.n.toNat - o.fr.toNat)).length = o.n.toNat := by rw [List.length_take, List.length_drop]; omega
      have S91 := S7.rowc 1 rfl (n' := (out ++ ((a.drop o.fr.toNat).take (o.fr.toNat + o.n.toNat - o.fr.toNat))).length) (xs' := bL (out ++ ((a.drop o.fr.toNat).take (o.fr.toNat + o.n.toNat - o.fr.toNat)))) (by rw [List.length_append]; omega) (bL_app' _ _); have S92 := S91.sel [0, 1] (by decide); refine ⟨k + 1, out ++ ((a.drop o.fr.toNat).take (o.fr.toNat + o.n.toNat - o.fr.toNat)), A7, c7, by omega, ⟨⟨by omega, by rw [hout, aplV_step ho, lay_cp hcp], by rw [List.length_append]; omega, by rw [List.length_append, show t - ((out.length + ((a.drop o.fr.toNat).take (o.fr.toNat + o.n.toNat - o.fr.toNat)).length : Nat) : Int) = t - (out.length : Int) - szV o.v by omega]; exact hrest⟩, S92⟩, ?_⟩; exact (Sub.cons rfl (by first | rfl | exact congrArg (Value.int _) (by omega)) (Sub.cons rfl (by first | rfl | (rw [List.length_append]; congr 1; omega)) (Sub.cons rfl rfl (Sub.cons rfl rfl (Sub.nil _)))))
     ·
      have hcp : o.cp = false := h33; obtain ⟨g1, g2⟩ := rt_new hrt hcp; refine T_region (L_y (y_move rfl) rfl (L_y (y_fieldA 3 Tryz.underlying190 rfl sz22 rfl rfl rfl) rfl (L_y (y_ldc Tryz.underlying22 rfl rfl (((S6.blk 2 rfl).cell _).trans (by rfl))) rfl ?_))); refine L_o (o_app te22 S6 1 rfl rfl rfl (S6.rd hop) (bL_one _) rfl (by omega) (by omega) fun A8 c8 w8 S8 => L_y (y_assign rfl) rfl (L_nil (hK14 _ _ (T_region (L_y (y_move rfl) rfl (L_y (y_add rfl rfl (i64w (by omega))) rfl (L_y (y_assign rfl) rfl (L_nil ?_)))))))); have hpl : o.p.l.length = o.p.n := hop.lenb; have S91 := S8.rowc 1 rfl (n' := (out ++ o.p.l).length) (xs' := bL (out ++ o.p.l)) (by rw [List.length_append]; omega) (bL_app' _ _); have S92 := S91.sel [0, 1] (by decide); refine ⟨k + 1, out ++ o.p.l, A8, c8, by omega, ⟨⟨by omega, by rw [hout, aplV_step ho, lay_new hcp], by rw [List.length_append]; omega, by rw [List.length_append, show t - ((out.length + o.p.l.length : Nat) : Int) = t - (out.length : Int) - szV o.v by omega]; exact hrest⟩, S92⟩, ?_⟩; exact (Sub.cons rfl (by first | rfl | exact congrArg (Value.int _) (by omega)) (Sub.cons rfl (by first | rfl | (rw [List.length_append]; congr 1; omega)) (Sub.cons rfl rfl (Sub.cons rfl rfl (Sub.nil _)))))
    ·
     refine T_exit (hK10 _ _ (T_seq fun K17 hK17 => T_region (L_y (y_move rfl) rfl (L_y (y_assign rfl) rfl (L_y (y_assign rfl) rfl (L_nil (hK17 _ _ (T_ret (ur (ret2 rfl rfl rfl ?_)))))))))); first | exact ⟨_, rfl, S4.like0, none, 0, by rw [aplR_err h13]; rfl, by rw [aplR_err h13]; exact World.ownsRow_nil _ _ _ _⟩ | exact ⟨_, rfl, S4.like0, none, 0, by rw [aplR_base h130 (by omega)]; rfl, by rw [aplR_base h130 (by omega)]; exact World.ownsRow_nil _ _ _ _⟩ | (have hke : k = m := by omega); subst hke; rw [List.take_of_length_le (by omega)] at hout; exact ⟨_, rfl, S4.like0, A1, c1, by rw [aplR_ok h130 (by omega), ← hout], by rw [aplR_ok h130 (by omega), ← hout]; exact S4.own 1 rfl⟩
end Go.Proofs.YtgaklngnfecdaaaGreat.Del
namespace Go.Proofs.YtgaklngnfecdaaaGreat.Del
open Go.RowKit Zk Zx
end Go.Proofs.YtgaklngnfecdaaaGreat.Del
namespace Go.Proofs.YtgaklngnfecdaaaGreat.Del
open Go.ChangeShapes Go.WideShapes Go.ChangeAt Go.RowKit Go.Deep Zk Zx
section
variable {H : Type} {enc : TypeId × Value → H} {w : World} {base : Nat} {spare : Nat → Bool} {held : Bool}
end
end Go.Proofs.YtgaklngnfecdaaaGreat.Del
namespace Go.Proofs.YtgaklngnfecdaaaGreat.Del
open Go.RowKit Zk Zx
end Go.Proofs.YtgaklngnfecdaaaGreat.Del
namespace Go.Proofs.YtgaklngnfecdaaaGreat.Del
open Go.RowKit Zk Zx
section
variable {b t b' t' : Int} {l k : List OV}
end
theorem InP.cat {qs rs : List OP} {ps pr : List Part} (h1 : InP qs ps) (h2 : InP rs pr) : InP (qs ++ rs) (ps ++ pr) := fun q hq => by
  rcases List.mem_append.1 hq with hq | hq
  · rcases h1 q hq with h | h
    · exact .inl h
    · exact .inr (List.mem_append_left _ h)
  · rcases h2 q hq with h | h
    · exact .inl h
    · exact .inr (List.mem_append_right _ h)
end Go.Proofs.YtgaklngnfecdaaaGreat.Del
namespace Go.Proofs.YtgaklngnfecdaaaGreat.Del
open Go.RowKit Zk Zx
end Go.Proofs.YtgaklngnfecdaaaGreat.Del
namespace Go.Proofs.YtgaklngnfecdaaaGreat.Del
open Go.RowKit Zk Zx
theorem fold_eq {a t : List UInt8} : ∀ (xs : List Nat) (s : Nat × Nat), (a.drop s.1).take s.2 = t.take s.2 → (a.drop (xs.foldl (stepB a t) s).1).take (xs.foldl (stepB a t) s).2 = t.take (xs.foldl (stepB a t) s).2
  | [], s, h => h
  | k :: xs, s, h => by
    refine fold_eq xs _ ?_
    unfold stepB
    split
    · exact ((comP_take (a.drop k) t _).1 (Nat.le_refl _)).2.2
    · exact h
theorem bst_eq (a t : List UInt8) : (a.drop (bst a t).1).take (bst a t).2 = t.take (bst a t).2 := by
  unfold bst
  split
  · simp
  · exact fold_eq _ _ (by simp)
theorem aplV_cons (a : List UInt8) (o : OV) (l : List OV) : aplV a (o :: l) = layV a o ++ aplV a l := rfl
theorem aplV_app (a : List UInt8) (l m : List OV) : aplV a (l ++ m) = aplV a l ++ aplV a m := List.flatMap_append
theorem rtV_cp {b : Int} {o : OV} (h : rtV b o = true) (hc : o.cp = true) : 1 ≤ o.n ∧ o.n ≤ b ∧ 0 ≤ o.fr ∧ o.fr ≤ b - o.n ∧ o.l = [] := by
  unfold rtV at h
  rw [if_pos hc] at h
  simp at h
  obtain ⟨⟨⟨⟨h1, h2⟩, h3⟩, h4⟩, h5⟩ := h
  exact ⟨h1, h2, h3, h4, h5⟩
theorem rtV_new {b : Int} {o : OV} (h : rtV b o = true) (hc : o.cp = false) : 1 ≤ o.l.length ∧ o.fr = 0 ∧ o.n = 0 := by
  unfold rtV at h
  rw [if_neg (by rw [hc]; exact Bool.false_ne_true)] at h
  simp at h
  obtain ⟨⟨h1, h2⟩, h3⟩ := h
  exact ⟨h1, h2, h3⟩
theorem rtV_mk_cp {b fr n : Int} (h1 : 1 ≤ n) (h2 : 0 ≤ fr) (h3 : fr ≤ b - n) : rtV b ⟨true, fr, n, []⟩ = true := by
  unfold rtV
  rw [if_pos rfl]
  simp
  omega
theorem rtV_mk_new {b : Int} {l : List UInt8} (h1 : 1 ≤ l.length) : rtV b ⟨false, 0, 0, l⟩ = true := by
  unfold rtV
  rw [if_neg Bool.false_ne_true]
  simp
  exact h1
theorem lay_len {a : List UInt8} {o : OV} (h : rtV a.length o = true) : ((layV a o).length : Int) = szV o := by
  unfold layV szV
  cases hc : o.cp with
  | true =>
    obtain ⟨h1, h2, h3, h4, h5⟩ := rtV_cp h hc
    rw [if_pos rfl, if_pos rfl, List.length_take, List.length_drop]
    omega
  | false => rw [if_neg Bool.false_ne_true, if_neg Bool.false_ne_true]
theorem chkL_iff {a : List UInt8} : ∀ (l : List OV) (left : Int), chkL a.length left l = true ↔ (∀ o ∈ l, rtV a.length o = true) ∧ ((aplV a l).length : Int) = left
  | [], left => by
    unfold chkL aplV
    simp
    omega
  | o :: r, left => by
    unfold chkL
    rw [Bool.and_eq_true, Bool.and_eq_true, chkL_iff r]
    constructor
    · rintro ⟨⟨h1, h2⟩, h3, h4⟩
      refine ⟨fun q hq => ?_, ?_⟩
      · rcases List.mem_cons.1 hq with rfl | hq
        · exact h1
        · exact h3 q hq
      · have := lay_len h1
        rw [aplV_cons, List.length_append]
        omega
    · rintro ⟨h1, h2⟩
      have h3 := h1 o (List.mem_cons_self ..)
      have := lay_len h3
      rw [aplV_cons, List.length_append] at h2
      refine ⟨⟨h3, decide_eq_true (by omega)⟩, fun q hq => h1 q (List.mem_cons_of_mem _ hq), by omega⟩
theorem errV_of {a : List UInt8} {t : Int} {l : List OV} (ha : a.length ≤ 4000) (hr : ∀ o ∈ l, rtV a.length o = true) (ht : ((aplV a l).length : Int) = t) (h4 : t ≤ 4000) : errV a.length t l = 0 := by
  rw [chk_eq (by omega), if_pos ((chkL_iff l t).2 ⟨hr, ht⟩)]
theorem lay_mk_cp (a : List UInt8) (fr n : Nat) (l : List UInt8) : layV a ⟨true, (fr : Int), (n : Int), l⟩ = (a.drop fr).take n := by
  unfold layV
  rw [if_pos rfl, Int.toNat_natCast, Int.toNat_natCast]
theorem lay_mk_new (a : List UInt8) (fr n : Int) (l : List UInt8) : layV a ⟨false, fr, n, l⟩ = l := by
  unfold layV
  rw [if_neg Bool.false_ne_true]
theorem apl_fl (a t : List UInt8) (s e : Nat) : aplV a (fl t s e) = (t.drop s).take (e - s) := by
  unfold fl
  split
  · rw [aplV_cons, lay_mk_new]
    show _ ++ [] = _
    rw [List.append_nil]
  · rename_i h
    rw [show e - s = 0 by omega]
    rfl
theorem rt_fl {b : Int} {t : List UInt8} {s e : Nat} (he : e ≤ t.length) : ∀ o ∈ fl t s e, rtV b o = true := fun o ho => by
  unfold fl at ho
  split at ho
  · rw [List.mem_singleton.1 ho]
    refine rtV_mk_new ?_
    rw [List.length_take, List.length_drop]
    omega
  · cases ho
theorem mkR_all (a t : List UInt8) : ∀ f k s, s ≤ k → k ≤ t.length → t.length - k ≤ f → (∀ o ∈ mkR a t f k s, rtV a.length o = true) ∧ aplV a (mkR a t f k s) = t.drop s := by
  have fin : ∀ f k s, s ≤ k → t.length ≤ k → (∀ o ∈ mkR a t f k s, rtV a.length o = true) ∧ aplV a (mkR a t f k s) = t.drop s := fun f k s _ h => by
    rw [mkR_end h]
    exact ⟨rt_fl (Nat.le_refl _), by rw [apl_fl, List.take_of_length_le (by rw [List.length_drop]; exact Nat.le_refl _)]⟩
  intro f
  induction f with
  | zero => exact fun k s h1 h2 h3 => fin 0 k s h1 (by omega)
  | succ f ih =>
    intro k s h1 h2 h3
    rcases Nat.lt_or_ge k t.length with q | q
    · by_cases h0 : (bst a (t.drop k)).2 = 0
      · rw [mkR_zero q h0]
        exact ih (k + 1) s (by omega) (by omega) (by omega)
      · rw [mkR_copy q h0]
        have hb := bst_bd a (t.drop k)
        have he := bst_eq a (t.drop k)
        rw [List.length_drop] at hb
        obtain ⟨i1, i2⟩ := ih (k + (bst a (t.drop k)).2) (k + (bst a (t.drop k)).2) (Nat.le_refl _) (by omega) (by omega)
        refine ⟨fun o ho => ?_, ?_⟩
        · rcases List.mem_append.1 ho with ho | ho
          · rcases List.mem_append.1 ho with ho | ho
            · exact rt_fl (by omega) o ho
            · rw [List.mem_singleton.1 ho]
              exact rtV_mk_cp (by omega) (by omega) (by omega)
          · exact i1 o ho
        · rw [aplV_app, aplV_app, i2, apl_fl, aplV_cons, lay_mk_cp, he]
          show _ ++ (_ ++ []) ++ _ = _
          rw [List.append_nil, List.append_assoc]
          have e1 : t.drop (k + (bst a (t.drop k)).2) = (t.drop k).drop (bst a (t.drop k)).2 := by rw [List.drop_drop]
          rw [e1, List.take_append_drop]
          have e2 : t.drop k = (t.drop s).drop (k - s) := by rw [List.drop_drop]; congr 1; omega
          rw [e2, List.take_append_drop]
    · exact fin _ k s h1 q
theorem mkV_all (a t : List UInt8) : (∀ o ∈ mkV a t, rtV a.length o = true) ∧ aplV a (mkV a t) = t := mkR_all a t t.length 0 0 (Nat.le_refl _) (Nat.zero_le _) (by omega)
theorem mkV_err {a t : List UInt8} (ha : a.length ≤ 4000) (ht : t.length ≤ 4000) : errV a.length t.length (mkV a t) = 0 :=
  errV_of ha (mkV_all a t).1 (by rw [(mkV_all a t).2]) (by omega)
theorem mkV_cnt {a t : List UInt8} : (mkV a t).length ≤ t.length := by
  have h : ∀ (l : List OV) (left : Int), chkL a.length left l = true → (l.length : Int) ≤ left := by
    intro l
    induction l with
    | nil => intro left h; unfold chkL at h; have := of_decide_eq_true h; simp; omega
    | cons o r ih =>
      intro left h
      unfold chkL at h
      rw [Bool.and_eq_true, Bool.and_eq_true] at h
      have h1 := sz_nonneg h.1.1
      have h2 := ih _ h.2
      rw [List.length_cons]
      omega
  have := h _ _ ((chkL_iff (a := a) (mkV a t) t.length).2 ⟨(mkV_all a t).1, by rw [(mkV_all a t).2]⟩)
  omega
end Go.Proofs.YtgaklngnfecdaaaGreat.Del
namespace Go.Proofs.YtgaklngnfecdaaaGreat.Oct
open Go.RowKit Zk Zx
def rdr (g : Nat) (A : Option Addr) (n c : Nat) (l : List UInt8) (p q : Nat) : Res := both (blk g 218 #[.slice A n c, .int .i64 (p : Int), .int .i64 (q : Int)]) (row 5 1 A n c (bL l))
theorem rdr_apart {w : World} {g n c p q : Nat} {A : Option Addr} {l : List UInt8} (h : (rdr g A n c l p q).holds w) : ∀ i, (blk g 218 #[.slice A n c, .int .i64 (p : Int), .int .i64 (q : Int)]).dom i → ¬ (row 5 1 A n c (bL l)).dom i := fun i hi hr => by
  have hi' : i = g := hi
  subst hi'
  exact own_blk_ne (e := 5) h.2 h.1 (by decide) hr
theorem rdr_lt {w : World} {g n c p q : Nat} {A : Option Addr} {l : List UInt8} (h : (rdr g A n c l p q).holds w) : ∀ i, (rdr g A n c l p q).dom i → i < w.heap.size := fun i hi => by
  rcases hi with hi | hi
  · have hi' : i = g := hi
    subst hi'
    exact Blk.lt h.1
  · exact (World.ownsRow.lt h.2 i hi).2
theorem rdr_len {w : World} {g n c p q : Nat} {A : Option Addr} {l : List UInt8} (h : (rdr g A n c l p q).holds w) : l.length = n := by
  have := h.2.1
  simpa using this
def tkL (l : List UInt8) (p k : Nat) : List UInt8 := if k ≤ l.length - p then (l.drop p).take k else []
def tkP (l : List UInt8) (p k : Nat) : Nat := if k ≤ l.length - p then p + k else p
def tkE (l : List UInt8) (p k q : Nat) : Nat := if k ≤ l.length - p then q else 10
theorem fresh_ {w0 w : World} {rs : List Res} (S : St w0 noM rs w) (k : Nat) {r : Res} (hk : rs[k]? = some r) : ∀ i, r.dom i → w0.heap.size ≤ i ∧ i < w.heap.size := fun i hi => by
  have := (S.res r (List.mem_of_getElem? hk)).2 i hi
  rcases this.2 with h | h
  · exact ⟨h, this.1⟩
  · exact h.elim
theorem tkP_le (l : List UInt8) (p k : Nat) (h : p ≤ l.length) : tkP l p k ≤ l.length := by unfold tkP; split <;> omega
theorem Rdd.of {w w' : World} {g n c p q : Nat} {A : Option Addr} {l : List UInt8} {r : Res} {X : Array Value} (h : Turned w w' r (both (blk g 218 X) (row 5 1 A n c (bL l)))) (hX : X = #[.slice A n c, .int .i64 (p : Int), .int .i64 (q : Int)]) : Turned w w' r (rdr g A n c l p q) := by
  subst hX
  exact h
theorem rdead (g : Nat) (A : Option Addr) (n c : Nat) (l : List UInt8) (p q : Nat) (w0 : World) (hw : (rdr g A n c l p q).holds w0) (hp : p ≤ l.length) :
    Calls Tryz.prog 137 #[.pointer (some ⟨g, 0, none⟩)] w0 fun e w' => ∃ u, e = .returned u ∧ Like w0 w' ∧ u = .bool (decide ((q : Int) ≠ 0)) := by
 refine enter1 (env := [(0, .pointer (some ⟨g, 0, none⟩))]) [.pointer (some ⟨g, 0, none⟩)] Tryz.func137 rfl Tryz.ntmps137 rfl rfl ?_; have hnl := rdr_len hw; have hnc := ownsRow_cap hw.2; have S0 := St.start w0 noM; refine T_seq fun K1 hK1 => T_region (L_y (y_assign rfl) rfl (L_nil (hK1 _ _ (T_seq fun K2 hK2 => T_region (L_y (y_move rfl) rfl (L_y (y_peqn Tryz.underlying172 rfl) rfl (L_y (y_move rfl) rfl (L_gyes rfl rfl (L_y (y_move rfl) rfl (L_gyes rfl rfl (L_y (y_nilp rfl) rfl ?_))))))))))); refine L_gyes rfl rfl (L_y (y_fieldA 2 Tryz.underlying218 rfl sz24 rfl rfl rfl) rfl (L_gyes rfl rfl (L_y (y_ldc Tryz.underlying24 rfl rfl (((S0.rdB hw.1).cell _).trans (show (#[.slice A n c, .int .i64 (p : Int), .int .i64 (q : Int)] : Array Value)[2]? = some (Value.int .i64 (q : Int)) from rfl))) rfl (L_gyes rfl rfl (L_y (y_neq rfl rfl) rfl (L_y (y_pickF rfl rfl) rfl (L_y (y_assign rfl) rfl (L_nil (hK2 _ _ (T_ret (ur (ret1 rfl rfl ?_)))))))))))); exact ⟨_, rfl, S0.like0, rfl⟩
theorem rerr (g : Nat) (A : Option Addr) (n c : Nat) (l : List UInt8) (p q : Nat) (w0 : World) (hw : (rdr g A n c l p q).holds w0) (hp : p ≤ l.length) :
    Calls Tryz.prog 128 #[.pointer (some ⟨g, 0, none⟩)] w0 fun e w' => ∃ u, e = .returned u ∧ Like w0 w' ∧ u = .int .i64 (q : Int) := by
 refine enter1 (env := [(0, .pointer (some ⟨g, 0, none⟩))]) [.pointer (some ⟨g, 0, none⟩)] Tryz.func128 rfl Tryz.ntmps128 rfl rfl ?_; have hnl := rdr_len hw; have hnc := ownsRow_cap hw.2; have S0 := St.start w0 noM; refine T_seq fun K1 hK1 => T_region (L_y (y_assign rfl) rfl (L_nil (hK1 _ _ (T_seq fun K2 hK2 => T_seq fun K3 hK3 => T_region (L_y (y_move rfl) rfl (L_y (y_peqn Tryz.underlying172 rfl) rfl (L_nil (hK3 _ _ (T_false rfl (T_skip ?_)))))))))); refine hK2 _ _ (T_seq fun K4 hK4 => T_region (L_y (y_move rfl) rfl (L_y (y_nilp rfl) rfl (L_y (y_fieldA 2 Tryz.underlying218 rfl sz24 rfl rfl rfl) rfl (L_y (y_ldc Tryz.underlying24 rfl rfl (((S0.rdB hw.1).cell _).trans (show (#[.slice A n c, .int .i64 (p : Int), .int .i64 (q : Int)] : Array Value)[2]? = some (Value.int .i64 (q : Int)) from rfl))) rfl (L_y (y_assign rfl) rfl (L_nil (hK4 _ _ (T_ret (ur (ret1 rfl rfl ?_))))))))))); exact ⟨_, rfl, S0.like0, rfl⟩
theorem rleft (g : Nat) (A : Option Addr) (n c : Nat) (l : List UInt8) (p q : Nat) (w0 : World) (hw : (rdr g A n c l p q).holds w0) (hp : p ≤ l.length) :
    Calls Tryz.prog 131 #[.pointer (some ⟨g, 0, none⟩)] w0 fun e w' => ∃ u, e = .returned u ∧ Like w0 w' ∧ u = .int .i64 ((n : Int) - (p : Int)) := by
 refine enter1 (env := [(0, .pointer (some ⟨g, 0, none⟩))]) [.pointer (some ⟨g, 0, none⟩)] Tryz.func131 rfl Tryz.ntmps131 rfl rfl ?_; have hnl := rdr_len hw; have hnc := ownsRow_cap hw.2; have S0 := St.start w0 noM; refine T_seq fun K1 hK1 => T_region (L_y (y_assign rfl) rfl (L_nil (hK1 _ _ (T_seq fun K2 hK2 => T_seq fun K3 hK3 => T_region (L_y (y_move rfl) rfl (L_y (y_peqn Tryz.underlying172 rfl) rfl (L_nil (hK3 _ _ (T_false rfl (T_skip ?_)))))))))); refine hK2 _ _ (T_seq fun K4 hK4 => T_drawnL [(0, true), (1, true), (2, true), (3, true), (4, true), (5, true), (6, true), (7, true), (8, true), (9, true), (10, true)] hmix (by kernel_rfl) fun w1 l1 => have S1 := S0.like l1; DL_y rfl (y_move rfl) rfl (DL_y rfl (y_nilp rfl) rfl (DL_y rfl (y_fieldA 0 Tryz.underlying218 rfl sz22 rfl rfl rfl) rfl (DL_y rfl (y_ldc Tryz.underlying22 rfl rfl (((S1.rdB hw.1).cell _).trans (show (#[.slice A n c, .int .i64 (p : Int), .int .i64 (q : Int)] : Array Value)[0]? = some (Value.slice A n c) from rfl))) rfl (DL_y rfl (y_len Tryz.underlying22 rfl) rfl (DL_y rfl (y_move rfl) rfl (DL_y rfl (y_nilp rfl) rfl (DL_y rfl (y_fieldA 1 Tryz.underlying218 rfl sz3 rfl rfl rfl) rfl (DL_y rfl (y_ldc Tryz.underlying3 rfl rfl (((S1.rdB hw.1).cell _).trans (show (#[.slice A n c, .int .i64 (p : Int), .int .i64 (q : Int)] : Array Value)[1]? = some (Value.int .i64 (p : Int)) from rfl))) rfl (DL_y rfl (y_sub rfl rfl (i64w (by omega))) rfl ?_)))))))))); refine DL_y rfl (y_assign rfl) rfl (DL_nil (hK4 _ _ (T_ret (ur (ret1 rfl rfl ?_))))); exact ⟨_, rfl, S1.like0, rfl⟩
theorem rtake (g : Nat) (A : Option Addr) (n c : Nat) (l : List UInt8) (p q : Nat) (k : Nat) (w0 : World) (hw : (rdr g A n c l p q).holds w0) (hp : p ≤ l.length) (hk63 : k ≤ 9223372036854775807) (hn62 : n ≤ 4611686018427387904) :
    Calls Tryz.prog 139 #[.pointer (some ⟨g, 0, none⟩), .int .i64 (k : Int)] w0 fun e w' => ∃ u, e = .returned u ∧ ∃ B c2, u = .slice B (tkL l p k).length c2 ∧ Rs w' 1 B (tkL l p k).length c2 (bL (tkL l p k)) ∧ Turned w0 w' (rdr g A n c l p q) (rdr g A n c l (tkP l p k) (tkE l p k q)) := by
 refine enter1 (env := [(0, .pointer (some ⟨g, 0, none⟩)), (1, .int .i64 (k : Int))]) [.pointer (some ⟨g, 0, none⟩), .int .i64 (k : Int)] Tryz.func139 rfl Tryz.ntmps139 rfl rfl ?_; have hnl := rdr_len hw; have hnc := ownsRow_cap hw.2; have S0 := St.borrow2 (blk g 218 #[.slice A n c, .int .i64 (p : Int), .int .i64 (q : Int)]) (row 5 1 A n c (bL l)) hw.1 hw.2 (rdr_lt hw) (rdr_apart hw); refine T_seq fun K1 hK1 => T_region (L_y (y_assign rfl) rfl (L_nil (hK1 _ _ (T_seq fun K2 hK2 => T_seq fun K3 hK3 => T_drawnL [(0, true), (1, true), (2, true), (3, true), (4, true), (5, true), (6, true), (7, true), (8, true), (9, true), (10, true), (11, true)] hmix (by kernel_rfl) fun w1 l1 => have S1 := S0.like l1; DL_y rfl (y_move rfl) rfl (DL_y rfl (y_move rfl) rfl (DL_y rfl (y_nilp rfl) rfl (DL_y rfl (y_fieldA 0 Tryz.underlying218 rfl sz22 rfl rfl rfl) rfl (DL_y rfl (y_ldc Tryz.underlying22 rfl rfl (((S1.blk 0 rfl).cell _).trans (by rfl))) rfl ?_)))))))); refine DL_y rfl (y_len Tryz.underlying22 rfl) rfl (DL_y rfl (y_move rfl) rfl (DL_y rfl (y_nilp rfl) rfl (DL_y rfl (y_fieldA 1 Tryz.underlying218 rfl sz3 rfl rfl rfl) rfl (DL_y rfl (y_ldc Tryz.underlying3 rfl rfl (((S1.blk 0 rfl).cell _).trans (by rfl))) rfl ?_)))); refine DL_y rfl (y_sub rfl rfl (i64w (by omega))) rfl (DL_y rfl (y_gtr rfl rfl) rfl (DL_nil (hK3 _ _ ?_))); refine T_cond rfl (fun h17 => ?_) (fun h17 => ?_)
 ·
  have hk : ¬ k ≤ l.length - p := by omega
  refine T_seq fun K4 hK4 => T_region (L_y (y_move rfl) rfl (L_y (y_nilp rfl) rfl (L_y (y_fieldA 2 Tryz.underlying218 rfl sz24 rfl rfl rfl) rfl (L_o (o_st1 S1 0 rfl rfl rfl rfl sz24 (by simp; done) fun w2 S2 => ?_))))); refine L_nil (hK4 _ _ (T_seq fun K5 hK5 => T_region (L_y (y_assign rfl) rfl (L_nil (hK5 _ _ (T_ret (ur (ret1 rfl rfl ?_)))))))); first | exact ⟨_, rfl, none, 0, (by rw [tkL, if_neg hk]; rfl), (by rw [tkL, if_neg hk]; exact Rs.nil _ _), Rdd.of (S2.turned2 0 1 rfl rfl) (by rw [tkP, tkE, if_neg hk, if_neg hk]; rfl)⟩ | exact ⟨_, rfl, cutA A c p 1, c - p, (by rw [e2]), (by rw [e2, e1]; exact (S2.row 1 rfl).cutb (by omega) (by omega)), Rdd.of (S2.turned2 0 1 rfl rfl) (by rw [tkP, tkE, if_pos hk, if_pos hk]; rfl)⟩
 ·
  have hk : k ≤ l.length - p := by omega
  have e1 : (tkL l p k) = (l.drop p).take (p + k - p) := by rw [tkL, if_pos hk]; congr 1; omega
  have e2 : (tkL l p k).length = p + k - p := by rw [e1, List.length_take, List.length_drop]; omega
  refine T_skip (hK2 _ _ (T_seq fun K6 hK6 => T_drawnL [(0, true), (1, true), (2, true), (3, true), (4, true), (5, true), (6, true), (7, true), (8, true), (9, true), (10, true), (11, true), (12, true), (13, true), (14, true), (15, true)] hmix (by kernel_rfl) fun w3 l3 => have S3 := S1.like l3; DL_y rfl (y_move rfl) rfl (DL_y rfl (y_nilp rfl) rfl (DL_y rfl (y_fieldA 0 Tryz.underlying218 rfl sz22 rfl rfl rfl) rfl (DL_y rfl (y_ldc Tryz.underlying22 rfl rfl (((S3.blk 0 rfl).cell _).trans (by rfl))) rfl ?_))))); refine DL_y rfl (y_move rfl) rfl (DL_y rfl (y_nilp rfl) rfl (DL_y rfl (y_fieldA 1 Tryz.underlying218 rfl sz3 rfl rfl rfl) rfl (DL_y rfl (y_ldc Tryz.underlying3 rfl rfl (((S3.blk 0 rfl).cell _).trans (by rfl))) rfl ?_))); refine DL_y rfl (y_move rfl) rfl (DL_y rfl (y_nilp rfl) rfl (DL_y rfl (y_fieldA 1 Tryz.underlying218 rfl sz3 rfl rfl rfl) rfl (DL_y rfl (y_ldc Tryz.underlying3 rfl rfl (((S3.blk 0 rfl).cell _).trans (by rfl))) rfl ?_))); refine DL_y rfl (y_move rfl) rfl (DL_y rfl (y_add rfl rfl (i64w (by omega))) rfl (DL_y rfl (y_slice Tryz.underlying22 sz5 rfl rfl rfl inferInstance inferInstance (by omega) (by omega)) rfl (DL_y rfl (y_assign rfl) rfl (DL_nil (hK6 _ _ (T_seq fun K7 hK7 => T_region (L_y (y_move rfl) rfl (L_y (y_nilp rfl) rfl (L_y (y_fieldA 1 Tryz.underlying218 rfl sz3 rfl rfl rfl) rfl (L_y (y_ldc Tryz.underlying3 rfl rfl (((S3.blk 0 rfl).cell _).trans (by rfl))) rfl ?_)))))))))); refine L_y (y_move rfl) rfl (L_y (y_add rfl rfl (i64w (by omega))) rfl (L_y (y_nilp rfl) rfl (L_y (y_fieldA 1 Tryz.underlying218 rfl sz3 rfl rfl rfl) rfl (L_o (o_st1 S3 0 rfl rfl rfl rfl sz3 (by simp; done) fun w4 S4 => ?_))))); refine L_nil (hK7 _ _ (T_seq fun K8 hK8 => T_region (L_y (y_move rfl) rfl (L_y (y_assign rfl) rfl (L_nil (hK8 _ _ (T_ret (ur (ret1 rfl rfl ?_))))))))); first | exact ⟨_, rfl, none, 0, (by rw [tkL, if_neg hk]; rfl), (by rw [tkL, if_neg hk]; exact Rs.nil _ _), Rdd.of (S4.turned2 0 1 rfl rfl) (by rw [tkP, tkE, if_neg hk, if_neg hk]; rfl)⟩ | exact ⟨_, rfl, cutA A c p 1, c - p, (by rw [e2]), (by rw [e2, e1]; exact (S4.row 1 rfl).cutb (by omega) (by omega)), Rdd.of (S4.turned2 0 1 rfl rfl) (by rw [tkP, tkE, if_pos hk, if_pos hk]; rfl)⟩
theorem rback (g : Nat) (A : Option Addr) (n c : Nat) (l : List UInt8) (p q : Nat) (p0 : Nat) (w0 : World) (hw : (rdr g A n c l p q).holds w0) :
    DCalls Tryz.prog 167 #[.pointer (some ⟨g, 0, none⟩), .int .i64 (p0 : Int)] w0 fun e w' => ∃ u, e = .returned u ∧ Turned w0 w' (rdr g A n c l p q) (rdr g A n c l (if q ≠ 0 then p0 else p) q) := by
 refine enterd1 (env := [(0, .pointer (some ⟨g, 0, none⟩)), (1, .int .i64 (p0 : Int))]) [.pointer (some ⟨g, 0, none⟩), .int .i64 (p0 : Int)] Tryz.func167 rfl Tryz.ntmps167 rfl rfl ?_; have hnl := rdr_len hw; have hnc := ownsRow_cap hw.2; have S0 := St.borrow2 (blk g 218 #[.slice A n c, .int .i64 (p : Int), .int .i64 (q : Int)]) (row 5 1 A n c (bL l)) hw.1 hw.2 (rdr_lt hw) (rdr_apart hw); refine T_seq fun K1 hK1 => T_region (L_y (y_move rfl) rfl (L_y (y_nilp rfl) rfl (L_y (y_fieldA 2 Tryz.underlying218 rfl sz24 rfl rfl rfl) rfl (L_y (y_ldc Tryz.underlying24 rfl rfl (((S0.blk 0 rfl).cell _).trans (by rfl))) rfl ?_)))); refine L_y (y_neq rfl rfl) rfl (L_nil (hK1 _ _ ?_)); refine T_cond rfl (fun h8 => ?_) (fun h8 => ?_)
 ·
  refine T_region (L_y (y_move rfl) rfl (L_y (y_move rfl) rfl (L_y (y_nilp rfl) rfl (L_y (y_fieldA 1 Tryz.underlying218 rfl sz3 rfl rfl rfl) rfl (L_o (o_st1 S0 0 rfl rfl rfl rfl sz3 (by simp; done) fun w1 S1 => ?_)))))); refine L_nil ?_; first | refine end0 (fn := Tryz.f167) rfl ?_ | (simp only [thenQ, inB, if_true]; refine end0 (fn := Tryz.f167) rfl ?_)
  exact ⟨_, rfl, Rdd.of (S1.turned2 0 1 rfl rfl) (by first | (rw [if_pos (by omega)]; rfl) | (rw [if_neg (by omega)]))⟩
 ·
  refine T_skip ?_; first | refine end0 (fn := Tryz.f167) rfl ?_ | (simp only [thenQ, inB, if_true]; refine end0 (fn := Tryz.f167) rfl ?_)
  exact ⟨_, rfl, Rdd.of (S0.turned2 0 1 rfl rfl) (by first | (rw [if_pos (by omega)]; rfl) | (rw [if_neg (by omega)]))⟩
theorem rfail (g : Nat) (A : Option Addr) (n c : Nat) (l : List UInt8) (p q : Nat) (p0 q0 : Nat) (w0 : World) (hw : (rdr g A n c l p q).holds w0) (hp : p ≤ l.length) :
    Calls Tryz.prog 138 #[.pointer (some ⟨g, 0, none⟩), .int .i64 (p0 : Int), .int .i64 (q0 : Int)] w0 fun e w' => ∃ u, e = .returned u ∧ Turned w0 w' (rdr g A n c l p q) (rdr g A n c l p0 q0) := by
 refine enter1 (env := [(0, .pointer (some ⟨g, 0, none⟩)), (1, .int .i64 (p0 : Int)), (2, .int .i64 (q0 : Int))]) [.pointer (some ⟨g, 0, none⟩), .int .i64 (p0 : Int), .int .i64 (q0 : Int)] Tryz.func138 rfl Tryz.ntmps138 rfl rfl ?_; have hnl := rdr_len hw; have hnc := ownsRow_cap hw.2; have S0 := St.borrow2 (blk g 218 #[.slice A n c, .int .i64 (p : Int), .int .i64 (q : Int)]) (row 5 1 A n c (bL l)) hw.1 hw.2 (rdr_lt hw) (rdr_apart hw); refine T_seq fun K1 hK1 => T_region (L_y (y_move rfl) rfl (L_y (y_move rfl) rfl (L_y (y_nilp rfl) rfl (L_y (y_fieldA 1 Tryz.underlying218 rfl sz3 rfl rfl rfl) rfl (L_o (o_st1 S0 0 rfl rfl rfl rfl sz3 (by simp; done) fun w1 S1 => ?_)))))); refine L_nil (hK1 _ _ (T_region (L_y (y_move rfl) rfl (L_y (y_move rfl) rfl (L_y (y_nilp rfl) rfl (L_y (y_fieldA 2 Tryz.underlying218 rfl sz24 rfl rfl rfl) rfl (L_o (o_st1 S1 0 rfl rfl rfl rfl sz24 (by simp; done) fun w2 S2 => ?_)))))))); refine L_nil ?_; first | refine end0 (fn := Tryz.f138) rfl ?_ | (simp only [thenQ, inB, if_true]; refine end0 (fn := Tryz.f138) rfl ?_)
 exact ⟨_, rfl, Rdd.of (S2.turned2 0 1 rfl rfl) rfl⟩
theorem rnew (B : Option Addr) (m d : Nat) (l : List UInt8) (w0 : World) (hb : Rs w0 1 B m d (bL l)) (hm : m ≤ 70368744177664) :
    Calls Tryz.prog 96 #[.slice B m d] w0 fun e w' => ∃ u, e = .returned u ∧ Like w0 w' ∧ ∃ g A c, u = .pointer (some ⟨g, 0, none⟩) ∧ (rdr g A m c l 0 0).holds w' ∧ ∀ i, (rdr g A m c l 0 0).dom i → w0.heap.size ≤ i ∧ i < w'.heap.size := by
 refine enter1 (env := [(0, .slice B m d)]) [.slice B m d] Tryz.func96 rfl Tryz.ntmps96 rfl rfl ?_; have S0 := St.start w0 noM; refine T_seq fun K1 hK1 => T_region (L_y (y_assign rfl) rfl (L_nil (hK1 _ _ (T_seq fun K2 hK2 => T_region (L_y (y_move rfl) rfl (L_o (o_app0 te22 S0 rfl rfl (S0.rd hb) (bL_one _) rfl (by omega) (by omega) fun A1 c1 w1 S1 => L_y (y_build rfl (show _ = some #[Value.slice A1 m c1, Value.int .i64 0, Value.int .i64 0] by kernel_rfl)) rfl (L_o (o_box rfl S1 rfl fun b2 w2 hb2 S2 => L_y (y_assign rfl) rfl (L_nil (hK2 _ _ ?_))))))))))); refine T_ret (ur (ret1 rfl rfl ?_)); exact ⟨_, rfl, S2.like0, _, _, _, rfl, ⟨S2.get 1 rfl, S2.get 0 rfl⟩, fun i hi => by rcases hi with hi | hi; exact fresh_ S2 1 rfl i hi; exact fresh_ S2 0 rfl i hi⟩
end Go.Proofs.YtgaklngnfecdaaaGreat.Oct
