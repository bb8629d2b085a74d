/-
  Check of the document.
-/
import Derived.Test.YtpcgldkllnkaeaaC
namespace Go.Proofs.Ytpcgldkllnkaeaa
open Go.RowKit Zk Zx
set_option linter.unusedVariables false
set_option linter.unusedSimpArgs false

set_option maxRecDepth 100000 in
theorem rcheck (A : Option Addr) (n c : Nat) (l : List OP) (b t : Int) (w0 : World) (hl : Rs w0 4 A n c (l.flatMap opf)) (hok : OkO w0 l) :
    Calls Try.prog 21 #[.agg (scA b t A n c)] w0 fun e w' => ∃ u, e = .returned u ∧ Like w0 w' ∧ u = .int .i64 (errV b t (l.map OP.v)) := by
  refine enter1 (env := [(0, .agg (scA b t A n c))]) [.agg (scA b t A n c)] Try.func21 rfl Try.ntmps21 rfl rfl ?_
  have hn := ops_n hl; have hcap := hl.cap; have hmax := hl.max; have S0 := St.start w0 noM
  refine T_seq fun K1 hK1 => ?_
  refine T_region ?_
  refine L_o (o_box rfl S0 rfl fun b1 w1 hb1 S1 => ?_)
  refine L_y (y_assign rfl) rfl ?_
  refine L_nil ?_
  refine hK1 _ _ ?_
  refine T_seq fun K2 hK2 => ?_
  refine T_seq fun K3 hK3 => ?_
  refine T_region ?_
  refine L_y (y_fieldA 0 Try.underlying30 rfl sz3 rfl rfl rfl) rfl ?_
  refine L_y (y_ldc Try.underlying3 rfl rfl (((S1.blk 0 rfl).cell _).trans (by rfl))) rfl ?_
  refine L_y (y_lss rfl rfl) rfl ?_
  refine L_y (y_move rfl) rfl ?_
  refine L_split 9 rfl (fun h9 => ?_) (fun h9 => ?_)
  ·
    refine L_gno rfl rfl rfl ?_
    refine L_gno rfl rfl rfl ?_
    refine L_gno rfl rfl rfl ?_
    refine L_y ((by first | exact y_pickT rfl rfl | exact y_pickF rfl rfl)) rfl ?_
    refine L_y (y_move rfl) rfl ?_
    refine L_gno rfl rfl rfl ?_
    refine L_gno rfl rfl rfl ?_
    refine L_gno rfl rfl rfl ?_
    refine L_y ((by first | exact y_pickT rfl rfl | exact y_pickF rfl rfl)) rfl ?_
    refine L_y (y_move rfl) rfl ?_
    refine L_gno rfl rfl rfl ?_
    refine L_gno rfl rfl rfl ?_
    refine L_gno rfl rfl rfl ?_
    refine L_y ((by first | exact y_pickT rfl rfl | exact y_pickF rfl rfl)) rfl ?_
    refine L_nil ?_
    refine hK3 _ _ ?_
    refine T_true rfl ?_
    refine T_seq fun K4 hK4 => ?_
    refine T_region ?_
    refine L_y (y_assign rfl) rfl ?_
    refine L_nil ?_
    refine hK4 _ _ ?_
    refine T_ret ?_
    repeat (first | with_reducible refine up_then ?_ | with_reducible refine up_in ?_)
    refine ret1 rfl rfl ?_
    first | exact ⟨_, rfl, S1.like0, by rw [chk_no (by omega)]⟩ | exact ⟨_, rfl, S1.like0, by rw [chk_eq (by omega), hch, hbad]; rfl⟩ | exact ⟨_, rfl, S1.like0, by rw [chk_eq (by omega), hch, chkL_end (by omega), decide_eq_false (by omega)]; rfl⟩ | exact ⟨_, rfl, S1.like0, by rw [chk_eq (by omega), hch, chkL_end (by omega), decide_eq_true (by omega)]; rfl⟩
  ·
    refine L_gyes rfl rfl ?_
    refine L_y (y_fieldA 0 Try.underlying30 rfl sz3 rfl rfl rfl) rfl ?_
    refine L_gyes rfl rfl ?_
    refine L_y (y_ldc Try.underlying3 rfl rfl (((S1.blk 0 rfl).cell _).trans (by rfl))) rfl ?_
    refine L_gyes rfl rfl ?_
    refine L_y (y_gtr rfl rfl) rfl ?_
    refine L_y ((by first | exact y_pickT rfl rfl | exact y_pickF rfl rfl)) rfl ?_
    refine L_y (y_move rfl) rfl ?_
    refine L_split 14 rfl (fun h14 => ?_) (fun h14 => ?_)
    ·
      refine L_gno rfl rfl rfl ?_
      refine L_gno rfl rfl rfl ?_
      refine L_gno rfl rfl rfl ?_
      refine L_y ((by first | exact y_pickT rfl rfl | exact y_pickF rfl rfl)) rfl ?_
      refine L_y (y_move rfl) rfl ?_
      refine L_gno rfl rfl rfl ?_
      refine L_gno rfl rfl rfl ?_
      refine L_gno rfl rfl rfl ?_
      refine L_y ((by first | exact y_pickT rfl rfl | exact y_pickF rfl rfl)) rfl ?_
      refine L_nil ?_
      refine hK3 _ _ ?_
      refine T_true rfl ?_
      refine T_seq fun K5 hK5 => ?_
      refine T_region ?_
      refine L_y (y_assign rfl) rfl ?_
      refine L_nil ?_
      refine hK5 _ _ ?_
      refine T_ret ?_
      repeat (first | with_reducible refine up_then ?_ | with_reducible refine up_in ?_)
      refine ret1 rfl rfl ?_
      first | exact ⟨_, rfl, S1.like0, by rw [chk_no (by omega)]⟩ | exact ⟨_, rfl, S1.like0, by rw [chk_eq (by omega), hch, hbad]; rfl⟩ | exact ⟨_, rfl, S1.like0, by rw [chk_eq (by omega), hch, chkL_end (by omega), decide_eq_false (by omega)]; rfl⟩ | exact ⟨_, rfl, S1.like0, by rw [chk_eq (by omega), hch, chkL_end (by omega), decide_eq_true (by omega)]; rfl⟩
    ·
      refine L_gyes rfl rfl ?_
      refine L_y (y_fieldA 1 Try.underlying30 rfl sz3 rfl rfl rfl) rfl ?_
      refine L_gyes rfl rfl ?_
      refine L_y (y_ldc Try.underlying3 rfl rfl (((S1.blk 0 rfl).cell _).trans (by rfl))) rfl ?_
      refine L_gyes rfl rfl ?_
      refine L_y (y_lss rfl rfl) rfl ?_
      refine L_y ((by first | exact y_pickT rfl rfl | exact y_pickF rfl rfl)) rfl ?_
      refine L_y (y_move rfl) rfl ?_
      refine L_split 19 rfl (fun h19 => ?_) (fun h19 => ?_)
      ·
        refine L_gno rfl rfl rfl ?_
        refine L_gno rfl rfl rfl ?_
        refine L_gno rfl rfl rfl ?_
        refine L_y ((by first | exact y_pickT rfl rfl | exact y_pickF rfl rfl)) rfl ?_
        refine L_nil ?_
        refine hK3 _ _ ?_
        refine T_true rfl ?_
        refine T_seq fun K6 hK6 => ?_
        refine T_region ?_
        refine L_y (y_assign rfl) rfl ?_
        refine L_nil ?_
        refine hK6 _ _ ?_
        refine T_ret ?_
        repeat (first | with_reducible refine up_then ?_ | with_reducible refine up_in ?_)
        refine ret1 rfl rfl ?_
        first | exact ⟨_, rfl, S1.like0, by rw [chk_no (by omega)]⟩ | exact ⟨_, rfl, S1.like0, by rw [chk_eq (by omega), hch, hbad]; rfl⟩ | exact ⟨_, rfl, S1.like0, by rw [chk_eq (by omega), hch, chkL_end (by omega), decide_eq_false (by omega)]; rfl⟩ | exact ⟨_, rfl, S1.like0, by rw [chk_eq (by omega), hch, chkL_end (by omega), decide_eq_true (by omega)]; rfl⟩
      ·
        refine L_gyes rfl rfl ?_
        refine L_y (y_fieldA 1 Try.underlying30 rfl sz3 rfl rfl rfl) rfl ?_
        refine L_gyes rfl rfl ?_
        refine L_y (y_ldc Try.underlying3 rfl rfl (((S1.blk 0 rfl).cell _).trans (by rfl))) rfl ?_
        refine L_gyes rfl rfl ?_
        refine L_y (y_gtr rfl rfl) rfl ?_
        refine L_y ((by first | exact y_pickT rfl rfl | exact y_pickF rfl rfl)) rfl ?_
        refine L_nil ?_
        refine hK3 _ _ ?_
        refine T_cond rfl (fun h23 => ?_) (fun h23 => ?_)
        ·
          refine T_seq fun K7 hK7 => ?_
          refine T_region ?_
          refine L_y (y_assign rfl) rfl ?_
          refine L_nil ?_
          refine hK7 _ _ ?_
          refine T_ret ?_
          repeat (first | with_reducible refine up_then ?_ | with_reducible refine up_in ?_)
          refine ret1 rfl rfl ?_
          first | exact ⟨_, rfl, S1.like0, by rw [chk_no (by omega)]⟩ | exact ⟨_, rfl, S1.like0, by rw [chk_eq (by omega), hch, hbad]; rfl⟩ | exact ⟨_, rfl, S1.like0, by rw [chk_eq (by omega), hch, chkL_end (by omega), decide_eq_false (by omega)]; rfl⟩ | exact ⟨_, rfl, S1.like0, by rw [chk_eq (by omega), hch, chkL_end (by omega), decide_eq_true (by omega)]; rfl⟩
        ·
          refine T_skip ?_
          refine hK2 _ _ ?_
          refine T_seq fun K8 hK8 => ?_
          refine T_region ?_
          refine L_y (y_assign rfl) rfl ?_
          refine L_nil ?_
          refine hK8 _ _ ?_
          refine T_seq fun K9 hK9 => ?_
          refine T_seq fun K10 hK10 => ?_
          refine T_region ?_
          refine L_y (y_assign rfl) rfl ?_
          refine L_nil ?_
          refine hK10 _ _ ?_
          refine T_block ?_
          refine T_loop2 [(1, _)] (fun (k : Nat) (laid : Int) => [(4, .int .i64 (k : Int)), (3, .int .i64 laid)]) (fun (k : Nat) (laid : Int) => n - k) (fun (k : Nat) (laid : Int) (w : World) => (k ≤ n ∧ 0 ≤ laid ∧ laid ≤ t ∧ chkL b t (l.map OP.v) = chkL b (t - laid) ((l.map OP.v).drop k)) ∧ St w0 noM [blk b1 30 (scA b t A n c)] w) 0 0 (Sub.cons rfl (by first | rfl | exact congrArg (Value.int _) (by omega)) (Sub.cons rfl (by first | rfl | exact congrArg (Value.int _) (by omega)) (Sub.nil _))) (Sub.cons rfl rfl (Sub.nil _)) ?_ ?_
          ·
            exact ⟨⟨Nat.zero_le _, by omega, by omega, by rw [Int.sub_zero]; rfl⟩, S1⟩
          ·
            intro k laid w5 hrel
            obtain ⟨⟨hk, hl0, hl1, hch⟩, S5⟩ := hrel
            refine T_seq fun K11 hK11 => ?_
            refine T_seq fun K12 hK12 => ?_
            refine T_region ?_
            refine L_y (y_move rfl) rfl ?_
            refine L_y (y_fieldA 2 Try.underlying30 rfl sz28 rfl rfl rfl) rfl ?_
            refine L_y (y_ldc Try.underlying28 rfl rfl (((S5.blk 0 rfl).cell _).trans (by rfl))) rfl ?_
            refine L_y (y_len Try.underlying28 rfl) rfl ?_
            refine L_y (y_lss rfl rfl) rfl ?_
            refine L_nil ?_
            refine hK12 _ _ ?_
            refine T_cond rfl (fun h28 => ?_) (fun h28 => ?_)
            ·
              obtain ⟨o, ho⟩ : ∃ o, l[k]? = some o := ⟨_, List.getElem?_eq_getElem (by omega)⟩
              have hol : o.p.l.length = o.p.n := Rs.lenb (hok o (List.mem_of_getElem? ho))
              refine T_skip ?_
              refine hK11 _ _ ?_
              refine T_seq fun K13 hK13 => ?_
              refine T_block ?_
              refine T_seq fun K14 hK14 => ?_
              refine T_region ?_
              refine L_y (y_fieldA 2 Try.underlying30 rfl sz28 rfl rfl rfl) rfl ?_
              refine L_y (y_ldc Try.underlying28 rfl rfl (((S5.blk 0 rfl).cell _).trans (by rfl))) rfl ?_
              refine L_y (y_move rfl) rfl ?_
              refine L_y (y_idx Try.underlying28 sz58 rfl rfl (S5.rd hl) (Nt.mk (by omega) : Nt _ (k)) (by omega)) rfl ?_
              refine L_y (y_ldp (f := opf) opf_len Try.underlying58 rfl sz58 rfl (S5.rd hl) (by omega) ho) rfl ?_
              refine L_o (o_alloc zz58 S5 rfl fun b6 w6 hb6 S6 => ?_)
              refine L_o (o_stW S6 1 rfl rfl rfl sz58 rfl (opf_one o) fun w7 S7 => ?_)
              refine L_nil ?_
              refine hK14 _ _ ?_
              refine T_seq fun K15 hK15 => ?_
              refine T_seq fun K16 hK16 => ?_
              refine T_region ?_
              refine L_y (y_fieldA 0 Try.underlying58 rfl sz4 rfl rfl rfl) rfl ?_
              refine L_y (y_ldc Try.underlying4 rfl rfl (((S7.blk 1 rfl).cell _).trans (by rfl))) rfl ?_
              refine L_y (y_move rfl) rfl ?_
              refine L_splitB 38 rfl (fun h38 => ?_) (fun h38 => ?_)
              ·
                refine L_gyes rfl rfl ?_
                refine L_y (y_fieldA 2 Try.underlying58 rfl sz3 rfl rfl rfl) rfl ?_
                refine L_gyes rfl rfl ?_
                refine L_y (y_ldc Try.underlying3 rfl rfl (((S7.blk 1 rfl).cell _).trans (by rfl))) rfl ?_
                refine L_gyes rfl rfl ?_
                refine L_y (y_lss rfl rfl) rfl ?_
                refine L_gyes rfl rfl ?_
                refine L_y (y_move rfl) rfl ?_
                refine L_split 42 rfl (fun h42 => ?_) (fun h42 => ?_)
                ·
                  refine L_gno rfl rfl rfl ?_
                  refine L_gno rfl rfl rfl ?_
                  refine L_gno rfl rfl rfl ?_
                  refine L_gno rfl rfl rfl ?_
                  refine L_gno rfl rfl rfl ?_
                  refine L_gyes rfl rfl ?_
                  refine L_y ((by first | exact y_pickT rfl rfl | exact y_pickF rfl rfl)) rfl ?_
                  refine L_gyes rfl rfl ?_
                  refine L_y (y_move rfl) rfl ?_
                  refine L_gno rfl rfl rfl ?_
                  refine L_gno rfl rfl rfl ?_
                  refine L_gno rfl rfl rfl ?_
                  refine L_gyes rfl rfl ?_
                  refine L_y ((by first | exact y_pickT rfl rfl | exact y_pickF rfl rfl)) rfl ?_
                  refine L_gyes rfl rfl ?_
                  refine L_y (y_move rfl) rfl ?_
                  refine L_gno rfl rfl rfl ?_
                  refine L_gno rfl rfl rfl ?_
                  refine L_gno rfl rfl rfl ?_
                  refine L_gno rfl rfl rfl ?_
                  refine L_gno rfl rfl rfl ?_
                  refine L_gno rfl rfl rfl ?_
                  refine L_gno rfl rfl rfl ?_
                  refine L_gno rfl rfl rfl ?_
                  refine L_gyes rfl rfl ?_
                  refine L_y ((by first | exact y_pickT rfl rfl | exact y_pickF rfl rfl)) rfl ?_
                  refine L_gyes rfl rfl ?_
                  refine L_y (y_move rfl) rfl ?_
                  refine L_gno rfl rfl rfl ?_
                  refine L_gno rfl rfl rfl ?_
                  refine L_gno rfl rfl rfl ?_
                  refine L_gno rfl rfl rfl ?_
                  refine L_gyes rfl rfl ?_
                  refine L_y ((by first | exact y_pickT rfl rfl | exact y_pickF rfl rfl)) rfl ?_
                  refine L_y ((by first | exact y_pickT rfl rfl | exact y_pickF rfl rfl)) rfl ?_
                  refine L_nil ?_
                  refine hK16 _ _ ?_
                  refine T_true rfl ?_
                  refine T_seq fun K17 hK17 => ?_
                  have hbad : chkL b (t - laid) ((l.map OP.v).drop k) = false := by first | (exfalso; rw [h38] at h74; cases h74; done) | exact chkL_bad ho (.inl (by unfold rtV; simp [OP.v, *]; try omega))
                  refine T_region ?_
                  refine L_y (y_assign rfl) rfl ?_
                  refine L_nil ?_
                  refine hK17 _ _ ?_
                  refine T_ret ?_
                  repeat (first | with_reducible refine up_then ?_ | with_reducible refine up_in ?_)
                  refine ret1 rfl rfl ?_
                  first | exact ⟨_, rfl, S7.like0, by rw [chk_no (by omega)]⟩ | exact ⟨_, rfl, S7.like0, by rw [chk_eq (by omega), hch, hbad]; rfl⟩ | exact ⟨_, rfl, S7.like0, by rw [chk_eq (by omega), hch, chkL_end (by omega), decide_eq_false (by omega)]; rfl⟩ | exact ⟨_, rfl, S7.like0, by rw [chk_eq (by omega), hch, chkL_end (by omega), decide_eq_true (by omega)]; rfl⟩
                ·
                  refine L_gyes rfl rfl ?_
                  refine L_y (y_fieldA 2 Try.underlying58 rfl sz3 rfl rfl rfl) rfl ?_
                  refine L_gyes rfl rfl ?_
                  refine L_y (y_ldc Try.underlying3 rfl rfl (((S7.blk 1 rfl).cell _).trans (by rfl))) rfl ?_
                  refine L_gyes rfl rfl ?_
                  refine L_y (y_fieldA 0 Try.underlying30 rfl sz3 rfl rfl rfl) rfl ?_
                  refine L_gyes rfl rfl ?_
                  refine L_y (y_ldc Try.underlying3 rfl rfl (((S7.blk 0 rfl).cell _).trans (by rfl))) rfl ?_
                  refine L_gyes rfl rfl ?_
                  refine L_y (y_gtr rfl rfl) rfl ?_
                  refine L_gyes rfl rfl ?_
                  refine L_y ((by first | exact y_pickT rfl rfl | exact y_pickF rfl rfl)) rfl ?_
                  refine L_gyes rfl rfl ?_
                  refine L_y (y_move rfl) rfl ?_
                  refine L_split 49 rfl (fun h49 => ?_) (fun h49 => ?_)
                  ·
                    refine L_gno rfl rfl rfl ?_
                    refine L_gno rfl rfl rfl ?_
                    refine L_gno rfl rfl rfl ?_
                    refine L_gyes rfl rfl ?_
                    refine L_y ((by first | exact y_pickT rfl rfl | exact y_pickF rfl rfl)) rfl ?_
                    refine L_gyes rfl rfl ?_
                    refine L_y (y_move rfl) rfl ?_
                    refine L_gno rfl rfl rfl ?_
                    refine L_gno rfl rfl rfl ?_
                    refine L_gno rfl rfl rfl ?_
                    refine L_gno rfl rfl rfl ?_
                    refine L_gno rfl rfl rfl ?_
                    refine L_gno rfl rfl rfl ?_
                    refine L_gno rfl rfl rfl ?_
                    refine L_gno rfl rfl rfl ?_
                    refine L_gyes rfl rfl ?_
                    refine L_y ((by first | exact y_pickT rfl rfl | exact y_pickF rfl rfl)) rfl ?_
                    refine L_gyes rfl rfl ?_
                    refine L_y (y_move rfl) rfl ?_
                    refine L_gno rfl rfl rfl ?_
                    refine L_gno rfl rfl rfl ?_
                    refine L_gno rfl rfl rfl ?_
                    refine L_gno rfl rfl rfl ?_
                    refine L_gyes rfl rfl ?_
                    refine L_y ((by first | exact y_pickT rfl rfl | exact y_pickF rfl rfl)) rfl ?_
                    refine L_y ((by first | exact y_pickT rfl rfl | exact y_pickF rfl rfl)) rfl ?_
                    refine L_nil ?_
                    refine hK16 _ _ ?_
                    refine T_true rfl ?_
                    refine T_seq fun K18 hK18 => ?_
                    have hbad : chkL b (t - laid) ((l.map OP.v).drop k) = false := by first | (exfalso; rw [h38] at h74; cases h74; done) | exact chkL_bad ho (.inl (by unfold rtV; simp [OP.v, *]; try omega))
                    refine T_region ?_
                    refine L_y (y_assign rfl) rfl ?_
                    refine L_nil ?_
                    refine hK18 _ _ ?_
                    refine T_ret ?_
                    repeat (first | with_reducible refine up_then ?_ | with_reducible refine up_in ?_)
                    refine ret1 rfl rfl ?_
                    first | exact ⟨_, rfl, S7.like0, by rw [chk_no (by omega)]⟩ | exact ⟨_, rfl, S7.like0, by rw [chk_eq (by omega), hch, hbad]; rfl⟩ | exact ⟨_, rfl, S7.like0, by rw [chk_eq (by omega), hch, chkL_end (by omega), decide_eq_false (by omega)]; rfl⟩ | exact ⟨_, rfl, S7.like0, by rw [chk_eq (by omega), hch, chkL_end (by omega), decide_eq_true (by omega)]; rfl⟩
                  ·
                    refine L_gyes rfl rfl ?_
                    refine L_y (y_fieldA 1 Try.underlying58 rfl sz3 rfl rfl rfl) rfl ?_
                    refine L_gyes rfl rfl ?_
                    refine L_y (y_ldc Try.underlying3 rfl rfl (((S7.blk 1 rfl).cell _).trans (by rfl))) rfl ?_
                    refine L_gyes rfl rfl ?_
                    refine L_y (y_lss rfl rfl) rfl ?_
                    refine L_gyes rfl rfl ?_
                    refine L_y ((by first | exact y_pickT rfl rfl | exact y_pickF rfl rfl)) rfl ?_
                    refine L_gyes rfl rfl ?_
                    refine L_y (y_move rfl) rfl ?_
                    refine L_split 54 rfl (fun h54 => ?_) (fun h54 => ?_)
                    ·
                      refine L_gno rfl rfl rfl ?_
                      refine L_gno rfl rfl rfl ?_
                      refine L_gno rfl rfl rfl ?_
                      refine L_gno rfl rfl rfl ?_
                      refine L_gno rfl rfl rfl ?_
                      refine L_gno rfl rfl rfl ?_
                      refine L_gno rfl rfl rfl ?_
                      refine L_gno rfl rfl rfl ?_
                      refine L_gyes rfl rfl ?_
                      refine L_y ((by first | exact y_pickT rfl rfl | exact y_pickF rfl rfl)) rfl ?_
                      refine L_gyes rfl rfl ?_
                      refine L_y (y_move rfl) rfl ?_
                      refine L_gno rfl rfl rfl ?_
                      refine L_gno rfl rfl rfl ?_
                      refine L_gno rfl rfl rfl ?_
                      refine L_gno rfl rfl rfl ?_
                      refine L_gyes rfl rfl ?_
                      refine L_y ((by first | exact y_pickT rfl rfl | exact y_pickF rfl rfl)) rfl ?_
                      refine L_y ((by first | exact y_pickT rfl rfl | exact y_pickF rfl rfl)) rfl ?_
                      refine L_nil ?_
                      refine hK16 _ _ ?_
                      refine T_true rfl ?_
                      refine T_seq fun K19 hK19 => ?_
                      have hbad : chkL b (t - laid) ((l.map OP.v).drop k) = false := by first | (exfalso; rw [h38] at h74; cases h74; done) | exact chkL_bad ho (.inl (by unfold rtV; simp [OP.v, *]; try omega))
                      refine T_region ?_
                      refine L_y (y_assign rfl) rfl ?_
                      refine L_nil ?_
                      refine hK19 _ _ ?_
                      refine T_ret ?_
                      repeat (first | with_reducible refine up_then ?_ | with_reducible refine up_in ?_)
                      refine ret1 rfl rfl ?_
                      first | exact ⟨_, rfl, S7.like0, by rw [chk_no (by omega)]⟩ | exact ⟨_, rfl, S7.like0, by rw [chk_eq (by omega), hch, hbad]; rfl⟩ | exact ⟨_, rfl, S7.like0, by rw [chk_eq (by omega), hch, chkL_end (by omega), decide_eq_false (by omega)]; rfl⟩ | exact ⟨_, rfl, S7.like0, by rw [chk_eq (by omega), hch, chkL_end (by omega), decide_eq_true (by omega)]; rfl⟩
                    ·
                      refine L_gyes rfl rfl ?_
                      refine L_y (y_fieldA 1 Try.underlying58 rfl sz3 rfl rfl rfl) rfl ?_
                      refine L_gyes rfl rfl ?_
                      refine L_y (y_ldc Try.underlying3 rfl rfl (((S7.blk 1 rfl).cell _).trans (by rfl))) rfl ?_
                      refine L_gyes rfl rfl ?_
                      refine L_y (y_fieldA 0 Try.underlying30 rfl sz3 rfl rfl rfl) rfl ?_
                      refine L_gyes rfl rfl ?_
                      refine L_y (y_ldc Try.underlying3 rfl rfl (((S7.blk 0 rfl).cell _).trans (by rfl))) rfl ?_
                      refine L_gyes rfl rfl ?_
                      refine L_y (y_fieldA 2 Try.underlying58 rfl sz3 rfl rfl rfl) rfl ?_
                      refine L_gyes rfl rfl ?_
                      refine L_y (y_ldc Try.underlying3 rfl rfl (((S7.blk 1 rfl).cell _).trans (by rfl))) rfl ?_
                      refine L_gyes rfl rfl ?_
                      refine L_y (y_sub rfl rfl (i64w (by omega))) rfl ?_
                      refine L_gyes rfl rfl ?_
                      refine L_y (y_gtr rfl rfl) rfl ?_
                      refine L_gyes rfl rfl ?_
                      refine L_y ((by first | exact y_pickT rfl rfl | exact y_pickF rfl rfl)) rfl ?_
                      refine L_gyes rfl rfl ?_
                      refine L_y (y_move rfl) rfl ?_
                      refine L_split 64 rfl (fun h64 => ?_) (fun h64 => ?_)
                      ·
                        refine L_gno rfl rfl rfl ?_
                        refine L_gno rfl rfl rfl ?_
                        refine L_gno rfl rfl rfl ?_
                        refine L_gno rfl rfl rfl ?_
                        refine L_gyes rfl rfl ?_
                        refine L_y ((by first | exact y_pickT rfl rfl | exact y_pickF rfl rfl)) rfl ?_
                        refine L_y ((by first | exact y_pickT rfl rfl | exact y_pickF rfl rfl)) rfl ?_
                        refine L_nil ?_
                        refine hK16 _ _ ?_
                        refine T_true rfl ?_
                        refine T_seq fun K20 hK20 => ?_
                        have hbad : chkL b (t - laid) ((l.map OP.v).drop k) = false := by first | (exfalso; rw [h38] at h74; cases h74; done) | exact chkL_bad ho (.inl (by unfold rtV; simp [OP.v, *]; try omega))
                        refine T_region ?_
                        refine L_y (y_assign rfl) rfl ?_
                        refine L_nil ?_
                        refine hK20 _ _ ?_
                        refine T_ret ?_
                        repeat (first | with_reducible refine up_then ?_ | with_reducible refine up_in ?_)
                        refine ret1 rfl rfl ?_
                        first | exact ⟨_, rfl, S7.like0, by rw [chk_no (by omega)]⟩ | exact ⟨_, rfl, S7.like0, by rw [chk_eq (by omega), hch, hbad]; rfl⟩ | exact ⟨_, rfl, S7.like0, by rw [chk_eq (by omega), hch, chkL_end (by omega), decide_eq_false (by omega)]; rfl⟩ | exact ⟨_, rfl, S7.like0, by rw [chk_eq (by omega), hch, chkL_end (by omega), decide_eq_true (by omega)]; rfl⟩
                      ·
                        refine L_gyes rfl rfl ?_
                        refine L_y (y_fieldA 3 Try.underlying58 rfl sz22 rfl rfl rfl) rfl ?_
                        refine L_gyes rfl rfl ?_
                        refine L_y (y_ldc Try.underlying22 rfl rfl (((S7.blk 1 rfl).cell _).trans (by rfl))) rfl ?_
                        refine L_gyes rfl rfl ?_
                        refine L_y (y_len Try.underlying22 rfl) rfl ?_
                        refine L_gyes rfl rfl ?_
                        refine L_y (y_gtr rfl rfl) rfl ?_
                        refine L_gyes rfl rfl ?_
                        refine L_y ((by first | exact y_pickT rfl rfl | exact y_pickF rfl rfl)) rfl ?_
                        refine L_y ((by first | exact y_pickT rfl rfl | exact y_pickF rfl rfl)) rfl ?_
                        refine L_nil ?_
                        refine hK16 _ _ ?_
                        refine T_cond rfl (fun h70 => ?_) (fun h70 => ?_)
                        ·
                          refine T_seq fun K21 hK21 => ?_
                          have hbad : chkL b (t - laid) ((l.map OP.v).drop k) = false := by first | (exfalso; rw [h38] at h74; cases h74; done) | exact chkL_bad ho (.inl (by unfold rtV; simp [OP.v, *]; try omega))
                          refine T_region ?_
                          refine L_y (y_assign rfl) rfl ?_
                          refine L_nil ?_
                          refine hK21 _ _ ?_
                          refine T_ret ?_
                          repeat (first | with_reducible refine up_then ?_ | with_reducible refine up_in ?_)
                          refine ret1 rfl rfl ?_
                          first | exact ⟨_, rfl, S7.like0, by rw [chk_no (by omega)]⟩ | exact ⟨_, rfl, S7.like0, by rw [chk_eq (by omega), hch, hbad]; rfl⟩ | exact ⟨_, rfl, S7.like0, by rw [chk_eq (by omega), hch, chkL_end (by omega), decide_eq_false (by omega)]; rfl⟩ | exact ⟨_, rfl, S7.like0, by rw [chk_eq (by omega), hch, chkL_end (by omega), decide_eq_true (by omega)]; rfl⟩
                        ·
                          refine T_skip ?_
                          refine hK15 _ _ ?_
                          refine T_seq fun K22 hK22 => ?_
                          refine T_seq fun K23 hK23 => ?_
                          refine T_region ?_
                          refine L_y (y_fieldA 0 Try.underlying58 rfl sz4 rfl rfl rfl) rfl ?_
                          refine L_y (y_ldc Try.underlying4 rfl rfl (((S7.blk 1 rfl).cell _).trans (by rfl))) rfl ?_
                          refine L_y ((by first | exact y_notD rfl | exact y_not rfl)) rfl ?_
                          refine L_y (y_move rfl) rfl ?_
                          refine L_splitB 74 rfl (fun h74 => ?_) (fun h74 => ?_)
                          ·
                            refine L_gyes rfl rfl ?_
                            refine L_y (y_fieldA 3 Try.underlying58 rfl sz22 rfl rfl rfl) rfl ?_
                            refine L_gyes rfl rfl ?_
                            refine L_y (y_ldc Try.underlying22 rfl rfl (((S7.blk 1 rfl).cell _).trans (by rfl))) rfl ?_
                            refine L_gyes rfl rfl ?_
                            refine L_y (y_len Try.underlying22 rfl) rfl ?_
                            refine L_gyes rfl rfl ?_
                            refine L_y (y_eql rfl rfl) rfl ?_
                            refine L_gyes rfl rfl ?_
                            refine L_y (y_move rfl) rfl ?_
                            refine L_split 79 rfl (fun h79 => ?_) (fun h79 => ?_)
                            ·
                              refine L_gno rfl rfl rfl ?_
                              refine L_gno rfl rfl rfl ?_
                              refine L_gno rfl rfl rfl ?_
                              refine L_gyes rfl rfl ?_
                              refine L_y ((by first | exact y_pickT rfl rfl | exact y_pickF rfl rfl)) rfl ?_
                              refine L_gyes rfl rfl ?_
                              refine L_y (y_move rfl) rfl ?_
                              refine L_gno rfl rfl rfl ?_
                              refine L_gno rfl rfl rfl ?_
                              refine L_gno rfl rfl rfl ?_
                              refine L_gyes rfl rfl ?_
                              refine L_y ((by first | exact y_pickT rfl rfl | exact y_pickF rfl rfl)) rfl ?_
                              refine L_y ((by first | exact y_pickT rfl rfl | exact y_pickF rfl rfl)) rfl ?_
                              refine L_nil ?_
                              refine hK23 _ _ ?_
                              refine T_true rfl ?_
                              refine T_seq fun K24 hK24 => ?_
                              have hbad : chkL b (t - laid) ((l.map OP.v).drop k) = false := by first | (exfalso; rw [h38] at h74; cases h74; done) | exact chkL_bad ho (.inl (by unfold rtV; simp [OP.v, *]; try omega))
                              refine T_region ?_
                              refine L_y (y_assign rfl) rfl ?_
                              refine L_nil ?_
                              refine hK24 _ _ ?_
                              refine T_ret ?_
                              repeat (first | with_reducible refine up_then ?_ | with_reducible refine up_in ?_)
                              refine ret1 rfl rfl ?_
                              first | exact ⟨_, rfl, S7.like0, by rw [chk_no (by omega)]⟩ | exact ⟨_, rfl, S7.like0, by rw [chk_eq (by omega), hch, hbad]; rfl⟩ | exact ⟨_, rfl, S7.like0, by rw [chk_eq (by omega), hch, chkL_end (by omega), decide_eq_false (by omega)]; rfl⟩ | exact ⟨_, rfl, S7.like0, by rw [chk_eq (by omega), hch, chkL_end (by omega), decide_eq_true (by omega)]; rfl⟩
                            ·
                              refine L_gyes rfl rfl ?_
                              refine L_y (y_fieldA 1 Try.underlying58 rfl sz3 rfl rfl rfl) rfl ?_
                              refine L_gyes rfl rfl ?_
                              refine L_y (y_ldc Try.underlying3 rfl rfl (((S7.blk 1 rfl).cell _).trans (by rfl))) rfl ?_
                              refine L_gyes rfl rfl ?_
                              refine L_y (y_neq rfl rfl) rfl ?_
                              refine L_gyes rfl rfl ?_
                              refine L_y ((by first | exact y_pickT rfl rfl | exact y_pickF rfl rfl)) rfl ?_
                              refine L_gyes rfl rfl ?_
                              refine L_y (y_move rfl) rfl ?_
                              refine L_split 84 rfl (fun h84 => ?_) (fun h84 => ?_)
                              ·
                                refine L_gno rfl rfl rfl ?_
                                refine L_gno rfl rfl rfl ?_
                                refine L_gno rfl rfl rfl ?_
                                refine L_gyes rfl rfl ?_
                                refine L_y ((by first | exact y_pickT rfl rfl | exact y_pickF rfl rfl)) rfl ?_
                                refine L_y ((by first | exact y_pickT rfl rfl | exact y_pickF rfl rfl)) rfl ?_
                                refine L_nil ?_
                                refine hK23 _ _ ?_
                                refine T_true rfl ?_
                                refine T_seq fun K25 hK25 => ?_
                                have hbad : chkL b (t - laid) ((l.map OP.v).drop k) = false := by first | (exfalso; rw [h38] at h74; cases h74; done) | exact chkL_bad ho (.inl (by unfold rtV; simp [OP.v, *]; try omega))
                                refine T_region ?_
                                refine L_y (y_assign rfl) rfl ?_
                                refine L_nil ?_
                                refine hK25 _ _ ?_
                                refine T_ret ?_
                                repeat (first | with_reducible refine up_then ?_ | with_reducible refine up_in ?_)
                                refine ret1 rfl rfl ?_
                                first | exact ⟨_, rfl, S7.like0, by rw [chk_no (by omega)]⟩ | exact ⟨_, rfl, S7.like0, by rw [chk_eq (by omega), hch, hbad]; rfl⟩ | exact ⟨_, rfl, S7.like0, by rw [chk_eq (by omega), hch, chkL_end (by omega), decide_eq_false (by omega)]; rfl⟩ | exact ⟨_, rfl, S7.like0, by rw [chk_eq (by omega), hch, chkL_end (by omega), decide_eq_true (by omega)]; rfl⟩
                              ·
                                refine L_gyes rfl rfl ?_
                                refine L_y (y_fieldA 2 Try.underlying58 rfl sz3 rfl rfl rfl) rfl ?_
                                refine L_gyes rfl rfl ?_
                                refine L_y (y_ldc Try.underlying3 rfl rfl (((S7.blk 1 rfl).cell _).trans (by rfl))) rfl ?_
                                refine L_gyes rfl rfl ?_
                                refine L_y (y_neq rfl rfl) rfl ?_
                                refine L_gyes rfl rfl ?_
                                refine L_y ((by first | exact y_pickT rfl rfl | exact y_pickF rfl rfl)) rfl ?_
                                refine L_y ((by first | exact y_pickT rfl rfl | exact y_pickF rfl rfl)) rfl ?_
                                refine L_nil ?_
                                refine hK23 _ _ ?_
                                refine T_cond rfl (fun h89 => ?_) (fun h89 => ?_)
                                ·
                                  refine T_seq fun K26 hK26 => ?_
                                  have hbad : chkL b (t - laid) ((l.map OP.v).drop k) = false := by first | (exfalso; rw [h38] at h74; cases h74; done) | exact chkL_bad ho (.inl (by unfold rtV; simp [OP.v, *]; try omega))
                                  refine T_region ?_
                                  refine L_y (y_assign rfl) rfl ?_
                                  refine L_nil ?_
                                  refine hK26 _ _ ?_
                                  refine T_ret ?_
                                  repeat (first | with_reducible refine up_then ?_ | with_reducible refine up_in ?_)
                                  refine ret1 rfl rfl ?_
                                  first | exact ⟨_, rfl, S7.like0, by rw [chk_no (by omega)]⟩ | exact ⟨_, rfl, S7.like0, by rw [chk_eq (by omega), hch, hbad]; rfl⟩ | exact ⟨_, rfl, S7.like0, by rw [chk_eq (by omega), hch, chkL_end (by omega), decide_eq_false (by omega)]; rfl⟩ | exact ⟨_, rfl, S7.like0, by rw [chk_eq (by omega), hch, chkL_end (by omega), decide_eq_true (by omega)]; rfl⟩
                                ·
                                  refine T_skip ?_
                                  refine hK22 _ _ ?_
                                  refine T_seq fun K27 hK27 => ?_
                                  refine T_seq fun K28 hK28 => ?_
                                  have hgood : rtV b o.v = true := by first | (exfalso; rw [h38] at h74; cases h74; done) | (unfold rtV; simp [OP.v, *]; try omega)
                                  have hszp := sz_nonneg hgood
                                  refine T_drawnL [(0, true), (2, true), (3, true), (4, true), (5, true), (1, false), (6, true)] hmix (by kernel_rfl) fun w16 l16 => ?_
                                  have S16 := S7.like l16
                                  refine DL_y rfl (y_ldW Try.underlying58 rfl sz58 rfl (S16.blk 1 rfl) (show _ = opf o ∧ _ from ⟨rfl, rfl⟩)) rfl ?_
                                  refine DL_y rfl (y_fieldA 1 Try.underlying30 rfl sz3 rfl rfl rfl) rfl ?_
                                  refine DL_y rfl (y_ldc Try.underlying3 rfl rfl (((S16.blk 0 rfl).cell _).trans (by rfl))) rfl ?_
                                  refine DL_y rfl (y_move rfl) rfl ?_
                                  refine DL_y rfl (y_sub rfl rfl (i64w (by omega))) rfl ?_
                                  refine DL_o rfl (o_call Try.func28 rfl rfl (rsize o w16 (hok.like S16.like0 o (List.mem_of_getElem? ho))) rfl rfl ?_)
                                  rintro e17 w17 ⟨v17, rfl, l17, rfl⟩
                                  refine ⟨_, rfl, l17, ?_⟩
                                  have S17 := S16.like l17
                                  have q17 := l17
                                  refine DL_y rfl (y_gtr rfl rfl) rfl ?_
                                  refine DL_nil ?_
                                  refine hK28 _ _ ?_
                                  refine T_cond rfl (fun h96 => ?_) (fun h96 => ?_)
                                  ·
                                    refine T_seq fun K29 hK29 => ?_
                                    have hbad : chkL b (t - laid) ((l.map OP.v).drop k) = false := chkL_bad ho (.inr (by omega))
                                    refine T_region ?_
                                    refine L_y (y_assign rfl) rfl ?_
                                    refine L_nil ?_
                                    refine hK29 _ _ ?_
                                    refine T_ret ?_
                                    repeat (first | with_reducible refine up_then ?_ | with_reducible refine up_in ?_)
                                    refine ret1 rfl rfl ?_
                                    first | exact ⟨_, rfl, S17.like0, by rw [chk_no (by omega)]⟩ | exact ⟨_, rfl, S17.like0, by rw [chk_eq (by omega), hch, hbad]; rfl⟩ | exact ⟨_, rfl, S17.like0, by rw [chk_eq (by omega), hch, chkL_end (by omega), decide_eq_false (by omega)]; rfl⟩ | exact ⟨_, rfl, S17.like0, by rw [chk_eq (by omega), hch, chkL_end (by omega), decide_eq_true (by omega)]; rfl⟩
                                  ·
                                    refine T_skip ?_
                                    refine hK27 _ _ ?_
                                    refine T_region ?_
                                    refine L_y (y_move rfl) rfl ?_
                                    refine L_y (y_ldW Try.underlying58 rfl sz58 rfl (S17.blk 1 rfl) (show _ = opf o ∧ _ from ⟨rfl, rfl⟩)) rfl ?_
                                    refine L_o (o_call Try.func28 rfl rfl (rsize o w17 (hok.like S17.like0 o (List.mem_of_getElem? ho))) rfl rfl ?_)
                                    rintro e18 w18 ⟨v18, rfl, l18, rfl⟩
                                    refine ⟨_, rfl, ?_⟩
                                    have S18 := S17.like l18
                                    refine L_y (y_add rfl rfl (i64w (by omega))) rfl ?_
                                    refine L_y (y_assign rfl) rfl ?_
                                    refine L_nil ?_
                                    refine hK13 _ _ ?_
                                    refine T_region ?_
                                    refine L_y (y_move rfl) rfl ?_
                                    refine L_y (y_add rfl rfl (i64w (by omega))) rfl ?_
                                    refine L_y (y_assign rfl) rfl ?_
                                    refine L_nil ?_
                                    have S91 := S18.drop (rs' := [_]) (.cons_cons _ (.cons _ (.refl _)))
                                    refine ⟨k + 1, laid + szV o.v, by omega, ⟨⟨by omega, by omega, by omega, by rw [hch, chkL_ok ho hgood (by omega), show t - laid - szV o.v = t - (laid + szV o.v) by omega]⟩, S91⟩, ?_⟩
                                    exact (Sub.cons rfl (by first | rfl | exact congrArg (Value.int _) (by omega)) (Sub.cons rfl (by first | rfl | exact congrArg (Value.int _) (by omega)) (Sub.cons rfl rfl (Sub.nil _))))
                          ·
                            refine L_gno rfl rfl rfl ?_
                            refine L_gno rfl rfl rfl ?_
                            refine L_gno rfl rfl rfl ?_
                            refine L_gno rfl rfl rfl ?_
                            refine L_gno rfl rfl rfl ?_
                            refine L_gnu rfl rfl rfl ?_
                            refine L_gnu rfl rfl rfl ?_
                            refine L_gnu rfl rfl rfl ?_
                            refine L_gno rfl rfl rfl ?_
                            refine L_gno rfl rfl rfl ?_
                            refine L_gnu rfl rfl rfl ?_
                            refine L_gnu rfl rfl rfl ?_
                            refine L_gnu rfl rfl rfl ?_
                            refine L_gno rfl rfl rfl ?_
                            refine L_y ((by first | exact y_pickT rfl rfl | exact y_pickF rfl rfl)) rfl ?_
                            refine L_nil ?_
                            refine hK23 _ _ ?_
                            refine T_false rfl ?_
                            refine T_skip ?_
                            refine hK22 _ _ ?_
                            refine T_seq fun K30 hK30 => ?_
                            refine T_seq fun K31 hK31 => ?_
                            have hgood : rtV b o.v = true := by first | (exfalso; rw [h38] at h74; cases h74; done) | (unfold rtV; simp [OP.v, *]; try omega)
                            have hszp := sz_nonneg hgood
                            refine T_drawnL [(0, true), (2, true), (3, true), (4, true), (5, true), (1, false), (6, true)] hmix (by kernel_rfl) fun w19 l19 => ?_
                            have S19 := S7.like l19
                            refine DL_y rfl (y_ldW Try.underlying58 rfl sz58 rfl (S19.blk 1 rfl) (show _ = opf o ∧ _ from ⟨rfl, rfl⟩)) rfl ?_
                            refine DL_y rfl (y_fieldA 1 Try.underlying30 rfl sz3 rfl rfl rfl) rfl ?_
                            refine DL_y rfl (y_ldc Try.underlying3 rfl rfl (((S19.blk 0 rfl).cell _).trans (by rfl))) rfl ?_
                            refine DL_y rfl (y_move rfl) rfl ?_
                            refine DL_y rfl (y_sub rfl rfl (i64w (by omega))) rfl ?_
                            refine DL_o rfl (o_call Try.func28 rfl rfl (rsize o w19 (hok.like S19.like0 o (List.mem_of_getElem? ho))) rfl rfl ?_)
                            rintro e20 w20 ⟨v20, rfl, l20, rfl⟩
                            refine ⟨_, rfl, l20, ?_⟩
                            have S20 := S19.like l20
                            have q20 := l20
                            refine DL_y rfl (y_gtr rfl rfl) rfl ?_
                            refine DL_nil ?_
                            refine hK31 _ _ ?_
                            refine T_cond rfl (fun h96 => ?_) (fun h96 => ?_)
                            ·
                              refine T_seq fun K32 hK32 => ?_
                              have hbad : chkL b (t - laid) ((l.map OP.v).drop k) = false := chkL_bad ho (.inr (by omega))
                              refine T_region ?_
                              refine L_y (y_assign rfl) rfl ?_
                              refine L_nil ?_
                              refine hK32 _ _ ?_
                              refine T_ret ?_
                              repeat (first | with_reducible refine up_then ?_ | with_reducible refine up_in ?_)
                              refine ret1 rfl rfl ?_
                              first | exact ⟨_, rfl, S20.like0, by rw [chk_no (by omega)]⟩ | exact ⟨_, rfl, S20.like0, by rw [chk_eq (by omega), hch, hbad]; rfl⟩ | exact ⟨_, rfl, S20.like0, by rw [chk_eq (by omega), hch, chkL_end (by omega), decide_eq_false (by omega)]; rfl⟩ | exact ⟨_, rfl, S20.like0, by rw [chk_eq (by omega), hch, chkL_end (by omega), decide_eq_true (by omega)]; rfl⟩
                            ·
                              refine T_skip ?_
                              refine hK30 _ _ ?_
                              refine T_region ?_
                              refine L_y (y_move rfl) rfl ?_
                              refine L_y (y_ldW Try.underlying58 rfl sz58 rfl (S20.blk 1 rfl) (show _ = opf o ∧ _ from ⟨rfl, rfl⟩)) rfl ?_
                              refine L_o (o_call Try.func28 rfl rfl (rsize o w20 (hok.like S20.like0 o (List.mem_of_getElem? ho))) rfl rfl ?_)
                              rintro e21 w21 ⟨v21, rfl, l21, rfl⟩
                              refine ⟨_, rfl, ?_⟩
                              have S21 := S20.like l21
                              refine L_y (y_add rfl rfl (i64w (by omega))) rfl ?_
                              refine L_y (y_assign rfl) rfl ?_
                              refine L_nil ?_
                              refine hK13 _ _ ?_
                              refine T_region ?_
                              refine L_y (y_move rfl) rfl ?_
                              refine L_y (y_add rfl rfl (i64w (by omega))) rfl ?_
                              refine L_y (y_assign rfl) rfl ?_
                              refine L_nil ?_
                              have S91 := S21.drop (rs' := [_]) (.cons_cons _ (.cons _ (.refl _)))
                              refine ⟨k + 1, laid + szV o.v, by omega, ⟨⟨by omega, by omega, by omega, by rw [hch, chkL_ok ho hgood (by omega), show t - laid - szV o.v = t - (laid + szV o.v) by omega]⟩, S91⟩, ?_⟩
                              exact (Sub.cons rfl (by first | rfl | exact congrArg (Value.int _) (by omega)) (Sub.cons rfl (by first | rfl | exact congrArg (Value.int _) (by omega)) (Sub.cons rfl rfl (Sub.nil _))))
              ·
                refine L_gno rfl rfl rfl ?_
                refine L_gno rfl rfl rfl ?_
                refine L_gno rfl rfl rfl ?_
                refine L_gno rfl rfl rfl ?_
                refine L_gnu rfl rfl rfl ?_
                refine L_gnu rfl rfl rfl ?_
                refine L_gnu rfl rfl rfl ?_
                refine L_gnu rfl rfl rfl ?_
                refine L_gnu rfl rfl rfl ?_
                refine L_gno rfl rfl rfl ?_
                refine L_gno rfl rfl rfl ?_
                refine L_gnu rfl rfl rfl ?_
                refine L_gnu rfl rfl rfl ?_
                refine L_gnu rfl rfl rfl ?_
                refine L_gno rfl rfl rfl ?_
                refine L_gno rfl rfl rfl ?_
                refine L_gnu rfl rfl rfl ?_
                refine L_gnu rfl rfl rfl ?_
                refine L_gnu rfl rfl rfl ?_
                refine L_gnu rfl rfl rfl ?_
                refine L_gnu rfl rfl rfl ?_
                refine L_gnu rfl rfl rfl ?_
                refine L_gnu rfl rfl rfl ?_
                refine L_gnu rfl rfl rfl ?_
                refine L_gno rfl rfl rfl ?_
                refine L_gno rfl rfl rfl ?_
                refine L_gnu rfl rfl rfl ?_
                refine L_gnu rfl rfl rfl ?_
                refine L_gnu rfl rfl rfl ?_
                refine L_gnu rfl rfl rfl ?_
                refine L_gno rfl rfl rfl ?_
                refine L_y ((by first | exact y_pickT rfl rfl | exact y_pickF rfl rfl)) rfl ?_
                refine L_nil ?_
                refine hK16 _ _ ?_
                refine T_false rfl ?_
                refine T_skip ?_
                refine hK15 _ _ ?_
                refine T_seq fun K33 hK33 => ?_
                refine T_seq fun K34 hK34 => ?_
                refine T_region ?_
                refine L_y (y_fieldA 0 Try.underlying58 rfl sz4 rfl rfl rfl) rfl ?_
                refine L_y (y_ldc Try.underlying4 rfl rfl (((S7.blk 1 rfl).cell _).trans (by rfl))) rfl ?_
                refine L_y ((by first | exact y_notD rfl | exact y_not rfl)) rfl ?_
                refine L_y (y_move rfl) rfl ?_
                refine L_splitB 74 rfl (fun h74 => ?_) (fun h74 => ?_)
                ·
                  refine L_gyes rfl rfl ?_
                  refine L_y (y_fieldA 3 Try.underlying58 rfl sz22 rfl rfl rfl) rfl ?_
                  refine L_gyes rfl rfl ?_
                  refine L_y (y_ldc Try.underlying22 rfl rfl (((S7.blk 1 rfl).cell _).trans (by rfl))) rfl ?_
                  refine L_gyes rfl rfl ?_
                  refine L_y (y_len Try.underlying22 rfl) rfl ?_
                  refine L_gyes rfl rfl ?_
                  refine L_y (y_eql rfl rfl) rfl ?_
                  refine L_gyes rfl rfl ?_
                  refine L_y (y_move rfl) rfl ?_
                  refine L_split 79 rfl (fun h79 => ?_) (fun h79 => ?_)
                  ·
                    refine L_gno rfl rfl rfl ?_
                    refine L_gno rfl rfl rfl ?_
                    refine L_gno rfl rfl rfl ?_
                    refine L_gyes rfl rfl ?_
                    refine L_y ((by first | exact y_pickT rfl rfl | exact y_pickF rfl rfl)) rfl ?_
                    refine L_gyes rfl rfl ?_
                    refine L_y (y_move rfl) rfl ?_
                    refine L_gno rfl rfl rfl ?_
                    refine L_gno rfl rfl rfl ?_
                    refine L_gno rfl rfl rfl ?_
                    refine L_gyes rfl rfl ?_
                    refine L_y ((by first | exact y_pickT rfl rfl | exact y_pickF rfl rfl)) rfl ?_
                    refine L_y ((by first | exact y_pickT rfl rfl | exact y_pickF rfl rfl)) rfl ?_
                    refine L_nil ?_
                    refine hK34 _ _ ?_
                    refine T_true rfl ?_
                    refine T_seq fun K35 hK35 => ?_
                    have hbad : chkL b (t - laid) ((l.map OP.v).drop k) = false := by first | (exfalso; rw [h38] at h74; cases h74; done) | exact chkL_bad ho (.inl (by unfold rtV; simp [OP.v, *]; try omega))
                    refine T_region ?_
                    refine L_y (y_assign rfl) rfl ?_
                    refine L_nil ?_
                    refine hK35 _ _ ?_
                    refine T_ret ?_
                    repeat (first | with_reducible refine up_then ?_ | with_reducible refine up_in ?_)
                    refine ret1 rfl rfl ?_
                    first | exact ⟨_, rfl, S7.like0, by rw [chk_no (by omega)]⟩ | exact ⟨_, rfl, S7.like0, by rw [chk_eq (by omega), hch, hbad]; rfl⟩ | exact ⟨_, rfl, S7.like0, by rw [chk_eq (by omega), hch, chkL_end (by omega), decide_eq_false (by omega)]; rfl⟩ | exact ⟨_, rfl, S7.like0, by rw [chk_eq (by omega), hch, chkL_end (by omega), decide_eq_true (by omega)]; rfl⟩
                  ·
                    refine L_gyes rfl rfl ?_
                    refine L_y (y_fieldA 1 Try.underlying58 rfl sz3 rfl rfl rfl) rfl ?_
                    refine L_gyes rfl rfl ?_
                    refine L_y (y_ldc Try.underlying3 rfl rfl (((S7.blk 1 rfl).cell _).trans (by rfl))) rfl ?_
                    refine L_gyes rfl rfl ?_
                    refine L_y (y_neq rfl rfl) rfl ?_
                    refine L_gyes rfl rfl ?_
                    refine L_y ((by first | exact y_pickT rfl rfl | exact y_pickF rfl rfl)) rfl ?_
                    refine L_gyes rfl rfl ?_
                    refine L_y (y_move rfl) rfl ?_
                    refine L_split 84 rfl (fun h84 => ?_) (fun h84 => ?_)
                    ·
                      refine L_gno rfl rfl rfl ?_
                      refine L_gno rfl rfl rfl ?_
                      refine L_gno rfl rfl rfl ?_
                      refine L_gyes rfl rfl ?_
                      refine L_y ((by first | exact y_pickT rfl rfl | exact y_pickF rfl rfl)) rfl ?_
                      refine L_y ((by first | exact y_pickT rfl rfl | exact y_pickF rfl rfl)) rfl ?_
                      refine L_nil ?_
                      refine hK34 _ _ ?_
                      refine T_true rfl ?_
                      refine T_seq fun K36 hK36 => ?_
                      have hbad : chkL b (t - laid) ((l.map OP.v).drop k) = false := by first | (exfalso; rw [h38] at h74; cases h74; done) | exact chkL_bad ho (.inl (by unfold rtV; simp [OP.v, *]; try omega))
                      refine T_region ?_
                      refine L_y (y_assign rfl) rfl ?_
                      refine L_nil ?_
                      refine hK36 _ _ ?_
                      refine T_ret ?_
                      repeat (first | with_reducible refine up_then ?_ | with_reducible refine up_in ?_)
                      refine ret1 rfl rfl ?_
                      first | exact ⟨_, rfl, S7.like0, by rw [chk_no (by omega)]⟩ | exact ⟨_, rfl, S7.like0, by rw [chk_eq (by omega), hch, hbad]; rfl⟩ | exact ⟨_, rfl, S7.like0, by rw [chk_eq (by omega), hch, chkL_end (by omega), decide_eq_false (by omega)]; rfl⟩ | exact ⟨_, rfl, S7.like0, by rw [chk_eq (by omega), hch, chkL_end (by omega), decide_eq_true (by omega)]; rfl⟩
                    ·
                      refine L_gyes rfl rfl ?_
                      refine L_y (y_fieldA 2 Try.underlying58 rfl sz3 rfl rfl rfl) rfl ?_
                      refine L_gyes rfl rfl ?_
                      refine L_y (y_ldc Try.underlying3 rfl rfl (((S7.blk 1 rfl).cell _).trans (by rfl))) rfl ?_
                      refine L_gyes rfl rfl ?_
                      refine L_y (y_neq rfl rfl) rfl ?_
                      refine L_gyes rfl rfl ?_
                      refine L_y ((by first | exact y_pickT rfl rfl | exact y_pickF rfl rfl)) rfl ?_
                      refine L_y ((by first | exact y_pickT rfl rfl | exact y_pickF rfl rfl)) rfl ?_
                      refine L_nil ?_
                      refine hK34 _ _ ?_
                      refine T_cond rfl (fun h89 => ?_) (fun h89 => ?_)
                      ·
                        refine T_seq fun K37 hK37 => ?_
                        have hbad : chkL b (t - laid) ((l.map OP.v).drop k) = false := by first | (exfalso; rw [h38] at h74; cases h74; done) | exact chkL_bad ho (.inl (by unfold rtV; simp [OP.v, *]; try omega))
                        refine T_region ?_
                        refine L_y (y_assign rfl) rfl ?_
                        refine L_nil ?_
                        refine hK37 _ _ ?_
                        refine T_ret ?_
                        repeat (first | with_reducible refine up_then ?_ | with_reducible refine up_in ?_)
                        refine ret1 rfl rfl ?_
                        first | exact ⟨_, rfl, S7.like0, by rw [chk_no (by omega)]⟩ | exact ⟨_, rfl, S7.like0, by rw [chk_eq (by omega), hch, hbad]; rfl⟩ | exact ⟨_, rfl, S7.like0, by rw [chk_eq (by omega), hch, chkL_end (by omega), decide_eq_false (by omega)]; rfl⟩ | exact ⟨_, rfl, S7.like0, by rw [chk_eq (by omega), hch, chkL_end (by omega), decide_eq_true (by omega)]; rfl⟩
                      ·
                        refine T_skip ?_
                        refine hK33 _ _ ?_
                        refine T_seq fun K38 hK38 => ?_
                        refine T_seq fun K39 hK39 => ?_
                        have hgood : rtV b o.v = true := by first | (exfalso; rw [h38] at h74; cases h74; done) | (unfold rtV; simp [OP.v, *]; try omega)
                        have hszp := sz_nonneg hgood
                        refine T_drawnL [(0, true), (2, true), (3, true), (4, true), (5, true), (1, false), (6, true)] hmix (by kernel_rfl) fun w25 l25 => ?_
                        have S25 := S7.like l25
                        refine DL_y rfl (y_ldW Try.underlying58 rfl sz58 rfl (S25.blk 1 rfl) (show _ = opf o ∧ _ from ⟨rfl, rfl⟩)) rfl ?_
                        refine DL_y rfl (y_fieldA 1 Try.underlying30 rfl sz3 rfl rfl rfl) rfl ?_
                        refine DL_y rfl (y_ldc Try.underlying3 rfl rfl (((S25.blk 0 rfl).cell _).trans (by rfl))) rfl ?_
                        refine DL_y rfl (y_move rfl) rfl ?_
                        refine DL_y rfl (y_sub rfl rfl (i64w (by omega))) rfl ?_
                        refine DL_o rfl (o_call Try.func28 rfl rfl (rsize o w25 (hok.like S25.like0 o (List.mem_of_getElem? ho))) rfl rfl ?_)
                        rintro e26 w26 ⟨v26, rfl, l26, rfl⟩
                        refine ⟨_, rfl, l26, ?_⟩
                        have S26 := S25.like l26
                        have q26 := l26
                        refine DL_y rfl (y_gtr rfl rfl) rfl ?_
                        refine DL_nil ?_
                        refine hK39 _ _ ?_
                        refine T_cond rfl (fun h96 => ?_) (fun h96 => ?_)
                        ·
                          refine T_seq fun K40 hK40 => ?_
                          have hbad : chkL b (t - laid) ((l.map OP.v).drop k) = false := chkL_bad ho (.inr (by omega))
                          refine T_region ?_
                          refine L_y (y_assign rfl) rfl ?_
                          refine L_nil ?_
                          refine hK40 _ _ ?_
                          refine T_ret ?_
                          repeat (first | with_reducible refine up_then ?_ | with_reducible refine up_in ?_)
                          refine ret1 rfl rfl ?_
                          first | exact ⟨_, rfl, S26.like0, by rw [chk_no (by omega)]⟩ | exact ⟨_, rfl, S26.like0, by rw [chk_eq (by omega), hch, hbad]; rfl⟩ | exact ⟨_, rfl, S26.like0, by rw [chk_eq (by omega), hch, chkL_end (by omega), decide_eq_false (by omega)]; rfl⟩ | exact ⟨_, rfl, S26.like0, by rw [chk_eq (by omega), hch, chkL_end (by omega), decide_eq_true (by omega)]; rfl⟩
                        ·
                          refine T_skip ?_
                          refine hK38 _ _ ?_
                          refine T_region ?_
                          refine L_y (y_move rfl) rfl ?_
                          refine L_y (y_ldW Try.underlying58 rfl sz58 rfl (S26.blk 1 rfl) (show _ = opf o ∧ _ from ⟨rfl, rfl⟩)) rfl ?_
                          refine L_o (o_call Try.func28 rfl rfl (rsize o w26 (hok.like S26.like0 o (List.mem_of_getElem? ho))) rfl rfl ?_)
                          rintro e27 w27 ⟨v27, rfl, l27, rfl⟩
                          refine ⟨_, rfl, ?_⟩
                          have S27 := S26.like l27
                          refine L_y (y_add rfl rfl (i64w (by omega))) rfl ?_
                          refine L_y (y_assign rfl) rfl ?_
                          refine L_nil ?_
                          refine hK13 _ _ ?_
                          refine T_region ?_
                          refine L_y (y_move rfl) rfl ?_
                          refine L_y (y_add rfl rfl (i64w (by omega))) rfl ?_
                          refine L_y (y_assign rfl) rfl ?_
                          refine L_nil ?_
                          have S91 := S27.drop (rs' := [_]) (.cons_cons _ (.cons _ (.refl _)))
                          refine ⟨k + 1, laid + szV o.v, by omega, ⟨⟨by omega, by omega, by omega, by rw [hch, chkL_ok ho hgood (by omega), show t - laid - szV o.v = t - (laid + szV o.v) by omega]⟩, S91⟩, ?_⟩
                          exact (Sub.cons rfl (by first | rfl | exact congrArg (Value.int _) (by omega)) (Sub.cons rfl (by first | rfl | exact congrArg (Value.int _) (by omega)) (Sub.cons rfl rfl (Sub.nil _))))
                ·
                  refine L_gno rfl rfl rfl ?_
                  refine L_gno rfl rfl rfl ?_
                  refine L_gno rfl rfl rfl ?_
                  refine L_gno rfl rfl rfl ?_
                  refine L_gno rfl rfl rfl ?_
                  refine L_gnu rfl rfl rfl ?_
                  refine L_gnu rfl rfl rfl ?_
                  refine L_gnu rfl rfl rfl ?_
                  refine L_gno rfl rfl rfl ?_
                  refine L_gno rfl rfl rfl ?_
                  refine L_gnu rfl rfl rfl ?_
                  refine L_gnu rfl rfl rfl ?_
                  refine L_gnu rfl rfl rfl ?_
                  refine L_gno rfl rfl rfl ?_
                  refine L_y ((by first | exact y_pickT rfl rfl | exact y_pickF rfl rfl)) rfl ?_
                  refine L_nil ?_
                  refine hK34 _ _ ?_
                  refine T_false rfl ?_
                  refine T_skip ?_
                  refine hK33 _ _ ?_
                  refine T_seq fun K41 hK41 => ?_
                  refine T_seq fun K42 hK42 => ?_
                  have hgood : rtV b o.v = true := by first | (exfalso; rw [h38] at h74; cases h74; done) | (unfold rtV; simp [OP.v, *]; try omega)
                  have hszp := sz_nonneg hgood
                  refine T_drawnL [(0, true), (2, true), (3, true), (4, true), (5, true), (1, false), (6, true)] hmix (by kernel_rfl) fun w28 l28 => ?_
                  have S28 := S7.like l28
                  refine DL_y rfl (y_ldW Try.underlying58 rfl sz58 rfl (S28.blk 1 rfl) (show _ = opf o ∧ _ from ⟨rfl, rfl⟩)) rfl ?_
                  refine DL_y rfl (y_fieldA 1 Try.underlying30 rfl sz3 rfl rfl rfl) rfl ?_
                  refine DL_y rfl (y_ldc Try.underlying3 rfl rfl (((S28.blk 0 rfl).cell _).trans (by rfl))) rfl ?_
                  refine DL_y rfl (y_move rfl) rfl ?_
                  refine DL_y rfl (y_sub rfl rfl (i64w (by omega))) rfl ?_
                  refine DL_o rfl (o_call Try.func28 rfl rfl (rsize o w28 (hok.like S28.like0 o (List.mem_of_getElem? ho))) rfl rfl ?_)
                  rintro e29 w29 ⟨v29, rfl, l29, rfl⟩
                  refine ⟨_, rfl, l29, ?_⟩
                  have S29 := S28.like l29
                  have q29 := l29
                  refine DL_y rfl (y_gtr rfl rfl) rfl ?_
                  refine DL_nil ?_
                  refine hK42 _ _ ?_
                  refine T_cond rfl (fun h96 => ?_) (fun h96 => ?_)
                  ·
                    refine T_seq fun K43 hK43 => ?_
                    have hbad : chkL b (t - laid) ((l.map OP.v).drop k) = false := chkL_bad ho (.inr (by omega))
                    refine T_region ?_
                    refine L_y (y_assign rfl) rfl ?_
                    refine L_nil ?_
                    refine hK43 _ _ ?_
                    refine T_ret ?_
                    repeat (first | with_reducible refine up_then ?_ | with_reducible refine up_in ?_)
                    refine ret1 rfl rfl ?_
                    first | exact ⟨_, rfl, S29.like0, by rw [chk_no (by omega)]⟩ | exact ⟨_, rfl, S29.like0, by rw [chk_eq (by omega), hch, hbad]; rfl⟩ | exact ⟨_, rfl, S29.like0, by rw [chk_eq (by omega), hch, chkL_end (by omega), decide_eq_false (by omega)]; rfl⟩ | exact ⟨_, rfl, S29.like0, by rw [chk_eq (by omega), hch, chkL_end (by omega), decide_eq_true (by omega)]; rfl⟩
                  ·
                    refine T_skip ?_
                    refine hK41 _ _ ?_
                    refine T_region ?_
                    refine L_y (y_move rfl) rfl ?_
                    refine L_y (y_ldW Try.underlying58 rfl sz58 rfl (S29.blk 1 rfl) (show _ = opf o ∧ _ from ⟨rfl, rfl⟩)) rfl ?_
                    refine L_o (o_call Try.func28 rfl rfl (rsize o w29 (hok.like S29.like0 o (List.mem_of_getElem? ho))) rfl rfl ?_)
                    rintro e30 w30 ⟨v30, rfl, l30, rfl⟩
                    refine ⟨_, rfl, ?_⟩
                    have S30 := S29.like l30
                    refine L_y (y_add rfl rfl (i64w (by omega))) rfl ?_
                    refine L_y (y_assign rfl) rfl ?_
                    refine L_nil ?_
                    refine hK13 _ _ ?_
                    refine T_region ?_
                    refine L_y (y_move rfl) rfl ?_
                    refine L_y (y_add rfl rfl (i64w (by omega))) rfl ?_
                    refine L_y (y_assign rfl) rfl ?_
                    refine L_nil ?_
                    have S91 := S30.drop (rs' := [_]) (.cons_cons _ (.cons _ (.refl _)))
                    refine ⟨k + 1, laid + szV o.v, by omega, ⟨⟨by omega, by omega, by omega, by rw [hch, chkL_ok ho hgood (by omega), show t - laid - szV o.v = t - (laid + szV o.v) by omega]⟩, S91⟩, ?_⟩
                    exact (Sub.cons rfl (by first | rfl | exact congrArg (Value.int _) (by omega)) (Sub.cons rfl (by first | rfl | exact congrArg (Value.int _) (by omega)) (Sub.cons rfl rfl (Sub.nil _))))
            ·
              refine T_exit ?_
              refine hK9 _ _ ?_
              refine T_seq fun K44 hK44 => ?_
              refine T_seq fun K45 hK45 => ?_
              refine T_region ?_
              refine L_y (y_move rfl) rfl ?_
              refine L_y (y_fieldA 1 Try.underlying30 rfl sz3 rfl rfl rfl) rfl ?_
              refine L_y (y_ldc Try.underlying3 rfl rfl (((S5.blk 0 rfl).cell _).trans (by rfl))) rfl ?_
              refine L_y (y_neq rfl rfl) rfl ?_
              refine L_nil ?_
              refine hK45 _ _ ?_
              refine T_cond rfl (fun h104 => ?_) (fun h104 => ?_)
              ·
                refine T_seq fun K46 hK46 => ?_
                refine T_region ?_
                refine L_y (y_assign rfl) rfl ?_
                refine L_nil ?_
                refine hK46 _ _ ?_
                refine T_ret ?_
                repeat (first | with_reducible refine up_then ?_ | with_reducible refine up_in ?_)
                refine ret1 rfl rfl ?_
                first | exact ⟨_, rfl, S5.like0, by rw [chk_no (by omega)]⟩ | exact ⟨_, rfl, S5.like0, by rw [chk_eq (by omega), hch, hbad]; rfl⟩ | exact ⟨_, rfl, S5.like0, by rw [chk_eq (by omega), hch, chkL_end (by omega), decide_eq_false (by omega)]; rfl⟩ | exact ⟨_, rfl, S5.like0, by rw [chk_eq (by omega), hch, chkL_end (by omega), decide_eq_true (by omega)]; rfl⟩
              ·
                refine T_skip ?_
                refine hK44 _ _ ?_
                refine T_seq fun K47 hK47 => ?_
                refine T_region ?_
                refine L_y (y_assign rfl) rfl ?_
                refine L_nil ?_
                refine hK47 _ _ ?_
                refine T_ret ?_
                repeat (first | with_reducible refine up_then ?_ | with_reducible refine up_in ?_)
                refine ret1 rfl rfl ?_
                first | exact ⟨_, rfl, S5.like0, by rw [chk_no (by omega)]⟩ | exact ⟨_, rfl, S5.like0, by rw [chk_eq (by omega), hch, hbad]; rfl⟩ | exact ⟨_, rfl, S5.like0, by rw [chk_eq (by omega), hch, chkL_end (by omega), decide_eq_false (by omega)]; rfl⟩ | exact ⟨_, rfl, S5.like0, by rw [chk_eq (by omega), hch, chkL_end (by omega), decide_eq_true (by omega)]; rfl⟩
end Go.Proofs.Ytpcgldkllnkaeaa
