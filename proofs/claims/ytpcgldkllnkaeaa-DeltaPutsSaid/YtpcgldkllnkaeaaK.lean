/-
  works.
-/
import Derived.Test.YtpcgldkllnkaeaaJ
namespace Go.Proofs.Ytpcgldkllnkaeaa
open Go.RowKit Zk Zx
set_option linter.unusedVariables false
set_option linter.unusedSimpArgs false

def wA : List UInt8 := [104, 101, 108, 108, 111, 44, 32, 119, 111, 114, 108, 100]
def wT : List UInt8 := [104, 101, 108, 108, 111, 44, 32, 116, 104, 101, 114, 101]
theorem wmk : mkV wA wT = [⟨true, 0, 7, []⟩, ⟨false, 0, 0, [116, 104, 101, 114, 101]⟩] := by decide +kernel
theorem two_of {α : Type} : ∀ {l : List α}, l.length = 2 → ∃ a b, l = [a, b]
  | [a, b], _ => ⟨a, b, rfl⟩
theorem w_ops {ops : List OP} (h : ops.map OP.v = mkV wA wT) : ∃ o1 o2, ops = [o1, o2] ∧ o1.cp = true ∧ o1.n = 7 ∧ o2.p.l = [116, 104, 101, 114, 101] := by
  rw [wmk] at h
  obtain ⟨o1, o2, rfl⟩ : ∃ o1 o2, ops = [o1, o2] := two_of (by simpa using congrArg List.length h)
  simp only [List.map_cons, List.map_nil, List.cons.injEq, and_true] at h
  obtain ⟨h1, h2⟩ := h
  exact ⟨o1, o2, rfl, congrArg OV.cp h1, congrArg OV.n h1, congrArg OV.l h2⟩


set_option maxRecDepth 100000 in
theorem works  (w0 : World)  :
    Calls Try.prog 9 #[] w0 fun e w' => ∃ u, e = .returned u ∧ Like w0 w' ∧ u = .bool true := by
  refine enter1 (env := []) [] Try.func9 rfl Try.ntmps9 rfl rfl ?_
  have S0 := St.start w0 noM
  refine T_seq fun K1 hK1 => ?_
  refine T_region ?_
  refine L_y (y_assign rfl) rfl ?_
  refine L_nil ?_
  refine hK1 _ _ ?_
  refine T_seq fun K2 hK2 => ?_
  refine T_region ?_
  refine L_o (o_bsl [_, _, _, _, _, _, _, _, _, _, _, _] te22 zz5 S0 rfl rfl rfl rfl rfl rfl rfl rfl fun b1 w1 S1 => ?_)
  refine L_o (o_bconst S1 0 rfl Try.underlying22 Try.underlying5 rfl (by omega) rfl fun w2 S2 => ?_)
  refine L_o (o_bsl [_, _, _, _, _, _, _, _, _, _, _, _] te22 zz5 S2 rfl rfl rfl rfl rfl rfl rfl rfl fun b3 w3 S3 => ?_)
  refine L_o (o_bconst S3 1 rfl Try.underlying22 Try.underlying5 rfl (by omega) rfl fun w4 S4 => ?_)
  refine L_o (o_call Try.func22 rfl rfl (pmake _ _ 12 _ 12 _ wA wT w4 (show Rs _ 1 _ 12 _ (bL wA) from S4.fix 0 rfl) (show Rs _ 1 _ 12 _ (bL wT) from S4.fix 1 rfl) (by omega) (by omega)) rfl rfl ?_)
  rintro e5 w5 ⟨v5, rfl, l5, A8, c8, ops8, rfl, hR, hok, hmv⟩
  refine ⟨_, rfl, ?_⟩
  have S5 := S4.like l5
  obtain ⟨o1, o2, rfl, hcp, hn7, hth⟩ := w_ops hmv
  have lk := S5.like0
  have S90 := St.start w5 noM
  refine L_y (y_move rfl) rfl ?_
  refine L_y (y_extract rfl rfl) rfl ?_
  refine L_y (y_extract rfl rfl) rfl ?_
  refine L_o (o_alloc zz25 S90 rfl fun b6 w6 hb6 S6 => ?_)
  refine L_o (o_stW S6 0 rfl rfl rfl sz25 rfl (scA_one _ _ _ _ _) fun w7 S7 => ?_)
  refine L_y (y_assign rfl) rfl ?_
  refine L_nil ?_
  refine hK2 _ _ ?_
  refine T_seq fun K3 hK3 => ?_
  refine T_region ?_
  refine L_y (y_move rfl) rfl ?_
  refine L_y (y_eql rfl rfl) rfl ?_
  refine L_y (y_move rfl) rfl ?_
  refine L_split 13 rfl (fun h13 => ?_) (fun h13 => ?_)
  ·
    refine L_gyes rfl rfl ?_
    refine L_y (y_fieldA 2 Try.underlying25 rfl sz23 rfl rfl rfl) rfl ?_
    refine L_gyes rfl rfl ?_
    refine L_y (y_ldc Try.underlying23 rfl rfl (((S7.blk 0 rfl).cell _).trans (by rfl))) rfl ?_
    refine L_gyes rfl rfl ?_
    refine L_y (y_len Try.underlying23 rfl) rfl ?_
    refine L_gyes rfl rfl ?_
    refine L_y (y_eql rfl rfl) rfl ?_
    refine L_y ((by first | exact y_pickT rfl rfl | exact y_pickF rfl rfl)) rfl ?_
    refine L_y (y_move rfl) rfl ?_
    refine L_split 19 rfl (fun h19 => ?_) (fun h19 => ?_)
    ·
      refine L_gyes rfl rfl ?_
      refine L_y (y_fieldA 2 Try.underlying25 rfl sz23 rfl rfl rfl) rfl ?_
      refine L_gyes rfl rfl ?_
      refine L_y (y_ldc Try.underlying23 rfl rfl (((S7.blk 0 rfl).cell _).trans (by rfl))) rfl ?_
      refine L_gyes rfl rfl ?_
      refine L_y (y_idx Try.underlying23 sz57 rfl rfl (S7.rd hR) (Nt.mk rfl : Nt _ (0)) (by omega)) rfl ?_
      refine L_gyes rfl rfl ?_
      refine L_y (y_fieldR 0 Try.underlying57 rfl sz4 rfl rfl (S7.rd hR) (by omega) rfl) rfl ?_
      refine L_gyes rfl rfl ?_
      refine L_y (y_ldf Try.underlying4 rfl rfl (S7.rd hR) (by omega) (show _ = some (Value.bool true) from by rw [← hcp]; rfl)) rfl ?_
      refine L_y ((by first | exact y_pickT rfl rfl | exact y_pickF rfl rfl)) rfl ?_
      refine L_y (y_move rfl) rfl ?_
      refine L_gyes rfl rfl ?_
      refine L_y (y_fieldA 2 Try.underlying25 rfl sz23 rfl rfl rfl) rfl ?_
      refine L_gyes rfl rfl ?_
      refine L_y (y_ldc Try.underlying23 rfl rfl (((S7.blk 0 rfl).cell _).trans (by rfl))) rfl ?_
      refine L_gyes rfl rfl ?_
      refine L_y (y_idx Try.underlying23 sz57 rfl rfl (S7.rd hR) (Nt.mk rfl : Nt _ (0)) (by omega)) rfl ?_
      refine L_gyes rfl rfl ?_
      refine L_y (y_fieldR 2 Try.underlying57 rfl sz3 rfl rfl (S7.rd hR) (by omega) rfl) rfl ?_
      refine L_gyes rfl rfl ?_
      refine L_y (y_ldf Try.underlying3 rfl rfl (S7.rd hR) (by omega) (show _ = some (Value.int .i64 7) from by rw [← hn7]; rfl)) rfl ?_
      refine L_gyes rfl rfl ?_
      refine L_y (y_eql rfl rfl) rfl ?_
      refine L_y ((by first | exact y_pickT rfl rfl | exact y_pickF rfl rfl)) rfl ?_
      refine L_y (y_move rfl) rfl ?_
      refine L_split 34 rfl (fun h34 => ?_) (fun h34 => ?_)
      ·
        refine L_gyes rfl rfl ?_
        refine L_y (y_fieldA 2 Try.underlying25 rfl sz23 rfl rfl rfl) rfl ?_
        refine L_gyes rfl rfl ?_
        refine L_y (y_ldc Try.underlying23 rfl rfl (((S7.blk 0 rfl).cell _).trans (by rfl))) rfl ?_
        refine L_gyes rfl rfl ?_
        refine L_y (y_idx Try.underlying23 sz57 rfl rfl (S7.rd hR) (Nt.mk rfl : Nt _ (1)) (by omega)) rfl ?_
        refine L_gyes rfl rfl ?_
        refine L_y (y_fieldR 3 Try.underlying57 rfl sz22 rfl rfl (S7.rd hR) (by omega) rfl) rfl ?_
        refine L_gyes rfl rfl ?_
        refine L_y (y_ldf Try.underlying22 rfl rfl (S7.rd hR) (by omega) (show _ = some (pv o2.p) from rfl)) rfl ?_
        refine L_gyes rfl rfl ?_
        refine L_y (y_bstr Try.underlying22 Try.underlying5 Try.underlying9 rfl (S7.rd (hok o2 (by simp)))) rfl ?_
        refine L_gyes rfl rfl ?_
        refine L_y (y_seql rfl rfl) rfl ?_
        refine L_y ((by first | exact y_pickT rfl rfl | exact y_pickF rfl rfl)) rfl ?_
        refine L_y (y_assign rfl) rfl ?_
        refine L_nil ?_
        refine hK3 _ _ ?_
        refine T_ret ?_
        repeat (first | with_reducible refine up_then ?_ | with_reducible refine up_in ?_)
        refine ret1 rfl rfl ?_
        exact ⟨_, rfl, Like.trans lk S7.like0, congrArg Value.bool (decide_eq_true (by rw [hth]))⟩
      ·
        exact absurd rfl h34
    ·
      exact absurd rfl h19
  ·
    exact absurd rfl h13
end Go.Proofs.Ytpcgldkllnkaeaa
