/-
  works: the sum of abc.
-/
import Derived.Test.YtanelemeljbbcaaO
namespace Go.Proofs.Ytanelemeljbbcaa
open Go.RowKit Zk Zx
set_option linter.unusedVariables false
set_option linter.unusedSimpArgs false

theorem abc0 : (ofL [97, 98, 99])[0]? = some 186 := by kernel_rfl
theorem abc1 : (ofL [97, 98, 99])[1]? = some 120 := by kernel_rfl
theorem abc31 : (ofL [97, 98, 99])[31]? = some 173 := by kernel_rfl


set_option maxRecDepth 100000 in
theorem works  (w0 : World)  :
    Calls Try.prog 10 #[] w0 fun e w' => ∃ u, e = .returned u ∧ Like w0 w' ∧ u = .bool true := by
  refine enter1 (env := []) [] Try.func10 rfl Try.ntmps10 rfl rfl ?_
  have S0 := St.start w0 noM
  refine T_seq fun K1 hK1 => ?_
  refine T_region ?_
  refine L_y (y_assign rfl) rfl ?_
  refine L_nil ?_
  refine hK1 _ _ ?_
  refine T_seq fun K2 hK2 => ?_
  refine T_region ?_
  refine L_o (o_bsl [_, _, _] te23 zz5 S0 rfl rfl rfl rfl rfl rfl rfl rfl fun b1 w1 S1 => ?_)
  refine L_o (o_bconst S1 0 rfl Try.underlying23 Try.underlying5 rfl (by omega) rfl fun w2 S2 => ?_)
  refine L_o (o_bsl [_] te28 zz23 S2 rfl rfl rfl rfl rfl rfl rfl rfl fun b3 w3 S3 => ?_)
  refine L_o (o_call Try.func12 rfl rfl (shaof [⟨some ⟨b1, 0, none⟩, 3, 3, [97, 98, 99]⟩] _ _ _ _ (S3.row 1 rfl) (fun p hp => by obtain rfl := List.mem_singleton.1 hp; exact S3.fix 0 rfl) (by simp [cat]) (by simp)) rfl rfl ?_)
  rintro e4 w4 ⟨v4, rfl, l4, rfl⟩
  refine ⟨_, rfl, ?_⟩
  have S4 := S3.like l4
  generalize hL : ofL (cat [⟨some ⟨b1, 0, none⟩, 3, 3, [97, 98, 99]⟩]) = L
  have h0 : L[0]? = some 186 := by rw [← hL]; exact abc0
  have h1 : L[1]? = some 120 := by rw [← hL]; exact abc1
  have h31 : L[31]? = some 173 := by rw [← hL]; exact abc31
  have hLl : L.length = 32 := by rw [← hL]; exact length_ofL _
  refine L_o (o_alloc zz30 S4 rfl fun b5 w5 hb5 S5 => ?_)
  refine L_o (o_stW S5 2 rfl rfl rfl (by rw [size_bA, hLl]; exact sz30) (by rw [size_bA, hLl]; simp [Value.cells]) (bA_one _) fun w6 S6 => ?_)
  refine L_nil ?_
  refine hK2 _ _ ?_
  refine T_seq fun K3 hK3 => ?_
  refine T_region ?_
  refine L_y (y_idxA0 Try.underlying30 sz5 rfl rfl inferInstance (by omega)) rfl ?_
  refine L_y (y_ldc Try.underlying5 rfl rfl (((S6.blk 2 rfl).cell _).trans (bA_get _ 0 _ h0))) rfl ?_
  refine L_y (y_eql rfl rfl) rfl ?_
  refine L_y (y_move rfl) rfl ?_
  refine L_gyes rfl rfl ?_
  refine L_y (y_idxA0 Try.underlying30 sz5 rfl rfl inferInstance (by omega)) rfl ?_
  refine L_gyes rfl rfl ?_
  refine L_y (y_ldc Try.underlying5 rfl rfl (((S6.blk 2 rfl).cell _).trans (bA_get _ 1 _ h1))) rfl ?_
  refine L_gyes rfl rfl ?_
  refine L_y (y_eql rfl rfl) rfl ?_
  refine L_y ((by first | exact y_pickT rfl rfl | exact y_pickF rfl rfl)) rfl ?_
  refine L_y (y_move rfl) rfl ?_
  refine L_gyes rfl rfl ?_
  refine L_y (y_idxA0 Try.underlying30 sz5 rfl rfl inferInstance (by omega)) rfl ?_
  refine L_gyes rfl rfl ?_
  refine L_y (y_ldc Try.underlying5 rfl rfl (((S6.blk 2 rfl).cell _).trans (bA_get _ 31 _ h31))) rfl ?_
  refine L_gyes rfl rfl ?_
  refine L_y (y_eql rfl rfl) rfl ?_
  refine L_y ((by first | exact y_pickT rfl rfl | exact y_pickF rfl rfl)) rfl ?_
  refine L_y (y_assign rfl) rfl ?_
  refine L_nil ?_
  refine hK3 _ _ ?_
  refine T_ret ?_
  repeat (first | with_reducible refine up_then ?_ | with_reducible refine up_in ?_)
  refine ret1 rfl rfl ?_
  exact ⟨_, rfl, S6.like0, rfl⟩
end Go.Proofs.Ytanelemeljbbcaa
