/-
  Small functions of package sha.
-/
import Derived.Test.YtanelemeljbbcaaI
namespace Go.Proofs.Ytanelemeljbbcaa
open Go.RowKit Zk Zx
set_option linter.unusedVariables false
set_option linter.unusedSimpArgs false

theorem byt_inj (l k : List UInt8) : decide ((⟨l.toArray⟩ : ByteArray) = ⟨k.toArray⟩) = decide (l = k) := by
  by_cases h : l = k
  · subst h; simp
  · have : (⟨l.toArray⟩ : ByteArray) ≠ ⟨k.toArray⟩ := fun e => h (by simpa using e)
    simp [h]
def start0 : Go.Proofs.Ytanelemeljbbcaa.St := ⟨0x6a09e667, 0xbb67ae85, 0x3c6ef372, 0xa54ff53a, 0x510e527f, 0x9b05688c, 0x1f83d9ab, 0x5be0cd19⟩
/-- A Hash's cells. -/
def hashA (n : Nat) (v : Go.Proofs.Ytanelemeljbbcaa.St) (rest : List UInt8) : Array Value := (.bool true :: .int .u64 (n : Int) :: (uL v.list ++ bL rest)).toArray

set_option maxRecDepth 100000 in
theorem same (A B : Option Addr) (n c m d : Nat) (l k : List UInt8) (w0 : World) (ha : Rs w0 1 A n c (bL l)) (hb : Rs w0 1 B m d (bL k)) :
    Calls Try.prog 8 #[.slice A n c, .slice B m d] w0 fun e w' => ∃ u, e = .returned u ∧ Like w0 w' ∧ u = .bool (decide (l = k)) := by
  refine enter1 (env := [(0, .slice A n c), (1, .slice B m d)]) [.slice A n c, .slice B m d] Try.func8 rfl Try.ntmps8 rfl rfl ?_
  have S0 := St.start w0 noM
  refine T_seq fun K1 hK1 => ?_
  refine T_region ?_
  refine L_y (y_assign rfl) rfl ?_
  refine L_nil ?_
  refine hK1 _ _ ?_
  refine T_seq fun K2 hK2 => ?_
  refine T_region ?_
  refine L_y (y_move rfl) rfl ?_
  refine L_y (y_bstr Try.underlying23 Try.underlying5 Try.underlying9 rfl (S0.rd ha)) rfl ?_
  refine L_y (y_move rfl) rfl ?_
  refine L_y (y_bstr Try.underlying23 Try.underlying5 Try.underlying9 rfl (S0.rd hb)) rfl ?_
  refine L_y (y_seql rfl rfl) rfl ?_
  refine L_y (y_assign rfl) rfl ?_
  refine L_nil ?_
  refine hK2 _ _ ?_
  refine T_ret ?_
  repeat (first | with_reducible refine up_then ?_ | with_reducible refine up_in ?_)
  refine ret1 rfl rfl ?_
  exact ⟨_, rfl, S0.like0, by rw [byt_inj]⟩


set_option maxRecDepth 100000 in
theorem start  (w0 : World)  :
    Calls Try.prog 15 #[] w0 fun e w' => ∃ u, e = .returned u ∧ Like w0 w' ∧ u = .agg (uA start0.list) := by
  refine enter1 (env := []) [] Try.func15 rfl Try.ntmps15 rfl rfl ?_
  have S0 := St.start w0 noM
  refine T_seq fun K1 hK1 => ?_
  refine T_region ?_
  refine L_o (o_alloc zz35 S0 rfl fun b1 w1 hb1 S1 => ?_)
  refine L_nil ?_
  refine hK1 _ _ ?_
  refine T_seq fun K2 hK2 => ?_
  refine T_region ?_
  refine L_y (y_build (cs := uA start0.list) rfl (by kernel_rfl)) rfl ?_
  refine L_o (o_stW S1 0 rfl rfl rfl (by exact sz35) (by simp [Go.Proofs.Ytanelemeljbbcaa.St.list, start0, Value.cells]) (uA_one _) fun w2 S2 => ?_)
  refine L_nil ?_
  refine hK2 _ _ ?_
  refine T_ret ?_
  repeat (first | with_reducible refine up_then ?_ | with_reducible refine up_in ?_)
  refine retc rfl rfl (S2.blk 0 rfl) Try.underlying35 rfl (by exact sz35) ?_
  exact ⟨_, rfl, S2.like0, rfl⟩


set_option maxRecDepth 100000 in
theorem refstart  (w0 : World)  :
    Calls Try.prog 16 #[] w0 fun e w' => ∃ u, e = .returned u ∧ Like w0 w' ∧ u = .agg (uA start0.list) := by
  refine enter1 (env := []) [] Try.func16 rfl Try.ntmps16 rfl rfl ?_
  have S0 := St.start w0 noM
  refine T_seq fun K1 hK1 => ?_
  refine T_region ?_
  refine L_o (o_alloc zz35 S0 rfl fun b1 w1 hb1 S1 => ?_)
  refine L_nil ?_
  refine hK1 _ _ ?_
  refine T_seq fun K2 hK2 => ?_
  refine T_region ?_
  refine L_y (y_build (cs := uA start0.list) rfl (by kernel_rfl)) rfl ?_
  refine L_o (o_stW S1 0 rfl rfl rfl (by exact sz35) (by simp [Go.Proofs.Ytanelemeljbbcaa.St.list, start0, Value.cells]) (uA_one _) fun w2 S2 => ?_)
  refine L_nil ?_
  refine hK2 _ _ ?_
  refine T_ret ?_
  repeat (first | with_reducible refine up_then ?_ | with_reducible refine up_in ?_)
  refine retc rfl rfl (S2.blk 0 rfl) Try.underlying35 rfl (by exact sz35) ?_
  exact ⟨_, rfl, S2.like0, rfl⟩


set_option maxRecDepth 100000 in
theorem new  (w0 : World)  :
    Calls Try.prog 17 #[] w0 fun e w' => ∃ u, e = .returned u ∧ Like w0 w' ∧ ∃ b, u = .pointer (some ⟨b, 0, none⟩) ∧ w0.heap.size ≤ b ∧ Blk w' b 53 (hashA 0 start0 (List.replicate 64 0)) := by
  refine enter1 (env := []) [] Try.func17 rfl Try.ntmps17 rfl rfl ?_
  have S0 := St.start w0 noM
  refine T_seq fun K1 hK1 => ?_
  refine T_region ?_
  refine L_y (y_assign rfl) rfl ?_
  refine L_nil ?_
  refine hK1 _ _ ?_
  refine T_seq fun K2 hK2 => ?_
  refine T_region ?_
  refine L_o (o_call Try.func15 rfl rfl (start _) rfl rfl ?_)
  rintro e1 w1 ⟨v1, rfl, l1, rfl⟩
  refine ⟨_, rfl, ?_⟩
  have S1 := S0.like l1
  refine L_y (y_build (cs := hashA 0 start0 (List.replicate 64 0)) rfl (by kernel_rfl)) rfl ?_
  refine L_o (o_box rfl S1 rfl fun b2 w2 hb2 S2 => ?_)
  refine L_y (y_assign rfl) rfl ?_
  refine L_nil ?_
  refine hK2 _ _ ?_
  refine T_ret ?_
  repeat (first | with_reducible refine up_then ?_ | with_reducible refine up_in ?_)
  refine ret1 rfl rfl ?_
  exact ⟨_, rfl, S2.like0, _, rfl, hb2, S2.blk 0 rfl⟩


set_option maxRecDepth 100000 in
theorem len0  (w0 : World)  :
    Calls Try.prog 20 #[.pointer none] w0 fun e w' => ∃ u, e = .returned u ∧ Like w0 w' ∧ u = .int .u64 0 := by
  refine enter1 (env := [(0, .pointer none)]) [.pointer none] Try.func20 rfl Try.ntmps20 rfl rfl ?_
  have S0 := St.start w0 noM
  refine T_seq fun K1 hK1 => ?_
  refine T_region ?_
  refine L_y (y_assign rfl) rfl ?_
  refine L_nil ?_
  refine hK1 _ _ ?_
  refine T_seq fun K2 hK2 => ?_
  refine T_seq fun K3 hK3 => ?_
  refine T_region ?_
  refine L_y (y_move rfl) rfl ?_
  refine L_y (y_peqn Try.underlying42 rfl) rfl ?_
  refine L_nil ?_
  refine hK3 _ _ ?_
  refine T_true rfl ?_
  refine T_seq fun K4 hK4 => ?_
  refine T_region ?_
  refine L_y (y_assign rfl) rfl ?_
  refine L_nil ?_
  refine hK4 _ _ ?_
  refine T_ret ?_
  repeat (first | with_reducible refine up_then ?_ | with_reducible refine up_in ?_)
  refine ret1 rfl rfl ?_
  exact ⟨_, rfl, S0.like0, rfl⟩


set_option maxRecDepth 100000 in
theorem lenH (b n : Nat) (v : Go.Proofs.Ytanelemeljbbcaa.St) (rest : List UInt8) (w0 : World) (hb : Blk w0 b 53 (hashA n v rest)) :
    Calls Try.prog 20 #[.pointer (some ⟨b, 0, none⟩)] w0 fun e w' => ∃ u, e = .returned u ∧ Like w0 w' ∧ u = .int .u64 (n : Int) := by
  refine enter1 (env := [(0, .pointer (some ⟨b, 0, none⟩))]) [.pointer (some ⟨b, 0, none⟩)] Try.func20 rfl Try.ntmps20 rfl rfl ?_
  have S0 := St.start w0 noM
  refine T_seq fun K1 hK1 => ?_
  refine T_region ?_
  refine L_y (y_assign rfl) rfl ?_
  refine L_nil ?_
  refine hK1 _ _ ?_
  refine T_seq fun K2 hK2 => ?_
  refine T_seq fun K3 hK3 => ?_
  refine T_region ?_
  refine L_y (y_move rfl) rfl ?_
  refine L_y (y_peqn Try.underlying42 rfl) rfl ?_
  refine L_nil ?_
  refine hK3 _ _ ?_
  refine T_false rfl ?_
  refine T_skip ?_
  refine hK2 _ _ ?_
  refine T_seq fun K4 hK4 => ?_
  refine T_region ?_
  refine L_y (y_move rfl) rfl ?_
  refine L_y (y_nilp rfl) rfl ?_
  refine L_y (y_fieldA 1 Try.underlying53 rfl sz22 rfl rfl rfl) rfl ?_
  refine L_y (y_ldc Try.underlying22 rfl rfl (((S0.rdB hb).cell _).trans (by rfl))) rfl ?_
  refine L_y (y_assign rfl) rfl ?_
  refine L_nil ?_
  refine hK4 _ _ ?_
  refine T_ret ?_
  repeat (first | with_reducible refine up_then ?_ | with_reducible refine up_in ?_)
  refine ret1 rfl rfl ?_
  exact ⟨_, rfl, S0.like0, rfl⟩


set_option maxRecDepth 100000 in
theorem block (v : Go.Proofs.Ytanelemeljbbcaa.St) (b : List UInt8) (B : Option Addr) (n cb : Nat) (hn : n = 64) (w0 : World) (hb : Rs w0 1 B n cb (bL b)) :
    Calls Try.prog 13 #[.agg (uA v.list), .slice B n cb] w0 fun e w' => ∃ u, e = .returned u ∧ Like w0 w' ∧ u = .tuple #[.agg (uA (blockS v b).list), .int .i64 0] := by
  refine enter1 (env := [(0, .agg (uA v.list)), (1, .slice B n cb)]) [.agg (uA v.list), .slice B n cb] Try.func13 rfl Try.ntmps13 rfl rfl ?_
  have S0 := St.start w0 noM
  refine T_seq fun K1 hK1 => ?_
  refine T_region ?_
  refine L_o (o_box rfl S0 rfl fun b1 w1 hb1 S1 => ?_)
  refine L_o (o_alloc zz35 S1 rfl fun b2 w2 hb2 S2 => ?_)
  refine L_y (y_assign rfl) rfl ?_
  refine L_nil ?_
  refine hK1 _ _ ?_
  refine T_seq fun K2 hK2 => ?_
  refine T_seq fun K3 hK3 => ?_
  refine T_region ?_
  refine L_y (y_move rfl) rfl ?_
  refine L_y (y_len Try.underlying23 rfl) rfl ?_
  refine L_y (y_neq rfl rfl) rfl ?_
  refine L_nil ?_
  refine hK3 _ _ ?_
  refine T_cond rfl (fun h8 => ?_) (fun h8 => ?_)
  ·
    exact absurd hn (by omega)
  ·
    refine T_skip ?_
    refine hK2 _ _ ?_
    refine T_seq fun K4 hK4 => ?_
    refine T_region ?_
    refine L_y (y_ldW Try.underlying35 rfl sz35 rfl (S2.blk 0 rfl) ⟨(rfl : _ = uL v.list), rfl⟩) rfl ?_
    refine L_y (y_move rfl) rfl ?_
    refine L_o (o_call Try.func21 rfl rfl (mix v b B n cb hn _ (S2.rd hb)) rfl rfl ?_)
    rintro e3 w3 ⟨v3, rfl, l3, rfl⟩
    refine ⟨_, rfl, ?_⟩
    have S3 := S2.like l3
    refine L_o (o_stW S3 1 rfl rfl rfl (by exact sz35) (by simp [Go.Proofs.Ytanelemeljbbcaa.St.list, z8, Value.cells]) (uA_one _) fun w4 S4 => ?_)
    refine L_y (y_assign rfl) rfl ?_
    refine L_nil ?_
    refine hK4 _ _ ?_
    refine T_ret ?_
    repeat (first | with_reducible refine up_then ?_ | with_reducible refine up_in ?_)
    refine retct rfl rfl rfl (S4.blk 1 rfl) Try.underlying35 rfl (by exact sz35) ?_
    exact ⟨_, rfl, S4.like0, rfl⟩


set_option maxRecDepth 100000 in
theorem blockno (v : Go.Proofs.Ytanelemeljbbcaa.St) (b : List UInt8) (B : Option Addr) (n cb : Nat) (hn : n ≠ 64) (w0 : World) (hb : Rs w0 1 B n cb (bL b)) :
    Calls Try.prog 13 #[.agg (uA v.list), .slice B n cb] w0 fun e w' => ∃ u, e = .returned u ∧ Like w0 w' ∧ u = .tuple #[.agg (uA z8), .int .i64 2] := by
  refine enter1 (env := [(0, .agg (uA v.list)), (1, .slice B n cb)]) [.agg (uA v.list), .slice B n cb] Try.func13 rfl Try.ntmps13 rfl rfl ?_
  have S0 := St.start w0 noM
  refine T_seq fun K1 hK1 => ?_
  refine T_region ?_
  refine L_o (o_box rfl S0 rfl fun b1 w1 hb1 S1 => ?_)
  refine L_o (o_alloc zz35 S1 rfl fun b2 w2 hb2 S2 => ?_)
  refine L_y (y_assign rfl) rfl ?_
  refine L_nil ?_
  refine hK1 _ _ ?_
  refine T_seq fun K2 hK2 => ?_
  refine T_seq fun K3 hK3 => ?_
  refine T_region ?_
  refine L_y (y_move rfl) rfl ?_
  refine L_y (y_len Try.underlying23 rfl) rfl ?_
  refine L_y (y_neq rfl rfl) rfl ?_
  refine L_nil ?_
  refine hK3 _ _ ?_
  refine T_cond rfl (fun h8 => ?_) (fun h8 => ?_)
  ·
    refine T_seq fun K4 hK4 => ?_
    refine T_region ?_
    refine L_y (y_build (cs := uA z8) rfl (by kernel_rfl)) rfl ?_
    refine L_o (o_stW S2 1 rfl rfl rfl (by exact sz35) (by simp [Go.Proofs.Ytanelemeljbbcaa.St.list, z8, Value.cells]) (uA_one _) fun w3 S3 => ?_)
    refine L_y (y_assign rfl) rfl ?_
    refine L_nil ?_
    refine hK4 _ _ ?_
    refine T_ret ?_
    repeat (first | with_reducible refine up_then ?_ | with_reducible refine up_in ?_)
    refine retct rfl rfl rfl (S3.blk 1 rfl) Try.underlying35 rfl (by exact sz35) ?_
    exact ⟨_, rfl, S3.like0, rfl⟩
  ·
    exact absurd h8 (by omega)
end Go.Proofs.Ytanelemeljbbcaa
