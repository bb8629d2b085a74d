/-
  Of what is not there nothing is told.
-/
import Derived.Test.YtcbnhmcfdpcbhaaP
namespace Go.Proofs.Ytcbnhmcfdpcbhaa
open Go.RowKit Zk Zx
set_option linter.unusedVariables false
set_option linter.unusedSimpArgs false

set_option maxRecDepth 100000 in
theorem nbyte (v : Int) (w0 : World)  :
    Calls Try.prog 30 #[.pointer none, .int .u8 v] w0 fun e w' => ∃ u, e = .returned u ∧ Like w0 w' ∧ u = .tuple #[] := by
  refine enter1 (env := [(0, .pointer none), (1, .int .u8 v)]) [.pointer none, .int .u8 v] Try.func30 rfl Try.ntmps30 rfl rfl ?_
  have S0 := St.start w0 noM
  refine T_seq fun K1 hK1 => ?_
  refine T_region ?_
  refine L_y (y_move rfl) rfl ?_
  refine L_y (y_pneqn Try.underlying23 rfl) rfl ?_
  refine L_nil ?_
  refine hK1 _ _ ?_
  refine T_false rfl ?_
  refine T_skip ?_
  first | refine end0 (fn := Try.f30) rfl ?_ | (simp only [thenQ, inB, if_true]; refine end0 (fn := Try.f30) rfl ?_)
  exact ⟨_, rfl, S0.like0, rfl⟩


set_option maxRecDepth 100000 in
theorem nraw (B : Option Addr) (m d : Nat) (w0 : World)  :
    Calls Try.prog 29 #[.pointer none, .slice B m d] w0 fun e w' => ∃ u, e = .returned u ∧ Like w0 w' ∧ u = .tuple #[] := by
  refine enter1 (env := [(0, .pointer none), (1, .slice B m d)]) [.pointer none, .slice B m d] Try.func29 rfl Try.ntmps29 rfl rfl ?_
  have S0 := St.start w0 noM
  refine T_seq fun K1 hK1 => ?_
  refine T_region ?_
  refine L_y (y_move rfl) rfl ?_
  refine L_y (y_pneqn Try.underlying23 rfl) rfl ?_
  refine L_nil ?_
  refine hK1 _ _ ?_
  refine T_false rfl ?_
  refine T_skip ?_
  first | refine end0 (fn := Try.f29) rfl ?_ | (simp only [thenQ, inB, if_true]; refine end0 (fn := Try.f29) rfl ?_)
  exact ⟨_, rfl, S0.like0, rfl⟩


set_option maxRecDepth 100000 in
theorem nlen  (w0 : World)  :
    Calls Try.prog 11 #[.pointer none] w0 fun e w' => ∃ u, e = .returned u ∧ Like w0 w' ∧ u = .int .i64 0 := by
  refine enter1 (env := [(0, .pointer none)]) [.pointer none] Try.func11 rfl Try.ntmps11 rfl rfl ?_
  have S0 := St.start w0 noM
  refine T_seq fun K1 hK1 => ?_
  refine T_region ?_
  refine L_y (y_assign rfl) rfl ?_
  refine L_nil ?_
  refine hK1 _ _ ?_
  refine T_seq fun K2 hK2 => ?_
  refine T_seq fun K3 hK3 => ?_
  refine T_region ?_
  refine L_y (y_move rfl) rfl ?_
  refine L_y (y_peqn Try.underlying23 rfl) rfl ?_
  refine L_nil ?_
  refine hK3 _ _ ?_
  refine T_true rfl ?_
  refine T_seq fun K4 hK4 => ?_
  refine T_region ?_
  refine L_y (y_assign rfl) rfl ?_
  refine L_nil ?_
  refine hK4 _ _ ?_
  refine T_ret ?_
  repeat (first | with_reducible refine up_then ?_ | with_reducible refine up_in ?_)
  refine ret1 rfl rfl ?_
  exact ⟨_, rfl, S0.like0, rfl⟩


set_option maxRecDepth 100000 in
theorem nbytes  (w0 : World)  :
    Calls Try.prog 13 #[.pointer none] w0 fun e w' => ∃ u, e = .returned u ∧ Like w0 w' ∧ u = .slice none 0 0 := by
  refine enter1 (env := [(0, .pointer none)]) [.pointer none] Try.func13 rfl Try.ntmps13 rfl rfl ?_
  have S0 := St.start w0 noM
  refine T_seq fun K1 hK1 => ?_
  refine T_region ?_
  refine L_y (y_assign rfl) rfl ?_
  refine L_nil ?_
  refine hK1 _ _ ?_
  refine T_seq fun K2 hK2 => ?_
  refine T_seq fun K3 hK3 => ?_
  refine T_region ?_
  refine L_y (y_move rfl) rfl ?_
  refine L_y (y_peqn Try.underlying23 rfl) rfl ?_
  refine L_y (y_move rfl) rfl ?_
  refine L_gno rfl rfl rfl ?_
  refine L_gno rfl rfl rfl ?_
  refine L_gno rfl rfl rfl ?_
  refine L_gno rfl rfl rfl ?_
  refine L_gno rfl rfl rfl ?_
  refine L_gno rfl rfl rfl ?_
  refine L_y ((by first | exact y_pickT rfl rfl | exact y_pickF rfl rfl)) rfl ?_
  refine L_nil ?_
  refine hK3 _ _ ?_
  refine T_true rfl ?_
  refine T_seq fun K4 hK4 => ?_
  refine T_region ?_
  refine L_y (y_assign rfl) rfl ?_
  refine L_nil ?_
  refine hK4 _ _ ?_
  refine T_ret ?_
  repeat (first | with_reducible refine up_then ?_ | with_reducible refine up_in ?_)
  refine ret1 rfl rfl ?_
  exact ⟨_, rfl, S0.like0, rfl⟩


set_option maxRecDepth 100000 in
theorem nu32 (x : Int) (w0 : World)  :
    Calls Try.prog 31 #[.pointer none, .int .u32 x] w0 fun e w' => ∃ u, e = .returned u ∧ Like w0 w' ∧ u = .tuple #[] := by
  refine enter1 (env := [(0, .pointer none), (1, .int .u32 x)]) [.pointer none, .int .u32 x] Try.func31 rfl Try.ntmps31 rfl rfl ?_
  have S0 := St.start w0 noM
  refine T_seq fun K1 hK1 => ?_
  refine T_region ?_
  refine L_y (y_move rfl) rfl ?_
  refine L_y (y_makeFunc rfl rfl) rfl ?_
  refine L_y (y_assign rfl) rfl ?_
  refine L_nil ?_
  refine hK1 _ _ ?_
  refine T_seq fun K2 hK2 => ?_
  refine T_region ?_
  refine L_y (y_assign rfl) rfl ?_
  refine L_nil ?_
  refine hK2 _ _ ?_
  refine T_block ?_
  refine T_loop1 [(1, _), (4, _)] (fun (k : Nat) => [(5, .int .i64 (24 - 8 * (k : Int)))]) (fun (k : Nat) => 4 - k) (fun (k : Nat) (w : World) => k ≤ 4 ∧ St w0 noM [] w) 0 (Sub.cons rfl (by first | rfl | exact congrArg (Value.int _) (by omega)) (Sub.nil _)) (Sub.cons rfl rfl (Sub.cons rfl rfl (Sub.nil _))) ?_ ?_
  ·
    exact ⟨Nat.zero_le _, S0⟩
  ·
    intro k w1 hrel
    obtain ⟨hk, S1⟩ := hrel
    refine T_seq fun K3 hK3 => ?_
    refine T_seq fun K4 hK4 => ?_
    refine T_region ?_
    refine L_y (y_move rfl) rfl ?_
    refine L_y (y_geq rfl rfl) rfl ?_
    refine L_nil ?_
    refine hK4 _ _ ?_
    refine T_cond rfl (fun h9 => ?_) (fun h9 => ?_)
    ·
      refine T_skip ?_
      refine hK3 _ _ ?_
      refine T_seq fun K5 hK5 => ?_
      refine T_block ?_
      refine T_region ?_
      refine L_y (y_move rfl) rfl ?_
      refine L_y (y_move rfl) rfl ?_
      refine L_y (y_move rfl) rfl ?_
      refine L_y (y_conv is3 Try.underlying70 rfl (u64w (by omega))) rfl ?_
      refine L_y (y_shr rfl rfl (by omega) rfl) rfl ?_
      refine L_y (y_conv is54 Try.underlying5 rfl (IntKind.wrap_u8 _)) rfl ?_
      refine L_o (o_callv rfl Try.func30 rfl rfl (nbyte _ w1) rfl rfl (fun d' hd => by cases hd <;> rfl) ?_)
      rintro e2 w2 ⟨v2, rfl, l2, rfl⟩
      refine ⟨_, rfl, ?_⟩
      have S2 := S1.like l2
      refine L_nil ?_
      refine hK5 _ _ ?_
      refine T_region ?_
      refine L_y (y_move rfl) rfl ?_
      refine L_y (y_sub rfl rfl (i64w (by omega))) rfl ?_
      refine L_y (y_assign rfl) rfl ?_
      refine L_nil ?_
      refine ⟨k + 1, by omega, ⟨by omega, S2⟩, ?_⟩
      exact (Sub.cons rfl (congrArg (Value.int _) (by omega)) (Sub.cons rfl rfl (Sub.cons rfl rfl (Sub.nil _))))
    ·
      refine T_exit ?_
      first | refine end0 (fn := Try.f31) rfl ?_ | (simp only [thenQ, inB, if_true]; refine end0 (fn := Try.f31) rfl ?_)
      exact ⟨_, rfl, S1.like0, rfl⟩


set_option maxRecDepth 100000 in
theorem nu64 (x : Int) (w0 : World)  :
    Calls Try.prog 32 #[.pointer none, .int .u64 x] w0 fun e w' => ∃ u, e = .returned u ∧ Like w0 w' ∧ u = .tuple #[] := by
  refine enter1 (env := [(0, .pointer none), (1, .int .u64 x)]) [.pointer none, .int .u64 x] Try.func32 rfl Try.ntmps32 rfl rfl ?_
  have S0 := St.start w0 noM
  refine T_seq fun K1 hK1 => ?_
  refine T_region ?_
  refine L_y (y_move rfl) rfl ?_
  refine L_y (y_move rfl) rfl ?_
  refine L_y (y_shr rfl rfl (by omega) rfl) rfl ?_
  refine L_y (y_conv is27 Try.underlying54 rfl rfl) rfl ?_
  refine L_o (o_call Try.func31 rfl rfl (nu32 _ w0) rfl rfl ?_)
  rintro e1 w1 ⟨v1, rfl, l1, rfl⟩
  refine ⟨_, rfl, ?_⟩
  have S1 := S0.like l1
  refine L_nil ?_
  refine hK1 _ _ ?_
  refine T_region ?_
  refine L_y (y_move rfl) rfl ?_
  refine L_y (y_move rfl) rfl ?_
  refine L_y (y_conv is27 Try.underlying54 rfl rfl) rfl ?_
  refine L_o (o_call Try.func31 rfl rfl (nu32 _ w1) rfl rfl ?_)
  rintro e2 w2 ⟨v2, rfl, l2, rfl⟩
  refine ⟨_, rfl, ?_⟩
  have S2 := S1.like l2
  refine L_nil ?_
  first | refine end0 (fn := Try.f32) rfl ?_ | (simp only [thenQ, inB, if_true]; refine end0 (fn := Try.f32) rfl ?_)
  exact ⟨_, rfl, S2.like0, rfl⟩


set_option maxRecDepth 100000 in
theorem nvar  (w0 : World)  :
    Calls Try.prog 20 #[.pointer none, .int .u64 1] w0 fun e w' => ∃ u, e = .returned u ∧ Like w0 w' ∧ u = .tuple #[] := by
  refine enter1 (env := [(0, .pointer none), (1, .int .u64 1)]) [.pointer none, .int .u64 1] Try.func20 rfl Try.ntmps20 rfl rfl ?_
  have S0 := St.start w0 noM
  refine T_seq fun K1 hK1 => ?_
  refine T_region ?_
  refine L_y (y_move rfl) rfl ?_
  refine L_y (y_makeFunc rfl rfl) rfl ?_
  refine L_y (y_assign rfl) rfl ?_
  refine L_nil ?_
  refine hK1 _ _ ?_
  refine T_seq fun K2 hK2 => ?_
  refine T_block ?_
  refine T_loop1 [(4, _)] (fun (k : Nat) => [(1, .int .u64 1)]) (fun (k : Nat) => k) (fun (k : Nat) (w : World) => k = 0 ∧ St w0 noM [] w) 0 (Sub.cons rfl (by first | rfl | exact congrArg (Value.int _) (by omega)) (Sub.nil _)) (Sub.cons rfl rfl (Sub.nil _)) ?_ ?_
  ·
    exact ⟨rfl, S0⟩
  ·
    intro k w1 hrel
    obtain ⟨hk, S1⟩ := hrel
    refine T_seq fun K3 hK3 => ?_
    refine T_seq fun K4 hK4 => ?_
    refine T_region ?_
    refine L_y (y_move rfl) rfl ?_
    refine L_y (y_geq rfl rfl) rfl ?_
    refine L_nil ?_
    refine hK4 _ _ ?_
    refine T_cond rfl (fun h8 => ?_) (fun h8 => ?_)
    ·
      exfalso; omega
    ·
      refine T_exit ?_
      refine hK2 _ _ ?_
      refine T_region ?_
      refine L_y (y_move rfl) rfl ?_
      refine L_y (y_move rfl) rfl ?_
      refine L_y (y_conv is27 Try.underlying5 rfl (IntKind.wrap_u8 _)) rfl ?_
      refine L_o (o_callv rfl Try.func30 rfl rfl (nbyte _ w1) rfl rfl (fun d' hd => by cases hd <;> rfl) ?_)
      rintro e2 w2 ⟨v2, rfl, l2, rfl⟩
      refine ⟨_, rfl, ?_⟩
      have S2 := S1.like l2
      refine L_nil ?_
      first | refine end0 (fn := Try.f20) rfl ?_ | (simp only [thenQ, inB, if_true]; refine end0 (fn := Try.f20) rfl ?_)
      exact ⟨_, rfl, S2.like0, rfl⟩


set_option maxRecDepth 100000 in
theorem ntext (s : ByteArray) (w0 : World) (hs : s.size = 1) :
    Calls Try.prog 21 #[.pointer none, .string s] w0 fun e w' => ∃ u, e = .returned u ∧ Like w0 w' ∧ u = .tuple #[] := by
  refine enter1 (env := [(0, .pointer none), (1, .string s)]) [.pointer none, .string s] Try.func21 rfl Try.ntmps21 rfl rfl ?_
  have S0 := St.start w0 noM
  refine T_seq fun K1 hK1 => ?_
  refine T_region ?_
  refine L_y (y_move rfl) rfl ?_
  refine L_y (y_move rfl) rfl ?_
  refine L_y (y_lens Try.underlying9 rfl) rfl ?_
  refine L_y (y_conv is3 Try.underlying27 rfl (show IntKind.u64.wrap _ = (1 : Int) by rw [hs]; rfl)) rfl ?_
  refine L_o (o_call Try.func20 rfl rfl (nvar w0) rfl rfl ?_)
  rintro e1 w1 ⟨v1, rfl, l1, rfl⟩
  refine ⟨_, rfl, ?_⟩
  have S1 := S0.like l1
  refine L_nil ?_
  refine hK1 _ _ ?_
  refine T_region ?_
  refine L_y (y_move rfl) rfl ?_
  refine L_y (y_move rfl) rfl ?_
  refine L_o (o_sbytes Try.underlying9 Try.underlying25 Try.underlying5 rfl (by omega) S1 rfl fun b2 c2 w2 l2 S2 => ?_)
  refine L_o (o_call Try.func29 rfl rfl (nraw _ _ _ w2) rfl rfl ?_)
  rintro e3 w3 ⟨v3, rfl, l3, rfl⟩
  refine ⟨_, rfl, ?_⟩
  have S3 := S2.like l3
  refine L_nil ?_
  first | refine end0 (fn := Try.f21) rfl ?_ | (simp only [thenQ, inB, if_true]; refine end0 (fn := Try.f21) rfl ?_)
  exact ⟨_, rfl, S3.like0, rfl⟩


set_option maxRecDepth 100000 in
theorem ndead  (w0 : World)  :
    Calls Try.prog 36 #[.pointer none] w0 fun e w' => ∃ u, e = .returned u ∧ Like w0 w' ∧ u = .bool true := by
  refine enter1 (env := [(0, .pointer none)]) [.pointer none] Try.func36 rfl Try.ntmps36 rfl rfl ?_
  have S0 := St.start w0 noM
  refine T_seq fun K1 hK1 => ?_
  refine T_region ?_
  refine L_y (y_assign rfl) rfl ?_
  refine L_nil ?_
  refine hK1 _ _ ?_
  refine T_seq fun K2 hK2 => ?_
  refine T_region ?_
  refine L_y (y_move rfl) rfl ?_
  refine L_y (y_peqn Try.underlying36 rfl) rfl ?_
  refine L_y (y_move rfl) rfl ?_
  refine L_gno rfl rfl rfl ?_
  refine L_gno rfl rfl rfl ?_
  refine L_gno rfl rfl rfl ?_
  refine L_gno rfl rfl rfl ?_
  refine L_gno rfl rfl rfl ?_
  refine L_y ((by first | exact y_pickT rfl rfl | exact y_pickF rfl rfl)) rfl ?_
  refine L_y (y_assign rfl) rfl ?_
  refine L_nil ?_
  refine hK2 _ _ ?_
  refine T_ret ?_
  repeat (first | with_reducible refine up_then ?_ | with_reducible refine up_in ?_)
  refine ret1 rfl rfl ?_
  exact ⟨_, rfl, S0.like0, rfl⟩


set_option maxRecDepth 100000 in
theorem nrbyte  (w0 : World)  :
    Calls Try.prog 24 #[.pointer none] w0 fun e w' => ∃ u, e = .returned u ∧ Like w0 w' ∧ u = .int .u8 0 := by
  refine enter1 (env := [(0, .pointer none)]) [.pointer none] Try.func24 rfl Try.ntmps24 rfl rfl ?_
  have S0 := St.start w0 noM
  refine T_seq fun K1 hK1 => ?_
  refine T_region ?_
  refine L_y (y_assign rfl) rfl ?_
  refine L_nil ?_
  refine hK1 _ _ ?_
  refine T_seq fun K2 hK2 => ?_
  refine T_seq fun K3 hK3 => ?_
  refine T_region ?_
  refine L_y (y_move rfl) rfl ?_
  refine L_o (o_call Try.func36 rfl rfl (ndead w0) rfl rfl ?_)
  rintro e1 w1 ⟨v1, rfl, l1, rfl⟩
  refine ⟨_, rfl, ?_⟩
  have S1 := S0.like l1
  refine L_nil ?_
  refine hK3 _ _ ?_
  refine T_true rfl ?_
  refine T_seq fun K4 hK4 => ?_
  refine T_region ?_
  refine L_y (y_assign rfl) rfl ?_
  refine L_nil ?_
  refine hK4 _ _ ?_
  refine T_ret ?_
  repeat (first | with_reducible refine up_then ?_ | with_reducible refine up_in ?_)
  refine ret1 rfl rfl ?_
  exact ⟨_, rfl, S1.like0, rfl⟩


set_option maxRecDepth 100000 in
theorem nru32  (w0 : World)  :
    Calls Try.prog 25 #[.pointer none] w0 fun e w' => ∃ u, e = .returned u ∧ Like w0 w' ∧ u = .int .u32 0 := by
  refine enter1 (env := [(0, .pointer none)]) [.pointer none] Try.func25 rfl Try.ntmps25 rfl rfl ?_
  have S0 := St.start w0 noM
  refine T_seq fun K1 hK1 => ?_
  refine T_region ?_
  refine L_y (y_assign rfl) rfl ?_
  refine L_nil ?_
  refine hK1 _ _ ?_
  refine T_seq fun K2 hK2 => ?_
  refine T_seq fun K3 hK3 => ?_
  refine T_region ?_
  refine L_y (y_move rfl) rfl ?_
  refine L_o (o_call Try.func36 rfl rfl (ndead w0) rfl rfl ?_)
  rintro e1 w1 ⟨v1, rfl, l1, rfl⟩
  refine ⟨_, rfl, ?_⟩
  have S1 := S0.like l1
  refine L_nil ?_
  refine hK3 _ _ ?_
  refine T_true rfl ?_
  refine T_seq fun K4 hK4 => ?_
  refine T_region ?_
  refine L_y (y_assign rfl) rfl ?_
  refine L_nil ?_
  refine hK4 _ _ ?_
  refine T_ret ?_
  repeat (first | with_reducible refine up_then ?_ | with_reducible refine up_in ?_)
  refine ret1 rfl rfl ?_
  exact ⟨_, rfl, S1.like0, rfl⟩


set_option maxRecDepth 100000 in
theorem nru64  (w0 : World)  :
    Calls Try.prog 26 #[.pointer none] w0 fun e w' => ∃ u, e = .returned u ∧ Like w0 w' ∧ u = .int .u64 0 := by
  refine enter1 (env := [(0, .pointer none)]) [.pointer none] Try.func26 rfl Try.ntmps26 rfl rfl ?_
  have S0 := St.start w0 noM
  refine T_seq fun K1 hK1 => ?_
  refine T_region ?_
  refine L_y (y_assign rfl) rfl ?_
  refine L_nil ?_
  refine hK1 _ _ ?_
  refine T_seq fun K2 hK2 => ?_
  refine T_seq fun K3 hK3 => ?_
  refine T_region ?_
  refine L_y (y_move rfl) rfl ?_
  refine L_o (o_call Try.func36 rfl rfl (ndead w0) rfl rfl ?_)
  rintro e1 w1 ⟨v1, rfl, l1, rfl⟩
  refine ⟨_, rfl, ?_⟩
  have S1 := S0.like l1
  refine L_nil ?_
  refine hK3 _ _ ?_
  refine T_true rfl ?_
  refine T_seq fun K4 hK4 => ?_
  refine T_region ?_
  refine L_y (y_assign rfl) rfl ?_
  refine L_nil ?_
  refine hK4 _ _ ?_
  refine T_ret ?_
  repeat (first | with_reducible refine up_then ?_ | with_reducible refine up_in ?_)
  refine ret1 rfl rfl ?_
  exact ⟨_, rfl, S1.like0, rfl⟩


set_option maxRecDepth 100000 in
theorem nrvar (x : Int) (w0 : World)  :
    Calls Try.prog 16 #[.pointer none, .int .u64 x] w0 fun e w' => ∃ u, e = .returned u ∧ Like w0 w' ∧ u = .int .u64 0 := by
  refine enterD1 (env := [(0, .pointer none), (1, .int .u64 x)]) [.pointer none, .int .u64 x] Try.func16 rfl Try.ntmps16 rfl rfl ?_
  have S0 := St.start w0 noM
  refine T_seq fun K1 hK1 => ?_
  refine T_region ?_
  refine L_y (y_assign rfl) rfl ?_
  refine L_nil ?_
  refine hK1 _ _ ?_
  refine T_seq fun K2 hK2 => ?_
  refine T_seq fun K3 hK3 => ?_
  refine T_region ?_
  refine L_y (y_move rfl) rfl ?_
  refine L_o (o_call Try.func36 rfl rfl (ndead w0) rfl rfl ?_)
  rintro e1 w1 ⟨v1, rfl, l1, rfl⟩
  refine ⟨_, rfl, ?_⟩
  have S1 := S0.like l1
  refine L_nil ?_
  refine hK3 _ _ ?_
  refine T_true rfl ?_
  refine T_seq fun K4 hK4 => ?_
  refine T_region ?_
  refine L_y (y_assign rfl) rfl ?_
  refine L_nil ?_
  refine hK4 _ _ ?_
  refine T_ret ?_
  repeat (first | with_reducible refine up_then ?_ | with_reducible refine up_in ?_)
  refine retd1 rfl rfl ?_
  exact ⟨_, rfl, S1.like0, rfl⟩


set_option maxRecDepth 100000 in
theorem nrtext (x : Int) (w0 : World)  :
    Calls Try.prog 17 #[.pointer none, .int .i64 x] w0 fun e w' => ∃ u, e = .returned u ∧ Like w0 w' ∧ u = .string ⟨#[]⟩ := by
  refine enterD1 (env := [(0, .pointer none), (1, .int .i64 x)]) [.pointer none, .int .i64 x] Try.func17 rfl Try.ntmps17 rfl rfl ?_
  have S0 := St.start w0 noM
  refine T_seq fun K1 hK1 => ?_
  refine T_region ?_
  refine L_y (y_assign rfl) rfl ?_
  refine L_nil ?_
  refine hK1 _ _ ?_
  refine T_seq fun K2 hK2 => ?_
  refine T_seq fun K3 hK3 => ?_
  refine T_region ?_
  refine L_y (y_move rfl) rfl ?_
  refine L_o (o_call Try.func36 rfl rfl (ndead w0) rfl rfl ?_)
  rintro e1 w1 ⟨v1, rfl, l1, rfl⟩
  refine ⟨_, rfl, ?_⟩
  have S1 := S0.like l1
  refine L_nil ?_
  refine hK3 _ _ ?_
  refine T_true rfl ?_
  refine T_seq fun K4 hK4 => ?_
  refine T_region ?_
  refine L_y (y_assign rfl) rfl ?_
  refine L_nil ?_
  refine hK4 _ _ ?_
  refine T_ret ?_
  repeat (first | with_reducible refine up_then ?_ | with_reducible refine up_in ?_)
  refine retd1 rfl rfl ?_
  exact ⟨_, rfl, S1.like0, rfl⟩


set_option maxRecDepth 100000 in
theorem nrraw (x : Int) (w0 : World)  :
    Calls Try.prog 27 #[.pointer none, .int .i64 x] w0 fun e w' => ∃ u, e = .returned u ∧ Like w0 w' ∧ u = .slice none 0 0 := by
  refine enter1 (env := [(0, .pointer none), (1, .int .i64 x)]) [.pointer none, .int .i64 x] Try.func27 rfl Try.ntmps27 rfl rfl ?_
  have S0 := St.start w0 noM
  refine T_seq fun K1 hK1 => ?_
  refine T_region ?_
  refine L_y (y_assign rfl) rfl ?_
  refine L_nil ?_
  refine hK1 _ _ ?_
  refine T_seq fun K2 hK2 => ?_
  refine T_seq fun K3 hK3 => ?_
  refine T_region ?_
  refine L_y (y_move rfl) rfl ?_
  refine L_o (o_call Try.func36 rfl rfl (ndead w0) rfl rfl ?_)
  rintro e1 w1 ⟨v1, rfl, l1, rfl⟩
  refine ⟨_, rfl, ?_⟩
  have S1 := S0.like l1
  refine L_nil ?_
  refine hK3 _ _ ?_
  refine T_true rfl ?_
  refine T_seq fun K4 hK4 => ?_
  refine T_region ?_
  refine L_y (y_assign rfl) rfl ?_
  refine L_nil ?_
  refine hK4 _ _ ?_
  refine T_ret ?_
  repeat (first | with_reducible refine up_then ?_ | with_reducible refine up_in ?_)
  refine ret1 rfl rfl ?_
  exact ⟨_, rfl, S1.like0, rfl⟩


set_option maxRecDepth 100000 in
theorem nrerr  (w0 : World)  :
    Calls Try.prog 18 #[.pointer none] w0 fun e w' => ∃ u, e = .returned u ∧ Like w0 w' ∧ u = .int .i64 1 := by
  refine enter1 (env := [(0, .pointer none)]) [.pointer none] Try.func18 rfl Try.ntmps18 rfl rfl ?_
  have S0 := St.start w0 noM
  refine T_seq fun K1 hK1 => ?_
  refine T_region ?_
  refine L_y (y_assign rfl) rfl ?_
  refine L_nil ?_
  refine hK1 _ _ ?_
  refine T_seq fun K2 hK2 => ?_
  refine T_seq fun K3 hK3 => ?_
  refine T_region ?_
  refine L_y (y_move rfl) rfl ?_
  refine L_y (y_peqn Try.underlying36 rfl) rfl ?_
  refine L_nil ?_
  refine hK3 _ _ ?_
  refine T_true rfl ?_
  refine T_seq fun K4 hK4 => ?_
  refine T_region ?_
  refine L_y (y_assign rfl) rfl ?_
  refine L_nil ?_
  refine hK4 _ _ ?_
  refine T_ret ?_
  repeat (first | with_reducible refine up_then ?_ | with_reducible refine up_in ?_)
  refine ret1 rfl rfl ?_
  exact ⟨_, rfl, S0.like0, rfl⟩


set_option maxRecDepth 100000 in
theorem nrat  (w0 : World)  :
    Calls Try.prog 22 #[.pointer none] w0 fun e w' => ∃ u, e = .returned u ∧ Like w0 w' ∧ u = .int .i64 0 := by
  refine enter1 (env := [(0, .pointer none)]) [.pointer none] Try.func22 rfl Try.ntmps22 rfl rfl ?_
  have S0 := St.start w0 noM
  refine T_seq fun K1 hK1 => ?_
  refine T_region ?_
  refine L_y (y_assign rfl) rfl ?_
  refine L_nil ?_
  refine hK1 _ _ ?_
  refine T_seq fun K2 hK2 => ?_
  refine T_seq fun K3 hK3 => ?_
  refine T_region ?_
  refine L_y (y_move rfl) rfl ?_
  refine L_y (y_peqn Try.underlying36 rfl) rfl ?_
  refine L_nil ?_
  refine hK3 _ _ ?_
  refine T_true rfl ?_
  refine T_seq fun K4 hK4 => ?_
  refine T_region ?_
  refine L_y (y_assign rfl) rfl ?_
  refine L_nil ?_
  refine hK4 _ _ ?_
  refine T_ret ?_
  repeat (first | with_reducible refine up_then ?_ | with_reducible refine up_in ?_)
  refine ret1 rfl rfl ?_
  exact ⟨_, rfl, S0.like0, rfl⟩


set_option maxRecDepth 100000 in
theorem nrleft  (w0 : World)  :
    Calls Try.prog 19 #[.pointer none] w0 fun e w' => ∃ u, e = .returned u ∧ Like w0 w' ∧ u = .int .i64 0 := by
  refine enter1 (env := [(0, .pointer none)]) [.pointer none] Try.func19 rfl Try.ntmps19 rfl rfl ?_
  have S0 := St.start w0 noM
  refine T_seq fun K1 hK1 => ?_
  refine T_region ?_
  refine L_y (y_assign rfl) rfl ?_
  refine L_nil ?_
  refine hK1 _ _ ?_
  refine T_seq fun K2 hK2 => ?_
  refine T_seq fun K3 hK3 => ?_
  refine T_region ?_
  refine L_y (y_move rfl) rfl ?_
  refine L_y (y_peqn Try.underlying36 rfl) rfl ?_
  refine L_nil ?_
  refine hK3 _ _ ?_
  refine T_true rfl ?_
  refine T_seq fun K4 hK4 => ?_
  refine T_region ?_
  refine L_y (y_assign rfl) rfl ?_
  refine L_nil ?_
  refine hK4 _ _ ?_
  refine T_ret ?_
  repeat (first | with_reducible refine up_then ?_ | with_reducible refine up_in ?_)
  refine ret1 rfl rfl ?_
  exact ⟨_, rfl, S0.like0, rfl⟩


set_option maxRecDepth 100000 in
theorem nrend  (w0 : World)  :
    Calls Try.prog 28 #[.pointer none] w0 fun e w' => ∃ u, e = .returned u ∧ Like w0 w' ∧ u = .int .i64 1 := by
  refine enter1 (env := [(0, .pointer none)]) [.pointer none] Try.func28 rfl Try.ntmps28 rfl rfl ?_
  have S0 := St.start w0 noM
  refine T_seq fun K1 hK1 => ?_
  refine T_region ?_
  refine L_y (y_assign rfl) rfl ?_
  refine L_nil ?_
  refine hK1 _ _ ?_
  refine T_seq fun K2 hK2 => ?_
  refine T_seq fun K3 hK3 => ?_
  refine T_region ?_
  refine L_y (y_move rfl) rfl ?_
  refine L_o (o_call Try.func18 rfl rfl (nrerr w0) rfl rfl ?_)
  rintro e1 w1 ⟨v1, rfl, l1, rfl⟩
  refine ⟨_, rfl, ?_⟩
  have S1 := S0.like l1
  refine L_y (y_assign rfl) rfl ?_
  refine L_nil ?_
  refine hK3 _ _ ?_
  refine T_seq fun K4 hK4 => ?_
  refine T_region ?_
  refine L_y (y_move rfl) rfl ?_
  refine L_y (y_neq rfl rfl) rfl ?_
  refine L_nil ?_
  refine hK4 _ _ ?_
  refine T_true rfl ?_
  refine T_seq fun K5 hK5 => ?_
  refine T_region ?_
  refine L_y (y_move rfl) rfl ?_
  refine L_y (y_assign rfl) rfl ?_
  refine L_nil ?_
  refine hK5 _ _ ?_
  refine T_ret ?_
  repeat (first | with_reducible refine up_then ?_ | with_reducible refine up_in ?_)
  refine ret1 rfl rfl ?_
  exact ⟨_, rfl, S1.like0, rfl⟩
end Go.Proofs.Ytcbnhmcfdpcbhaa
