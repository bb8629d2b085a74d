import Derived.Test.YtcbnhmcfdpcbhaaMgOwnW1
import Derived.SizedLaws

/-
  Of what is not there nothing is told.
-/
namespace Go.Proofs.Ytcbnhmcfdpcbhaa
open Go.RowKit Zk Zx
set_option linter.unusedVariables false
set_option linter.unusedSimpArgs false

set_option maxRecDepth 100000 in
theorem nbyte (v : Int) (w0 : World)  :
    Calls Try.prog 30 #[.pointer none, .int .u8 v] w0 fun e w' => ∃ u, e = .returned u ∧ Like w0 w' ∧ u = .tuple #[] := by
  refine enter1 (env := [(0, .pointer none), (1, .int .u8 v)]) [.pointer none, .int .u8 v] Try.func30 rfl Try.ntmps30 rfl rfl ?_
  have S0 := St.start w0 noM
  refine T_seq fun K1 hK1 => ?_
  refine T_region ?_
  refine L_y (y_move rfl) rfl ?_
  refine L_y (y_pneqn Try.underlying23 rfl) rfl ?_
  refine L_nil ?_
  refine hK1 _ _ ?_
  refine T_false rfl ?_
  refine T_skip ?_
  first | refine end0 (fn := Try.f30) rfl ?_ | (simp only [thenQ, inB, if_true]; refine end0 (fn := Try.f30) rfl ?_)
  exact ⟨_, rfl, S0.like0, rfl⟩


set_option maxRecDepth 100000 in
theorem nraw (B : Option Addr) (m d : Nat) (w0 : World)  :
    Calls Try.prog 29 #[.pointer none, .slice B m d] w0 fun e w' => ∃ u, e = .returned u ∧ Like w0 w' ∧ u = .tuple #[] := by
  refine enter1 (env := [(0, .pointer none), (1, .slice B m d)]) [.pointer none, .slice B m d] Try.func29 rfl Try.ntmps29 rfl rfl ?_
  have S0 := St.start w0 noM
  refine T_seq fun K1 hK1 => ?_
  refine T_region ?_
  refine L_y (y_move rfl) rfl ?_
  refine L_y (y_pneqn Try.underlying23 rfl) rfl ?_
  refine L_nil ?_
  refine hK1 _ _ ?_
  refine T_false rfl ?_
  refine T_skip ?_
  first | refine end0 (fn := Try.f29) rfl ?_ | (simp only [thenQ, inB, if_true]; refine end0 (fn := Try.f29) rfl ?_)
  exact ⟨_, rfl, S0.like0, rfl⟩


set_option maxRecDepth 100000 in
theorem nlen  (w0 : World)  :
    Calls Try.prog 11 #[.pointer none] w0 fun e w' => ∃ u, e = .returned u ∧ Like w0 w' ∧ u = .int .i64 0 := by
  refine enter1 (env := [(0, .pointer none)]) [.pointer none] Try.func11 rfl Try.ntmps11 rfl rfl ?_
  have S0 := St.start w0 noM
  refine T_seq fun K1 hK1 => ?_
  refine T_region ?_
  refine L_y (y_assign rfl) rfl ?_
  refine L_nil ?_
  refine hK1 _ _ ?_
  refine T_seq fun K2 hK2 => ?_
  refine T_seq fun K3 hK3 => ?_
  refine T_region ?_
  refine L_y (y_move rfl) rfl ?_
  refine L_y (y_peqn Try.underlying23 rfl) rfl ?_
  refine L_nil ?_
  refine hK3 _ _ ?_
  refine T_true rfl ?_
  refine T_seq fun K4 hK4 => ?_
  refine T_region ?_
  refine L_y (y_assign rfl) rfl ?_
  refine L_nil ?_
  refine hK4 _ _ ?_
  refine T_ret ?_
  refine ur ?_
  refine ret1 rfl rfl ?_
  exact ⟨_, rfl, S0.like0, rfl⟩


set_option maxRecDepth 100000 in
theorem nbytes  (w0 : World)  :
    Calls Try.prog 13 #[.pointer none] w0 fun e w' => ∃ u, e = .returned u ∧ Like w0 w' ∧ u = .slice none 0 0 := by
  refine enter1 (env := [(0, .pointer none)]) [.pointer none] Try.func13 rfl Try.ntmps13 rfl rfl ?_
  have S0 := St.start w0 noM
  refine T_seq fun K1 hK1 => ?_
  refine T_region ?_
  refine L_y (y_assign rfl) rfl ?_
  refine L_nil ?_
  refine hK1 _ _ ?_
  refine T_seq fun K2 hK2 => ?_
  refine T_seq fun K3 hK3 => ?_
  refine T_region ?_
  refine L_y (y_move rfl) rfl ?_
  refine L_y (y_peqn Try.underlying23 rfl) rfl ?_
  refine L_y (y_move rfl) rfl ?_
  refine L_gno rfl rfl rfl ?_
  refine L_gno rfl rfl rfl ?_
  refine L_gno rfl rfl rfl ?_
  refine L_gno rfl rfl rfl ?_
  refine L_gno rfl rfl rfl ?_
  refine L_gno rfl rfl rfl ?_
  refine L_y (y_pk rfl rfl) rfl ?_
  refine L_nil ?_
  refine hK3 _ _ ?_
  refine T_true rfl ?_
  refine T_seq fun K4 hK4 => ?_
  refine T_region ?_
  refine L_y (y_assign rfl) rfl ?_
  refine L_nil ?_
  refine hK4 _ _ ?_
  refine T_ret ?_
  refine ur ?_
  refine ret1 rfl rfl ?_
  exact ⟨_, rfl, S0.like0, rfl⟩


set_option maxRecDepth 100000 in
theorem nu32 (x : Int) (w0 : World)  :
    Calls Try.prog 31 #[.pointer none, .int .u32 x] w0 fun e w' => ∃ u, e = .returned u ∧ Like w0 w' ∧ u = .tuple #[] := by
  refine enter1 (env := [(0, .pointer none), (1, .int .u32 x)]) [.pointer none, .int .u32 x] Try.func31 rfl Try.ntmps31 rfl rfl ?_
  have S0 := St.start w0 noM
  refine T_seq fun K1 hK1 => ?_
  refine T_region ?_
  refine L_y (y_move rfl) rfl ?_
  refine L_y (y_makeFunc rfl rfl) rfl ?_
  refine L_y (y_assign rfl) rfl ?_
  refine L_nil ?_
  refine hK1 _ _ ?_
  refine T_seq fun K2 hK2 => ?_
  refine T_region ?_
  refine L_y (y_assign rfl) rfl ?_
  refine L_nil ?_
  refine hK2 _ _ ?_
  refine T_block ?_
  refine T_loop1 [(1, _), (4, _)] (fun (k : Nat) => [(5, .int .i64 (24 - 8 * (k : Int)))]) (fun (k : Nat) => 4 - k) (fun (k : Nat) (w : World) => k ≤ 4 ∧ St w0 noM [] w) 0 (Sub.cons rfl (by first | rfl | exact congrArg (Value.int _) (by omega)) (Sub.nil _)) (Sub.cons rfl rfl (Sub.cons rfl rfl (Sub.nil _))) ?_ ?_
  ·
    exact ⟨Nat.zero_le _, S0⟩
  ·
    intro k w1 hrel
    obtain ⟨hk, S1⟩ := hrel
    refine T_seq fun K3 hK3 => ?_
    refine T_seq fun K4 hK4 => ?_
    refine T_region ?_
    refine L_y (y_move rfl) rfl ?_
    refine L_y (y_geq rfl rfl) rfl ?_
    refine L_nil ?_
    refine hK4 _ _ ?_
    refine T_cond rfl (fun h9 => ?_) (fun h9 => ?_)
    ·
      refine T_skip ?_
      refine hK3 _ _ ?_
      refine T_seq fun K5 hK5 => ?_
      refine T_block ?_
      refine T_region ?_
      refine L_y (y_move rfl) rfl ?_
      refine L_y (y_move rfl) rfl ?_
      refine L_y (y_move rfl) rfl ?_
      refine L_y (y_conv is3 Try.underlying70 rfl (u64w (by omega))) rfl ?_
      refine L_y (y_shr rfl rfl (by omega) rfl) rfl ?_
      refine L_y (y_conv is54 Try.underlying5 rfl (IntKind.wrap_u8 _)) rfl ?_
      refine L_o (o_callv rfl Try.func30 rfl rfl (nbyte _ w1) rfl rfl (fun d' hd => by cases hd <;> rfl) ?_)
      rintro e2 w2 ⟨v2, rfl, l2, rfl⟩
      refine ⟨_, rfl, ?_⟩
      have S2 := S1.like l2
      refine L_nil ?_
      refine hK5 _ _ ?_
      refine T_region ?_
      refine L_y (y_move rfl) rfl ?_
      refine L_y (y_sub rfl rfl (i64w (by omega))) rfl ?_
      refine L_y (y_assign rfl) rfl ?_
      refine L_nil ?_
      refine ⟨k + 1, by omega, ⟨by omega, S2⟩, ?_⟩
      exact (Sub.cons rfl (congrArg (Value.int _) (by omega)) (Sub.cons rfl rfl (Sub.cons rfl rfl (Sub.nil _))))
    ·
      refine T_exit ?_
      first | refine end0 (fn := Try.f31) rfl ?_ | (simp only [thenQ, inB, if_true]; refine end0 (fn := Try.f31) rfl ?_)
      exact ⟨_, rfl, S1.like0, rfl⟩


set_option maxRecDepth 100000 in
theorem nu64 (x : Int) (w0 : World)  :
    Calls Try.prog 32 #[.pointer none, .int .u64 x] w0 fun e w' => ∃ u, e = .returned u ∧ Like w0 w' ∧ u = .tuple #[] := by
  refine enter1 (env := [(0, .pointer none), (1, .int .u64 x)]) [.pointer none, .int .u64 x] Try.func32 rfl Try.ntmps32 rfl rfl ?_
  have S0 := St.start w0 noM
  refine T_seq fun K1 hK1 => ?_
  refine T_region ?_
  refine L_y (y_move rfl) rfl ?_
  refine L_y (y_move rfl) rfl ?_
  refine L_y (y_shr rfl rfl (by omega) rfl) rfl ?_
  refine L_y (y_conv is27 Try.underlying54 rfl rfl) rfl ?_
  refine L_o (o_call Try.func31 rfl rfl (nu32 _ w0) rfl rfl ?_)
  rintro e1 w1 ⟨v1, rfl, l1, rfl⟩
  refine ⟨_, rfl, ?_⟩
  have S1 := S0.like l1
  refine L_nil ?_
  refine hK1 _ _ ?_
  refine T_region ?_
  refine L_y (y_move rfl) rfl ?_
  refine L_y (y_move rfl) rfl ?_
  refine L_y (y_conv is27 Try.underlying54 rfl rfl) rfl ?_
  refine L_o (o_call Try.func31 rfl rfl (nu32 _ w1) rfl rfl ?_)
  rintro e2 w2 ⟨v2, rfl, l2, rfl⟩
  refine ⟨_, rfl, ?_⟩
  have S2 := S1.like l2
  refine L_nil ?_
  first | refine end0 (fn := Try.f32) rfl ?_ | (simp only [thenQ, inB, if_true]; refine end0 (fn := Try.f32) rfl ?_)
  exact ⟨_, rfl, S2.like0, rfl⟩


set_option maxRecDepth 100000 in
theorem nvar  (w0 : World)  :
    Calls Try.prog 20 #[.pointer none, .int .u64 1] w0 fun e w' => ∃ u, e = .returned u ∧ Like w0 w' ∧ u = .tuple #[] := by
  refine enter1 (env := [(0, .pointer none), (1, .int .u64 1)]) [.pointer none, .int .u64 1] Try.func20 rfl Try.ntmps20 rfl rfl ?_
  have S0 := St.start w0 noM
  refine T_seq fun K1 hK1 => ?_
  refine T_region ?_
  refine L_y (y_move rfl) rfl ?_
  refine L_y (y_makeFunc rfl rfl) rfl ?_
  refine L_y (y_assign rfl) rfl ?_
  refine L_nil ?_
  refine hK1 _ _ ?_
  refine T_seq fun K2 hK2 => ?_
  refine T_block ?_
  refine T_loop1 [(4, _)] (fun (k : Nat) => [(1, .int .u64 1)]) (fun (k : Nat) => k) (fun (k : Nat) (w : World) => k = 0 ∧ St w0 noM [] w) 0 (Sub.cons rfl (by first | rfl | exact congrArg (Value.int _) (by omega)) (Sub.nil _)) (Sub.cons rfl rfl (Sub.nil _)) ?_ ?_
  ·
    exact ⟨rfl, S0⟩
  ·
    intro k w1 hrel
    obtain ⟨hk, S1⟩ := hrel
    refine T_seq fun K3 hK3 => ?_
    refine T_seq fun K4 hK4 => ?_
    refine T_region ?_
    refine L_y (y_move rfl) rfl ?_
    refine L_y (y_geq rfl rfl) rfl ?_
    refine L_nil ?_
    refine hK4 _ _ ?_
    refine T_cond rfl (fun h8 => ?_) (fun h8 => ?_)
    ·
      exfalso; omega
    ·
      refine T_exit ?_
      refine hK2 _ _ ?_
      refine T_region ?_
      refine L_y (y_move rfl) rfl ?_
      refine L_y (y_move rfl) rfl ?_
      refine L_y (y_conv is27 Try.underlying5 rfl (IntKind.wrap_u8 _)) rfl ?_
      refine L_o (o_callv rfl Try.func30 rfl rfl (nbyte _ w1) rfl rfl (fun d' hd => by cases hd <;> rfl) ?_)
      rintro e2 w2 ⟨v2, rfl, l2, rfl⟩
      refine ⟨_, rfl, ?_⟩
      have S2 := S1.like l2
      refine L_nil ?_
      first | refine end0 (fn := Try.f20) rfl ?_ | (simp only [thenQ, inB, if_true]; refine end0 (fn := Try.f20) rfl ?_)
      exact ⟨_, rfl, S2.like0, rfl⟩


set_option maxRecDepth 100000 in
theorem ntext (s : ByteArray) (w0 : World) (hs : s.size = 1) :
    Calls Try.prog 21 #[.pointer none, .string s] w0 fun e w' => ∃ u, e = .returned u ∧ Like w0 w' ∧ u = .tuple #[] := by
  refine enter1 (env := [(0, .pointer none), (1, .string s)]) [.pointer none, .string s] Try.func21 rfl Try.ntmps21 rfl rfl ?_
  have S0 := St.start w0 noM
  refine T_seq fun K1 hK1 => ?_
  refine T_region ?_
  refine L_y (y_move rfl) rfl ?_
  refine L_y (y_move rfl) rfl ?_
  refine L_y (y_lens Try.underlying9 rfl) rfl ?_
  refine L_y (y_conv is3 Try.underlying27 rfl (show IntKind.u64.wrap _ = (1 : Int) by rw [hs]; rfl)) rfl ?_
  refine L_o (o_call Try.func20 rfl rfl (nvar w0) rfl rfl ?_)
  rintro e1 w1 ⟨v1, rfl, l1, rfl⟩
  refine ⟨_, rfl, ?_⟩
  have S1 := S0.like l1
  refine L_nil ?_
  refine hK1 _ _ ?_
  refine T_region ?_
  refine L_y (y_move rfl) rfl ?_
  refine L_y (y_move rfl) rfl ?_
  refine L_o (o_sbytes Try.underlying9 Try.underlying25 Try.underlying5 rfl (by omega) S1 rfl fun b2 c2 w2 l2 S2 => ?_)
  refine L_o (o_call Try.func29 rfl rfl (nraw _ _ _ w2) rfl rfl ?_)
  rintro e3 w3 ⟨v3, rfl, l3, rfl⟩
  refine ⟨_, rfl, ?_⟩
  have S3 := S2.like l3
  refine L_nil ?_
  first | refine end0 (fn := Try.f21) rfl ?_ | (simp only [thenQ, inB, if_true]; refine end0 (fn := Try.f21) rfl ?_)
  exact ⟨_, rfl, S3.like0, rfl⟩


set_option maxRecDepth 100000 in
theorem ndead  (w0 : World)  :
    Calls Try.prog 36 #[.pointer none] w0 fun e w' => ∃ u, e = .returned u ∧ Like w0 w' ∧ u = .bool true := by
  refine enter1 (env := [(0, .pointer none)]) [.pointer none] Try.func36 rfl Try.ntmps36 rfl rfl ?_
  have S0 := St.start w0 noM
  refine T_seq fun K1 hK1 => ?_
  refine T_region ?_
  refine L_y (y_assign rfl) rfl ?_
  refine L_nil ?_
  refine hK1 _ _ ?_
  refine T_seq fun K2 hK2 => ?_
  refine T_region ?_
  refine L_y (y_move rfl) rfl ?_
  refine L_y (y_peqn Try.underlying36 rfl) rfl ?_
  refine L_y (y_move rfl) rfl ?_
  refine L_gno rfl rfl rfl ?_
  refine L_gno rfl rfl rfl ?_
  refine L_gno rfl rfl rfl ?_
  refine L_gno rfl rfl rfl ?_
  refine L_gno rfl rfl rfl ?_
  refine L_y (y_pk rfl rfl) rfl ?_
  refine L_y (y_assign rfl) rfl ?_
  refine L_nil ?_
  refine hK2 _ _ ?_
  refine T_ret ?_
  refine ur ?_
  refine ret1 rfl rfl ?_
  exact ⟨_, rfl, S0.like0, rfl⟩


set_option maxRecDepth 100000 in
theorem nrbyte  (w0 : World)  :
    Calls Try.prog 24 #[.pointer none] w0 fun e w' => ∃ u, e = .returned u ∧ Like w0 w' ∧ u = .int .u8 0 := by
  refine enter1 (env := [(0, .pointer none)]) [.pointer none] Try.func24 rfl Try.ntmps24 rfl rfl ?_
  have S0 := St.start w0 noM
  refine T_seq fun K1 hK1 => ?_
  refine T_region ?_
  refine L_y (y_assign rfl) rfl ?_
  refine L_nil ?_
  refine hK1 _ _ ?_
  refine T_seq fun K2 hK2 => ?_
  refine T_seq fun K3 hK3 => ?_
  refine T_region ?_
  refine L_y (y_move rfl) rfl ?_
  refine L_o (o_call Try.func36 rfl rfl (ndead w0) rfl rfl ?_)
  rintro e1 w1 ⟨v1, rfl, l1, rfl⟩
  refine ⟨_, rfl, ?_⟩
  have S1 := S0.like l1
  refine L_nil ?_
  refine hK3 _ _ ?_
  refine T_true rfl ?_
  refine T_seq fun K4 hK4 => ?_
  refine T_region ?_
  refine L_y (y_assign rfl) rfl ?_
  refine L_nil ?_
  refine hK4 _ _ ?_
  refine T_ret ?_
  refine ur ?_
  refine ret1 rfl rfl ?_
  exact ⟨_, rfl, S1.like0, rfl⟩


set_option maxRecDepth 100000 in
theorem nru32  (w0 : World)  :
    Calls Try.prog 25 #[.pointer none] w0 fun e w' => ∃ u, e = .returned u ∧ Like w0 w' ∧ u = .int .u32 0 := by
  refine enter1 (env := [(0, .pointer none)]) [.pointer none] Try.func25 rfl Try.ntmps25 rfl rfl ?_
  have S0 := St.start w0 noM
  refine T_seq fun K1 hK1 => ?_
  refine T_region ?_
  refine L_y (y_assign rfl) rfl ?_
  refine L_nil ?_
  refine hK1 _ _ ?_
  refine T_seq fun K2 hK2 => ?_
  refine T_seq fun K3 hK3 => ?_
  refine T_region ?_
  refine L_y (y_move rfl) rfl ?_
  refine L_o (o_call Try.func36 rfl rfl (ndead w0) rfl rfl ?_)
  rintro e1 w1 ⟨v1, rfl, l1, rfl⟩
  refine ⟨_, rfl, ?_⟩
  have S1 := S0.like l1
  refine L_nil ?_
  refine hK3 _ _ ?_
  refine T_true rfl ?_
  refine T_seq fun K4 hK4 => ?_
  refine T_region ?_
  refine L_y (y_assign rfl) rfl ?_
  refine L_nil ?_
  refine hK4 _ _ ?_
  refine T_ret ?_
  refine ur ?_
  refine ret1 rfl rfl ?_
  exact ⟨_, rfl, S1.like0, rfl⟩


set_option maxRecDepth 100000 in
theorem nru64  (w0 : World)  :
    Calls Try.prog 26 #[.pointer none] w0 fun e w' => ∃ u, e = .returned u ∧ Like w0 w' ∧ u = .int .u64 0 := by
  refine enter1 (env := [(0, .pointer none)]) [.pointer none] Try.func26 rfl Try.ntmps26 rfl rfl ?_
  have S0 := St.start w0 noM
  refine T_seq fun K1 hK1 => ?_
  refine T_region ?_
  refine L_y (y_assign rfl) rfl ?_
  refine L_nil ?_
  refine hK1 _ _ ?_
  refine T_seq fun K2 hK2 => ?_
  refine T_seq fun K3 hK3 => ?_
  refine T_region ?_
  refine L_y (y_move rfl) rfl ?_
  refine L_o (o_call Try.func36 rfl rfl (ndead w0) rfl rfl ?_)
  rintro e1 w1 ⟨v1, rfl, l1, rfl⟩
  refine ⟨_, rfl, ?_⟩
  have S1 := S0.like l1
  refine L_nil ?_
  refine hK3 _ _ ?_
  refine T_true rfl ?_
  refine T_seq fun K4 hK4 => ?_
  refine T_region ?_
  refine L_y (y_assign rfl) rfl ?_
  refine L_nil ?_
  refine hK4 _ _ ?_
  refine T_ret ?_
  refine ur ?_
  refine ret1 rfl rfl ?_
  exact ⟨_, rfl, S1.like0, rfl⟩


set_option maxRecDepth 100000 in
theorem nrvar (x : Int) (w0 : World)  :
    Calls Try.prog 16 #[.pointer none, .int .u64 x] w0 fun e w' => ∃ u, e = .returned u ∧ Like w0 w' ∧ u = .int .u64 0 := by
  refine enterD1 (env := [(0, .pointer none), (1, .int .u64 x)]) [.pointer none, .int .u64 x] Try.func16 rfl Try.ntmps16 rfl rfl ?_
  have S0 := St.start w0 noM
  refine T_seq fun K1 hK1 => ?_
  refine T_region ?_
  refine L_y (y_assign rfl) rfl ?_
  refine L_nil ?_
  refine hK1 _ _ ?_
  refine T_seq fun K2 hK2 => ?_
  refine T_seq fun K3 hK3 => ?_
  refine T_region ?_
  refine L_y (y_move rfl) rfl ?_
  refine L_o (o_call Try.func36 rfl rfl (ndead w0) rfl rfl ?_)
  rintro e1 w1 ⟨v1, rfl, l1, rfl⟩
  refine ⟨_, rfl, ?_⟩
  have S1 := S0.like l1
  refine L_nil ?_
  refine hK3 _ _ ?_
  refine T_true rfl ?_
  refine T_seq fun K4 hK4 => ?_
  refine T_region ?_
  refine L_y (y_assign rfl) rfl ?_
  refine L_nil ?_
  refine hK4 _ _ ?_
  refine T_ret ?_
  refine ur ?_
  refine retd1 rfl rfl ?_
  exact ⟨_, rfl, S1.like0, rfl⟩


set_option maxRecDepth 100000 in
theorem nrtext (x : Int) (w0 : World)  :
    Calls Try.prog 17 #[.pointer none, .int .i64 x] w0 fun e w' => ∃ u, e = .returned u ∧ Like w0 w' ∧ u = .string ⟨#[]⟩ := by
  refine enterD1 (env := [(0, .pointer none), (1, .int .i64 x)]) [.pointer none, .int .i64 x] Try.func17 rfl Try.ntmps17 rfl rfl ?_
  have S0 := St.start w0 noM
  refine T_seq fun K1 hK1 => ?_
  refine T_region ?_
  refine L_y (y_assign rfl) rfl ?_
  refine L_nil ?_
  refine hK1 _ _ ?_
  refine T_seq fun K2 hK2 => ?_
  refine T_seq fun K3 hK3 => ?_
  refine T_region ?_
  refine L_y (y_move rfl) rfl ?_
  refine L_o (o_call Try.func36 rfl rfl (ndead w0) rfl rfl ?_)
  rintro e1 w1 ⟨v1, rfl, l1, rfl⟩
  refine ⟨_, rfl, ?_⟩
  have S1 := S0.like l1
  refine L_nil ?_
  refine hK3 _ _ ?_
  refine T_true rfl ?_
  refine T_seq fun K4 hK4 => ?_
  refine T_region ?_
  refine L_y (y_assign rfl) rfl ?_
  refine L_nil ?_
  refine hK4 _ _ ?_
  refine T_ret ?_
  refine ur ?_
  refine retd1 rfl rfl ?_
  exact ⟨_, rfl, S1.like0, rfl⟩


set_option maxRecDepth 100000 in
theorem nrraw (x : Int) (w0 : World)  :
    Calls Try.prog 27 #[.pointer none, .int .i64 x] w0 fun e w' => ∃ u, e = .returned u ∧ Like w0 w' ∧ u = .slice none 0 0 := by
  refine enter1 (env := [(0, .pointer none), (1, .int .i64 x)]) [.pointer none, .int .i64 x] Try.func27 rfl Try.ntmps27 rfl rfl ?_
  have S0 := St.start w0 noM
  refine T_seq fun K1 hK1 => ?_
  refine T_region ?_
  refine L_y (y_assign rfl) rfl ?_
  refine L_nil ?_
  refine hK1 _ _ ?_
  refine T_seq fun K2 hK2 => ?_
  refine T_seq fun K3 hK3 => ?_
  refine T_region ?_
  refine L_y (y_move rfl) rfl ?_
  refine L_o (o_call Try.func36 rfl rfl (ndead w0) rfl rfl ?_)
  rintro e1 w1 ⟨v1, rfl, l1, rfl⟩
  refine ⟨_, rfl, ?_⟩
  have S1 := S0.like l1
  refine L_nil ?_
  refine hK3 _ _ ?_
  refine T_true rfl ?_
  refine T_seq fun K4 hK4 => ?_
  refine T_region ?_
  refine L_y (y_assign rfl) rfl ?_
  refine L_nil ?_
  refine hK4 _ _ ?_
  refine T_ret ?_
  refine ur ?_
  refine ret1 rfl rfl ?_
  exact ⟨_, rfl, S1.like0, rfl⟩


set_option maxRecDepth 100000 in
theorem nrerr  (w0 : World)  :
    Calls Try.prog 18 #[.pointer none] w0 fun e w' => ∃ u, e = .returned u ∧ Like w0 w' ∧ u = .int .i64 1 := by
  refine enter1 (env := [(0, .pointer none)]) [.pointer none] Try.func18 rfl Try.ntmps18 rfl rfl ?_
  have S0 := St.start w0 noM
  refine T_seq fun K1 hK1 => ?_
  refine T_region ?_
  refine L_y (y_assign rfl) rfl ?_
  refine L_nil ?_
  refine hK1 _ _ ?_
  refine T_seq fun K2 hK2 => ?_
  refine T_seq fun K3 hK3 => ?_
  refine T_region ?_
  refine L_y (y_move rfl) rfl ?_
  refine L_y (y_peqn Try.underlying36 rfl) rfl ?_
  refine L_nil ?_
  refine hK3 _ _ ?_
  refine T_true rfl ?_
  refine T_seq fun K4 hK4 => ?_
  refine T_region ?_
  refine L_y (y_assign rfl) rfl ?_
  refine L_nil ?_
  refine hK4 _ _ ?_
  refine T_ret ?_
  refine ur ?_
  refine ret1 rfl rfl ?_
  exact ⟨_, rfl, S0.like0, rfl⟩


set_option maxRecDepth 100000 in
theorem nrat  (w0 : World)  :
    Calls Try.prog 22 #[.pointer none] w0 fun e w' => ∃ u, e = .returned u ∧ Like w0 w' ∧ u = .int .i64 0 := by
  refine enter1 (env := [(0, .pointer none)]) [.pointer none] Try.func22 rfl Try.ntmps22 rfl rfl ?_
  have S0 := St.start w0 noM
  refine T_seq fun K1 hK1 => ?_
  refine T_region ?_
  refine L_y (y_assign rfl) rfl ?_
  refine L_nil ?_
  refine hK1 _ _ ?_
  refine T_seq fun K2 hK2 => ?_
  refine T_seq fun K3 hK3 => ?_
  refine T_region ?_
  refine L_y (y_move rfl) rfl ?_
  refine L_y (y_peqn Try.underlying36 rfl) rfl ?_
  refine L_nil ?_
  refine hK3 _ _ ?_
  refine T_true rfl ?_
  refine T_seq fun K4 hK4 => ?_
  refine T_region ?_
  refine L_y (y_assign rfl) rfl ?_
  refine L_nil ?_
  refine hK4 _ _ ?_
  refine T_ret ?_
  refine ur ?_
  refine ret1 rfl rfl ?_
  exact ⟨_, rfl, S0.like0, rfl⟩


set_option maxRecDepth 100000 in
theorem nrleft  (w0 : World)  :
    Calls Try.prog 19 #[.pointer none] w0 fun e w' => ∃ u, e = .returned u ∧ Like w0 w' ∧ u = .int .i64 0 := by
  refine enter1 (env := [(0, .pointer none)]) [.pointer none] Try.func19 rfl Try.ntmps19 rfl rfl ?_
  have S0 := St.start w0 noM
  refine T_seq fun K1 hK1 => ?_
  refine T_region ?_
  refine L_y (y_assign rfl) rfl ?_
  refine L_nil ?_
  refine hK1 _ _ ?_
  refine T_seq fun K2 hK2 => ?_
  refine T_seq fun K3 hK3 => ?_
  refine T_region ?_
  refine L_y (y_move rfl) rfl ?_
  refine L_y (y_peqn Try.underlying36 rfl) rfl ?_
  refine L_nil ?_
  refine hK3 _ _ ?_
  refine T_true rfl ?_
  refine T_seq fun K4 hK4 => ?_
  refine T_region ?_
  refine L_y (y_assign rfl) rfl ?_
  refine L_nil ?_
  refine hK4 _ _ ?_
  refine T_ret ?_
  refine ur ?_
  refine ret1 rfl rfl ?_
  exact ⟨_, rfl, S0.like0, rfl⟩


set_option maxRecDepth 100000 in
theorem nrend  (w0 : World)  :
    Calls Try.prog 28 #[.pointer none] w0 fun e w' => ∃ u, e = .returned u ∧ Like w0 w' ∧ u = .int .i64 1 := by
  refine enter1 (env := [(0, .pointer none)]) [.pointer none] Try.func28 rfl Try.ntmps28 rfl rfl ?_
  have S0 := St.start w0 noM
  refine T_seq fun K1 hK1 => ?_
  refine T_region ?_
  refine L_y (y_assign rfl) rfl ?_
  refine L_nil ?_
  refine hK1 _ _ ?_
  refine T_seq fun K2 hK2 => ?_
  refine T_seq fun K3 hK3 => ?_
  refine T_region ?_
  refine L_y (y_move rfl) rfl ?_
  refine L_o (o_call Try.func18 rfl rfl (nrerr w0) rfl rfl ?_)
  rintro e1 w1 ⟨v1, rfl, l1, rfl⟩
  refine ⟨_, rfl, ?_⟩
  have S1 := S0.like l1
  refine L_y (y_assign rfl) rfl ?_
  refine L_nil ?_
  refine hK3 _ _ ?_
  refine T_seq fun K4 hK4 => ?_
  refine T_region ?_
  refine L_y (y_move rfl) rfl ?_
  refine L_y (y_neq rfl rfl) rfl ?_
  refine L_nil ?_
  refine hK4 _ _ ?_
  refine T_true rfl ?_
  refine T_seq fun K5 hK5 => ?_
  refine T_region ?_
  refine L_y (y_move rfl) rfl ?_
  refine L_y (y_assign rfl) rfl ?_
  refine L_nil ?_
  refine hK5 _ _ ?_
  refine T_ret ?_
  refine ur ?_
  refine ret1 rfl rfl ?_
  exact ⟨_, rfl, S1.like0, rfl⟩
end Go.Proofs.Ytcbnhmcfdpcbhaa


/-
  The law OctetBack.
-/
namespace Go.Proofs.Ytcbnhmcfdpcbhaa
open Go.RowKit Zk Zx
set_option linter.unusedVariables false
set_option linter.unusedSimpArgs false

theorem rd_cut {L q rest : List UInt8} {p k : Nat} (h : L.drop p = q ++ rest) (hk : q.length = k) (hp : p ≤ L.length) : k ≤ L.length - p ∧ tkL L p k = q := by
  have h1 := congrArg List.length h
  rw [List.length_drop, List.length_append] at h1
  have h2 : k ≤ L.length - p := by omega
  refine ⟨h2, ?_⟩
  rw [tkL, if_pos h2, h, ← hk, List.take_left]
theorem rw_cut {L q rest : List UInt8} {p k : Nat} (h : L.drop p = q ++ rest) (hk : q.length = k) (hp : p ≤ L.length) : rwL L p 0 k = q ∧ rwP L p 0 k = p + k ∧ rwE L p 0 k = 0 := by
  obtain ⟨h1, h2⟩ := rd_cut h hk hp
  exact ⟨by rw [rwL, if_pos rfl, h2], by rw [rwP, if_pos rfl, tkP, if_pos h1], by rw [rwE, if_pos rfl, tkE_ok h1]⟩
theorem rn_cut {L q rest : List UInt8} {p : Nat} (h : L.drop p = q ++ rest) (hp : p ≤ L.length) : rnL L p 0 (q.length : Int) = q ∧ rnP L p 0 (q.length : Int) = p + q.length ∧ rnE L p 0 (q.length : Int) = 0 := by
  obtain ⟨h1, h2, h3⟩ := rw_cut h rfl hp
  exact ⟨by rw [rnL, if_neg (by omega), Int.toNat_natCast, h1], by rw [rnP, if_neg (by omega), Int.toNat_natCast, h2], by rw [rnE, if_neg (by omega), Int.toNat_natCast, h3]⟩
end Go.Proofs.Ytcbnhmcfdpcbhaa


/-
  The law OctetOwn.
-/
namespace Go.Proofs.Ytcbnhmcfdpcbhaa
open Go.RowKit Zk Zx
set_option linter.unusedVariables false
set_option linter.unusedSimpArgs false

set_option maxRecDepth 100000 in
theorem xor255 : ∀ m : Fin 256, bits .xor .u8 (m.val : Int) 255 = ((255 - m.val : Nat) : Int) := by decide
theorem xorX (x : UInt8) : bits .xor .u8 (x.toNat : Int) 255 = ((UInt8.ofNat (255 - x.toNat)).toNat : Int) := by
  rw [xor255 ⟨x.toNat, x.toNat_lt⟩, UInt8.toNat_ofNat']
  have := x.toNat_lt
  show ((255 - x.toNat : Nat) : Int) = _
  omega
theorem bL_setX (l : List UInt8) (k : Nat) (c : UInt8) : (bL l).set k (Value.int .u8 (c.toNat : Int)) = bL (l.set k c) := by
  unfold bL
  rw [List.map_set]
  rfl
theorem samT (A B : Option Addr) (n c m d : Nat) (a b : List UInt8) (w0 : World) (ha : Rs w0 1 A n c (bL a)) (hb : Rs w0 1 B m d (bL b)) (hab : a = b) :
    Calls Try.prog 12 #[.slice A n c, .slice B m d] w0 fun e w' => ∃ u, e = .returned u ∧ Like w0 w' ∧ u = .bool true :=
  (same A B n c m d a b w0 ha hb).mono fun e w' ⟨u, h1, h2, h3⟩ => ⟨u, h1, h2, by rw [h3, decide_eq_true hab]⟩
theorem rn_full (l : List UInt8) (n : Nat) (h : l.length = n) : rnL l 0 0 (n : Int) = l := by
  have := (rn_cut (L := l) (q := l) (rest := []) (p := 0) (by simp) (Nat.zero_le _)).1
  rwa [h] at this


set_option maxRecDepth 100000 in
theorem owns (B : Option Addr) (nb cb : Nat) (bl : List UInt8) (tm : Int) (w0 : World) (hb : Rs w0 1 B nb cb (bL bl)) (hnb : nb ≤ 140737488351232) :
    Calls Try.prog 7 #[.slice B nb cb, .int .i64 tm] w0 fun e w' => ∃ u, e = .returned u ∧ Like w0 w' ∧ u = .bool true := by
  refine enter1 (env := [(0, .slice B nb cb), (1, .int .i64 tm)]) [.slice B nb cb, .int .i64 tm] Try.func7 rfl Try.ntmps7 rfl rfl ?_
  have hbl := hb.lenb; have hbc := hb.cap; have S0 := St.start w0 noM
  refine T_seq fun K1 hK1 => ?_
  refine T_region ?_
  refine L_y (y_assign rfl) rfl ?_
  refine L_nil ?_
  refine hK1 _ _ ?_
  refine T_seq fun K2 hK2 => ?_
  refine T_region ?_
  refine L_o (o_call Try.func8 rfl rfl (wnew w0) rfl rfl ?_)
  rintro e1 w1 ⟨v1, rfl, l1, b1, rfl, hb1, hh1⟩
  refine ⟨_, rfl, ?_⟩
  have S1 := S0.new l1 _ hh1 (wt_fresh hb1 hh1)
  refine L_y (y_assign rfl) rfl ?_
  refine L_nil ?_
  refine hK2 _ _ ?_
  refine T_seq fun K3 hK3 => ?_
  refine T_region ?_
  refine L_y (y_move rfl) rfl ?_
  refine L_y (y_move rfl) rfl ?_
  refine L_o (o_call Try.func29 rfl rfl (wraw _ _ _ _ _ _ _ _ _ w1 (S1.get 0 rfl) (S1.rd hb) (by simp; omega)) rfl rfl ?_)
  rintro e2 w2 ⟨v2, rfl, ⟨A2, n2, c2, T2⟩⟩
  refine ⟨_, rfl, ?_⟩
  have S2 := S1.turn 0 rfl T2
  refine L_nil ?_
  refine hK3 _ _ ?_
  refine T_seq fun K4 hK4 => ?_
  refine T_region ?_
  refine L_y (y_move rfl) rfl ?_
  refine L_o (o_call Try.func13 rfl rfl (wbytes _ _ _ _ _ w2 (S2.get 0 rfl) (by simp; omega)) rfl rfl ?_)
  rintro e3 w3 ⟨v3, rfl, l3, A3, m3, c3, rfl, O3⟩
  refine ⟨_, rfl, ?_⟩
  have S3 := S2.adopt l3 O3
  have hm19 := (S3.row 1 rfl).lenb
  refine L_y (y_assign rfl) rfl ?_
  refine L_nil ?_
  refine hK4 _ _ ?_
  refine T_seq fun K5 hK5 => ?_
  refine T_region ?_
  refine L_o (o_bsl0 te25 S3 rfl fun b4 w4 l4 S4 => ?_)
  refine L_y (y_move rfl) rfl ?_
  refine L_o (o_app te25 S4 2 rfl rfl rfl (S4.rd hb) (bL_one _) rfl (by omega) (by omega) fun A5 c5 w5 S5 => ?_)
  refine L_y (y_assign rfl) rfl ?_
  refine L_nil ?_
  refine hK5 _ _ ?_
  refine T_seq fun K6 hK6 => ?_
  refine T_region ?_
  refine L_y (y_move rfl) rfl ?_
  refine L_o (o_call Try.func15 rfl rfl (rnew _ _ _ bl w5 (S5.row 2 rfl) (by omega)) rfl rfl ?_)
  rintro e6 w6 ⟨v6, rfl, l6, g1, A1, c1, rfl, hh6, dd6⟩
  refine ⟨_, rfl, ?_⟩
  have S6 := S5.new l6 _ hh6 dd6
  refine L_y (y_assign rfl) rfl ?_
  refine L_nil ?_
  refine hK6 _ _ ?_
  refine T_seq fun K7 hK7 => ?_
  refine T_seq fun K8 hK8 => ?_
  refine T_region ?_
  refine L_y (y_assign rfl) rfl ?_
  refine L_nil ?_
  refine hK8 _ _ ?_
  refine T_block ?_
  refine T_loop1 [(0, _), (1, _), (5, _), (6, _), (7, _), (8, _)] (fun (k : Nat) => [(9, .int .i64 (k : Int))]) (fun (k : Nat) => nb - k) (fun (k : Nat) (w : World) => k ≤ nb ∧ ∃ ol : List UInt8, ol.length = nb ∧ St w0 noM [wt b1 A2 n2 c2 ([] ++ bl), row 5 1 A3 m3 c3 (bL ([] ++ bl)), row 5 1 A5 (0 + nb) c5 (bL ol), rdr g1 A1 (0 + nb) c1 bl 0 0] w) 0 (Sub.cons rfl (by first | rfl | exact congrArg (Value.int _) (by omega)) (Sub.nil _)) (Sub.cons rfl rfl (Sub.cons rfl rfl (Sub.cons rfl rfl (Sub.cons rfl rfl (Sub.cons rfl rfl (Sub.cons rfl rfl (Sub.nil _))))))) ?_ ?_
  ·
    exact ⟨Nat.zero_le _, bl, hbl, S6⟩
  ·
    intro k w7 hrel
    obtain ⟨hk, ol, hol, S7⟩ := hrel
    refine T_seq fun K9 hK9 => ?_
    refine T_seq fun K10 hK10 => ?_
    refine T_region ?_
    refine L_y (y_move rfl) rfl ?_
    refine L_y (y_move rfl) rfl ?_
    refine L_y (y_len Try.underlying25 rfl) rfl ?_
    refine L_y (y_lss rfl rfl) rfl ?_
    refine L_nil ?_
    refine hK10 _ _ ?_
    refine T_cond rfl (fun h28 => ?_) (fun h28 => ?_)
    ·
      obtain ⟨x, hx⟩ : ∃ x, ol[k]? = some x := ⟨_, List.getElem?_eq_getElem (by omega)⟩
      refine T_skip ?_
      refine hK9 _ _ ?_
      refine T_seq fun K11 hK11 => ?_
      refine T_block ?_
      refine T_region ?_
      refine L_y (y_move rfl) rfl ?_
      refine L_y (y_move rfl) rfl ?_
      refine L_y (y_idx Try.underlying25 sz5 rfl rfl (S7.row 2 rfl) inferInstance (by omega)) rfl ?_
      refine L_y (y_ldr Try.underlying5 rfl rfl (S7.row 2 rfl) (bL_getX hx)) rfl ?_
      refine L_y (y_bits rfl rfl rfl (xorX x)) rfl ?_
      refine L_y (y_idx Try.underlying25 sz5 rfl rfl (S7.row 2 rfl) inferInstance (by omega)) rfl ?_
      refine L_o (o_strow S7 2 rfl rfl rfl rfl sz5 (by omega) fun w8 S8 => ?_)
      refine L_nil ?_
      refine hK11 _ _ ?_
      refine T_region ?_
      refine L_y (y_move rfl) rfl ?_
      refine L_y (y_add rfl rfl (i64w (by omega))) rfl ?_
      refine L_y (y_assign rfl) rfl ?_
      refine L_nil ?_
      have S91 := S8.rowc 2 rfl (n' := 0 + nb) (xs' := bL (ol.set k (UInt8.ofNat (255 - x.toNat)))) rfl (bL_setX _ _ _)
      refine ⟨k + 1, by omega, ⟨by omega, _, by rw [List.length_set]; exact hol, S91⟩, ?_⟩
      exact (Sub.cons rfl (by first | rfl | exact congrArg (Value.int _) (by omega)) (Sub.cons rfl rfl (Sub.cons rfl rfl (Sub.cons rfl rfl (Sub.cons rfl rfl (Sub.cons rfl rfl (Sub.cons rfl rfl (Sub.nil _))))))))
    ·
      refine T_exit ?_
      refine hK7 _ _ ?_
      refine T_seq fun K12 hK12 => ?_
      refine T_region ?_
      refine L_y (y_move rfl) rfl ?_
      refine L_y (y_move rfl) rfl ?_
      refine L_y (y_len Try.underlying25 rfl) rfl ?_
      refine L_o (o_call Try.func27 rfl rfl (rraw g1 A1 (0 + nb) c1 bl 0 0 (nb : Int) w7 (S7.get 3 rfl) (Nat.zero_le _) (by omega) (by omega)) rfl rfl ?_)
      rintro e9 w9 ⟨v9, rfl, T9, B7, d7, rfl, hr9, hd9⟩
      refine ⟨_, rfl, ?_⟩
      have S9 := S7.turn 3 rfl T9
      have S10 := St.newT S7 3 rfl T9 (fun i hi => hi) hr9 (fun i hi => ⟨hd9 i hi, (World.ownsRow.lt hr9 i hi).2⟩)
      have e1 := rn_full bl nb hbl
      have e1l : (rnL bl 0 0 (nb : Int)).length = nb := by rw [e1]; exact hbl
      have hm19 : m3 = nb := by simpa [hbl] using hm19.symm
      refine L_y (y_assign rfl) rfl ?_
      refine L_nil ?_
      refine hK12 _ _ ?_
      refine T_seq fun K13 hK13 => ?_
      refine T_seq fun K14 hK14 => ?_
      refine T_region ?_
      refine L_y (y_move rfl) rfl ?_
      refine L_y (y_move rfl) rfl ?_
      refine L_o (o_call Try.func12 rfl rfl (samT _ _ _ _ _ _ _ _ w9 (S10.row 1 rfl) (S10.rd hb) rfl) rfl rfl ?_)
      rintro e11 w11 ⟨v11, rfl, l11, rfl⟩
      refine ⟨_, rfl, ?_⟩
      have S11 := S10.like l11
      refine L_y ((by first | exact y_notD rfl | exact y_not rfl)) rfl ?_
      refine L_y (y_move rfl) rfl ?_
      refine L_gyes rfl rfl ?_
      refine L_y (y_move rfl) rfl ?_
      refine L_gyes rfl rfl ?_
      refine L_y (y_move rfl) rfl ?_
      refine L_gyes rfl rfl ?_
      refine L_o (o_call Try.func12 rfl rfl (samT _ _ _ _ _ _ _ _ w11 (S11.row 4 rfl) (S11.rd hb) e1) rfl rfl ?_)
      rintro e12 w12 ⟨v12, rfl, l12, rfl⟩
      refine ⟨_, rfl, ?_⟩
      have S12 := S11.like l12
      refine L_gyes rfl rfl ?_
      refine L_y ((by first | exact y_notD rfl | exact y_not rfl)) rfl ?_
      refine L_y (y_pk rfl rfl) rfl ?_
      refine L_nil ?_
      refine hK14 _ _ ?_
      refine T_false rfl ?_
      refine T_skip ?_
      refine hK13 _ _ ?_
      refine T_seq fun K15 hK15 => ?_
      refine T_seq fun K16 hK16 => ?_
      refine T_region ?_
      refine L_y (y_assign rfl) rfl ?_
      refine L_nil ?_
      refine hK16 _ _ ?_
      refine T_block ?_
      refine T_loop1 [(0, _), (1, _), (5, _), (6, _), (10, _)] (fun (k : Nat) => [(11, .int .i64 (k : Int))]) (fun (k : Nat) => nb - k) (fun (k : Nat) (w : World) => k ≤ nb ∧ ∃ xl yl : List UInt8, (xl.length = nb ∧ yl.length = nb) ∧ St w0 noM [wt b1 A2 n2 c2 ([] ++ bl), row 5 1 A3 m3 c3 (bL xl), row 5 1 A5 (0 + nb) c5 (bL ol), rdr g1 A1 (0 + nb) c1 bl (rnP bl 0 0 (nb : Int)) (rnE bl 0 0 (nb : Int)), row 5 1 B7 (rnL bl 0 0 (nb : Int)).length d7 (bL yl)] w) 0 (Sub.cons rfl (by first | rfl | exact congrArg (Value.int _) (by omega)) (Sub.nil _)) (Sub.cons rfl rfl (Sub.cons rfl rfl (Sub.cons rfl rfl (Sub.cons rfl rfl (Sub.cons rfl rfl (Sub.nil _)))))) ?_ ?_
      ·
        exact ⟨Nat.zero_le _, [] ++ bl, rnL bl 0 0 (nb : Int), ⟨hbl, e1l⟩, S12⟩
      ·
        intro k w13 hrel
        obtain ⟨hk2, xl, yl, ⟨hxl, hyl⟩, S13⟩ := hrel
        refine T_seq fun K17 hK17 => ?_
        refine T_seq fun K18 hK18 => ?_
        refine T_region ?_
        refine L_y (y_move rfl) rfl ?_
        refine L_y (y_move rfl) rfl ?_
        refine L_y (y_len Try.underlying25 rfl) rfl ?_
        refine L_y (y_lss rfl rfl) rfl ?_
        refine L_nil ?_
        refine hK18 _ _ ?_
        refine T_cond rfl (fun h54 => ?_) (fun h54 => ?_)
        ·
          obtain ⟨x, hx⟩ : ∃ x, xl[k]? = some x := ⟨_, List.getElem?_eq_getElem (by omega)⟩
          obtain ⟨y, hy⟩ : ∃ y, yl[k]? = some y := ⟨_, List.getElem?_eq_getElem (by omega)⟩
          refine T_skip ?_
          refine hK17 _ _ ?_
          refine T_seq fun K19 hK19 => ?_
          refine T_block ?_
          refine T_seq fun K20 hK20 => ?_
          refine T_region ?_
          refine L_y (y_move rfl) rfl ?_
          refine L_y (y_move rfl) rfl ?_
          refine L_y (y_idx Try.underlying25 sz5 rfl rfl (S13.row 1 rfl) inferInstance (by omega)) rfl ?_
          refine L_y (y_ldr Try.underlying5 rfl rfl (S13.row 1 rfl) (bL_getX hx)) rfl ?_
          refine L_y (y_bits rfl rfl rfl (xorX x)) rfl ?_
          refine L_y (y_idx Try.underlying25 sz5 rfl rfl (S13.row 1 rfl) inferInstance (by omega)) rfl ?_
          refine L_o (o_strow S13 1 rfl rfl rfl rfl sz5 (by omega) fun w14 S14 => ?_)
          refine L_nil ?_
          refine hK20 _ _ ?_
          refine T_region ?_
          refine L_y (y_move rfl) rfl ?_
          refine L_y (y_move rfl) rfl ?_
          refine L_y (y_idx Try.underlying25 sz5 rfl rfl (S14.row 4 rfl) inferInstance (by omega)) rfl ?_
          refine L_y (y_ldr Try.underlying5 rfl rfl (S14.row 4 rfl) (bL_getX hy)) rfl ?_
          refine L_y (y_bits rfl rfl rfl (xorX y)) rfl ?_
          refine L_y (y_idx Try.underlying25 sz5 rfl rfl (S14.row 4 rfl) inferInstance (by omega)) rfl ?_
          refine L_o (o_strow S14 4 rfl rfl rfl rfl sz5 (by omega) fun w15 S15 => ?_)
          refine L_nil ?_
          refine hK19 _ _ ?_
          refine T_region ?_
          refine L_y (y_move rfl) rfl ?_
          refine L_y (y_add rfl rfl (i64w (by omega))) rfl ?_
          refine L_y (y_assign rfl) rfl ?_
          refine L_nil ?_
          have S91 := S15.rowc 1 rfl (n' := m3) (xs' := bL (xl.set k (UInt8.ofNat (255 - x.toNat)))) rfl (bL_setX _ _ _)
          have S92 := S91.rowc 4 rfl (n' := (rnL bl 0 0 (nb : Int)).length) (xs' := bL (yl.set k (UInt8.ofNat (255 - y.toNat)))) rfl (bL_setX _ _ _)
          refine ⟨k + 1, by omega, ⟨by omega, _, _, ⟨by rw [List.length_set]; exact hxl, by rw [List.length_set]; exact hyl⟩, S92⟩, ?_⟩
          exact (Sub.cons rfl (by first | rfl | exact congrArg (Value.int _) (by omega)) (Sub.cons rfl rfl (Sub.cons rfl rfl (Sub.cons rfl rfl (Sub.cons rfl rfl (Sub.cons rfl rfl (Sub.nil _)))))))
        ·
          refine T_exit ?_
          refine hK15 _ _ ?_
          refine T_seq fun K21 hK21 => ?_
          refine T_seq fun K22 hK22 => ?_
          refine T_region ?_
          refine L_y (y_move rfl) rfl ?_
          refine L_o (o_call Try.func13 rfl rfl (wbytes _ _ _ _ _ w13 (S13.get 0 rfl) (by simp; omega)) rfl rfl ?_)
          rintro e16 w16 ⟨v16, rfl, l16, A16, m16, c16, rfl, O16⟩
          refine ⟨_, rfl, ?_⟩
          have S16 := S13.adopt l16 O16
          refine L_y (y_move rfl) rfl ?_
          refine L_o (o_call Try.func12 rfl rfl (samT _ _ _ _ _ _ _ _ w16 (S16.row 5 rfl) (S16.rd hb) rfl) rfl rfl ?_)
          rintro e17 w17 ⟨v17, rfl, l17, rfl⟩
          refine ⟨_, rfl, ?_⟩
          have S17 := S16.like l17
          refine L_y ((by first | exact y_notD rfl | exact y_not rfl)) rfl ?_
          refine L_nil ?_
          refine hK22 _ _ ?_
          refine T_false rfl ?_
          refine T_skip ?_
          refine hK21 _ _ ?_
          refine T_seq fun K23 hK23 => ?_
          refine T_region ?_
          refine L_y (y_assign rfl) rfl ?_
          refine L_nil ?_
          refine hK23 _ _ ?_
          refine T_seq fun K24 hK24 => ?_
          refine T_region ?_
          refine L_y (y_move rfl) rfl ?_
          refine L_o (o_call Try.func30 rfl rfl (nbyte _ w17) rfl rfl ?_)
          rintro e18 w18 ⟨v18, rfl, l18, rfl⟩
          refine ⟨_, rfl, ?_⟩
          have S18 := S17.like l18
          refine L_nil ?_
          refine hK24 _ _ ?_
          refine T_seq fun K25 hK25 => ?_
          refine T_region ?_
          refine L_y (y_move rfl) rfl ?_
          refine L_o (o_call Try.func31 rfl rfl (nu32 _ w18) rfl rfl ?_)
          rintro e19 w19 ⟨v19, rfl, l19, rfl⟩
          refine ⟨_, rfl, ?_⟩
          have S19 := S18.like l19
          refine L_nil ?_
          refine hK25 _ _ ?_
          refine T_seq fun K26 hK26 => ?_
          refine T_region ?_
          refine L_y (y_move rfl) rfl ?_
          refine L_o (o_call Try.func32 rfl rfl (nu64 _ w19) rfl rfl ?_)
          rintro e20 w20 ⟨v20, rfl, l20, rfl⟩
          refine ⟨_, rfl, ?_⟩
          have S20 := S19.like l20
          refine L_nil ?_
          refine hK26 _ _ ?_
          refine T_seq fun K27 hK27 => ?_
          refine T_region ?_
          refine L_y (y_move rfl) rfl ?_
          refine L_o (o_call Try.func20 rfl rfl (nvar w20) rfl rfl ?_)
          rintro e21 w21 ⟨v21, rfl, l21, rfl⟩
          refine ⟨_, rfl, ?_⟩
          have S21 := S20.like l21
          refine L_nil ?_
          refine hK27 _ _ ?_
          refine T_seq fun K28 hK28 => ?_
          refine T_region ?_
          refine L_y (y_move rfl) rfl ?_
          refine L_o (o_call Try.func21 rfl rfl (ntext _ w21 rfl) rfl rfl ?_)
          rintro e22 w22 ⟨v22, rfl, l22, rfl⟩
          refine ⟨_, rfl, ?_⟩
          have S22 := S21.like l22
          refine L_nil ?_
          refine hK28 _ _ ?_
          refine T_seq fun K29 hK29 => ?_
          refine T_region ?_
          refine L_y (y_move rfl) rfl ?_
          refine L_y (y_move rfl) rfl ?_
          refine L_o (o_call Try.func29 rfl rfl (nraw _ _ _ w22) rfl rfl ?_)
          rintro e23 w23 ⟨v23, rfl, l23, rfl⟩
          refine ⟨_, rfl, ?_⟩
          have S23 := S22.like l23
          refine L_nil ?_
          refine hK29 _ _ ?_
          refine T_seq fun K30 hK30 => ?_
          refine T_region ?_
          refine L_y (y_assign rfl) rfl ?_
          refine L_nil ?_
          refine hK30 _ _ ?_
          refine T_seq fun K31 hK31 => ?_
          refine T_seq fun K32 hK32 => ?_
          refine T_region ?_
          refine L_y (y_move rfl) rfl ?_
          refine L_o (o_call Try.func11 rfl rfl (nlen w23) rfl rfl ?_)
          rintro e24 w24 ⟨v24, rfl, l24, rfl⟩
          refine ⟨_, rfl, ?_⟩
          have S24 := S23.like l24
          refine L_y (y_neq rfl rfl) rfl ?_
          refine L_y (y_move rfl) rfl ?_
          refine L_gyes rfl rfl ?_
          refine L_y (y_move rfl) rfl ?_
          refine L_gyes rfl rfl ?_
          refine L_o (o_call Try.func13 rfl rfl (nbytes w24) rfl rfl ?_)
          rintro e25 w25 ⟨v25, rfl, l25, rfl⟩
          refine ⟨_, rfl, ?_⟩
          have S25 := S24.like l25
          refine L_gyes rfl rfl ?_
          refine L_y (y_len Try.underlying25 rfl) rfl ?_
          refine L_gyes rfl rfl ?_
          refine L_y (y_neq rfl rfl) rfl ?_
          refine L_y (y_pk rfl rfl) rfl ?_
          refine L_y (y_move rfl) rfl ?_
          refine L_gyes rfl rfl ?_
          refine L_y (y_move rfl) rfl ?_
          refine L_gyes rfl rfl ?_
          refine L_o (o_call Try.func24 rfl rfl (nrbyte w25) rfl rfl ?_)
          rintro e26 w26 ⟨v26, rfl, l26, rfl⟩
          refine ⟨_, rfl, ?_⟩
          have S26 := S25.like l26
          refine L_gyes rfl rfl ?_
          refine L_y (y_neq rfl rfl) rfl ?_
          refine L_y (y_pk rfl rfl) rfl ?_
          refine L_y (y_move rfl) rfl ?_
          refine L_gyes rfl rfl ?_
          refine L_y (y_move rfl) rfl ?_
          refine L_gyes rfl rfl ?_
          refine L_o (o_call Try.func25 rfl rfl (nru32 w26) rfl rfl ?_)
          rintro e27 w27 ⟨v27, rfl, l27, rfl⟩
          refine ⟨_, rfl, ?_⟩
          have S27 := S26.like l27
          refine L_gyes rfl rfl ?_
          refine L_y (y_neq rfl rfl) rfl ?_
          refine L_y (y_pk rfl rfl) rfl ?_
          refine L_y (y_move rfl) rfl ?_
          refine L_gyes rfl rfl ?_
          refine L_y (y_move rfl) rfl ?_
          refine L_gyes rfl rfl ?_
          refine L_o (o_call Try.func26 rfl rfl (nru64 w27) rfl rfl ?_)
          rintro e28 w28 ⟨v28, rfl, l28, rfl⟩
          refine ⟨_, rfl, ?_⟩
          have S28 := S27.like l28
          refine L_gyes rfl rfl ?_
          refine L_y (y_neq rfl rfl) rfl ?_
          refine L_y (y_pk rfl rfl) rfl ?_
          refine L_y (y_move rfl) rfl ?_
          refine L_gyes rfl rfl ?_
          refine L_y (y_move rfl) rfl ?_
          refine L_gyes rfl rfl ?_
          refine L_o (o_call Try.func16 rfl rfl (nrvar _ w28) rfl rfl ?_)
          rintro e29 w29 ⟨v29, rfl, l29, rfl⟩
          refine ⟨_, rfl, ?_⟩
          have S29 := S28.like l29
          refine L_gyes rfl rfl ?_
          refine L_y (y_neq rfl rfl) rfl ?_
          refine L_y (y_pk rfl rfl) rfl ?_
          refine L_y (y_move rfl) rfl ?_
          refine L_gyes rfl rfl ?_
          refine L_y (y_move rfl) rfl ?_
          refine L_gyes rfl rfl ?_
          refine L_y (y_move rfl) rfl ?_
          refine L_gyes rfl rfl ?_
          refine L_o (o_call Try.func17 rfl rfl (nrtext _ w29) rfl rfl ?_)
          rintro e30 w30 ⟨v30, rfl, l30, rfl⟩
          refine ⟨_, rfl, ?_⟩
          have S30 := S29.like l30
          refine L_gyes rfl rfl ?_
          refine L_y (y_sneq rfl rfl) rfl ?_
          refine L_y (y_pk rfl rfl) rfl ?_
          refine L_y (y_move rfl) rfl ?_
          refine L_gyes rfl rfl ?_
          refine L_y (y_move rfl) rfl ?_
          refine L_gyes rfl rfl ?_
          refine L_y (y_move rfl) rfl ?_
          refine L_gyes rfl rfl ?_
          refine L_o (o_call Try.func27 rfl rfl (nrraw _ w30) rfl rfl ?_)
          rintro e31 w31 ⟨v31, rfl, l31, rfl⟩
          refine ⟨_, rfl, ?_⟩
          have S31 := S30.like l31
          refine L_gyes rfl rfl ?_
          refine L_y (y_len Try.underlying25 rfl) rfl ?_
          refine L_gyes rfl rfl ?_
          refine L_y (y_neq rfl rfl) rfl ?_
          refine L_y (y_pk rfl rfl) rfl ?_
          refine L_nil ?_
          refine hK32 _ _ ?_
          refine T_false rfl ?_
          refine T_skip ?_
          refine hK31 _ _ ?_
          refine T_seq fun K33 hK33 => ?_
          refine T_region ?_
          refine L_y (y_move rfl) rfl ?_
          refine L_o (o_call Try.func18 rfl rfl (nrerr w31) rfl rfl ?_)
          rintro e32 w32 ⟨v32, rfl, l32, rfl⟩
          refine ⟨_, rfl, ?_⟩
          have S32 := S31.like l32
          refine L_y (y_eql rfl rfl) rfl ?_
          refine L_y (y_move rfl) rfl ?_
          refine L_gyes rfl rfl ?_
          refine L_y (y_move rfl) rfl ?_
          refine L_gyes rfl rfl ?_
          refine L_o (o_call Try.func28 rfl rfl (nrend w32) rfl rfl ?_)
          rintro e33 w33 ⟨v33, rfl, l33, rfl⟩
          refine ⟨_, rfl, ?_⟩
          have S33 := S32.like l33
          refine L_gyes rfl rfl ?_
          refine L_y (y_eql rfl rfl) rfl ?_
          refine L_y (y_pk rfl rfl) rfl ?_
          refine L_y (y_move rfl) rfl ?_
          refine L_gyes rfl rfl ?_
          refine L_y (y_move rfl) rfl ?_
          refine L_gyes rfl rfl ?_
          refine L_o (o_call Try.func22 rfl rfl (nrat w33) rfl rfl ?_)
          rintro e34 w34 ⟨v34, rfl, l34, rfl⟩
          refine ⟨_, rfl, ?_⟩
          have S34 := S33.like l34
          refine L_gyes rfl rfl ?_
          refine L_y (y_eql rfl rfl) rfl ?_
          refine L_y (y_pk rfl rfl) rfl ?_
          refine L_y (y_move rfl) rfl ?_
          refine L_gyes rfl rfl ?_
          refine L_y (y_move rfl) rfl ?_
          refine L_gyes rfl rfl ?_
          refine L_o (o_call Try.func19 rfl rfl (nrleft w34) rfl rfl ?_)
          rintro e35 w35 ⟨v35, rfl, l35, rfl⟩
          refine ⟨_, rfl, ?_⟩
          have S35 := S34.like l35
          refine L_gyes rfl rfl ?_
          refine L_y (y_eql rfl rfl) rfl ?_
          refine L_y (y_pk rfl rfl) rfl ?_
          refine L_y (y_move rfl) rfl ?_
          refine L_gyes rfl rfl ?_
          refine L_o (o_call Try.func14 rfl rfl (works w35) rfl rfl ?_)
          rintro e36 w36 ⟨v36, rfl, l36, rfl⟩
          refine ⟨_, rfl, ?_⟩
          have S36 := S35.like l36
          refine L_y (y_pk rfl rfl) rfl ?_
          refine L_y (y_assign rfl) rfl ?_
          refine L_nil ?_
          refine hK33 _ _ ?_
          refine T_ret ?_
          refine ur ?_
          refine ret1 rfl rfl ?_
          exact ⟨_, rfl, S36.like0, rfl⟩


theorem owns_small (B : Option Addr) (nb cb : Nat) (bl : List UInt8) (tm : Int) (w0 : World) (hb : Rs w0 1 B nb cb (bL bl)) (hnb : nb ≤ 140737488351232) :
    Calls Try.prog 7 #[.slice B nb cb, .int .i64 tm] w0 fun e w' => e = .returned (.bool true) ∧ Below w0.heap.size w0 w' :=
  (owns B nb cb bl tm w0 hb hnb).mono fun e w' ⟨u, h1, h2, h3⟩ => by subst h3; exact ⟨h1, h2⟩
end Go.Proofs.Ytcbnhmcfdpcbhaa


/-
  A slice of elements of many cells, each with what is known of its datum; the reach of the parts. General; nothing here names a program.
-/
namespace Go.Proofs.Ytcbnhmcfdpcbhaa.Zx
open Go.ChangeShapes Go.WideShapes Go.ChangeAt Go.RowKit Go.Deep Zk
set_option linter.unusedVariables false
section
variable {H : Type} {enc : TypeId × Value → H} {P : Program} {w : World} {base : Nat} {spare : Nat → Bool} {held : Bool}
theorem read_rowNP {α : Type} (f : α → List Value) (φ : α → DataW H → Prop) (size : Nat) {t e : TypeId} (ht : P.underlying t = some (.slice e)) (hc : P.cellsOf e = size) (hpos : 0 < size) (hlen : ∀ y, (f y).length = size)
    (hread : ∀ n cs x, cs.length = size → DataW.trod enc P w base spare held n e cs = some x → ∃ y, cs = f y ∧ φ y x.1)
    {fuel : Nat} {cs : List Value} {x : DataW H × List MemPlace} (h : DataW.trod enc P w base spare held fuel t cs = some x) :
    ∃ A n c, ∃ l : List α, cs = [.slice A n c] ∧ Rs w size A n c (l.flatMap f) ∧ l.length = n ∧ (∀ y ∈ l, ∃ d : DataW H, φ y d ∧ ∀ k ∈ d.weights P e, k ∈ x.1.weights P t) ∧ (n = 0 ∨ ∃ k, n ≤ k ∧ k * P.bytesOf e ∈ x.1.weights P t) := by
  rcases open_slice ht h with ⟨rfl, rfl⟩ | ⟨a, len, cap, k, n, D, Pl, rfl, _, hl, hm, hmm, rfl, hi⟩
  · exact ⟨none, 0, 0, [], rfl, Rs.nil w size, rfl, (fun y hy => by cases hy), .inl rfl⟩
  · have hle : len ≤ k := by rw [hmm]; split <;> omega
    rw [hc] at hi
    obtain ⟨l, hll, hp⟩ := list_of (fun i (y : α) => w.cells? base (a.add (i * size)) size = some (f y) ∧ φ y (D i)) len (fun i hil => by
      obtain ⟨cs', h1, h2⟩ := hi i (by omega)
      obtain ⟨y, h3, h4⟩ := hread n cs' _ (World.cells?_some h1).2.1 h2
      exact ⟨y, by rw [← h3]; exact h1, h4⟩)
    refine ⟨some a, len, cap, l, rfl, ⟨⟨by rw [flat_len f size hlen, hll], fun h0 => ⟨a, rfl, ?_, fun j u hu => ?_⟩⟩, hl, by unfold maxLen at hm; exact hm⟩, hll, fun y hy => ?_, .inr ⟨len + (k - len), by omega, by simp [DataW.weights, ht]⟩⟩
    · obtain ⟨cs', h1, h2⟩ := hi 0 (by omega)
      have h3 := (World.cells?_some h1).2.2 0 hpos
      rw [List.getElem?_eq_getElem (by rw [(World.cells?_some h1).2.1]; exact hpos)] at h3
      have := World.block_lt_of_cell? w _ h3
      rwa [block_of_add, block_of_add] at this
    · obtain ⟨i, y, h1, h2, h3⟩ := flat_get f size hlen l j u hu
      have h4 := (World.cells?_some (hp i y h1).1).2.2 (j - i * size) (by have := (List.getElem?_eq_some_iff.1 h3).1; rwa [hlen y] at this)
      rw [Go.Deep.add_add, show i * size + (j - i * size) = j by omega, h3] at h4
      exact h4
    · obtain ⟨i, hi2, rfl⟩ := List.getElem_of_mem hy
      refine ⟨D i, (hp i _ (List.getElem?_eq_getElem hi2)).2, fun q hq => ?_⟩
      have hin : ∀ (m : List (DataW H)) (d : DataW H), d ∈ m → ∀ q ∈ d.weights P e, q ∈ DataW.weightsAll P e m := by
        intro m
        induction m with
        | nil => intro d hd; cases hd
        | cons d0 m ih =>
          intro d hd q hq
          simp only [DataW.weightsAll, List.mem_append]
          rcases List.mem_cons.1 hd with rfl | hd
          · exact .inl hq
          · exact .inr (ih d hd q hq)
      simp only [DataW.weights, ht, List.mem_cons, List.mem_append]
      refine .inr (.inl (hin _ (D i) ?_ q hq))
      exact List.mem_map.2 ⟨i, by simp; omega, rfl⟩
/-- A slice of bytes, with its reach. -/
theorem open_bytesSW {r : Reach} {b0 : Nat} {t e : TypeId} {v : Value} {d : DataW H} {p : List MemPlace} (ht : P.underlying t = some (.slice e)) (he : P.underlying e = some (.int .u8)) (hc : P.cellsOf e = 1)
    (hv : Value.okWide P w r b0 t v) (h : DataW.Trod enc P w base spare held t v d p) : ∃ A n c l, v = .slice A n c ∧ Rs w 1 A n c (bL l) ∧ (n = 0 ∨ ∃ k, n ≤ k ∧ k * P.bytesOf e ∈ d.weights P t) := by
  obtain ⟨fuel, hf⟩ := h
  obtain ⟨A, n, c, l, h1, h2, _, _, h5⟩ := read_rowNP (fun y => [bV y]) (fun _ _ => True) 1 ht hc (by decide) (fun _ => rfl) (fun k cs x hl hx => by
    obtain ⟨a, ha, _, hw⟩ := DataW.trod_int he hx
    obtain ⟨c, rfl⟩ := u8_of a hw
    exact ⟨c, ha, trivial⟩) hf
  exact ⟨A, n, c, l, slice_of_cells ht hv h1, by rwa [flat_one] at h2, h5⟩
/-- What is weighed of an argument is within the reach. -/
theorem reach_mem {ts : List TypeId} {ds : List (DataW H)} (hsz : (DataW.weightsEach P ts ds).all (· ≤ reachBytes) = true) {j : Nat} {t : TypeId} {d : DataW H} (ht : ts[j]? = some t) (hd : ds[j]? = some d) {n : Nat} (h : n ∈ d.weights P t) : n ≤ 140737488351232 :=
  of_decide_eq_true (List.all_eq_true.1 hsz _ (DataW.weights_mem_each ht hd _ h))
/-- A slice among the arguments is within the reach. -/
theorem reach_of {ts : List TypeId} {ds : List (DataW H)} (hsz : (DataW.weightsEach P ts ds).all (· ≤ reachBytes) = true) {j : Nat} {t e : TypeId} {d : DataW H} (ht : ts[j]? = some t) (hd : ds[j]? = some d) (hb : P.bytesOf e = 1) {n : Nat} (h : n = 0 ∨ ∃ k, n ≤ k ∧ k * P.bytesOf e ∈ d.weights P t) : n ≤ 140737488351232 := by
  rcases h with rfl | ⟨k, h1, h2⟩
  · omega
  · have := reach_mem hsz ht hd h2
    rw [hb, Nat.mul_one] at this
    omega
end
end Go.Proofs.Ytcbnhmcfdpcbhaa.Zx
