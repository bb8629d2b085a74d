/-
  The law of the sums.
-/
import Derived.Test.YtanelemeljbbcaaR
import Derived.Test.YtanelemeljbbcaaZg
namespace Go.Proofs.Ytanelemeljbbcaa
open Go.RowKit Zk Zx
set_option linter.unusedVariables false
set_option linter.unusedSimpArgs false

theorem whole32 (l : List UInt8) : ((bA (ofL l)).toList.drop 0).take 32 = bL (ofL l) ∧ (bL (ofL l)).length = 32 :=
  ⟨by rw [List.drop_zero]; exact List.take_of_length_le (by rw [Array.length_toList, size_bA, length_ofL]; omega), by rw [length_bL, length_ofL]⟩
theorem cat_one (A : Option Addr) (n c : Nat) (l : List UInt8) : cat [⟨A, n, c, l⟩] = l := by simp [cat]


set_option maxRecDepth 100000 in
theorem shasums (ps : List Part) (A : Option Addr) (n c : Nat) (w0 : World) (hps : Rs w0 1 A n c (ps.map pv)) (hok : ∀ p ∈ ps, p.ok w0) :
    Calls Try.prog 4 #[.slice A n c] w0 fun e w' => ∃ u, e = .returned u ∧ Like w0 w' ∧ u = .bool true := by
  have hn : ps.length = n := by have := hps.len; simpa using this
  have hpl : ps.length ≤ 9223372036854775807 := by have := hps.cap; have := hps.max; omega
  refine enter1 (env := [(0, .slice A n c)]) [.slice A n c] Try.func4 rfl Try.ntmps4 rfl rfl ?_
  have S0 := St.start w0 noM
  refine T_seq fun K1 hK1 => ?_
  refine T_region ?_
  refine L_y (y_assign rfl) rfl ?_
  refine L_nil ?_
  refine hK1 _ _ ?_
  refine T_seq fun K2 hK2 => ?_
  refine T_region ?_
  have S1 := S0.nilrow 5 1
  refine L_y (y_assign rfl) rfl ?_
  refine L_nil ?_
  refine hK2 _ _ ?_
  refine T_seq fun K3 hK3 => ?_
  refine T_seq fun K4 hK4 => ?_
  refine T_region ?_
  refine L_y (y_assign rfl) rfl ?_
  refine L_nil ?_
  refine hK4 _ _ ?_
  refine T_block ?_
  refine T_loop4 [(0, _)] (fun (k : Nat) (A1 : Option Addr) (m1 : Nat) (c1 : Nat) => [(3, .slice A1 m1 c1), (4, .int .i64 (k : Int))]) (fun (k : Nat) (A1 : Option Addr) (m1 : Nat) (c1 : Nat) => ps.length - k) (fun (k : Nat) (A1 : Option Addr) (m1 : Nat) (c1 : Nat) (w : World) => k ≤ ps.length ∧ m1 ≤ 3000 ∧ Zx.St w0 noM [row 5 1 A1 m1 c1 (bL (cat (ps.take k)))] w) 0 none 0 0 (Sub.cons rfl (by first | rfl | exact congrArg (Value.int _) (by omega)) (Sub.cons rfl (by first | rfl | exact congrArg (Value.int _) (by omega)) (Sub.nil _))) (Sub.cons rfl rfl (Sub.nil _)) ?_ ?_
  ·
    exact ⟨by omega, by omega, S1⟩
  ·
    intro k A1 m1 c1 w2 hrel
    obtain ⟨hk, hm, S2⟩ := hrel
    have hq := part_getD hok k
    have hql := hq.lenb
    refine T_seq fun K5 hK5 => ?_
    refine T_seq fun K6 hK6 => ?_
    refine T_region ?_
    refine L_y (y_move rfl) rfl ?_
    refine L_y (y_move rfl) rfl ?_
    refine L_y (y_len Try.underlying28 rfl) rfl ?_
    refine L_y (y_lss rfl rfl) rfl ?_
    refine L_nil ?_
    refine hK6 _ _ ?_
    refine T_cond rfl (fun h9 => ?_) (fun h9 => ?_)
    ·
      refine T_skip ?_
      refine hK5 _ _ ?_
      refine T_seq fun K7 hK7 => ?_
      refine T_block ?_
      refine T_seq fun K8 hK8 => ?_
      refine T_seq fun K9 hK9 => ?_
      refine T_region ?_
      refine L_y (y_move rfl) rfl ?_
      refine L_y (y_move rfl) rfl ?_
      refine L_y (y_idx Try.underlying28 sz23 rfl rfl (by first | exact S2.rd hps | exact S2.rd hq | exact S2.row 0 rfl) inferInstance (by omega)) rfl ?_
      refine L_y (y_ldg p0 Try.underlying23 rfl rfl (by first | exact S2.rd hps | exact S2.rd hq | exact S2.row 0 rfl) (by omega)) rfl ?_
      refine L_y (y_len Try.underlying23 rfl) rfl ?_
      refine L_y (y_move rfl) rfl ?_
      refine L_y (y_len Try.underlying23 rfl) rfl ?_
      refine L_y (y_sub rfl rfl (i64w (by omega))) rfl ?_
      refine L_y (y_gtr rfl rfl) rfl ?_
      refine L_nil ?_
      refine hK9 _ _ ?_
      refine T_cond rfl (fun h20 => ?_) (fun h20 => ?_)
      ·
        refine T_seq fun K10 hK10 => ?_
        refine T_region ?_
        refine L_o (o_call Try.func10 rfl rfl (works _) rfl rfl ?_)
        rintro e3 w3 ⟨v3, rfl, l3, rfl⟩
        refine ⟨_, rfl, ?_⟩
        have S3 := S2.like l3
        refine L_y (y_assign rfl) rfl ?_
        refine L_nil ?_
        refine hK10 _ _ ?_
        refine T_ret ?_
        repeat (first | with_reducible refine up_then ?_ | with_reducible refine up_in ?_)
        refine ret1 rfl rfl ?_
        exact ⟨_, rfl, S3.like0, rfl⟩
      ·
        refine T_skip ?_
        refine hK8 _ _ ?_
        refine T_region ?_
        refine L_y (y_move rfl) rfl ?_
        refine L_y (y_move rfl) rfl ?_
        refine L_y (y_move rfl) rfl ?_
        refine L_y (y_idx Try.underlying28 sz23 rfl rfl (by first | exact S2.rd hps | exact S2.rd hq | exact S2.row 0 rfl) inferInstance (by omega)) rfl ?_
        refine L_y (y_ldg p0 Try.underlying23 rfl rfl (by first | exact S2.rd hps | exact S2.rd hq | exact S2.row 0 rfl) (by omega)) rfl ?_
        refine L_o (o_app te23 S2 0 rfl rfl rfl (by first | exact S2.rd hps | exact S2.rd hq | exact S2.row 0 rfl) (by first | exact bL_one _ | exact iL_one _ | (intro u hu; simp at hu; subst hu; rfl) | (simp; done) | (simp [Value.oneCell']; done)) rfl (by omega) (by omega) fun A4 c4 w4 S4 => ?_)
        refine L_y (y_assign rfl) rfl ?_
        refine L_nil ?_
        refine hK7 _ _ ?_
        refine T_region ?_
        refine L_y (y_move rfl) rfl ?_
        refine L_y (y_add rfl rfl (i64w (by omega))) rfl ?_
        refine L_y (y_assign rfl) rfl ?_
        refine L_nil ?_
        have S9 := S4.rowc 0 rfl (n' := m1 + (ps.getD k p0).n) (xs' := bL (cat (ps.take (k + 1)))) rfl (by rw [cat_next ps k (by omega), bL_app])
        refine ⟨k + 1, _, _, _, by omega, ⟨by omega, by omega, S9⟩, ?_⟩
        exact (Sub.cons rfl (by first | rfl | exact congrArg (Value.int _) (by omega)) (Sub.cons rfl (by first | rfl | exact congrArg (Value.int _) (by omega)) (Sub.cons rfl rfl (Sub.nil _))))
    ·
      have hke : ps.take k = ps := List.take_of_length_le (by omega)
      have S8 := S2.rowc 0 rfl (xs' := bL (cat ps)) rfl (by rw [hke])
      have hcl := (S8.row 0 rfl).lenb
      refine T_exit ?_
      refine hK3 _ _ ?_
      refine T_seq fun K11 hK11 => ?_
      refine T_region ?_
      refine L_y (y_move rfl) rfl ?_
      refine L_o (o_call Try.func11 rfl rfl (refof (cat ps) _ _ _ _ (S8.row 0 rfl) (by omega)) rfl rfl ?_)
      rintro e5 w5 ⟨v5, rfl, l5, rfl⟩
      refine ⟨_, rfl, ?_⟩
      have S5 := S8.like l5
      refine L_o (o_alloc zz30 S5 rfl fun b6 w6 hb6 S6 => ?_)
      refine L_o (o_stW S6 1 rfl rfl rfl (by rw [size_bA, length_ofL]; exact sz30) (by rw [size_bA, length_ofL]; simp [Value.cells]) (bA_one _) fun w7 S7 => ?_)
      refine L_nil ?_
      refine hK11 _ _ ?_
      refine T_seq fun K12 hK12 => ?_
      refine T_drawnL [(0, true), (2, true), (1, false), (3, true), (4, true), (5, true), (8, true), (6, false), (7, false), (9, true), (10, true), (11, true), (12, false), (13, true), (14, true)] hmix (by kernel_rfl) fun w8 l8 => ?_
      have S8 := S7.like l8
      refine DL_y rfl (y_move rfl) rfl ?_
      refine DL_y rfl (y_ldW Try.underlying30 rfl sz30 rfl (S8.blk 1 rfl) (whole32 (cat ps))) rfl ?_
      refine DL_o rfl (o_call Try.func12 rfl rfl (shaof ps A n c _ (S8.rd hps) (fun p hp => S8.rd (hok p hp)) (by omega) hpl) rfl rfl ?_)
      rintro e9 w9 ⟨v9, rfl, l9, rfl⟩
      refine ⟨_, rfl, l9, ?_⟩
      have S9 := S8.like l9
      have q9 := l9
      refine DL_y rfl (y_eqB Try.underlying30 Try.underlying5 sz5 (by kernel_rfl) rfl rfl (length_ofL _) (length_ofL _)) rfl ?_
      refine DL_y rfl (y_move rfl) rfl ?_
      refine DL_split 34 rfl (fun h34 => ?_) (fun h34 => ?_)
      ·
        refine DL_gyes rfl rfl rfl (y_move rfl) rfl ?_
        refine DL_gyes rfl rfl rfl (y_ldW Try.underlying30 rfl sz30 rfl (S8.blk 1 rfl) (whole32 (cat ps))) rfl ?_
        refine DL_ogyes rfl rfl rfl (o_bslL [_] te28 zz23 S9 rfl rfl rfl rfl rfl rfl rfl rfl fun b10 w10 l10 S10 => ?_)
        have q10 := (Like.trans q9 l10)
        refine ⟨q10, ?_⟩
        refine DL_ogyes rfl rfl rfl (o_call Try.func12 rfl rfl (shaof [⟨_, _, _, cat ps⟩] _ _ _ _ (S10.row 2 rfl) (fun p hp => by obtain rfl := List.mem_singleton.1 hp; exact S10.row 0 rfl) (by rw [cat_one]; omega) (by simp)) rfl rfl ?_)
        rintro e11 w11 ⟨v11, rfl, l11, rfl⟩
        refine ⟨_, rfl, (Like.trans q10 l11), ?_⟩
        have S11 := S10.like l11
        have q11 := (Like.trans q10 l11)
        refine DL_gyes rfl rfl rfl (y_eqB Try.underlying30 Try.underlying5 sz5 (by kernel_rfl) rfl rfl (length_ofL _) (length_ofL _)) rfl ?_
        refine DL_y rfl ((by first | exact y_pickT rfl rfl | exact y_pickF rfl rfl)) rfl ?_
        refine DL_y rfl (y_move rfl) rfl ?_
        refine DL_split 41 rfl (fun h41 => ?_) (fun h41 => ?_)
        ·
          refine DL_ogyes rfl rfl rfl (o_call Try.func10 rfl rfl (works _) rfl rfl ?_)
          rintro e12 w12 ⟨v12, rfl, l12, rfl⟩
          refine ⟨_, rfl, (Like.trans q11 l12), ?_⟩
          have S12 := S11.like l12
          have q12 := (Like.trans q11 l12)
          refine DL_y rfl ((by first | exact y_pickT rfl rfl | exact y_pickF rfl rfl)) rfl ?_
          refine DL_y rfl (y_assign rfl) rfl ?_
          refine DL_nil ?_
          refine hK12 _ _ ?_
          refine T_ret ?_
          repeat (first | with_reducible refine up_then ?_ | with_reducible refine up_in ?_)
          refine ret1 rfl rfl ?_
          exact ⟨_, rfl, S12.like0, rfl⟩
        ·
          exact absurd (by rw [cat_one]) h41
      ·
        exact absurd rfl h34


theorem shasumsI (ps : List Part) (A : Option Addr) (n c : Nat) (w : World) (hps : Rs w 1 A n c (ps.map pv)) (hok : ∀ p ∈ ps, p.ok w) : Calls Try.prog 4 #[.slice A n c] w fun e w' => e = .returned (.bool true) ∧ Below w.heap.size w w' := lawC (shasums ps A n c w hps hok)
end Go.Proofs.Ytanelemeljbbcaa
