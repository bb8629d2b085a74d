/-
  The law of the pieces.
-/
import Derived.Test.YtanelemeljbbcaaU
namespace Go.Proofs.Ytanelemeljbbcaa
open Go.RowKit Zk Zx
set_option linter.unusedVariables false
set_option linter.unusedSimpArgs false

theorem xor8 (l : List UInt8) (j : Nat) : bits .xor .u8 (g8 l j) 255 = ((l.getD j 0 ^^^ 255).toNat : Int) := by
  have := u8_xor_nat (l.getD j 0).toNat 255 (l.getD j 0).toNat_lt (by omega)
  rw [UInt8.toNat_xor]
  exact this


set_option maxRecDepth 100000 in
theorem write0 (A : Option Addr) (m c : Nat) (w0 : World)  :
    Calls Try.prog 18 #[.pointer none, .slice A m c] w0 fun e w' => ∃ u, e = .returned u ∧ Like w0 w' := by
  refine enter1 (env := [(0, .pointer none), (1, .slice A m c)]) [.pointer none, .slice A m c] Try.func18 rfl Try.ntmps18 rfl rfl ?_
  have S0 := St.start w0 noM
  refine T_seq fun K1 hK1 => ?_
  refine T_seq fun K2 hK2 => ?_
  refine T_region ?_
  refine L_y (y_move rfl) rfl ?_
  refine L_y (y_peqn Try.underlying42 rfl) rfl ?_
  refine L_y (y_move rfl) rfl ?_
  refine L_gno rfl rfl rfl ?_
  refine L_gno rfl rfl rfl ?_
  refine L_gno rfl rfl rfl ?_
  refine L_gno rfl rfl rfl ?_
  refine L_gno rfl rfl rfl ?_
  refine L_y ((by first | exact y_pickT rfl rfl | exact y_pickF rfl rfl)) rfl ?_
  refine L_nil ?_
  refine hK2 _ _ ?_
  refine T_true rfl ?_
  refine T_ret ?_
  repeat (first | with_reducible refine up_then ?_ | with_reducible refine up_in ?_)
  refine ret0 rfl ?_
  exact ⟨_, rfl, S0.like0⟩


set_option maxRecDepth 100000 in
theorem sum0  (w0 : World)  :
    Calls Try.prog 19 #[.pointer none] w0 fun e w' => ∃ u, e = .returned u ∧ Like w0 w' ∧ u = .agg (bA z32) := by
  refine enter1 (env := [(0, .pointer none)]) [.pointer none] Try.func19 rfl Try.ntmps19 rfl rfl ?_
  have S0 := St.start w0 noM
  refine T_seq fun K1 hK1 => ?_
  refine T_region ?_
  refine L_o (o_alloc zz30 S0 rfl fun b1 w1 hb1 S1 => ?_)
  refine L_nil ?_
  refine hK1 _ _ ?_
  refine T_seq fun K2 hK2 => ?_
  refine T_seq fun K3 hK3 => ?_
  refine T_region ?_
  refine L_y (y_move rfl) rfl ?_
  refine L_y (y_peqn Try.underlying42 rfl) rfl ?_
  refine L_y (y_move rfl) rfl ?_
  refine L_gno rfl rfl rfl ?_
  refine L_gno rfl rfl rfl ?_
  refine L_gno rfl rfl rfl ?_
  refine L_gno rfl rfl rfl ?_
  refine L_gno rfl rfl rfl ?_
  refine L_y ((by first | exact y_pickT rfl rfl | exact y_pickF rfl rfl)) rfl ?_
  refine L_nil ?_
  refine hK3 _ _ ?_
  refine T_true rfl ?_
  refine T_seq fun K4 hK4 => ?_
  refine T_region ?_
  refine L_y (y_build (cs := bA z32) rfl (by kernel_rfl)) rfl ?_
  refine L_o (o_stW S1 0 rfl rfl rfl (by exact sz30) (by simp [z32, Value.cells]) (bA_one _) fun w2 S2 => ?_)
  refine L_nil ?_
  refine hK4 _ _ ?_
  refine T_ret ?_
  repeat (first | with_reducible refine up_then ?_ | with_reducible refine up_in ?_)
  refine retc rfl rfl (S2.blk 0 rfl) Try.underlying30 rfl (by exact sz30) ?_
  exact ⟨_, rfl, S2.like0, rfl⟩


theorem lenHS (b : Nat) (l : List UInt8) (cs : Array Value) (hs : HS l cs) (w0 : World) (hb : Blk w0 b 53 cs) : Calls Try.prog 20 #[.pointer (some ⟨b, 0, none⟩)] w0 fun e w' => ∃ u, e = .returned u ∧ Like w0 w' ∧ u = .int .u64 (l.length : Int) := by
  obtain ⟨rest, h64, hr, rfl⟩ := hs
  exact lenH b _ _ rest w0 hb


set_option maxRecDepth 100000 in
set_option maxHeartbeats 2000000 in
theorem shapieces (ps : List Part) (A : Option Addr) (n c : Nat) (w0 : World) (hps : Rs w0 1 A n c (ps.map pv)) (hok : ∀ p ∈ ps, p.ok w0) :
    Calls Try.prog 6 #[.slice A n c] w0 fun e w' => ∃ u, e = .returned u ∧ Like w0 w' ∧ u = .bool true := by
  have hn : ps.length = n := by have := hps.len; simpa using this
  have hpl : ps.length ≤ 9223372036854775807 := by have := hps.cap; have := hps.max; omega
  refine enter1 (env := [(0, .slice A n c)]) [.slice A n c] Try.func6 rfl Try.ntmps6 rfl rfl ?_
  have S0 := St.start w0 noM
  refine T_seq fun K1 hK1 => ?_
  refine T_region ?_
  refine L_y (y_assign rfl) rfl ?_
  refine L_nil ?_
  refine hK1 _ _ ?_
  refine T_seq fun K2 hK2 => ?_
  refine T_region ?_
  refine L_o (o_call Try.func17 rfl rfl (new _) rfl rfl ?_)
  rintro e1 w1 ⟨v1, rfl, l1, b1, rfl, hb1, hB1⟩
  refine ⟨_, rfl, ?_⟩
  have S1 := S0.adoptB l1 hB1 hb1
  refine L_y (y_assign rfl) rfl ?_
  refine L_nil ?_
  refine hK2 _ _ ?_
  refine T_seq fun K3 hK3 => ?_
  refine T_region ?_
  have S2 := S1.nilrow 5 1
  refine L_y (y_assign rfl) rfl ?_
  refine L_nil ?_
  refine hK3 _ _ ?_
  refine T_seq fun K4 hK4 => ?_
  refine T_seq fun K5 hK5 => ?_
  refine T_region ?_
  refine L_y (y_assign rfl) rfl ?_
  refine L_nil ?_
  refine hK5 _ _ ?_
  refine T_block ?_
  refine T_loop5 [(0, _), (3, _)] (fun (k : Nat) (A1 : Option Addr) (m1 : Nat) (c1 : Nat) (cs : Array Value) => [(4, .slice A1 m1 c1), (5, .int .i64 (k : Int))]) (fun (k : Nat) (A1 : Option Addr) (m1 : Nat) (c1 : Nat) (cs : Array Value) => ps.length - k) (fun (k : Nat) (A1 : Option Addr) (m1 : Nat) (c1 : Nat) (cs : Array Value) (w : World) => k ≤ ps.length ∧ m1 ≤ 3000 ∧ HS (cat (ps.take k)) cs ∧ Zx.St w0 noM [blk b1 53 cs, row 5 1 A1 m1 c1 (bL (cat (ps.take k)))] w) 0 none 0 0 (hashA 0 start0 (List.replicate 64 0)) (Sub.cons rfl (by first | rfl | exact congrArg (Value.int _) (by omega)) (Sub.cons rfl (by first | rfl | exact congrArg (Value.int _) (by omega)) (Sub.nil _))) (Sub.cons rfl rfl (Sub.cons rfl rfl (Sub.nil _))) ?_ ?_
  ·
    exact ⟨by omega, by omega, HS_nil, S2⟩
  ·
    intro k A1 m1 c1 cs w3 hrel
    obtain ⟨hk, hm, hs, S3⟩ := hrel
    have hq := part_getD hok k
    have hql := hq.lenb
    have hcl := (S3.row 1 rfl).lenb
    refine T_seq fun K6 hK6 => ?_
    refine T_seq fun K7 hK7 => ?_
    refine T_region ?_
    refine L_y (y_move rfl) rfl ?_
    refine L_y (y_move rfl) rfl ?_
    refine L_y (y_len Try.underlying28 rfl) rfl ?_
    refine L_y (y_lss rfl rfl) rfl ?_
    refine L_nil ?_
    refine hK7 _ _ ?_
    refine T_cond rfl (fun h13 => ?_) (fun h13 => ?_)
    ·
      refine T_skip ?_
      refine hK6 _ _ ?_
      refine T_seq fun K8 hK8 => ?_
      refine T_block ?_
      refine T_seq fun K9 hK9 => ?_
      refine T_seq fun K10 hK10 => ?_
      refine T_region ?_
      refine L_y (y_move rfl) rfl ?_
      refine L_y (y_move rfl) rfl ?_
      refine L_y (y_idx Try.underlying28 sz23 rfl rfl (by first | exact S3.rd hps | exact S3.rd hq | exact S3.row 1 rfl) inferInstance (by omega)) rfl ?_
      refine L_y (y_ldg p0 Try.underlying23 rfl rfl (by first | exact S3.rd hps | exact S3.rd hq | exact S3.row 1 rfl) (by omega)) rfl ?_
      refine L_y (y_len Try.underlying23 rfl) rfl ?_
      refine L_y (y_move rfl) rfl ?_
      refine L_y (y_len Try.underlying23 rfl) rfl ?_
      refine L_y (y_sub rfl rfl (i64w (by omega))) rfl ?_
      refine L_y (y_gtr rfl rfl) rfl ?_
      refine L_nil ?_
      refine hK10 _ _ ?_
      refine T_cond rfl (fun h24 => ?_) (fun h24 => ?_)
      ·
        refine T_seq fun K11 hK11 => ?_
        refine T_region ?_
        refine L_o (o_call Try.func10 rfl rfl (works _) rfl rfl ?_)
        rintro e4 w4 ⟨v4, rfl, l4, rfl⟩
        refine ⟨_, rfl, ?_⟩
        have S4 := S3.like l4
        refine L_y (y_assign rfl) rfl ?_
        refine L_nil ?_
        refine hK11 _ _ ?_
        refine T_ret ?_
        repeat (first | with_reducible refine up_then ?_ | with_reducible refine up_in ?_)
        refine ret1 rfl rfl ?_
        exact ⟨_, rfl, S4.like0, rfl⟩
      ·
        refine T_skip ?_
        refine hK9 _ _ ?_
        refine T_seq fun K12 hK12 => ?_
        refine T_region ?_
        refine L_y (y_move rfl) rfl ?_
        refine L_y (y_move rfl) rfl ?_
        refine L_y (y_move rfl) rfl ?_
        refine L_y (y_idx Try.underlying28 sz23 rfl rfl (by first | exact S3.rd hps | exact S3.rd hq | exact S3.row 1 rfl) inferInstance (by omega)) rfl ?_
        refine L_y (y_ldg p0 Try.underlying23 rfl rfl (by first | exact S3.rd hps | exact S3.rd hq | exact S3.row 1 rfl) (by omega)) rfl ?_
        refine L_o (o_app te23 S3 1 rfl rfl rfl (by first | exact S3.rd hps | exact S3.rd hq | exact S3.row 1 rfl) (by first | exact bL_one _ | exact iL_one _ | (intro u hu; simp at hu; subst hu; rfl) | (simp; done) | (simp [Value.oneCell']; done)) rfl (by omega) (by omega) fun A5 c5 w5 S5 => ?_)
        have hlt : k < ps.length := by omega
        have hcn := cat_next ps k hlt
        have S9 := S5.rowc 1 rfl (n' := m1 + (ps.getD k p0).n) (xs' := bL (cat (ps.take (k + 1)))) rfl (by rw [hcn, bL_app])
        refine L_y (y_assign rfl) rfl ?_
        refine L_nil ?_
        refine hK12 _ _ ?_
        refine T_seq fun K13 hK13 => ?_
        refine T_region ?_
        refine L_o (o_bsl0 te23 S9 rfl fun b6 w6 l6 S6 => ?_)
        refine L_y (y_move rfl) rfl ?_
        refine L_y (y_move rfl) rfl ?_
        refine L_y (y_idx Try.underlying28 sz23 rfl rfl (by first | exact S6.rd hps | exact S6.rd hq | exact S6.row 1 rfl | exact S6.row 2 rfl) inferInstance (by omega)) rfl ?_
        refine L_y (y_ldg p0 Try.underlying23 rfl rfl (by first | exact S6.rd hps | exact S6.rd hq | exact S6.row 1 rfl | exact S6.row 2 rfl) (by omega)) rfl ?_
        refine L_o (o_app te23 S6 2 rfl rfl rfl (by first | exact S6.rd hps | exact S6.rd hq | exact S6.row 1 rfl | exact S6.row 2 rfl) (by first | exact bL_one _ | exact iL_one _ | (intro u hu; simp at hu; subst hu; rfl) | (simp; done) | (simp [Value.oneCell']; done)) rfl (by omega) (by omega) fun A7 c7 w7 S7 => ?_)
        have S9 := S7.rowc 2 rfl (n' := (ps.getD k p0).n) (xs' := bL (ps.getD k p0).l) (by omega) (by simp)
        have e37 : (0 + (ps.getD k p0).n) = (ps.getD k p0).n := by omega
        rw [e37]
        refine L_y (y_assign rfl) rfl ?_
        refine L_nil ?_
        refine hK13 _ _ ?_
        refine T_seq fun K14 hK14 => ?_
        refine T_region ?_
        refine L_y (y_move rfl) rfl ?_
        refine L_y (y_move rfl) rfl ?_
        refine L_o (o_call Try.func18 rfl rfl (write _ _ (ps.getD k p0).l _ _ _ _ _ (S9.blk 0 rfl) hs (S9.row 2 rfl) (S9.row_ne 2 0 rfl rfl rfl) (by omega)) rfl rfl ?_)
        rintro e8 w8 ⟨u8, rfl, hgb, cs', hB', hs'⟩
        refine ⟨_, rfl, ?_⟩
        have S8 := S9.wrote (r' := blk _ _ _) 0 rfl (fun i => Iff.rfl) (fun i h => h) hgb hB'
        refine L_nil ?_
        refine hK14 _ _ ?_
        refine T_seq fun K15 hK15 => ?_
        refine T_seq fun K16 hK16 => ?_
        refine T_region ?_
        refine L_y (y_assign rfl) rfl ?_
        refine L_nil ?_
        refine hK16 _ _ ?_
        refine T_block ?_
        refine T_loop2 [(0, _), (3, _), (4, _), (5, _), (6, _)] (fun (j : Nat) (xl : List UInt8) => [(7, .int .i64 (j : Int))]) (fun (j : Nat) (xl : List UInt8) => (ps.getD k p0).n - j) (fun (j : Nat) (xl : List UInt8) (w : World) => j ≤ (ps.getD k p0).n ∧ Zx.St w0 noM [blk b1 53 cs', row 5 1 A5 (m1 + (ps.getD k p0).n) c5 (bL (cat (ps.take (k + 1)))), row 5 1 A7 (ps.getD k p0).n c7 (bL xl)] w) 0 (ps.getD k p0).l (Sub.cons rfl (by first | rfl | exact congrArg (Value.int _) (by omega)) (Sub.nil _)) (Sub.cons rfl rfl (Sub.cons rfl rfl (Sub.cons rfl rfl (Sub.cons rfl rfl (Sub.cons rfl rfl (Sub.nil _)))))) ?_ ?_
        ·
          exact ⟨by omega, S8⟩
        ·
          intro j xl w9 hrel
          obtain ⟨hj, S9⟩ := hrel
          refine T_seq fun K17 hK17 => ?_
          refine T_seq fun K18 hK18 => ?_
          refine T_region ?_
          refine L_y (y_move rfl) rfl ?_
          refine L_y (y_move rfl) rfl ?_
          refine L_y (y_len Try.underlying23 rfl) rfl ?_
          refine L_y (y_lss rfl rfl) rfl ?_
          refine L_nil ?_
          refine hK18 _ _ ?_
          refine T_cond rfl (fun h44 => ?_) (fun h44 => ?_)
          ·
            refine T_skip ?_
            refine hK17 _ _ ?_
            refine T_seq fun K19 hK19 => ?_
            refine T_block ?_
            refine T_region ?_
            refine L_y (y_move rfl) rfl ?_
            refine L_y (y_move rfl) rfl ?_
            refine L_y (y_idx Try.underlying23 sz5 rfl rfl (by first | exact S9.rd hps | exact S9.rd hq | exact S9.row 1 rfl | exact S9.row 2 rfl) inferInstance (by omega)) rfl ?_
            refine L_yb (y_ldb Try.underlying5 rfl rfl (by first | exact S9.rd hps | exact S9.rd hq | exact S9.row 1 rfl | exact S9.row 2 rfl) (by omega)) rfl fun _ _ => ?_
            refine L_y (y_bits rfl rfl rfl (xor8 _ _)) rfl ?_
            refine L_y (y_idx Try.underlying23 sz5 rfl rfl (by first | exact S9.rd hps | exact S9.rd hq | exact S9.row 1 rfl | exact S9.row 2 rfl) inferInstance (by omega)) rfl ?_
            refine L_o (o_strow S9 2 rfl rfl rfl rfl sz5 (by omega) fun w10 S10 => ?_)
            refine L_nil ?_
            refine hK19 _ _ ?_
            refine T_region ?_
            refine L_y (y_move rfl) rfl ?_
            refine L_y (y_add rfl rfl (i64w (by omega))) rfl ?_
            refine L_y (y_assign rfl) rfl ?_
            refine L_nil ?_
            have S9 := S10.rowc 2 rfl (n' := (ps.getD k p0).n) (xs' := bL (xl.set j (xl.getD j 0 ^^^ 255))) rfl (by simp only [bL, List.map_set]; rfl)
            refine ⟨j + 1, _, by omega, ⟨by omega, S9⟩, ?_⟩
            exact (Sub.cons rfl (by first | rfl | exact congrArg (Value.int _) (by omega)) (Sub.cons rfl rfl (Sub.cons rfl rfl (Sub.cons rfl rfl (Sub.cons rfl rfl (Sub.cons rfl rfl (Sub.nil _)))))))
          ·
            refine T_exit ?_
            refine hK15 _ _ ?_
            refine T_seq fun K20 hK20 => ?_
            have hcl2 := (S9.row 1 rfl).lenb
            refine T_region ?_
            refine L_y (y_move rfl) rfl ?_
            refine L_y (y_lss rfl rfl) rfl ?_
            refine L_y (y_move rfl) rfl ?_
            refine L_split 55 rfl (fun h55 => ?_) (fun h55 => ?_)
            ·
              refine L_gyes rfl rfl ?_
              refine L_y (y_move rfl) rfl ?_
              refine L_gyes rfl rfl ?_
              refine L_o (o_call Try.func19 rfl rfl (sum _ _ cs' _ (S9.blk 0 rfl) hs' (by rw [List.length_append]; omega)) rfl rfl ?_)
              rintro e12 w12 ⟨v12, rfl, l12, rfl⟩
              refine ⟨_, rfl, ?_⟩
              have S12 := S9.like l12
              refine L_gyes rfl rfl ?_
              refine L_y (y_move rfl) rfl ?_
              refine L_gyes rfl rfl ?_
              refine L_o (o_call Try.func11 rfl rfl (refof (cat (ps.take (k + 1))) _ _ _ _ (S12.row 1 rfl) (by omega)) rfl rfl ?_)
              rintro e13 w13 ⟨v13, rfl, l13, rfl⟩
              refine ⟨_, rfl, ?_⟩
              have S13 := S12.like l13
              refine L_gyes rfl rfl ?_
              refine L_y (y_neB Try.underlying30 Try.underlying5 sz5 (by kernel_rfl) rfl rfl (length_ofL _) (length_ofL _)) rfl ?_
              refine L_y ((by first | exact y_pickT rfl rfl | exact y_pickF rfl rfl)) rfl ?_
              refine L_y (y_move rfl) rfl ?_
              refine L_splitB 62 rfl (fun h62 => ?_) (fun h62 => ?_)
              ·
                first | exact absurd h62 (by rw [hcn]; simp) | exact absurd h62 (by simp)
              ·
                refine L_gyes rfl rfl ?_
                refine L_y (y_move rfl) rfl ?_
                refine L_gyes rfl rfl ?_
                refine L_o (o_call Try.func20 rfl rfl (lenHS _ _ cs' hs' _ (S13.blk 0 rfl)) rfl rfl ?_)
                rintro e15 w15 ⟨v15, rfl, l15, rfl⟩
                refine ⟨_, rfl, ?_⟩
                have S15 := S13.like l15
                refine L_gyes rfl rfl ?_
                refine L_y (y_move rfl) rfl ?_
                refine L_gyes rfl rfl ?_
                refine L_y (y_len Try.underlying23 rfl) rfl ?_
                refine L_gyes rfl rfl ?_
                refine L_y (y_conv is3 Try.underlying22 rfl (u64w (by omega))) rfl ?_
                refine L_gyes rfl rfl ?_
                refine L_y (y_neq rfl rfl) rfl ?_
                refine L_y ((by first | exact y_pickT rfl rfl | exact y_pickF rfl rfl)) rfl ?_
                refine L_nil ?_
                refine hK20 _ _ ?_
                refine T_cond rfl (fun h69 => ?_) (fun h69 => ?_)
                ·
                  exact absurd (by rw [List.length_append]; omega) h69
                ·
                  refine T_skip ?_
                  refine hK8 _ _ ?_
                  refine T_region ?_
                  refine L_y (y_move rfl) rfl ?_
                  refine L_y (y_add rfl rfl (i64w (by omega))) rfl ?_
                  refine L_y (y_assign rfl) rfl ?_
                  refine L_nil ?_
                  have Sz16d := S15.drop (rs' := [_, _]) (.cons_cons _ (.cons_cons _ (.cons _ (.refl _))))
                  rw [← hcn] at hs'
                  refine ⟨k + 1, _, _, _, _, by omega, ⟨by omega, by omega, hs', Sz16d⟩, ?_⟩
                  exact (Sub.cons rfl (by first | rfl | exact congrArg (Value.int _) (by omega)) (Sub.cons rfl (by first | rfl | exact congrArg (Value.int _) (by omega)) (Sub.cons rfl rfl (Sub.cons rfl rfl (Sub.nil _)))))
            ·
              refine L_gno rfl rfl rfl ?_
              refine L_gno rfl rfl rfl ?_
              refine L_gno rfl rfl rfl ?_
              refine L_gno rfl rfl rfl ?_
              refine L_gno rfl rfl rfl ?_
              refine L_y ((by first | exact y_pickT rfl rfl | exact y_pickF rfl rfl)) rfl ?_
              refine L_y (y_move rfl) rfl ?_
              refine L_splitB 62 rfl (fun h62 => ?_) (fun h62 => ?_)
              ·
                first | exact absurd h62 (by rw [hcn]; simp) | exact absurd h62 (by simp)
              ·
                refine L_gyes rfl rfl ?_
                refine L_y (y_move rfl) rfl ?_
                refine L_gyes rfl rfl ?_
                refine L_o (o_call Try.func20 rfl rfl (lenHS _ _ cs' hs' _ (S9.blk 0 rfl)) rfl rfl ?_)
                rintro e18 w18 ⟨v18, rfl, l18, rfl⟩
                refine ⟨_, rfl, ?_⟩
                have S18 := S9.like l18
                refine L_gyes rfl rfl ?_
                refine L_y (y_move rfl) rfl ?_
                refine L_gyes rfl rfl ?_
                refine L_y (y_len Try.underlying23 rfl) rfl ?_
                refine L_gyes rfl rfl ?_
                refine L_y (y_conv is3 Try.underlying22 rfl (u64w (by omega))) rfl ?_
                refine L_gyes rfl rfl ?_
                refine L_y (y_neq rfl rfl) rfl ?_
                refine L_y ((by first | exact y_pickT rfl rfl | exact y_pickF rfl rfl)) rfl ?_
                refine L_nil ?_
                refine hK20 _ _ ?_
                refine T_cond rfl (fun h69 => ?_) (fun h69 => ?_)
                ·
                  exact absurd (by rw [List.length_append]; omega) h69
                ·
                  refine T_skip ?_
                  refine hK8 _ _ ?_
                  refine T_region ?_
                  refine L_y (y_move rfl) rfl ?_
                  refine L_y (y_add rfl rfl (i64w (by omega))) rfl ?_
                  refine L_y (y_assign rfl) rfl ?_
                  refine L_nil ?_
                  have Sz19d := S18.drop (rs' := [_, _]) (.cons_cons _ (.cons_cons _ (.cons _ (.refl _))))
                  rw [← hcn] at hs'
                  refine ⟨k + 1, _, _, _, _, by omega, ⟨by omega, by omega, hs', Sz19d⟩, ?_⟩
                  exact (Sub.cons rfl (by first | rfl | exact congrArg (Value.int _) (by omega)) (Sub.cons rfl (by first | rfl | exact congrArg (Value.int _) (by omega)) (Sub.cons rfl rfl (Sub.cons rfl rfl (Sub.nil _)))))
    ·
      have hke : ps.take k = ps := List.take_of_length_le (by omega)
      rw [hke] at hs
      have S8 := S3.rowc 1 rfl (xs' := bL (cat ps)) rfl (by rw [hke])
      have hcl3 := (S8.row 1 rfl).lenb
      refine T_exit ?_
      refine hK4 _ _ ?_
      refine T_seq fun K21 hK21 => ?_
      refine T_region ?_
      refine L_y (y_assign rfl) rfl ?_
      refine L_nil ?_
      refine hK21 _ _ ?_
      refine T_seq fun K22 hK22 => ?_
      refine T_region ?_
      refine L_y (y_move rfl) rfl ?_
      refine L_y (y_move rfl) rfl ?_
      refine L_o (o_call Try.func18 rfl rfl (write0 _ _ _ _) rfl rfl ?_)
      rintro e20 w20 ⟨u20, rfl, l20⟩
      refine ⟨_, rfl, ?_⟩
      have S20 := S8.like l20
      refine L_nil ?_
      refine hK22 _ _ ?_
      refine T_seq fun K23 hK23 => ?_
      refine T_region ?_
      refine L_y (y_move rfl) rfl ?_
      refine L_o (o_call Try.func19 rfl rfl (sum _ (cat ps) cs _ (S20.blk 0 rfl) hs (by omega)) rfl rfl ?_)
      rintro e21 w21 ⟨v21, rfl, l21, rfl⟩
      refine ⟨_, rfl, ?_⟩
      have S21 := S20.like l21
      refine L_y (y_move rfl) rfl ?_
      refine L_o (o_bsl [_] te28 zz23 S21 rfl rfl rfl rfl rfl rfl rfl rfl fun b22 w22 S22 => ?_)
      refine L_o (o_call Try.func12 rfl rfl (shaof [⟨_, _, _, cat ps⟩] _ _ _ _ (S22.row 2 rfl) (fun p hp => by obtain rfl := List.mem_singleton.1 hp; exact S22.row 1 rfl) (by rw [cat_one]; omega) (by simp)) rfl rfl ?_)
      rintro e23 w23 ⟨v23, rfl, l23, rfl⟩
      refine ⟨_, rfl, ?_⟩
      have S23 := S22.like l23
      refine L_y (y_eqB Try.underlying30 Try.underlying5 sz5 (by kernel_rfl) rfl rfl (length_ofL _) (length_ofL _)) rfl ?_
      refine L_y (y_move rfl) rfl ?_
      refine L_split 79 rfl (fun h79 => ?_) (fun h79 => ?_)
      ·
        refine L_gyes rfl rfl ?_
        refine L_y (y_move rfl) rfl ?_
        refine L_gyes rfl rfl ?_
        refine L_o (o_call Try.func20 rfl rfl (len0 _) rfl rfl ?_)
        rintro e25 w25 ⟨v25, rfl, l25, rfl⟩
        refine ⟨_, rfl, ?_⟩
        have S25 := S23.like l25
        refine L_gyes rfl rfl ?_
        refine L_y (y_eql rfl rfl) rfl ?_
        refine L_y ((by first | exact y_pickT rfl rfl | exact y_pickF rfl rfl)) rfl ?_
        refine L_y (y_move rfl) rfl ?_
        refine L_gyes rfl rfl ?_
        refine L_y (y_move rfl) rfl ?_
        refine L_gyes rfl rfl ?_
        refine L_o (o_call Try.func19 rfl rfl (sum0 _) rfl rfl ?_)
        rintro e26 w26 ⟨v26, rfl, l26, rfl⟩
        refine ⟨_, rfl, ?_⟩
        have S26 := S25.like l26
        refine L_gyes rfl rfl ?_
        refine L_y (y_build (cs := bA z32) rfl (by kernel_rfl)) rfl ?_
        refine L_gyes rfl rfl ?_
        refine L_y (y_eqB Try.underlying30 Try.underlying5 sz5 (by kernel_rfl) rfl rfl (by simp [z32]) (by simp [z32])) rfl ?_
        refine L_y ((by first | exact y_pickT rfl rfl | exact y_pickF rfl rfl)) rfl ?_
        refine L_y (y_move rfl) rfl ?_
        refine L_split 90 rfl (fun h90 => ?_) (fun h90 => ?_)
        ·
          refine L_gyes rfl rfl ?_
          refine L_o (o_call Try.func10 rfl rfl (works _) rfl rfl ?_)
          rintro e28 w28 ⟨v28, rfl, l28, rfl⟩
          refine ⟨_, rfl, ?_⟩
          have S28 := S26.like l28
          refine L_y ((by first | exact y_pickT rfl rfl | exact y_pickF rfl rfl)) rfl ?_
          refine L_y (y_assign rfl) rfl ?_
          refine L_nil ?_
          refine hK23 _ _ ?_
          refine T_ret ?_
          repeat (first | with_reducible refine up_then ?_ | with_reducible refine up_in ?_)
          refine ret1 rfl rfl ?_
          exact ⟨_, rfl, S28.like0, rfl⟩
        ·
          exact absurd rfl h90
      ·
        exact absurd (by rw [cat_one]) h79


theorem shapiecesI (ps : List Part) (A : Option Addr) (n c : Nat) (w : World) (hps : Rs w 1 A n c (ps.map pv)) (hok : ∀ p ∈ ps, p.ok w) : Calls Try.prog 6 #[.slice A n c] w fun e w' => e = .returned (.bool true) ∧ Below w.heap.size w w' := lawC (shapieces ps A n c w hps hok)
end Go.Proofs.Ytanelemeljbbcaa
