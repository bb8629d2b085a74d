/-
  The law DeltaChain.
-/
import Derived.Test.YtpcgldkllnkaeaaU
namespace Go.Proofs.Ytpcgldkllnkaeaa
open Go.RowKit Zk Zx
set_option linter.unusedVariables false
set_option linter.unusedSimpArgs false

theorem pthenC {x y z : List UInt8} (hx : x.length ≤ 300) (hy : y.length ≤ 300) (hz : z.length ≤ 300) (A : Option Addr) (c : Nat) (l : List OP) (B : Option Addr) (d : Nat) (k : List OP) (n m q : Nat) (w0 : World) (hl : Rs w0 4 A l.length c (l.flatMap opf)) (hok : OkO w0 l) (hk : Rs w0 4 B k.length d (k.flatMap opf)) (hok2 : OkO w0 k) (h1 : l.map OP.v = mkV x y) (h2 : k.map OP.v = mkV y z) (hn : n = x.length) (hm : m = y.length) (hq : q = z.length) :
    Calls Try.prog 16 #[.agg (scA (n : Int) (m : Int) A l.length c), .agg (scA (m : Int) (q : Int) B k.length d)] w0 fun e w' => ∃ u, e = .returned u ∧ Like w0 w' ∧ ∃ A' c' qs, u = .tuple #[.agg (scA (n : Int) (q : Int) A' qs.length c'), .int .i64 0] ∧ Rs w' 4 A' qs.length c' (qs.flatMap opf) ∧ OkO w' qs ∧ qs.map OP.v = thenV (mkV x y) (mkV y z) := by
  subst hn hm hq
  have e1 : l.length ≤ 4000 := by have := mkV_cnt (a := x) (t := y); rw [← h1, List.length_map] at this; omega
  have e2 : k.length ≤ 4000 := by have := mkV_cnt (a := y) (t := z); rw [← h2, List.length_map] at this; omega
  have h := pthen A l.length c l (x.length : Int) (y.length : Int) B k.length d k (y.length : Int) (z.length : Int) w0 hl hok hk hok2 e1 e2
  rw [h1, h2, chain_then hx hy hz rfl rfl rfl rfl] at h
  exact h
theorem papplyC {x y z : List UInt8} (hx : x.length ≤ 300) (hy : y.length ≤ 300) (hz : z.length ≤ 300) (A : Option Addr) (n c : Nat) (B : Option Addr) (d q : Nat) (l : List OP) (w0 : World) (ha : Rs w0 1 A n c (bL x)) (hl : Rs w0 4 B l.length d (l.flatMap opf)) (hok : OkO w0 l) (h1 : l.map OP.v = thenV (mkV x y) (mkV y z)) (hn : n = x.length) (hq : q = z.length) :
    Calls Try.prog 12 #[.slice A n c, .agg (scA (n : Int) (q : Int) B l.length d)] w0 fun e w' => ∃ u, e = .returned u ∧ Like w0 w' ∧ ∃ A' c', u = .tuple #[.slice A' q c', .int .i64 0] ∧ w'.ownsRow w0.heap.size 5 1 (.slice A' q c') q (bL z) := by
  subst hn hq
  have h := papply A x.length c x B l.length d l (x.length : Int) (z.length : Int) w0 ha hl hok
  rw [h1, chain_apl hx hy hz] at h
  exact h


set_option maxRecDepth 100000 in
theorem lchain (A B C : Option Addr) (n c m d q e : Nat) (x y z : List UInt8) (w0 : World) (ha : Rs w0 1 A n c (bL x)) (hb : Rs w0 1 B m d (bL y)) (hc : Rs w0 1 C q e (bL z)) :
    Calls Try.prog 6 #[.slice A n c, .slice B m d, .slice C q e] w0 fun e w' => ∃ u, e = .returned u ∧ Like w0 w' ∧ u = .bool true := by
  refine enter1 (env := [(0, .slice A n c), (1, .slice B m d), (2, .slice C q e)]) [.slice A n c, .slice B m d, .slice C q e] Try.func6 rfl Try.ntmps6 rfl rfl ?_
  have hn := ha.lenb; have hcap := ha.cap; have hmax := ha.max; have hm := hb.lenb; have hcap2 := hb.cap; have hmax2 := hb.max; have hq := hc.lenb; have hcap3 := hc.cap; have hmax3 := hc.max; have S0 := St.start w0 noM
  refine T_seq fun K1 hK1 => ?_
  refine T_region ?_
  refine L_y (y_assign rfl) rfl ?_
  refine L_nil ?_
  refine hK1 _ _ ?_
  refine T_seq fun K2 hK2 => ?_
  refine T_seq fun K3 hK3 => ?_
  refine T_region ?_
  refine L_y (y_move rfl) rfl ?_
  refine L_y (y_len Try.underlying22 rfl) rfl ?_
  refine L_y (y_gtr rfl rfl) rfl ?_
  refine L_y (y_move rfl) rfl ?_
  refine L_split 18 rfl (fun h18 => ?_) (fun h18 => ?_)
  ·
    refine L_gno rfl rfl rfl ?_
    refine L_gno rfl rfl rfl ?_
    refine L_gno rfl rfl rfl ?_
    refine L_y ((by first | exact y_pickT rfl rfl | exact y_pickF rfl rfl)) rfl ?_
    refine L_y (y_move rfl) rfl ?_
    refine L_gno rfl rfl rfl ?_
    refine L_gno rfl rfl rfl ?_
    refine L_gno rfl rfl rfl ?_
    refine L_y ((by first | exact y_pickT rfl rfl | exact y_pickF rfl rfl)) rfl ?_
    refine L_nil ?_
    refine hK3 _ _ ?_
    refine T_true rfl ?_
    refine T_seq fun K4 hK4 => ?_
    refine T_region ?_
    refine L_o (o_call Try.func9 rfl rfl (works w0) rfl rfl ?_)
    rintro e2 w2 ⟨v2, rfl, l2, rfl⟩
    refine ⟨_, rfl, ?_⟩
    have S2 := S0.like l2
    refine L_y (y_assign rfl) rfl ?_
    refine L_nil ?_
    refine hK4 _ _ ?_
    refine T_ret ?_
    repeat (first | with_reducible refine up_then ?_ | with_reducible refine up_in ?_)
    refine ret1 rfl rfl ?_
    first | exact ⟨_, rfl, S2.like0, rfl⟩ | exact ⟨_, rfl, Like.trans lw3 S2.like0, rfl⟩
  ·
    refine L_gyes rfl rfl ?_
    refine L_y (y_move rfl) rfl ?_
    refine L_gyes rfl rfl ?_
    refine L_y (y_len Try.underlying22 rfl) rfl ?_
    refine L_gyes rfl rfl ?_
    refine L_y (y_gtr rfl rfl) rfl ?_
    refine L_y ((by first | exact y_pickT rfl rfl | exact y_pickF rfl rfl)) rfl ?_
    refine L_y (y_move rfl) rfl ?_
    refine L_split 23 rfl (fun h23 => ?_) (fun h23 => ?_)
    ·
      refine L_gno rfl rfl rfl ?_
      refine L_gno rfl rfl rfl ?_
      refine L_gno rfl rfl rfl ?_
      refine L_y ((by first | exact y_pickT rfl rfl | exact y_pickF rfl rfl)) rfl ?_
      refine L_nil ?_
      refine hK3 _ _ ?_
      refine T_true rfl ?_
      refine T_seq fun K5 hK5 => ?_
      refine T_region ?_
      refine L_o (o_call Try.func9 rfl rfl (works w0) rfl rfl ?_)
      rintro e4 w4 ⟨v4, rfl, l4, rfl⟩
      refine ⟨_, rfl, ?_⟩
      have S4 := S0.like l4
      refine L_y (y_assign rfl) rfl ?_
      refine L_nil ?_
      refine hK5 _ _ ?_
      refine T_ret ?_
      repeat (first | with_reducible refine up_then ?_ | with_reducible refine up_in ?_)
      refine ret1 rfl rfl ?_
      first | exact ⟨_, rfl, S4.like0, rfl⟩ | exact ⟨_, rfl, Like.trans lw3 S4.like0, rfl⟩
    ·
      refine L_gyes rfl rfl ?_
      refine L_y (y_move rfl) rfl ?_
      refine L_gyes rfl rfl ?_
      refine L_y (y_len Try.underlying22 rfl) rfl ?_
      refine L_gyes rfl rfl ?_
      refine L_y (y_gtr rfl rfl) rfl ?_
      refine L_y ((by first | exact y_pickT rfl rfl | exact y_pickF rfl rfl)) rfl ?_
      refine L_nil ?_
      refine hK3 _ _ ?_
      refine T_cond rfl (fun h27 => ?_) (fun h27 => ?_)
      ·
        refine T_seq fun K6 hK6 => ?_
        refine T_region ?_
        refine L_o (o_call Try.func9 rfl rfl (works w0) rfl rfl ?_)
        rintro e5 w5 ⟨v5, rfl, l5, rfl⟩
        refine ⟨_, rfl, ?_⟩
        have S5 := S0.like l5
        refine L_y (y_assign rfl) rfl ?_
        refine L_nil ?_
        refine hK6 _ _ ?_
        refine T_ret ?_
        repeat (first | with_reducible refine up_then ?_ | with_reducible refine up_in ?_)
        refine ret1 rfl rfl ?_
        first | exact ⟨_, rfl, S5.like0, rfl⟩ | exact ⟨_, rfl, Like.trans lw3 S5.like0, rfl⟩
      ·
        refine T_skip ?_
        refine hK2 _ _ ?_
        refine T_seq fun K7 hK7 => ?_
        refine T_region ?_
        refine L_y (y_move rfl) rfl ?_
        refine L_y (y_move rfl) rfl ?_
        refine L_o (o_call Try.func22 rfl rfl (pmake A B n c m d x y w0 (S0.rd ha) (S0.rd hb) (by omega) (by omega)) rfl rfl ?_)
        rintro e6 w6 ⟨v6, rfl, l6, A32, c32, o1, rfl, hQ1_1, hk1_1, hv1⟩
        refine ⟨_, rfl, ?_⟩
        have S6 := S0.like l6
        have lk1 := S6.like0
        have lw1 := lk1
        have ha1 := ha.like lw1
        have hb1 := hb.like lw1
        have hc1 := hc.like lw1
        have S91 := St.start w6 noM
        refine L_y (y_move rfl) rfl ?_
        refine L_y (y_extract rfl rfl) rfl ?_
        refine L_y (y_extract rfl rfl) rfl ?_
        refine L_o (o_alloc zz25 S91 rfl fun b7 w7 hb7 S7 => ?_)
        refine L_o (o_stW S7 0 rfl rfl rfl sz25 rfl (scA_one _ _ _ _ _) fun w8 S8 => ?_)
        refine L_y (y_assign rfl) rfl ?_
        refine L_nil ?_
        refine hK7 _ _ ?_
        refine T_seq fun K8 hK8 => ?_
        refine T_region ?_
        refine L_y (y_move rfl) rfl ?_
        refine L_y (y_move rfl) rfl ?_
        refine L_o (o_call Try.func22 rfl rfl (pmake B C m d q e y z w8 (S8.rd hb1) (S8.rd hc1) (by omega) (by omega)) rfl rfl ?_)
        rintro e9 w9 ⟨v9, rfl, l9, A38, c38, o2, rfl, hQ2_2, hk2_2, hv2⟩
        refine ⟨_, rfl, ?_⟩
        have S9 := S8.like l9
        have lk2 := S9.like0
        have lw2 := Like.trans lw1 lk2
        have ha2 := ha.like lw2
        have hb2 := hb.like lw2
        have hc2 := hc.like lw2
        have b7h_2 := S9.blk 0 rfl
        have hQ1_2 := S9.rd hQ1_1
        have hk1_2 := hk1_1.like lk2
        have S92 := St.start w9 noM
        refine L_y (y_move rfl) rfl ?_
        refine L_y (y_extract rfl rfl) rfl ?_
        refine L_y (y_extract rfl rfl) rfl ?_
        refine L_o (o_alloc zz25 S92 rfl fun b10 w10 hb10 S10 => ?_)
        refine L_o (o_stW S10 0 rfl rfl rfl sz25 rfl (scA_one _ _ _ _ _) fun w11 S11 => ?_)
        refine L_y (y_assign rfl) rfl ?_
        refine L_nil ?_
        refine hK8 _ _ ?_
        refine T_seq fun K9 hK9 => ?_
        refine T_region ?_
        refine L_y (y_ldW Try.underlying25 rfl sz25 rfl (S11.rdB b7h_2) (show _ = (scA (n : Int) (m : Int) A32 o1.length c32).toList ∧ _ from ⟨rfl, rfl⟩)) rfl ?_
        refine L_y (y_ldW Try.underlying25 rfl sz25 rfl (S11.blk 0 rfl) (show _ = (scA (m : Int) (q : Int) A38 o2.length c38).toList ∧ _ from ⟨rfl, rfl⟩)) rfl ?_
        refine L_o (o_call Try.func16 rfl rfl (pthenC (x := x) (y := y) (z := z) (by omega) (by omega) (by omega) A32 c32 o1 A38 c38 o2 n m q w11 (S11.rd hQ1_2) (hk1_2.like S11.like0) (S11.rd hQ2_2) (hk2_2.like S11.like0) hv1 hv2 (by omega) (by omega) (by omega)) rfl rfl ?_)
        rintro e12 w12 ⟨v12, rfl, l12, A44, c44, o3, rfl, hQ3_3, hk3_3, hv3⟩
        refine ⟨_, rfl, ?_⟩
        have S12 := S11.like l12
        have lk3 := S12.like0
        have lw3 := Like.trans lw2 lk3
        have ha3 := ha.like lw3
        have hb3 := hb.like lw3
        have hc3 := hc.like lw3
        have b7h_3 := S12.rdB b7h_2
        have b9h_3 := S12.blk 0 rfl
        have S93 := St.start w12 noM
        refine L_y (y_move rfl) rfl ?_
        refine L_y (y_extract rfl rfl) rfl ?_
        refine L_y (y_extract rfl rfl) rfl ?_
        refine L_o (o_alloc zz25 S93 rfl fun b13 w13 hb13 S13 => ?_)
        refine L_o (o_stW S13 0 rfl rfl rfl sz25 rfl (scA_one _ _ _ _ _) fun w14 S14 => ?_)
        refine L_y (y_assign rfl) rfl ?_
        refine L_nil ?_
        refine hK9 _ _ ?_
        refine T_seq fun K10 hK10 => ?_
        refine T_region ?_
        refine L_y (y_move rfl) rfl ?_
        refine L_y (y_ldW Try.underlying25 rfl sz25 rfl (S14.blk 0 rfl) (show _ = (scA (n : Int) (q : Int) A44 o3.length c44).toList ∧ _ from ⟨rfl, rfl⟩)) rfl ?_
        refine L_o (o_call Try.func12 rfl rfl (papplyC (x := x) (y := y) (z := z) (by omega) (by omega) (by omega) A n c A44 c44 q o3 w14 (S14.rd ha3) (S14.rd hQ3_3) (hk3_3.like S14.like0) hv3 (by omega) (by omega)) rfl rfl ?_)
        rintro e15 w15 ⟨v15, rfl, l15, A50, c50, rfl, O15⟩
        refine ⟨_, rfl, ?_⟩
        have S15 := S14.adopt l15 O15
        refine L_y (y_move rfl) rfl ?_
        refine L_y (y_extract rfl rfl) rfl ?_
        refine L_y (y_extract rfl rfl) rfl ?_
        refine L_y (y_assign rfl) rfl ?_
        refine L_y (y_assign rfl) rfl ?_
        refine L_nil ?_
        refine hK10 _ _ ?_
        refine T_seq fun K11 hK11 => ?_
        refine T_region ?_
        refine L_y (y_move rfl) rfl ?_
        refine L_y (y_eql rfl rfl) rfl ?_
        refine L_y (y_move rfl) rfl ?_
        refine L_split 55 rfl (fun h55 => ?_) (fun h55 => ?_)
        ·
          refine L_gyes rfl rfl ?_
          refine L_y (y_move rfl) rfl ?_
          refine L_gyes rfl rfl ?_
          refine L_y (y_eql rfl rfl) rfl ?_
          refine L_y ((by first | exact y_pickT rfl rfl | exact y_pickF rfl rfl)) rfl ?_
          refine L_y (y_move rfl) rfl ?_
          refine L_split 59 rfl (fun h59 => ?_) (fun h59 => ?_)
          ·
            refine L_gyes rfl rfl ?_
            refine L_y (y_move rfl) rfl ?_
            refine L_gyes rfl rfl ?_
            refine L_y (y_eql rfl rfl) rfl ?_
            refine L_y ((by first | exact y_pickT rfl rfl | exact y_pickF rfl rfl)) rfl ?_
            refine L_y (y_move rfl) rfl ?_
            refine L_split 63 rfl (fun h63 => ?_) (fun h63 => ?_)
            ·
              refine L_gyes rfl rfl ?_
              refine L_y (y_move rfl) rfl ?_
              refine L_gyes rfl rfl ?_
              refine L_y (y_eql rfl rfl) rfl ?_
              refine L_y ((by first | exact y_pickT rfl rfl | exact y_pickF rfl rfl)) rfl ?_
              refine L_y (y_move rfl) rfl ?_
              refine L_split 67 rfl (fun h67 => ?_) (fun h67 => ?_)
              ·
                refine L_gyes rfl rfl ?_
                refine L_y (y_move rfl) rfl ?_
                refine L_gyes rfl rfl ?_
                refine L_y (y_move rfl) rfl ?_
                refine L_gyes rfl rfl ?_
                refine L_o (o_call Try.func14 rfl rfl (same1T A50 C q c50 q e z w15 (S15.row 1 rfl) (S15.rd hc3)) rfl rfl ?_)
                rintro e20 w20 ⟨v20, rfl, l20, rfl⟩
                refine ⟨_, rfl, ?_⟩
                have S20 := S15.like l20
                refine L_y ((by first | exact y_pickT rfl rfl | exact y_pickF rfl rfl)) rfl ?_
                refine L_y (y_move rfl) rfl ?_
                refine L_splitB 72 rfl (fun h72 => ?_) (fun h72 => ?_)
                ·
                  refine L_gyes rfl rfl ?_
                  refine L_o (o_call Try.func9 rfl rfl (works w20) rfl rfl ?_)
                  rintro e22 w22 ⟨v22, rfl, l22, rfl⟩
                  refine ⟨_, rfl, ?_⟩
                  have S22 := S20.like l22
                  refine L_y ((by first | exact y_pickT rfl rfl | exact y_pickF rfl rfl)) rfl ?_
                  refine L_y (y_assign rfl) rfl ?_
                  refine L_nil ?_
                  refine hK11 _ _ ?_
                  refine T_ret ?_
                  repeat (first | with_reducible refine up_then ?_ | with_reducible refine up_in ?_)
                  refine ret1 rfl rfl ?_
                  first | exact ⟨_, rfl, S22.like0, rfl⟩ | exact ⟨_, rfl, Like.trans lw3 S22.like0, rfl⟩
                ·
                  cases h72
              ·
                exact absurd rfl h67
            ·
              exact absurd rfl h63
          ·
            exact absurd rfl h59
        ·
          exact absurd rfl h55


theorem chain_law (A B C : Option Addr) (n c m d q e : Nat) (x y z : List UInt8) (w0 : World) (ha : Rs w0 1 A n c (bL x)) (hb : Rs w0 1 B m d (bL y)) (hc : Rs w0 1 C q e (bL z)) :
    Calls Try.prog 6 #[.slice A n c, .slice B m d, .slice C q e] w0 fun e w' => e = .returned (.bool true) ∧ Below w0.heap.size w0 w' :=
  (lchain A B C n c m d q e x y z w0 ha hb hc).mono fun e w' ⟨u, h1, h2, h3⟩ => by subst h3; exact ⟨h1, h2⟩
end Go.Proofs.Ytpcgldkllnkaeaa
