/-
  The document: Check, Common.
-/
import Derived.Test.YtgapdndbelnknaaQ
namespace Go.Proofs.Ytgapdndbelnknaa
open Go.RowKit Zk Zx
set_option linter.unusedVariables false
set_option linter.unusedSimpArgs false

set_option maxRecDepth 100000 in
theorem rsizes (n m : Nat) (w0 : World) (hn : n ≤ 800) (hm : m ≤ 800) :
    Calls Try.prog 22 #[.int .i64 (n : Int), .int .i64 (m : Int)] w0 fun e w' => ∃ u, e = .returned u ∧ Like w0 w' ∧ u = .bool true := by
  refine enter1 (env := [(0, .int .i64 (n : Int)), (1, .int .i64 (m : Int))]) [.int .i64 (n : Int), .int .i64 (m : Int)] Try.func22 rfl Try.ntmps22 rfl rfl ?_
  have S0 := St.start w0 noM
  refine T_seq fun K1 hK1 => ?_
  refine T_region ?_
  refine L_y (y_assign rfl) rfl ?_
  refine L_nil ?_
  refine hK1 _ _ ?_
  refine T_seq fun K2 hK2 => ?_
  refine T_region ?_
  refine L_y (y_move rfl) rfl ?_
  refine L_y (y_geq rfl rfl) rfl ?_
  refine L_y (y_move rfl) rfl ?_
  refine L_split 7 rfl (fun h7 => ?_) (fun h7 => ?_)
  ·
    refine L_gyes rfl rfl ?_
    refine L_y (y_move rfl) rfl ?_
    refine L_gyes rfl rfl ?_
    refine L_y (y_leq rfl rfl) rfl ?_
    refine L_y ((by first | exact y_pickT rfl rfl | exact y_pickF rfl rfl)) rfl ?_
    refine L_y (y_move rfl) rfl ?_
    refine L_split 11 rfl (fun h11 => ?_) (fun h11 => ?_)
    ·
      refine L_gyes rfl rfl ?_
      refine L_y (y_move rfl) rfl ?_
      refine L_gyes rfl rfl ?_
      refine L_y (y_geq rfl rfl) rfl ?_
      refine L_y ((by first | exact y_pickT rfl rfl | exact y_pickF rfl rfl)) rfl ?_
      refine L_y (y_move rfl) rfl ?_
      refine L_split 15 rfl (fun h15 => ?_) (fun h15 => ?_)
      ·
        refine L_gyes rfl rfl ?_
        refine L_y (y_move rfl) rfl ?_
        refine L_gyes rfl rfl ?_
        refine L_y (y_leq rfl rfl) rfl ?_
        refine L_y ((by first | exact y_pickT rfl rfl | exact y_pickF rfl rfl)) rfl ?_
        refine L_y (y_assign rfl) rfl ?_
        refine L_nil ?_
        refine hK2 _ _ ?_
        refine T_ret ?_
        repeat (first | with_reducible refine up_then ?_ | with_reducible refine up_in ?_)
        refine ret1 rfl rfl ?_
        exact ⟨_, rfl, S0.like0, congrArg Value.bool (decide_eq_true (by omega))⟩
      ·
        exact absurd h15 (by omega)
    ·
      exact absurd h11 (by omega)
  ·
    exact absurd h7 (by omega)


set_option maxRecDepth 100000 in
theorem rcheck (n m : Nat) (A : Option Addr) (t c : Nat) (xs : List (Nat × Nat)) (w0 : World) (hx : Rs w0 2 A t c (xs.flatMap pf)) (hn : n ≤ 800) (hm : m ≤ 800) (hin : ∀ p ∈ xs, p.1 < n ∧ p.2 < m) (hinc : ∀ (i j : Nat) (p q : Nat × Nat), i < j → xs[i]? = some p → xs[j]? = some q → p.1 < q.1 ∧ p.2 < q.2) :
    Calls Try.prog 14 #[.int .i64 (n : Int), .int .i64 (m : Int), .slice A t c] w0 fun e w' => ∃ u, e = .returned u ∧ Like w0 w' ∧ u = .int .i64 0 := by
  refine enter1 (env := [(0, .int .i64 (n : Int)), (1, .int .i64 (m : Int)), (2, .slice A t c)]) [.int .i64 (n : Int), .int .i64 (m : Int), .slice A t c] Try.func14 rfl Try.ntmps14 rfl rfl ?_
  have ht := pf_n hx; have hcap := hx.cap; have hmax := hx.max; have S0 := St.start w0 noM
  refine T_seq fun K1 hK1 => ?_
  refine T_region ?_
  refine L_y (y_assign rfl) rfl ?_
  refine L_nil ?_
  refine hK1 _ _ ?_
  refine T_seq fun K2 hK2 => ?_
  refine T_seq fun K3 hK3 => ?_
  refine T_region ?_
  refine L_y (y_move rfl) rfl ?_
  refine L_y (y_move rfl) rfl ?_
  refine L_o (o_call Try.func22 rfl rfl (rsizes n m w0 hn hm) rfl rfl ?_)
  rintro e1 w1 ⟨v1, rfl, l1, rfl⟩
  refine ⟨_, rfl, ?_⟩
  have S1 := S0.like l1
  refine L_y ((by first | exact y_notD rfl | exact y_not rfl)) rfl ?_
  refine L_nil ?_
  refine hK3 _ _ ?_
  refine T_false rfl ?_
  refine T_skip ?_
  refine hK2 _ _ ?_
  refine T_seq fun K4 hK4 => ?_
  refine T_seq fun K5 hK5 => ?_
  refine T_region ?_
  refine L_y (y_assign rfl) rfl ?_
  refine L_nil ?_
  refine hK5 _ _ ?_
  refine T_block ?_
  refine T_loop1 [(0, _), (1, _), (2, _)] (fun (k : Nat) => [(7, .int .i64 (k : Int))]) (fun (k : Nat) => t - k) (fun (k : Nat) (w : World) => k ≤ t ∧ St w0 noM [] w) 0 (Sub.cons rfl (by first | rfl | exact congrArg (Value.int _) (by omega)) (Sub.nil _)) (Sub.cons rfl rfl (Sub.cons rfl rfl (Sub.cons rfl rfl (Sub.nil _)))) ?_ ?_
  ·
    exact ⟨Nat.zero_le _, S1⟩
  ·
    intro k w2 hrel
    obtain ⟨hk, S2⟩ := hrel
    refine T_seq fun K6 hK6 => ?_
    refine T_seq fun K7 hK7 => ?_
    refine T_region ?_
    refine L_y (y_move rfl) rfl ?_
    refine L_y (y_move rfl) rfl ?_
    refine L_y (y_len Try.underlying25 rfl) rfl ?_
    refine L_y (y_lss rfl rfl) rfl ?_
    refine L_nil ?_
    refine hK7 _ _ ?_
    refine T_cond rfl (fun h15 => ?_) (fun h15 => ?_)
    ·
      obtain ⟨p, hp⟩ : ∃ p, xs[k]? = some p := ⟨_, List.getElem?_eq_getElem (by omega)⟩
      have hpg := pf_get xs k p hp
      obtain ⟨hp1, hp2⟩ := hin p (List.mem_of_getElem? hp)
      refine T_skip ?_
      refine hK6 _ _ ?_
      refine T_seq fun K8 hK8 => ?_
      refine T_block ?_
      refine T_seq fun K9 hK9 => ?_
      refine T_seq fun K10 hK10 => ?_
      refine T_region ?_
      refine L_y (y_move rfl) rfl ?_
      refine L_y (y_move rfl) rfl ?_
      refine L_y (y_idx Try.underlying25 sz36 rfl rfl (S2.rd hx) inferInstance (by omega)) rfl ?_
      refine L_y (y_fieldR 0 Try.underlying36 rfl sz3 rfl rfl (S2.rd hx) (by omega) rfl) rfl ?_
      refine L_y (y_ldf Try.underlying3 rfl rfl (S2.rd hx) (by omega) hpg.1) rfl ?_
      refine L_y (y_lss rfl rfl) rfl ?_
      refine L_y (y_move rfl) rfl ?_
      refine L_split 24 rfl (fun h24 => ?_) (fun h24 => ?_)
      ·
        exact absurd h24 (by omega)
      ·
        refine L_gyes rfl rfl ?_
        refine L_y (y_move rfl) rfl ?_
        refine L_gyes rfl rfl ?_
        refine L_y (y_move rfl) rfl ?_
        refine L_gyes rfl rfl ?_
        refine L_y (y_idx Try.underlying25 sz36 rfl rfl (S2.rd hx) inferInstance (by omega)) rfl ?_
        refine L_gyes rfl rfl ?_
        refine L_y (y_fieldR 0 Try.underlying36 rfl sz3 rfl rfl (S2.rd hx) (by omega) rfl) rfl ?_
        refine L_gyes rfl rfl ?_
        refine L_y (y_ldf Try.underlying3 rfl rfl (S2.rd hx) (by omega) hpg.1) rfl ?_
        refine L_gyes rfl rfl ?_
        refine L_y (y_move rfl) rfl ?_
        refine L_gyes rfl rfl ?_
        refine L_y (y_geq rfl rfl) rfl ?_
        refine L_y ((by first | exact y_pickT rfl rfl | exact y_pickF rfl rfl)) rfl ?_
        refine L_y (y_move rfl) rfl ?_
        refine L_split 33 rfl (fun h33 => ?_) (fun h33 => ?_)
        ·
          exact absurd h33 (by omega)
        ·
          refine L_gyes rfl rfl ?_
          refine L_y (y_move rfl) rfl ?_
          refine L_gyes rfl rfl ?_
          refine L_y (y_move rfl) rfl ?_
          refine L_gyes rfl rfl ?_
          refine L_y (y_idx Try.underlying25 sz36 rfl rfl (S2.rd hx) inferInstance (by omega)) rfl ?_
          refine L_gyes rfl rfl ?_
          refine L_y (y_fieldR 1 Try.underlying36 rfl sz3 rfl rfl (S2.rd hx) (by omega) rfl) rfl ?_
          refine L_gyes rfl rfl ?_
          refine L_y (y_ldf Try.underlying3 rfl rfl (S2.rd hx) (by omega) hpg.2) rfl ?_
          refine L_gyes rfl rfl ?_
          refine L_y (y_lss rfl rfl) rfl ?_
          refine L_y ((by first | exact y_pickT rfl rfl | exact y_pickF rfl rfl)) rfl ?_
          refine L_y (y_move rfl) rfl ?_
          refine L_split 41 rfl (fun h41 => ?_) (fun h41 => ?_)
          ·
            exact absurd h41 (by omega)
          ·
            refine L_gyes rfl rfl ?_
            refine L_y (y_move rfl) rfl ?_
            refine L_gyes rfl rfl ?_
            refine L_y (y_move rfl) rfl ?_
            refine L_gyes rfl rfl ?_
            refine L_y (y_idx Try.underlying25 sz36 rfl rfl (S2.rd hx) inferInstance (by omega)) rfl ?_
            refine L_gyes rfl rfl ?_
            refine L_y (y_fieldR 1 Try.underlying36 rfl sz3 rfl rfl (S2.rd hx) (by omega) rfl) rfl ?_
            refine L_gyes rfl rfl ?_
            refine L_y (y_ldf Try.underlying3 rfl rfl (S2.rd hx) (by omega) hpg.2) rfl ?_
            refine L_gyes rfl rfl ?_
            refine L_y (y_move rfl) rfl ?_
            refine L_gyes rfl rfl ?_
            refine L_y (y_geq rfl rfl) rfl ?_
            refine L_y ((by first | exact y_pickT rfl rfl | exact y_pickF rfl rfl)) rfl ?_
            refine L_nil ?_
            refine hK10 _ _ ?_
            refine T_cond rfl (fun h49 => ?_) (fun h49 => ?_)
            ·
              exact absurd h49 (by omega)
            ·
              refine T_skip ?_
              refine hK9 _ _ ?_
              refine T_seq fun K11 hK11 => ?_
              refine T_drawnL [(0, true), (1, true), (2, true), (3, true), (4, true), (5, true), (6, true), (7, true), (8, true), (9, true), (10, true), (11, true), (12, true), (13, true), (14, true), (15, true), (16, true), (17, true), (18, true), (19, true), (20, true), (21, true), (22, true), (23, true), (24, true), (25, true), (26, true), (27, true), (28, true), (29, true)] hmix (by kernel_rfl) fun w6 l6 => ?_
              have S6 := S2.like l6
              refine DL_y rfl (y_move rfl) rfl ?_
              refine DL_y rfl (y_gtr rfl rfl) rfl ?_
              refine DL_y rfl (y_move rfl) rfl ?_
              refine DL_split 52 rfl (fun h52 => ?_) (fun h52 => ?_)
              ·
                obtain ⟨q, hq⟩ : ∃ q, xs[k - 1]? = some q := ⟨_, List.getElem?_eq_getElem (by omega)⟩
                have hqg := pf_get xs (k - 1) q hq
                obtain ⟨hq1, hq2⟩ := hinc (k - 1) k q p (by omega) hq hp
                refine DL_gyes rfl rfl rfl (y_move rfl) rfl ?_
                refine DL_gyes rfl rfl rfl (y_move rfl) rfl ?_
                refine DL_gyes rfl rfl rfl (y_idx Try.underlying25 sz36 rfl rfl (S6.rd hx) inferInstance (by omega)) rfl ?_
                refine DL_gyes rfl rfl rfl (y_fieldR 0 Try.underlying36 rfl sz3 rfl rfl (S6.rd hx) (by omega) rfl) rfl ?_
                refine DL_gyes rfl rfl rfl (y_ldf Try.underlying3 rfl rfl (S6.rd hx) (by omega) hpg.1) rfl ?_
                refine DL_gyes rfl rfl rfl (y_move rfl) rfl ?_
                refine DL_gyes rfl rfl rfl (y_move rfl) rfl ?_
                refine DL_gyes rfl rfl rfl (y_sub rfl rfl (i64w (by omega))) rfl ?_
                refine DL_gyes rfl rfl rfl (y_idx Try.underlying25 sz36 rfl rfl (S6.rd hx) (Nt.mk (by omega) : Nt _ (k - 1)) (by omega)) rfl ?_
                refine DL_gyes rfl rfl rfl (y_fieldR 0 Try.underlying36 rfl sz3 rfl rfl (S6.rd hx) (by omega) rfl) rfl ?_
                refine DL_gyes rfl rfl rfl (y_ldf Try.underlying3 rfl rfl (S6.rd hx) (by omega) hqg.1) rfl ?_
                refine DL_gyes rfl rfl rfl (y_leq rfl rfl) rfl ?_
                refine DL_gyes rfl rfl rfl (y_move rfl) rfl ?_
                refine DL_split 65 rfl (fun h65 => ?_) (fun h65 => ?_)
                ·
                  exact absurd h65 (by omega)
                ·
                  refine DL_gyes rfl rfl rfl (y_move rfl) rfl ?_
                  refine DL_gyes rfl rfl rfl (y_move rfl) rfl ?_
                  refine DL_gyes rfl rfl rfl (y_idx Try.underlying25 sz36 rfl rfl (S6.rd hx) inferInstance (by omega)) rfl ?_
                  refine DL_gyes rfl rfl rfl (y_fieldR 1 Try.underlying36 rfl sz3 rfl rfl (S6.rd hx) (by omega) rfl) rfl ?_
                  refine DL_gyes rfl rfl rfl (y_ldf Try.underlying3 rfl rfl (S6.rd hx) (by omega) hpg.2) rfl ?_
                  refine DL_gyes rfl rfl rfl (y_move rfl) rfl ?_
                  refine DL_gyes rfl rfl rfl (y_move rfl) rfl ?_
                  refine DL_gyes rfl rfl rfl (y_sub rfl rfl (i64w (by omega))) rfl ?_
                  refine DL_gyes rfl rfl rfl (y_idx Try.underlying25 sz36 rfl rfl (S6.rd hx) (Nt.mk (by omega) : Nt _ (k - 1)) (by omega)) rfl ?_
                  refine DL_gyes rfl rfl rfl (y_fieldR 1 Try.underlying36 rfl sz3 rfl rfl (S6.rd hx) (by omega) rfl) rfl ?_
                  refine DL_gyes rfl rfl rfl (y_ldf Try.underlying3 rfl rfl (S6.rd hx) (by omega) hqg.2) rfl ?_
                  refine DL_gyes rfl rfl rfl (y_leq rfl rfl) rfl ?_
                  refine DL_gyes rfl rfl rfl ((by first | exact y_pickT rfl rfl | exact y_pickF rfl rfl)) rfl ?_
                  refine DL_y rfl ((by first | exact y_pickT rfl rfl | exact y_pickF rfl rfl)) rfl ?_
                  refine DL_nil ?_
                  refine hK11 _ _ ?_
                  refine T_cond rfl (fun h79 => ?_) (fun h79 => ?_)
                  ·
                    exact absurd h79 (by omega)
                  ·
                    refine T_skip ?_
                    refine hK8 _ _ ?_
                    refine T_region ?_
                    refine L_y (y_move rfl) rfl ?_
                    refine L_y (y_add rfl rfl (i64w (by omega))) rfl ?_
                    refine L_y (y_assign rfl) rfl ?_
                    refine L_nil ?_
                    refine ⟨k + 1, by omega, ⟨by omega, S6⟩, ?_⟩
                    exact (Sub.cons rfl (by first | rfl | exact congrArg (Value.int _) (by omega)) (Sub.cons rfl rfl (Sub.cons rfl rfl (Sub.cons rfl rfl (Sub.nil _)))))
              ·
                refine DL_gno rfl rfl rfl rfl ?_
                refine DL_gno rfl rfl rfl rfl ?_
                refine DL_gno rfl rfl rfl rfl ?_
                refine DL_gno rfl rfl rfl rfl ?_
                refine DL_gno rfl rfl rfl rfl ?_
                refine DL_gno rfl rfl rfl rfl ?_
                refine DL_gno rfl rfl rfl rfl ?_
                refine DL_gno rfl rfl rfl rfl ?_
                refine DL_gno rfl rfl rfl rfl ?_
                refine DL_gno rfl rfl rfl rfl ?_
                refine DL_gno rfl rfl rfl rfl ?_
                refine DL_gno rfl rfl rfl rfl ?_
                refine DL_gno rfl rfl rfl rfl ?_
                refine DL_gnu rfl rfl rfl rfl ?_
                refine DL_gnu rfl rfl rfl rfl ?_
                refine DL_gnu rfl rfl rfl rfl ?_
                refine DL_gnu rfl rfl rfl rfl ?_
                refine DL_gnu rfl rfl rfl rfl ?_
                refine DL_gnu rfl rfl rfl rfl ?_
                refine DL_gnu rfl rfl rfl rfl ?_
                refine DL_gnu rfl rfl rfl rfl ?_
                refine DL_gnu rfl rfl rfl rfl ?_
                refine DL_gnu rfl rfl rfl rfl ?_
                refine DL_gnu rfl rfl rfl rfl ?_
                refine DL_gnu rfl rfl rfl rfl ?_
                refine DL_gno rfl rfl rfl rfl ?_
                refine DL_y rfl ((by first | exact y_pickT rfl rfl | exact y_pickF rfl rfl)) rfl ?_
                refine DL_nil ?_
                refine hK11 _ _ ?_
                refine T_false rfl ?_
                refine T_skip ?_
                refine hK8 _ _ ?_
                refine T_region ?_
                refine L_y (y_move rfl) rfl ?_
                refine L_y (y_add rfl rfl (i64w (by omega))) rfl ?_
                refine L_y (y_assign rfl) rfl ?_
                refine L_nil ?_
                refine ⟨k + 1, by omega, ⟨by omega, S6⟩, ?_⟩
                exact (Sub.cons rfl (by first | rfl | exact congrArg (Value.int _) (by omega)) (Sub.cons rfl rfl (Sub.cons rfl rfl (Sub.cons rfl rfl (Sub.nil _)))))
    ·
      refine T_exit ?_
      refine hK4 _ _ ?_
      refine T_seq fun K12 hK12 => ?_
      refine T_region ?_
      refine L_y (y_assign rfl) rfl ?_
      refine L_nil ?_
      refine hK12 _ _ ?_
      refine T_ret ?_
      repeat (first | with_reducible refine up_then ?_ | with_reducible refine up_in ?_)
      refine ret1 rfl rfl ?_
      exact ⟨_, rfl, S2.like0, rfl⟩


set_option maxRecDepth 100000 in
theorem rlcs (A B : Option Addr) (n ca m cb : Nat) (la lb : List Int) (w0 : World) (ha : Rs w0 1 A n ca (iL la)) (hb : Rs w0 1 B m cb (iL lb)) (hn : n ≤ 4096) (hm : m ≤ 4096) :
    Calls Try.prog 15 #[.slice A n ca, .slice B m cb] w0 fun e w' => ∃ u, e = .returned u ∧ Like w0 w' ∧ u = .int .i64 (lC la lb 0 0 : Int) := by
  refine enter1 (env := [(0, .slice A n ca), (1, .slice B m cb)]) [.slice A n ca, .slice B m cb] Try.func15 rfl Try.ntmps15 rfl rfl ?_
  have hla := lenI ha; have hlb := lenI hb; have S0 := St.start w0 noM
  refine T_seq fun K1 hK1 => ?_
  refine T_region ?_
  refine L_y (y_assign rfl) rfl ?_
  refine L_nil ?_
  refine hK1 _ _ ?_
  refine T_seq fun K2 hK2 => ?_
  refine T_region ?_
  refine L_y (y_move rfl) rfl ?_
  refine L_y (y_len Try.underlying22 rfl) rfl ?_
  refine L_y (y_add rfl rfl (i64w (by omega))) rfl ?_
  refine L_o (o_make te22 rfl S0 rfl rfl (Nt.mk (by omega) : Nt _ (m + 1)) (Nt.mk (by omega) : Nt _ (m + 1)) rfl (by omega) (by omega) (by omega) fun b1 w1 S1 => ?_)
  refine L_y (y_assign rfl) rfl ?_
  refine L_nil ?_
  refine hK2 _ _ ?_
  refine T_seq fun K3 hK3 => ?_
  refine T_seq fun K4 hK4 => ?_
  refine T_region ?_
  refine L_y (y_move rfl) rfl ?_
  refine L_y (y_len Try.underlying22 rfl) rfl ?_
  refine L_y (y_sub rfl rfl (i64w (by omega))) rfl ?_
  refine L_y (y_assign rfl) rfl ?_
  refine L_nil ?_
  refine hK4 _ _ ?_
  refine T_block ?_
  refine T_loop3 [(0, _), (1, _)] (fun (i1 : Nat) (bb : Nat) (xs : List Value) => [(0, .slice A n ca), (1, .slice B m cb), (5, .slice (some ⟨bb, 0, none⟩) (m + 1) (m + 1)), (6, .int .i64 ((i1 : Int) - 1))]) (fun (i1 : Nat) (bb : Nat) (xs : List Value) => i1) (fun (i1 : Nat) (bb : Nat) (xs : List Value) (w : World) => (i1 ≤ n ∧ xs.length = m + 1 ∧ ∀ k, k ≤ m → xs[k]? = some (Value.int .i64 (lC la lb i1 k : Int))) ∧ St w0 noM [row 3 1 (some ⟨bb, 0, none⟩) (m + 1) (m + 1) xs] w) n b1 (List.replicate (m + 1) (Value.int .i64 0)) (Sub.cons rfl (by first | rfl | exact congrArg (Value.int _) (by omega)) (Sub.cons rfl (by first | rfl | exact congrArg (Value.int _) (by omega)) (Sub.cons rfl (by first | rfl | exact congrArg (Value.int _) (by omega)) (Sub.cons rfl (by first | rfl | exact congrArg (Value.int _) (by omega)) (Sub.nil _))))) (Sub.cons rfl rfl (Sub.cons rfl rfl (Sub.nil _))) ?_ ?_
  ·
    exact ⟨⟨Nat.le_refl _, by simp, fun k hk => by rw [List.getElem?_replicate_of_lt (by omega), lC_endA (by omega)]; rfl⟩, S1⟩
  ·
    intro i1 bb xs w2 hrel
    obtain ⟨⟨hi1, hxl, hxs⟩, S2⟩ := hrel
    refine T_seq fun K5 hK5 => ?_
    refine T_seq fun K6 hK6 => ?_
    refine T_region ?_
    refine L_y (y_move rfl) rfl ?_
    refine L_y (y_geq rfl rfl) rfl ?_
    refine L_nil ?_
    refine hK6 _ _ ?_
    refine T_cond rfl (fun h17 => ?_) (fun h17 => ?_)
    ·
      obtain ⟨i, rfl⟩ : ∃ i, i1 = i + 1 := ⟨i1 - 1, by omega⟩
      refine T_skip ?_
      refine hK5 _ _ ?_
      refine T_seq fun K7 hK7 => ?_
      refine T_block ?_
      refine T_seq fun K8 hK8 => ?_
      refine T_region ?_
      refine L_y (y_move rfl) rfl ?_
      refine L_y (y_len Try.underlying22 rfl) rfl ?_
      refine L_y (y_add rfl rfl (i64w (by omega))) rfl ?_
      refine L_o (o_make te22 rfl S2 rfl rfl (Nt.mk (by omega) : Nt _ (m + 1)) (Nt.mk (by omega) : Nt _ (m + 1)) rfl (by omega) (by omega) (by omega) fun b3 w3 S3 => ?_)
      refine L_y (y_assign rfl) rfl ?_
      refine L_nil ?_
      refine hK8 _ _ ?_
      refine T_seq fun K9 hK9 => ?_
      refine T_seq fun K10 hK10 => ?_
      refine T_region ?_
      refine L_y (y_move rfl) rfl ?_
      refine L_y (y_len Try.underlying22 rfl) rfl ?_
      refine L_y (y_sub rfl rfl (i64w (by omega))) rfl ?_
      refine L_y (y_assign rfl) rfl ?_
      refine L_nil ?_
      refine hK10 _ _ ?_
      refine T_block ?_
      refine T_loop2 [(0, _), (1, _), (5, _), (6, _), (7, _)] (fun (k1 : Nat) (ys : List Value) => [(0, .slice A n ca), (1, .slice B m cb), (5, .slice (some ⟨bb, 0, none⟩) (m + 1) (m + 1)), (6, .int .i64 (((i + 1 : Nat) : Int) - 1)), (7, .slice (some ⟨b3, 0, none⟩) (m + 1) (m + 1)), (8, .int .i64 ((k1 : Int) - 1))]) (fun (k1 : Nat) (ys : List Value) => k1) (fun (k1 : Nat) (ys : List Value) (w : World) => (k1 ≤ m ∧ ys.length = m + 1 ∧ ∀ k, k1 ≤ k → k ≤ m → ys[k]? = some (Value.int .i64 (lC la lb i k : Int))) ∧ St w0 noM [row 3 1 (some ⟨bb, 0, none⟩) (m + 1) (m + 1) xs, row 3 1 (some ⟨b3, 0, none⟩) (m + 1) (m + 1) ys] w) m (List.replicate (m + 1) (Value.int .i64 0)) (Sub.cons rfl (by first | rfl | exact congrArg (Value.int _) (by omega)) (Sub.cons rfl (by first | rfl | exact congrArg (Value.int _) (by omega)) (Sub.cons rfl (by first | rfl | exact congrArg (Value.int _) (by omega)) (Sub.cons rfl (by first | rfl | exact congrArg (Value.int _) (by omega)) (Sub.cons rfl (by first | rfl | exact congrArg (Value.int _) (by omega)) (Sub.cons rfl (by first | rfl | exact congrArg (Value.int _) (by omega)) (Sub.nil _))))))) (Sub.cons rfl rfl (Sub.cons rfl rfl (Sub.cons rfl rfl (Sub.cons rfl rfl (Sub.cons rfl rfl (Sub.nil _)))))) ?_ ?_
      ·
        exact ⟨⟨Nat.le_refl _, by simp, fun k h1 h2 => by rw [List.getElem?_replicate_of_lt (by omega), lC_endB (by omega)]; rfl⟩, S3⟩
      ·
        intro k1 ys w4 hrel
        obtain ⟨⟨hk1, hyl, hys⟩, S4⟩ := hrel
        refine T_seq fun K11 hK11 => ?_
        refine T_seq fun K12 hK12 => ?_
        refine T_region ?_
        refine L_y (y_move rfl) rfl ?_
        refine L_y (y_geq rfl rfl) rfl ?_
        refine L_nil ?_
        refine hK12 _ _ ?_
        refine T_cond rfl (fun h28 => ?_) (fun h28 => ?_)
        ·
          obtain ⟨k, rfl⟩ : ∃ k, k1 = k + 1 := ⟨k1 - 1, by omega⟩
          obtain ⟨x, hx⟩ : ∃ x, la[i]? = some x := ⟨_, List.getElem?_eq_getElem (by omega)⟩
          obtain ⟨y, hy⟩ : ∃ y, lb[k]? = some y := ⟨_, List.getElem?_eq_getElem (by omega)⟩
          have hf1 : lC la lb (i + 1) k ≤ 4096 := by unfold lC; omega
          have hf2 : lC la lb i (k + 1) ≤ 4096 := by unfold lC; omega
          have hf3 : lC la lb (i + 1) (k + 1) ≤ 4096 := by unfold lC; omega
          refine T_skip ?_
          refine hK11 _ _ ?_
          refine T_seq fun K13 hK13 => ?_
          refine T_block ?_
          refine T_seq fun K14 hK14 => ?_
          refine T_region ?_
          refine L_y (y_move rfl) rfl ?_
          refine L_y (y_move rfl) rfl ?_
          refine L_y (y_move rfl) rfl ?_
          refine L_y (y_move rfl) rfl ?_
          refine L_y (y_idx Try.underlying22 sz3 rfl rfl (S4.row 0 rfl) (Nt.mk (by omega) : Nt _ (k)) (by omega)) rfl ?_
          refine L_y (y_ldr Try.underlying3 rfl rfl (S4.row 0 rfl) (hxs k (by omega))) rfl ?_
          refine L_y (y_idx Try.underlying22 sz3 rfl rfl (S4.row 1 rfl) (Nt.mk (by omega) : Nt _ (k)) (by omega)) rfl ?_
          refine L_o (o_strow S4 1 rfl rfl rfl rfl sz3 (by omega) fun w5 S5 => ?_)
          refine L_nil ?_
          refine hK14 _ _ ?_
          refine T_seq fun K15 hK15 => ?_
          refine T_seq fun K16 hK16 => ?_
          refine T_drawnL [(0, true), (1, true), (2, true), (3, true), (4, true), (5, true), (6, true), (7, true), (8, true), (9, true)] hmix (by kernel_rfl) fun w6 l6 => ?_
          have S6 := S5.like l6
          refine DL_y rfl (y_move rfl) rfl ?_
          refine DL_y rfl (y_move rfl) rfl ?_
          refine DL_y rfl (y_add rfl rfl (i64w (by omega))) rfl ?_
          refine DL_y rfl (y_idx Try.underlying22 sz3 rfl rfl (S6.row 1 rfl) (Nt.mk (by omega) : Nt _ (k + 1)) (by omega)) rfl ?_
          refine DL_y rfl (y_ldr Try.underlying3 rfl rfl (S6.row 1 rfl) (by first | (rw [List.getElem?_set_ne (by omega)]; exact hys (k + 1) (by omega) (by omega)) | (rw [List.getElem?_set_ne (by omega), List.getElem?_set_ne (by omega)]; exact hys (k + 1) (by omega) (by omega)))) rfl ?_
          refine DL_y rfl (y_move rfl) rfl ?_
          refine DL_y rfl (y_move rfl) rfl ?_
          refine DL_y rfl (y_idx Try.underlying22 sz3 rfl rfl (S6.row 1 rfl) (Nt.mk (by omega) : Nt _ (k)) (by omega)) rfl ?_
          refine DL_y rfl (y_ldr Try.underlying3 rfl rfl (S6.row 1 rfl) (by first | exact List.getElem?_set_self (by first | omega | (rw [List.length_set]; omega)))) rfl ?_
          refine DL_y rfl (y_gtr rfl rfl) rfl ?_
          refine DL_nil ?_
          refine hK16 _ _ ?_
          refine T_cond rfl (fun h47 => ?_) (fun h47 => ?_)
          ·
            refine T_region ?_
            refine L_y (y_move rfl) rfl ?_
            refine L_y (y_move rfl) rfl ?_
            refine L_y (y_move rfl) rfl ?_
            refine L_y (y_move rfl) rfl ?_
            refine L_y (y_add rfl rfl (i64w (by omega))) rfl ?_
            refine L_y (y_idx Try.underlying22 sz3 rfl rfl (S6.row 1 rfl) (Nt.mk (by omega) : Nt _ (k + 1)) (by omega)) rfl ?_
            refine L_y (y_ldr Try.underlying3 rfl rfl (S6.row 1 rfl) (by first | (rw [List.getElem?_set_ne (by omega)]; exact hys (k + 1) (by omega) (by omega)) | (rw [List.getElem?_set_ne (by omega), List.getElem?_set_ne (by omega)]; exact hys (k + 1) (by omega) (by omega)))) rfl ?_
            refine L_y (y_idx Try.underlying22 sz3 rfl rfl (S6.row 1 rfl) (Nt.mk (by omega) : Nt _ (k)) (by omega)) rfl ?_
            refine L_o (o_strow S6 1 rfl rfl rfl rfl sz3 (by omega) fun w7 S7 => ?_)
            refine L_nil ?_
            refine hK15 _ _ ?_
            refine T_seq fun K17 hK17 => ?_
            refine T_drawnL [(0, true), (1, true), (2, true), (3, true), (4, true), (5, true), (6, true), (7, true), (8, true), (9, true), (10, true), (11, true), (12, true), (13, true), (14, true), (15, true), (16, true), (17, true), (18, true), (19, true), (20, true), (21, true)] hmix (by kernel_rfl) fun w8 l8 => ?_
            have S8 := S7.like l8
            refine DL_y rfl (y_move rfl) rfl ?_
            refine DL_y rfl (y_move rfl) rfl ?_
            refine DL_y rfl (y_idx Try.underlying22 sz3 rfl rfl (S8.rd ha) (Nt.mk (by omega) : Nt _ (i)) (by omega)) rfl ?_
            refine DL_y rfl (y_ldr Try.underlying3 rfl rfl (S8.rd ha) (iL_get _ _ _ hx)) rfl ?_
            refine DL_y rfl (y_move rfl) rfl ?_
            refine DL_y rfl (y_move rfl) rfl ?_
            refine DL_y rfl (y_idx Try.underlying22 sz3 rfl rfl (S8.rd hb) (Nt.mk (by omega) : Nt _ (k)) (by omega)) rfl ?_
            refine DL_y rfl (y_ldr Try.underlying3 rfl rfl (S8.rd hb) (iL_get _ _ _ hy)) rfl ?_
            refine DL_y rfl (y_eql rfl rfl) rfl ?_
            refine DL_y rfl (y_move rfl) rfl ?_
            refine DL_split 65 rfl (fun h65 => ?_) (fun h65 => ?_)
            ·
              refine DL_gyes rfl rfl rfl (y_move rfl) rfl ?_
              refine DL_gyes rfl rfl rfl (y_move rfl) rfl ?_
              refine DL_gyes rfl rfl rfl (y_add rfl rfl (i64w (by omega))) rfl ?_
              refine DL_gyes rfl rfl rfl (y_idx Try.underlying22 sz3 rfl rfl (S8.row 0 rfl) (Nt.mk (by omega) : Nt _ (k + 1)) (by omega)) rfl ?_
              refine DL_gyes rfl rfl rfl (y_ldr Try.underlying3 rfl rfl (S8.row 0 rfl) (hxs (k + 1) (by omega))) rfl ?_
              refine DL_gyes rfl rfl rfl (y_add rfl rfl (i64w (by omega))) rfl ?_
              refine DL_gyes rfl rfl rfl (y_move rfl) rfl ?_
              refine DL_gyes rfl rfl rfl (y_move rfl) rfl ?_
              refine DL_gyes rfl rfl rfl (y_idx Try.underlying22 sz3 rfl rfl (S8.row 1 rfl) (Nt.mk (by omega) : Nt _ (k)) (by omega)) rfl ?_
              refine DL_gyes rfl rfl rfl (y_ldr Try.underlying3 rfl rfl (S8.row 1 rfl) (by first | exact List.getElem?_set_self (by first | omega | (rw [List.length_set]; omega)))) rfl ?_
              refine DL_gyes rfl rfl rfl (y_gtr rfl rfl) rfl ?_
              refine DL_y rfl ((by first | exact y_pickT rfl rfl | exact y_pickF rfl rfl)) rfl ?_
              refine DL_nil ?_
              refine hK17 _ _ ?_
              refine T_cond rfl (fun h77 => ?_) (fun h77 => ?_)
              ·
                refine T_region ?_
                refine L_y (y_move rfl) rfl ?_
                refine L_y (y_move rfl) rfl ?_
                refine L_y (y_move rfl) rfl ?_
                refine L_y (y_move rfl) rfl ?_
                refine L_y (y_add rfl rfl (i64w (by omega))) rfl ?_
                refine L_y (y_idx Try.underlying22 sz3 rfl rfl (S8.row 0 rfl) (Nt.mk (by omega) : Nt _ (k + 1)) (by omega)) rfl ?_
                refine L_y (y_ldr Try.underlying3 rfl rfl (S8.row 0 rfl) (hxs (k + 1) (by omega))) rfl ?_
                refine L_y (y_add rfl rfl (i64w (by omega))) rfl ?_
                refine L_y (y_idx Try.underlying22 sz3 rfl rfl (S8.row 1 rfl) (Nt.mk (by omega) : Nt _ (k)) (by omega)) rfl ?_
                refine L_o (o_strow S8 1 rfl rfl rfl rfl sz3 (by omega) fun w9 S9 => ?_)
                refine L_nil ?_
                refine hK13 _ _ ?_
                refine T_region ?_
                refine L_y (y_move rfl) rfl ?_
                refine L_y (y_sub rfl rfl (i64w (by omega))) rfl ?_
                refine L_y (y_assign rfl) rfl ?_
                refine L_nil ?_
                have hL := lC_hit (la := la) (lb := lb) (i := i) (k := k) ⟨by omega, by omega, by rw [hx, hy, h65]⟩
                refine ⟨k, _, by omega, ⟨⟨by omega, by rw [List.length_set, List.length_set, List.length_set]; exact hyl, fun q h1 h2 => by rcases Nat.lt_or_ge k q with h3 | h3; (rw [List.getElem?_set_ne (by omega), List.getElem?_set_ne (by omega), List.getElem?_set_ne (by omega)]; exact hys q (by omega) h2); (have e : q = k := by omega); subst e; rw [List.getElem?_set_self (by first | omega | (rw [List.length_set]; omega) | (rw [List.length_set, List.length_set]; omega))]; exact congrArg (fun z : Int => some (Value.int .i64 z)) (by omega)⟩, S9⟩, ?_⟩
                exact (Sub.cons rfl (by first | rfl | exact congrArg (Value.int _) (by omega)) (Sub.cons rfl (by first | rfl | exact congrArg (Value.int _) (by omega)) (Sub.cons rfl (by first | rfl | exact congrArg (Value.int _) (by omega)) (Sub.cons rfl (by first | rfl | exact congrArg (Value.int _) (by omega)) (Sub.cons rfl (by first | rfl | exact congrArg (Value.int _) (by omega)) (Sub.cons rfl (by first | rfl | exact congrArg (Value.int _) (by omega)) (Sub.cons rfl rfl (Sub.cons rfl rfl (Sub.cons rfl rfl (Sub.cons rfl rfl (Sub.cons rfl rfl (Sub.nil _))))))))))))
              ·
                refine T_skip ?_
                refine hK13 _ _ ?_
                refine T_region ?_
                refine L_y (y_move rfl) rfl ?_
                refine L_y (y_sub rfl rfl (i64w (by omega))) rfl ?_
                refine L_y (y_assign rfl) rfl ?_
                refine L_nil ?_
                have hL := lC_hit (la := la) (lb := lb) (i := i) (k := k) ⟨by omega, by omega, by rw [hx, hy, h65]⟩
                refine ⟨k, _, by omega, ⟨⟨by omega, by rw [List.length_set, List.length_set]; exact hyl, fun q h1 h2 => by rcases Nat.lt_or_ge k q with h3 | h3; (rw [List.getElem?_set_ne (by omega), List.getElem?_set_ne (by omega)]; exact hys q (by omega) h2); (have e : q = k := by omega); subst e; rw [List.getElem?_set_self (by first | omega | (rw [List.length_set]; omega) | (rw [List.length_set, List.length_set]; omega))]; exact congrArg (fun z : Int => some (Value.int .i64 z)) (by omega)⟩, S8⟩, ?_⟩
                exact (Sub.cons rfl (by first | rfl | exact congrArg (Value.int _) (by omega)) (Sub.cons rfl (by first | rfl | exact congrArg (Value.int _) (by omega)) (Sub.cons rfl (by first | rfl | exact congrArg (Value.int _) (by omega)) (Sub.cons rfl (by first | rfl | exact congrArg (Value.int _) (by omega)) (Sub.cons rfl (by first | rfl | exact congrArg (Value.int _) (by omega)) (Sub.cons rfl (by first | rfl | exact congrArg (Value.int _) (by omega)) (Sub.cons rfl rfl (Sub.cons rfl rfl (Sub.cons rfl rfl (Sub.cons rfl rfl (Sub.cons rfl rfl (Sub.nil _))))))))))))
            ·
              refine DL_gno rfl rfl rfl rfl ?_
              refine DL_gno rfl rfl rfl rfl ?_
              refine DL_gno rfl rfl rfl rfl ?_
              refine DL_gno rfl rfl rfl rfl ?_
              refine DL_gno rfl rfl rfl rfl ?_
              refine DL_gno rfl rfl rfl rfl ?_
              refine DL_gno rfl rfl rfl rfl ?_
              refine DL_gno rfl rfl rfl rfl ?_
              refine DL_gno rfl rfl rfl rfl ?_
              refine DL_gno rfl rfl rfl rfl ?_
              refine DL_gno rfl rfl rfl rfl ?_
              refine DL_y rfl ((by first | exact y_pickT rfl rfl | exact y_pickF rfl rfl)) rfl ?_
              refine DL_nil ?_
              refine hK17 _ _ ?_
              refine T_false rfl ?_
              refine T_skip ?_
              refine hK13 _ _ ?_
              refine T_region ?_
              refine L_y (y_move rfl) rfl ?_
              refine L_y (y_sub rfl rfl (i64w (by omega))) rfl ?_
              refine L_y (y_assign rfl) rfl ?_
              refine L_nil ?_
              have hL := lC_mis (la := la) (lb := lb) (i := i) (k := k) (fun h => by have h9 := h.2.2; rw [hx, hy] at h9; exact h65 (Option.some.inj h9)) (by omega) (by omega)
              refine ⟨k, _, by omega, ⟨⟨by omega, by rw [List.length_set, List.length_set]; exact hyl, fun q h1 h2 => by rcases Nat.lt_or_ge k q with h3 | h3; (rw [List.getElem?_set_ne (by omega), List.getElem?_set_ne (by omega)]; exact hys q (by omega) h2); (have e : q = k := by omega); subst e; rw [List.getElem?_set_self (by first | omega | (rw [List.length_set]; omega) | (rw [List.length_set, List.length_set]; omega))]; exact congrArg (fun z : Int => some (Value.int .i64 z)) (by omega)⟩, S8⟩, ?_⟩
              exact (Sub.cons rfl (by first | rfl | exact congrArg (Value.int _) (by omega)) (Sub.cons rfl (by first | rfl | exact congrArg (Value.int _) (by omega)) (Sub.cons rfl (by first | rfl | exact congrArg (Value.int _) (by omega)) (Sub.cons rfl (by first | rfl | exact congrArg (Value.int _) (by omega)) (Sub.cons rfl (by first | rfl | exact congrArg (Value.int _) (by omega)) (Sub.cons rfl (by first | rfl | exact congrArg (Value.int _) (by omega)) (Sub.cons rfl rfl (Sub.cons rfl rfl (Sub.cons rfl rfl (Sub.cons rfl rfl (Sub.cons rfl rfl (Sub.nil _))))))))))))
          ·
            refine T_skip ?_
            refine hK15 _ _ ?_
            refine T_seq fun K18 hK18 => ?_
            refine T_drawnL [(0, true), (1, true), (2, true), (3, true), (4, true), (5, true), (6, true), (7, true), (8, true), (9, true), (10, true), (11, true), (12, true), (13, true), (14, true), (15, true), (16, true), (17, true), (18, true), (19, true), (20, true), (21, true)] hmix (by kernel_rfl) fun w10 l10 => ?_
            have S10 := S6.like l10
            refine DL_y rfl (y_move rfl) rfl ?_
            refine DL_y rfl (y_move rfl) rfl ?_
            refine DL_y rfl (y_idx Try.underlying22 sz3 rfl rfl (S10.rd ha) (Nt.mk (by omega) : Nt _ (i)) (by omega)) rfl ?_
            refine DL_y rfl (y_ldr Try.underlying3 rfl rfl (S10.rd ha) (iL_get _ _ _ hx)) rfl ?_
            refine DL_y rfl (y_move rfl) rfl ?_
            refine DL_y rfl (y_move rfl) rfl ?_
            refine DL_y rfl (y_idx Try.underlying22 sz3 rfl rfl (S10.rd hb) (Nt.mk (by omega) : Nt _ (k)) (by omega)) rfl ?_
            refine DL_y rfl (y_ldr Try.underlying3 rfl rfl (S10.rd hb) (iL_get _ _ _ hy)) rfl ?_
            refine DL_y rfl (y_eql rfl rfl) rfl ?_
            refine DL_y rfl (y_move rfl) rfl ?_
            refine DL_split 65 rfl (fun h65 => ?_) (fun h65 => ?_)
            ·
              refine DL_gyes rfl rfl rfl (y_move rfl) rfl ?_
              refine DL_gyes rfl rfl rfl (y_move rfl) rfl ?_
              refine DL_gyes rfl rfl rfl (y_add rfl rfl (i64w (by omega))) rfl ?_
              refine DL_gyes rfl rfl rfl (y_idx Try.underlying22 sz3 rfl rfl (S10.row 0 rfl) (Nt.mk (by omega) : Nt _ (k + 1)) (by omega)) rfl ?_
              refine DL_gyes rfl rfl rfl (y_ldr Try.underlying3 rfl rfl (S10.row 0 rfl) (hxs (k + 1) (by omega))) rfl ?_
              refine DL_gyes rfl rfl rfl (y_add rfl rfl (i64w (by omega))) rfl ?_
              refine DL_gyes rfl rfl rfl (y_move rfl) rfl ?_
              refine DL_gyes rfl rfl rfl (y_move rfl) rfl ?_
              refine DL_gyes rfl rfl rfl (y_idx Try.underlying22 sz3 rfl rfl (S10.row 1 rfl) (Nt.mk (by omega) : Nt _ (k)) (by omega)) rfl ?_
              refine DL_gyes rfl rfl rfl (y_ldr Try.underlying3 rfl rfl (S10.row 1 rfl) (by first | exact List.getElem?_set_self (by first | omega | (rw [List.length_set]; omega)))) rfl ?_
              refine DL_gyes rfl rfl rfl (y_gtr rfl rfl) rfl ?_
              refine DL_y rfl ((by first | exact y_pickT rfl rfl | exact y_pickF rfl rfl)) rfl ?_
              refine DL_nil ?_
              refine hK18 _ _ ?_
              refine T_cond rfl (fun h77 => ?_) (fun h77 => ?_)
              ·
                refine T_region ?_
                refine L_y (y_move rfl) rfl ?_
                refine L_y (y_move rfl) rfl ?_
                refine L_y (y_move rfl) rfl ?_
                refine L_y (y_move rfl) rfl ?_
                refine L_y (y_add rfl rfl (i64w (by omega))) rfl ?_
                refine L_y (y_idx Try.underlying22 sz3 rfl rfl (S10.row 0 rfl) (Nt.mk (by omega) : Nt _ (k + 1)) (by omega)) rfl ?_
                refine L_y (y_ldr Try.underlying3 rfl rfl (S10.row 0 rfl) (hxs (k + 1) (by omega))) rfl ?_
                refine L_y (y_add rfl rfl (i64w (by omega))) rfl ?_
                refine L_y (y_idx Try.underlying22 sz3 rfl rfl (S10.row 1 rfl) (Nt.mk (by omega) : Nt _ (k)) (by omega)) rfl ?_
                refine L_o (o_strow S10 1 rfl rfl rfl rfl sz3 (by omega) fun w11 S11 => ?_)
                refine L_nil ?_
                refine hK13 _ _ ?_
                refine T_region ?_
                refine L_y (y_move rfl) rfl ?_
                refine L_y (y_sub rfl rfl (i64w (by omega))) rfl ?_
                refine L_y (y_assign rfl) rfl ?_
                refine L_nil ?_
                have hL := lC_hit (la := la) (lb := lb) (i := i) (k := k) ⟨by omega, by omega, by rw [hx, hy, h65]⟩
                refine ⟨k, _, by omega, ⟨⟨by omega, by rw [List.length_set, List.length_set]; exact hyl, fun q h1 h2 => by rcases Nat.lt_or_ge k q with h3 | h3; (rw [List.getElem?_set_ne (by omega), List.getElem?_set_ne (by omega)]; exact hys q (by omega) h2); (have e : q = k := by omega); subst e; rw [List.getElem?_set_self (by first | omega | (rw [List.length_set]; omega) | (rw [List.length_set, List.length_set]; omega))]; exact congrArg (fun z : Int => some (Value.int .i64 z)) (by omega)⟩, S11⟩, ?_⟩
                exact (Sub.cons rfl (by first | rfl | exact congrArg (Value.int _) (by omega)) (Sub.cons rfl (by first | rfl | exact congrArg (Value.int _) (by omega)) (Sub.cons rfl (by first | rfl | exact congrArg (Value.int _) (by omega)) (Sub.cons rfl (by first | rfl | exact congrArg (Value.int _) (by omega)) (Sub.cons rfl (by first | rfl | exact congrArg (Value.int _) (by omega)) (Sub.cons rfl (by first | rfl | exact congrArg (Value.int _) (by omega)) (Sub.cons rfl rfl (Sub.cons rfl rfl (Sub.cons rfl rfl (Sub.cons rfl rfl (Sub.cons rfl rfl (Sub.nil _))))))))))))
              ·
                refine T_skip ?_
                refine hK13 _ _ ?_
                refine T_region ?_
                refine L_y (y_move rfl) rfl ?_
                refine L_y (y_sub rfl rfl (i64w (by omega))) rfl ?_
                refine L_y (y_assign rfl) rfl ?_
                refine L_nil ?_
                have hL := lC_hit (la := la) (lb := lb) (i := i) (k := k) ⟨by omega, by omega, by rw [hx, hy, h65]⟩
                refine ⟨k, _, by omega, ⟨⟨by omega, by rw [List.length_set]; exact hyl, fun q h1 h2 => by rcases Nat.lt_or_ge k q with h3 | h3; (rw [List.getElem?_set_ne (by omega)]; exact hys q (by omega) h2); (have e : q = k := by omega); subst e; rw [List.getElem?_set_self (by first | omega | (rw [List.length_set]; omega) | (rw [List.length_set, List.length_set]; omega))]; exact congrArg (fun z : Int => some (Value.int .i64 z)) (by omega)⟩, S10⟩, ?_⟩
                exact (Sub.cons rfl (by first | rfl | exact congrArg (Value.int _) (by omega)) (Sub.cons rfl (by first | rfl | exact congrArg (Value.int _) (by omega)) (Sub.cons rfl (by first | rfl | exact congrArg (Value.int _) (by omega)) (Sub.cons rfl (by first | rfl | exact congrArg (Value.int _) (by omega)) (Sub.cons rfl (by first | rfl | exact congrArg (Value.int _) (by omega)) (Sub.cons rfl (by first | rfl | exact congrArg (Value.int _) (by omega)) (Sub.cons rfl rfl (Sub.cons rfl rfl (Sub.cons rfl rfl (Sub.cons rfl rfl (Sub.cons rfl rfl (Sub.nil _))))))))))))
            ·
              refine DL_gno rfl rfl rfl rfl ?_
              refine DL_gno rfl rfl rfl rfl ?_
              refine DL_gno rfl rfl rfl rfl ?_
              refine DL_gno rfl rfl rfl rfl ?_
              refine DL_gno rfl rfl rfl rfl ?_
              refine DL_gno rfl rfl rfl rfl ?_
              refine DL_gno rfl rfl rfl rfl ?_
              refine DL_gno rfl rfl rfl rfl ?_
              refine DL_gno rfl rfl rfl rfl ?_
              refine DL_gno rfl rfl rfl rfl ?_
              refine DL_gno rfl rfl rfl rfl ?_
              refine DL_y rfl ((by first | exact y_pickT rfl rfl | exact y_pickF rfl rfl)) rfl ?_
              refine DL_nil ?_
              refine hK18 _ _ ?_
              refine T_false rfl ?_
              refine T_skip ?_
              refine hK13 _ _ ?_
              refine T_region ?_
              refine L_y (y_move rfl) rfl ?_
              refine L_y (y_sub rfl rfl (i64w (by omega))) rfl ?_
              refine L_y (y_assign rfl) rfl ?_
              refine L_nil ?_
              have hL := lC_mis (la := la) (lb := lb) (i := i) (k := k) (fun h => by have h9 := h.2.2; rw [hx, hy] at h9; exact h65 (Option.some.inj h9)) (by omega) (by omega)
              refine ⟨k, _, by omega, ⟨⟨by omega, by rw [List.length_set]; exact hyl, fun q h1 h2 => by rcases Nat.lt_or_ge k q with h3 | h3; (rw [List.getElem?_set_ne (by omega)]; exact hys q (by omega) h2); (have e : q = k := by omega); subst e; rw [List.getElem?_set_self (by first | omega | (rw [List.length_set]; omega) | (rw [List.length_set, List.length_set]; omega))]; exact congrArg (fun z : Int => some (Value.int .i64 z)) (by omega)⟩, S10⟩, ?_⟩
              exact (Sub.cons rfl (by first | rfl | exact congrArg (Value.int _) (by omega)) (Sub.cons rfl (by first | rfl | exact congrArg (Value.int _) (by omega)) (Sub.cons rfl (by first | rfl | exact congrArg (Value.int _) (by omega)) (Sub.cons rfl (by first | rfl | exact congrArg (Value.int _) (by omega)) (Sub.cons rfl (by first | rfl | exact congrArg (Value.int _) (by omega)) (Sub.cons rfl (by first | rfl | exact congrArg (Value.int _) (by omega)) (Sub.cons rfl rfl (Sub.cons rfl rfl (Sub.cons rfl rfl (Sub.cons rfl rfl (Sub.cons rfl rfl (Sub.nil _))))))))))))
        ·
          refine T_exit ?_
          refine hK9 _ _ ?_
          refine T_region ?_
          refine L_y (y_move rfl) rfl ?_
          refine L_y (y_assign rfl) rfl ?_
          refine L_nil ?_
          refine hK7 _ _ ?_
          refine T_region ?_
          refine L_y (y_move rfl) rfl ?_
          refine L_y (y_sub rfl rfl (i64w (by omega))) rfl ?_
          refine L_y (y_assign rfl) rfl ?_
          refine L_nil ?_
          have S95 := S4.drop (rs' := [_]) (.cons _ (.refl _))
          refine ⟨i, _, _, by omega, ⟨⟨by omega, hyl, fun q hq => hys q (by omega) hq⟩, S95⟩, ?_⟩
          exact (Sub.cons rfl (by first | rfl | exact congrArg (Value.int _) (by omega)) (Sub.cons rfl (by first | rfl | exact congrArg (Value.int _) (by omega)) (Sub.cons rfl (by first | rfl | exact congrArg (Value.int _) (by omega)) (Sub.cons rfl (by first | rfl | exact congrArg (Value.int _) (by omega)) (Sub.cons rfl rfl (Sub.cons rfl rfl (Sub.nil _)))))))
    ·
      refine T_exit ?_
      refine hK3 _ _ ?_
      refine T_seq fun K19 hK19 => ?_
      refine T_region ?_
      refine L_y (y_move rfl) rfl ?_
      refine L_y (y_idx Try.underlying22 sz3 rfl rfl (S2.row 0 rfl) inferInstance (by omega)) rfl ?_
      refine L_y (y_ldr Try.underlying3 rfl rfl (S2.row 0 rfl) (hxs 0 (by omega))) rfl ?_
      refine L_y (y_assign rfl) rfl ?_
      refine L_nil ?_
      refine hK19 _ _ ?_
      refine T_ret ?_
      repeat (first | with_reducible refine up_then ?_ | with_reducible refine up_in ?_)
      refine ret1 rfl rfl ?_
      exact ⟨_, rfl, S2.like0, by rw [show i1 = 0 by omega]⟩
end Go.Proofs.Ytgapdndbelnknaa
