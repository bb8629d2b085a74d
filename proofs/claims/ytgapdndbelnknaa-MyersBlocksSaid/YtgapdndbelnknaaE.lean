/-
  The field: slide.
-/
import Derived.Test.YtgapdndbelnknaaD
namespace Go.Proofs.Ytgapdndbelnknaa
open Go.RowKit Zk Zx
set_option linter.unusedVariables false
set_option linter.unusedSimpArgs false

set_option maxRecDepth 100000 in
theorem fslide (g : Nat) (A : Option Addr) (n ca : Nat) (B : Option Addr) (m cb : Nat) (la lb : List Int) (D : List (List Int)) (i : Nat) (diag : Int) (w0 : World) (hf : FR w0 g A n ca B m cb la lb D) (hn : n ≤ 1048576) (hm : m ≤ 1048576) (hi : i ≤ n) (hdi : diag ≤ i) (hdm : (i : Int) - diag ≤ m) :
    Calls Try.prog 28 #[.pointer (some ⟨g, 0, none⟩), .int .i64 (i : Int), .int .i64 diag] w0 fun e w' => ∃ u, e = .returned u ∧ Like w0 w' ∧ ∃ j : Nat, u = .int .i64 (j : Int) ∧ Slid la lb diag i j := by
  refine enter1 (env := [(0, .pointer (some ⟨g, 0, none⟩)), (1, .int .i64 (i : Int)), (2, .int .i64 diag)]) [.pointer (some ⟨g, 0, none⟩), .int .i64 (i : Int), .int .i64 diag] Try.func28 rfl Try.ntmps28 rfl rfl ?_
  obtain ⟨R, nr, cr, SS, vs, hB, hA1, hB1, hR1, hnr, hrows⟩ := hf; have hla := lenI hA1; have hlb := lenI hB1; have S0 := St.start w0 noM
  refine T_seq fun K1 hK1 => ?_
  refine T_region ?_
  refine L_y (y_assign rfl) rfl ?_
  refine L_nil ?_
  refine hK1 _ _ ?_
  refine T_seq fun K2 hK2 => ?_
  refine T_block ?_
  refine T_loop1 [(0, _), (2, _)] (fun (j : Nat) => [(1, .int .i64 (j : Int))]) (fun (j : Nat) => j) (fun (j : Nat) (w : World) => ((j ≤ i ∧ diag ≤ j) ∧ ∀ t k : Nat, j ≤ t → t < i → (t : Int) - k = diag → ∃ x, la[t]? = some x ∧ lb[k]? = some x) ∧ St w0 noM [] w) i (Sub.cons rfl (by first | rfl | exact congrArg (Value.int _) (by omega)) (Sub.nil _)) (Sub.cons rfl rfl (Sub.cons rfl rfl (Sub.nil _))) ?_ ?_
  ·
    exact ⟨⟨⟨Nat.le_refl _, hdi⟩, fun t k h1 h2 => by omega⟩, S0⟩
  ·
    intro j w1 hrel
    obtain ⟨⟨⟨hj, hdj⟩, hal⟩, S1⟩ := hrel
    refine T_seq fun K3 hK3 => ?_
    refine T_seq fun K4 hK4 => ?_
    refine T_drawnL [(0, true), (1, true), (2, true), (3, true), (4, true), (5, true), (6, true), (7, true), (8, true), (9, true), (10, true), (11, true), (12, true), (13, true), (14, true), (15, true), (16, true), (17, true), (18, true), (19, true), (20, true), (21, true), (22, true), (23, true), (24, true), (25, true), (26, true), (27, true), (28, true)] hmix (by kernel_rfl) fun w2 l2 => ?_
    have S2 := S1.like l2
    refine DL_y rfl (y_move rfl) rfl ?_
    refine DL_y rfl (y_gtr rfl rfl) rfl ?_
    refine DL_y rfl (y_move rfl) rfl ?_
    refine DL_split 9 rfl (fun h9 => ?_) (fun h9 => ?_)
    ·
      refine DL_gyes rfl rfl rfl (y_move rfl) rfl ?_
      refine DL_gyes rfl rfl rfl (y_move rfl) rfl ?_
      refine DL_gyes rfl rfl rfl (y_sub rfl rfl (i64w (by omega))) rfl ?_
      refine DL_gyes rfl rfl rfl (y_gtr rfl rfl) rfl ?_
      refine DL_y rfl ((by first | exact y_pickT rfl rfl | exact y_pickF rfl rfl)) rfl ?_
      refine DL_y rfl (y_move rfl) rfl ?_
      refine DL_split 15 rfl (fun h15 => ?_) (fun h15 => ?_)
      ·
        obtain ⟨x, hx⟩ : ∃ x, la[j - 1]? = some x := ⟨_, List.getElem?_eq_getElem (by omega)⟩
        obtain ⟨k, hk⟩ : ∃ k : Nat, ((j - 1 : Nat) : Int) - k = diag := ⟨(((j - 1 : Nat) : Int) - diag).toNat, by omega⟩
        obtain ⟨y, hy⟩ : ∃ y, lb[k]? = some y := ⟨_, List.getElem?_eq_getElem (by omega)⟩
        refine DL_gyes rfl rfl rfl (y_move rfl) rfl ?_
        refine DL_gyes rfl rfl rfl (y_nilp rfl) rfl ?_
        refine DL_gyes rfl rfl rfl (y_fieldA 0 Try.underlying54 rfl sz22 rfl rfl rfl) rfl ?_
        refine DL_gyes rfl rfl rfl (y_ldc Try.underlying22 rfl rfl (((S2.rdB hB).cell _).trans (show (#[Value.slice A n ca, .slice B m cb, .slice R nr cr, SS] : Array Value)[0]? = some (Value.slice A n ca) from rfl))) rfl ?_
        refine DL_gyes rfl rfl rfl (y_move rfl) rfl ?_
        refine DL_gyes rfl rfl rfl (y_sub rfl rfl (i64w (by omega))) rfl ?_
        refine DL_gyes rfl rfl rfl (y_idx Try.underlying22 sz3 rfl rfl (S2.rd hA1) (Nt.mk (by omega) : Nt _ (j - 1)) (by omega)) rfl ?_
        refine DL_gyes rfl rfl rfl (y_ldr Try.underlying3 rfl rfl (S2.rd hA1) (iL_get _ _ _ hx)) rfl ?_
        refine DL_gyes rfl rfl rfl (y_move rfl) rfl ?_
        refine DL_gyes rfl rfl rfl (y_nilp rfl) rfl ?_
        refine DL_gyes rfl rfl rfl (y_fieldA 1 Try.underlying54 rfl sz22 rfl rfl rfl) rfl ?_
        refine DL_gyes rfl rfl rfl (y_ldc Try.underlying22 rfl rfl (((S2.rdB hB).cell _).trans (show (#[Value.slice A n ca, .slice B m cb, .slice R nr cr, SS] : Array Value)[1]? = some (Value.slice B m cb) from rfl))) rfl ?_
        refine DL_gyes rfl rfl rfl (y_move rfl) rfl ?_
        refine DL_gyes rfl rfl rfl (y_move rfl) rfl ?_
        refine DL_gyes rfl rfl rfl (y_sub rfl rfl (i64w (by omega))) rfl ?_
        refine DL_gyes rfl rfl rfl (y_sub rfl rfl (i64w (by omega))) rfl ?_
        refine DL_gyes rfl rfl rfl (y_idx Try.underlying22 sz3 rfl rfl (S2.rd hB1) (Nt.mk (by omega) : Nt _ (k)) (by omega)) rfl ?_
        refine DL_gyes rfl rfl rfl (y_ldr Try.underlying3 rfl rfl (S2.rd hB1) (iL_get _ _ _ hy)) rfl ?_
        refine DL_gyes rfl rfl rfl (y_eql rfl rfl) rfl ?_
        refine DL_y rfl ((by first | exact y_pickT rfl rfl | exact y_pickF rfl rfl)) rfl ?_
        refine DL_nil ?_
        refine hK4 _ _ ?_
        refine T_cond rfl (fun h35 => ?_) (fun h35 => ?_)
        ·
          refine T_skip ?_
          refine hK3 _ _ ?_
          refine T_block ?_
          refine T_region ?_
          refine L_y (y_move rfl) rfl ?_
          refine L_y (y_sub rfl rfl (i64w (by omega))) rfl ?_
          refine L_y (y_assign rfl) rfl ?_
          refine L_nil ?_
          refine ⟨j - 1, by omega, ⟨⟨⟨by omega, by omega⟩, fun t k2 h1 h2 h3 => by rcases Nat.lt_or_ge t j with h4 | h4; (have e1 : t = j - 1 := by omega); (have e2 : k2 = k := by omega); subst e1; subst e2; exact ⟨x, hx, by rw [h35]; exact hy⟩; exact hal t k2 h4 h2 h3⟩, S2⟩, ?_⟩
          exact (Sub.cons rfl (congrArg (Value.int _) (by omega)) (Sub.cons rfl rfl (Sub.cons rfl rfl (Sub.nil _))))
        ·
          refine T_exit ?_
          refine hK2 _ _ ?_
          refine T_seq fun K5 hK5 => ?_
          refine T_region ?_
          refine L_y (y_move rfl) rfl ?_
          refine L_y (y_assign rfl) rfl ?_
          refine L_nil ?_
          refine hK5 _ _ ?_
          refine T_ret ?_
          repeat (first | with_reducible refine up_then ?_ | with_reducible refine up_in ?_)
          refine ret1 rfl rfl ?_
          first | exact ⟨_, rfl, S2.like0, j, rfl, hj, hdj, hal, fun t k2 h1 h2 z hz1 hz2 => by (have e1 : t = j - 1 := by omega); (have e2 : k2 = k := by omega); subst e1; subst e2; rw [hx] at hz1; rw [hy] at hz2; exact h35 (by rw [Option.some.inj hz1, Option.some.inj hz2])⟩ | exact ⟨_, rfl, S2.like0, j, rfl, hj, hdj, hal, fun t k2 h1 h2 z hz1 hz2 => by omega⟩
      ·
        refine DL_gno rfl rfl rfl rfl ?_
        refine DL_gno rfl rfl rfl rfl ?_
        refine DL_gno rfl rfl rfl rfl ?_
        refine DL_gno rfl rfl rfl rfl ?_
        refine DL_gno rfl rfl rfl rfl ?_
        refine DL_gno rfl rfl rfl rfl ?_
        refine DL_gno rfl rfl rfl rfl ?_
        refine DL_gno rfl rfl rfl rfl ?_
        refine DL_gno rfl rfl rfl rfl ?_
        refine DL_gno rfl rfl rfl rfl ?_
        refine DL_gno rfl rfl rfl rfl ?_
        refine DL_gno rfl rfl rfl rfl ?_
        refine DL_gno rfl rfl rfl rfl ?_
        refine DL_gno rfl rfl rfl rfl ?_
        refine DL_gno rfl rfl rfl rfl ?_
        refine DL_gno rfl rfl rfl rfl ?_
        refine DL_gno rfl rfl rfl rfl ?_
        refine DL_gno rfl rfl rfl rfl ?_
        refine DL_gno rfl rfl rfl rfl ?_
        refine DL_y rfl ((by first | exact y_pickT rfl rfl | exact y_pickF rfl rfl)) rfl ?_
        refine DL_nil ?_
        refine hK4 _ _ ?_
        refine T_false rfl ?_
        refine T_exit ?_
        refine hK2 _ _ ?_
        refine T_seq fun K6 hK6 => ?_
        refine T_region ?_
        refine L_y (y_move rfl) rfl ?_
        refine L_y (y_assign rfl) rfl ?_
        refine L_nil ?_
        refine hK6 _ _ ?_
        refine T_ret ?_
        repeat (first | with_reducible refine up_then ?_ | with_reducible refine up_in ?_)
        refine ret1 rfl rfl ?_
        first | exact ⟨_, rfl, S2.like0, j, rfl, hj, hdj, hal, fun t k2 h1 h2 z hz1 hz2 => by (have e1 : t = j - 1 := by omega); (have e2 : k2 = k := by omega); subst e1; subst e2; rw [hx] at hz1; rw [hy] at hz2; exact h35 (by rw [Option.some.inj hz1, Option.some.inj hz2])⟩ | exact ⟨_, rfl, S2.like0, j, rfl, hj, hdj, hal, fun t k2 h1 h2 z hz1 hz2 => by omega⟩
    ·
      refine DL_gno rfl rfl rfl rfl ?_
      refine DL_gno rfl rfl rfl rfl ?_
      refine DL_gno rfl rfl rfl rfl ?_
      refine DL_gno rfl rfl rfl rfl ?_
      refine DL_y rfl ((by first | exact y_pickT rfl rfl | exact y_pickF rfl rfl)) rfl ?_
      refine DL_y rfl (y_move rfl) rfl ?_
      refine DL_gno rfl rfl rfl rfl ?_
      refine DL_gno rfl rfl rfl rfl ?_
      refine DL_gno rfl rfl rfl rfl ?_
      refine DL_gno rfl rfl rfl rfl ?_
      refine DL_gno rfl rfl rfl rfl ?_
      refine DL_gno rfl rfl rfl rfl ?_
      refine DL_gno rfl rfl rfl rfl ?_
      refine DL_gno rfl rfl rfl rfl ?_
      refine DL_gno rfl rfl rfl rfl ?_
      refine DL_gno rfl rfl rfl rfl ?_
      refine DL_gno rfl rfl rfl rfl ?_
      refine DL_gno rfl rfl rfl rfl ?_
      refine DL_gno rfl rfl rfl rfl ?_
      refine DL_gno rfl rfl rfl rfl ?_
      refine DL_gno rfl rfl rfl rfl ?_
      refine DL_gno rfl rfl rfl rfl ?_
      refine DL_gno rfl rfl rfl rfl ?_
      refine DL_gno rfl rfl rfl rfl ?_
      refine DL_gno rfl rfl rfl rfl ?_
      refine DL_y rfl ((by first | exact y_pickT rfl rfl | exact y_pickF rfl rfl)) rfl ?_
      refine DL_nil ?_
      refine hK4 _ _ ?_
      refine T_false rfl ?_
      refine T_exit ?_
      refine hK2 _ _ ?_
      refine T_seq fun K7 hK7 => ?_
      refine T_region ?_
      refine L_y (y_move rfl) rfl ?_
      refine L_y (y_assign rfl) rfl ?_
      refine L_nil ?_
      refine hK7 _ _ ?_
      refine T_ret ?_
      repeat (first | with_reducible refine up_then ?_ | with_reducible refine up_in ?_)
      refine ret1 rfl rfl ?_
      first | exact ⟨_, rfl, S2.like0, j, rfl, hj, hdj, hal, fun t k2 h1 h2 z hz1 hz2 => by (have e1 : t = j - 1 := by omega); (have e2 : k2 = k := by omega); subst e1; subst e2; rw [hx] at hz1; rw [hy] at hz2; exact h35 (by rw [Option.some.inj hz1, Option.some.inj hz2])⟩ | exact ⟨_, rfl, S2.like0, j, rfl, hj, hdj, hal, fun t k2 h1 h2 z hz1 hz2 => by omega⟩
end Go.Proofs.Ytgapdndbelnknaa
