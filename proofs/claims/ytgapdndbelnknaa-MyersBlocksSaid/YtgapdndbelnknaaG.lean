/-
  The field: near.
-/
import Derived.Test.YtgapdndbelnknaaF
namespace Go.Proofs.Ytgapdndbelnknaa
open Go.RowKit Zk Zx
set_option linter.unusedVariables false
set_option linter.unusedSimpArgs false

theorem tmod2 (x : Int) : x.tmod 2 = 0 ↔ x % 2 = 0 := by
  rw [← Int.dvd_iff_tmod_eq_zero, ← Int.dvd_iff_emod_eq_zero]


set_option maxRecDepth 100000 in
theorem fnear (g : Nat) (A : Option Addr) (n ca : Nat) (B : Option Addr) (m cb : Nat) (la lb : List Int) (D : List (List Int)) (i k r : Nat) (rI : Int) (w0 : World) (hf : FR w0 g A n ca B m cb la lb D) (hrI : rI = r) (hn : n ≤ 1048576) (hm : m ≤ 1048576) (hD : D.length ≤ 1048576) (hi : i < n) (hk : k ≤ m) (hway : (k : Int) - i ≤ (rR la lb 0 0 : Int) - rR la lb i k) (hr : r + 1 = rR la lb i k) (hrD : r < D.length) (ht : Tab la lb D) :
    Calls Try.prog 24 #[.pointer (some ⟨g, 0, none⟩), .int .i64 ((i : Int) + 1), .int .i64 (k : Int), .int .i64 rI] w0 fun e w' => ∃ u, e = .returned u ∧ Like w0 w' ∧ u = .bool (decide (rR la lb (i + 1) k < rR la lb i k)) := by
  refine enter1 (env := [(0, .pointer (some ⟨g, 0, none⟩)), (1, .int .i64 ((i : Int) + 1)), (2, .int .i64 (k : Int)), (3, .int .i64 rI)]) [.pointer (some ⟨g, 0, none⟩), .int .i64 ((i : Int) + 1), .int .i64 (k : Int), .int .i64 rI] Try.func24 rfl Try.ntmps24 rfl rfl ?_
  subst hrI; have hf0 := hf; obtain ⟨R, nr, cr, SS, vs, hB, hA1, hB1, hR1, hnr, hrows⟩ := hf; have hla := lenI hA1; have hlb := lenI hB1; have hi2 : i < la.length := (by omega); have hk2 : k ≤ lb.length := (by omega); have hlf : (la.length : Int) < farN := (by unfold farN; omega); have S0 := St.start w0 noM
  refine T_seq fun K1 hK1 => ?_
  refine T_region ?_
  refine L_y (y_assign rfl) rfl ?_
  refine L_nil ?_
  refine hK1 _ _ ?_
  refine T_seq fun K2 hK2 => ?_
  refine T_seq fun K3 hK3 => ?_
  refine T_region ?_
  refine L_y (y_move rfl) rfl ?_
  refine L_y (y_lss rfl rfl) rfl ?_
  refine L_nil ?_
  refine hK3 _ _ ?_
  refine T_cond rfl (fun h11 => ?_) (fun h11 => ?_)
  ·
    exact absurd h11 (by omega)
  ·
    refine T_skip ?_
    refine hK2 _ _ ?_
    refine T_seq fun K4 hK4 => ?_
    refine T_drawnL [(0, true), (1, true), (2, true), (3, true), (4, true), (5, true), (6, true), (7, true), (8, true), (9, true), (10, true), (11, true), (12, true), (13, true), (14, true), (15, true)] hmix (by kernel_rfl) fun w1 l1 => ?_
    have S1 := S0.like l1
    refine DL_y rfl (y_move rfl) rfl ?_
    refine DL_y rfl (y_move rfl) rfl ?_
    refine DL_y rfl (y_sub rfl rfl (i64w (by omega))) rfl ?_
    refine DL_y rfl (y_move rfl) rfl ?_
    refine DL_y rfl (y_nilp rfl) rfl ?_
    refine DL_y rfl (y_fieldA 0 Try.underlying54 rfl sz22 rfl rfl rfl) rfl ?_
    refine DL_y rfl (y_ldc Try.underlying22 rfl rfl (((S1.rdB hB).cell _).trans (show (#[Value.slice A n ca, .slice B m cb, .slice R nr cr, SS] : Array Value)[0]? = some (Value.slice A n ca) from rfl))) rfl ?_
    refine DL_y rfl (y_len Try.underlying22 rfl) rfl ?_
    refine DL_y rfl (y_move rfl) rfl ?_
    refine DL_y rfl (y_nilp rfl) rfl ?_
    refine DL_y rfl (y_fieldA 1 Try.underlying54 rfl sz22 rfl rfl rfl) rfl ?_
    refine DL_y rfl (y_ldc Try.underlying22 rfl rfl (((S1.rdB hB).cell _).trans (show (#[Value.slice A n ca, .slice B m cb, .slice R nr cr, SS] : Array Value)[1]? = some (Value.slice B m cb) from rfl))) rfl ?_
    refine DL_y rfl (y_len Try.underlying22 rfl) rfl ?_
    refine DL_y rfl (y_sub rfl rfl (i64w (by omega))) rfl ?_
    refine DL_y rfl (y_sub rfl rfl (i64w (by omega))) rfl ?_
    refine DL_y rfl (y_assign rfl) rfl ?_
    refine DL_nil ?_
    refine hK4 _ _ ?_
    refine T_seq fun K5 hK5 => ?_
    refine T_seq fun K6 hK6 => ?_
    refine T_region ?_
    refine L_y (y_move rfl) rfl ?_
    refine L_y (y_move rfl) rfl ?_
    refine L_y (y_add rfl rfl (i64w (by omega))) rfl ?_
    refine L_y (y_rem rfl rfl (by omega) rfl) rfl ?_
    refine L_y (y_neq rfl rfl) rfl ?_
    refine L_nil ?_
    refine hK6 _ _ ?_
    refine T_cond rfl (fun h31 => ?_) (fun h31 => ?_)
    ·
      have hpar : ((r : Int) + ((i : Int) + 1 - k - ((n : Int) - m))) % 2 ≠ 0 := fun h => h31 ((tmod2 _).2 h)
      have hni := near_iff (la := la) (lb := lb) hi2 hk2 hway (show (r : Int) + 1 = (rR la lb i k : Int) by omega) (off := (i : Int) + 1 - k - ((n : Int) - m)) (by omega) (.inr ⟨rfl, hpar⟩) (ht _ _ (by omega)) hlf
      refine T_region ?_
      refine L_y (y_move rfl) rfl ?_
      refine L_y (y_sub rfl rfl (i64w (by omega))) rfl ?_
      refine L_y (y_assign rfl) rfl ?_
      refine L_nil ?_
      refine hK5 _ _ ?_
      refine T_seq fun K7 hK7 => ?_
      refine T_region ?_
      refine L_y (y_move rfl) rfl ?_
      refine L_y (y_move rfl) rfl ?_
      refine L_y (y_move rfl) rfl ?_
      refine L_o (o_call Try.func27 rfl rfl (fat g A n ca B m cb la lb D ((r : Int) - 1) ((i : Int) + 1 - k - ((n : Int) - m)) w1 (hf0.like S1.like0) (by omega) (by omega) (by omega) hD) rfl rfl ?_)
      rintro e2 w2 ⟨v2, rfl, l2, rfl⟩
      refine ⟨_, rfl, ?_⟩
      have S2 := S1.like l2
      refine L_y (y_move rfl) rfl ?_
      refine L_y (y_leq rfl rfl) rfl ?_
      refine L_y (y_assign rfl) rfl ?_
      refine L_nil ?_
      refine hK7 _ _ ?_
      refine T_ret ?_
      repeat (first | with_reducible refine up_then ?_ | with_reducible refine up_in ?_)
      refine ret1 rfl rfl ?_
      exact ⟨_, rfl, S2.like0, congrArg Value.bool (by rw [decide_eq_decide]; exact hni)⟩
    ·
      have hpar : ((r : Int) + ((i : Int) + 1 - k - ((n : Int) - m))) % 2 = 0 := (tmod2 _).1 (Classical.byContradiction h31)
      have hni := near_iff (la := la) (lb := lb) hi2 hk2 hway (show (r : Int) + 1 = (rR la lb i k : Int) by omega) (off := (i : Int) + 1 - k - ((n : Int) - m)) (by omega) (.inl ⟨rfl, hpar⟩) (ht _ _ (by omega)) hlf
      refine T_skip ?_
      refine hK5 _ _ ?_
      refine T_seq fun K8 hK8 => ?_
      refine T_region ?_
      refine L_y (y_move rfl) rfl ?_
      refine L_y (y_move rfl) rfl ?_
      refine L_y (y_move rfl) rfl ?_
      refine L_o (o_call Try.func27 rfl rfl (fat g A n ca B m cb la lb D (r) ((i : Int) + 1 - k - ((n : Int) - m)) w1 (hf0.like S1.like0) (by omega) (by omega) (by omega) hD) rfl rfl ?_)
      rintro e3 w3 ⟨v3, rfl, l3, rfl⟩
      refine ⟨_, rfl, ?_⟩
      have S3 := S1.like l3
      refine L_y (y_move rfl) rfl ?_
      refine L_y (y_leq rfl rfl) rfl ?_
      refine L_y (y_assign rfl) rfl ?_
      refine L_nil ?_
      refine hK8 _ _ ?_
      refine T_ret ?_
      repeat (first | with_reducible refine up_then ?_ | with_reducible refine up_in ?_)
      refine ret1 rfl rfl ?_
      exact ⟨_, rfl, S3.like0, congrArg Value.bool (by rw [decide_eq_decide]; exact hni)⟩
end Go.Proofs.Ytgapdndbelnknaa
