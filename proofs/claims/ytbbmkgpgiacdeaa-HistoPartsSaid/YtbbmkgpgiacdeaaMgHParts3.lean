import Derived.Test.YtbbmkgpgiacdeaaMgHParts2
import Derived.Test.YtbbmkgpgiacdeaaMgHParts1

/-
  The document: Diff, by the patience way.
-/
namespace Go.Proofs.Ytbbmkgpgiacdeaa
open Go.RowKit Zk Zx
set_option linter.unusedVariables false
set_option linter.unusedSimpArgs false

end Go.Proofs.Ytbbmkgpgiacdeaa


/-
  Parts and the best one, twice.
-/
namespace Go.Proofs.Ytbbmkgpgiacdeaa
open Go.RowKit Zk Zx
set_option linter.unusedVariables false
set_option linter.unusedSimpArgs false

theorem snoc_len {α : Type} (l : List α) (x : α) : l.length + 1 = (l ++ [x]).length := by simp
theorem top_take {l : List PT} {k : Nat} {p : PT} (h : l[k]? = some p) : top (l.take (k + 1)) = if (top (l.take k)).N = 0 ∨ bet p (top (l.take k)) = true then p else top (l.take k) := by rw [tk h, top_snoc]
theorem ptf_n {w : World} {A : Option Addr} {n c : Nat} {xs : List PT} (h : Rs w 4 A n c (xs.flatMap ptf)) : n = xs.length := by
  have := h.len
  rw [flat_len ptf 4 ptf_len] at this
  omega
theorem parts_len3 {a b : List Int} {n m : Nat} (ha : a.length = n) (hb : b.length = m) (hn : n ≤ 800) (hm : m ≤ 800) : (parts a b a.length).length ≤ 640000 := parts_len2 (by omega) (by omega)
theorem wr_hit {a : List Int} {i n : Nat} {x : Int} (h : a[i + n]? = some x) (h2 : a.count x < wr a i n) : wr a i (n + 1) = a.count x := by
  rw [wr, cnt_at h]
  omega
theorem wr_miss {a : List Int} {i n : Nat} {x : Int} (h : a[i + n]? = some x) (h2 : ¬ a.count x < wr a i n) : wr a i (n + 1) = wr a i n := by
  rw [wr, cnt_at h]
  omega


set_option maxRecDepth 100000 in
theorem hbest (A B : Option Addr) (n ca m cb : Nat) (la lb : List Int) (w0 : World) (ha : Rs w0 1 A n ca (iL la)) (hb : Rs w0 1 B m cb (iL lb)) (hn9 : n ≤ 800) (hm9 : m ≤ 800) :
    Calls Try.prog 42 #[.slice A n ca, .slice B m cb] w0 fun e w' => ∃ u, e = .returned u ∧ Like w0 w' ∧ u = .tuple #[.agg (ptf (bst la lb)).toArray, .bool (decide (0 < (bst la lb).N))] := by
  refine enter1 (env := [(0, .slice A n ca), (1, .slice B m cb)]) [.slice A n ca, .slice B m cb] Try.func42 rfl Try.ntmps42 rfl rfl ?_
  have S0 := St.start w0 noM
  refine T_seq fun K1 hK1 => ?_
  refine T_region ?_
  refine L_o (o_alloc zz43 S0 rfl fun b1 w1 hb1 S1 => ?_)
  refine L_y (y_assign rfl) rfl ?_
  refine L_nil ?_
  refine hK1 _ _ ?_
  refine T_seq fun K2 hK2 => ?_
  refine T_region ?_
  refine L_o (o_alloc zz43 S1 rfl fun b2 w2 hb2 S2 => ?_)
  refine L_nil ?_
  refine hK2 _ _ ?_
  refine T_seq fun K3 hK3 => ?_
  refine T_region ?_
  refine L_y (y_move rfl) rfl ?_
  refine L_y (y_move rfl) rfl ?_
  refine L_y (y_makeFunc rfl rfl) rfl ?_
  refine L_o (o_call Try.func39 rfl rfl (heachB b2 A n ca B m cb la lb w2 (St.getL (ps := [_]) (rs := [_]) S2) (rsM_of (ps := [_]) (rs := [_]) S2 ha) (rsM_of (ps := [_]) (rs := [_]) S2 hb) hn9 hm9) rfl rfl ?_)
  rintro e3 w3 ⟨v3, rfl, rfl, T3⟩
  refine ⟨_, rfl, ?_⟩
  have S3 := St.turnL (ps := [_]) (rs := [_]) (rs' := [_]) S2 T3
  refine L_nil ?_
  refine hK3 _ _ ?_
  refine T_seq fun K4 hK4 => ?_
  refine T_drawn (fun w => Blk w b2 43 (ptf (bst la lb)).toArray) [(0, true), (1, true), (2, true), (3, true), (4, false), (5, true)] hmix (by kernel_rfl) (fun w l => (S3.like l).blk 1 rfl) fun w4 l4 => ?_
  have S4 := S3.like l4
  refine DL_y rfl (y_of fun w hw => y_ldW Try.underlying43 rfl sz43 rfl hw (show _ = ptf (bst la lb) ∧ _ from ⟨rfl, rfl⟩)) rfl ?_
  refine DL_y rfl (y_fieldA 2 Try.underlying43 rfl sz3 rfl rfl rfl) rfl ?_
  refine DL_y rfl (y_ldS Try.underlying3 rfl rfl (fun w h => (h.cell _).trans (by rfl))) rfl ?_
  refine DL_y rfl (y_gtr rfl rfl) rfl ?_
  refine DL_o rfl (o_stW S4 0 rfl rfl rfl sz43 (by rfl) (ptf_one1 _) fun w5 S5 => ?_)
  refine ⟨S5.blk 1 rfl, ?_⟩
  refine DL_y rfl (y_assign rfl) rfl ?_
  refine DL_nil ?_
  refine hK4 _ _ ?_
  refine T_ret ?_
  repeat (first | with_reducible refine up_then ?_ | with_reducible refine up_in ?_)
  refine retct rfl rfl rfl (S5.blk 0 rfl) Try.underlying43 rfl (by exact sz43) ?_
  exact ⟨_, rfl, S5.like0, congrArg (fun b => Value.tuple #[Value.agg (ptf (bst la lb)).toArray, Value.bool b]) (decide_eq_decide.2 (by omega))⟩


set_option maxRecDepth 100000 in
theorem hBest (A B : Option Addr) (n ca m cb : Nat) (la lb : List Int) (w0 : World) (ha : Rs w0 1 A n ca (iL la)) (hb : Rs w0 1 B m cb (iL lb)) (hn9 : n ≤ 800) (hm9 : m ≤ 800) :
    Calls Try.prog 21 #[.slice A n ca, .slice B m cb] w0 fun e w' => ∃ u, e = .returned u ∧ Like w0 w' ∧ u = .tuple #[.agg (ptf (bst la lb)).toArray, .bool (decide (0 < (bst la lb).N))] := by
  refine enter1 (env := [(0, .slice A n ca), (1, .slice B m cb)]) [.slice A n ca, .slice B m cb] Try.func21 rfl Try.ntmps21 rfl rfl ?_
  have hla := lenI ha; have hlb := lenI hb; have hcap := ha.cap; have hmax := ha.max; have hcap2 := hb.cap; have hmax2 := hb.max; have S0 := St.start w0 noM
  refine T_seq fun K1 hK1 => ?_
  refine T_region ?_
  refine L_o (o_alloc zz43 S0 rfl fun b1 w1 hb1 S1 => ?_)
  refine L_y (y_assign rfl) rfl ?_
  refine L_nil ?_
  refine hK1 _ _ ?_
  refine T_seq fun K2 hK2 => ?_
  refine T_seq fun K3 hK3 => ?_
  refine T_region ?_
  refine L_y (y_move rfl) rfl ?_
  refine L_y (y_len Try.underlying22 rfl) rfl ?_
  refine L_y (y_gtr rfl rfl) rfl ?_
  refine L_y (y_move rfl) rfl ?_
  refine L_split 9 rfl (fun h9 => ?_) (fun h9 => ?_)
  ·
    exact absurd h9 (by omega)
  ·
    refine L_gyes rfl rfl ?_
    refine L_y (y_move rfl) rfl ?_
    refine L_gyes rfl rfl ?_
    refine L_y (y_len Try.underlying22 rfl) rfl ?_
    refine L_gyes rfl rfl ?_
    refine L_y (y_gtr rfl rfl) rfl ?_
    refine L_y ((by first | exact y_pickT rfl rfl | exact y_pickF rfl rfl)) rfl ?_
    refine L_nil ?_
    refine hK3 _ _ ?_
    refine T_cond rfl (fun h13 => ?_) (fun h13 => ?_)
    ·
      exact absurd h13 (by omega)
    ·
      refine T_skip ?_
      refine hK2 _ _ ?_
      refine T_seq fun K4 hK4 => ?_
      refine T_region ?_
      refine L_y (y_move rfl) rfl ?_
      refine L_y (y_move rfl) rfl ?_
      refine L_o (o_call Try.func42 rfl rfl (hbest A B n ca m cb la lb w1 (S1.rd ha) (S1.rd hb) hn9 hm9) rfl rfl ?_)
      rintro e3 w3 ⟨v3, rfl, l3, rfl⟩
      refine ⟨_, rfl, ?_⟩
      have S3 := S1.like l3
      refine L_y (y_extract rfl rfl) rfl ?_
      refine L_y (y_extract rfl rfl) rfl ?_
      refine L_o (o_stW S3 0 rfl rfl rfl sz43 (by rfl) (ptf_one1 _) fun w4 S4 => ?_)
      refine L_y (y_assign rfl) rfl ?_
      refine L_nil ?_
      refine hK4 _ _ ?_
      refine T_ret ?_
      repeat (first | with_reducible refine up_then ?_ | with_reducible refine up_in ?_)
      refine retct rfl rfl rfl (S4.blk 0 rfl) Try.underlying43 rfl (by exact sz43) ?_
      exact ⟨_, rfl, S4.like0, rfl⟩


set_option maxRecDepth 100000 in
theorem hParts (A B : Option Addr) (n ca m cb : Nat) (la lb : List Int) (w0 : World) (ha : Rs w0 1 A n ca (iL la)) (hb : Rs w0 1 B m cb (iL lb)) (hn9 : n ≤ 800) (hm9 : m ≤ 800) :
    Calls Try.prog 18 #[.slice A n ca, .slice B m cb] w0 fun e w' => ∃ u, e = .returned u ∧ Like w0 w' ∧ ∃ A m c, u = .tuple #[.slice A m c, .int .i64 0] ∧ w'.ownsRow w0.heap.size 43 4 (.slice A m c) m ((parts la lb la.length).flatMap ptf) := by
  refine enter1 (env := [(0, .slice A n ca), (1, .slice B m cb)]) [.slice A n ca, .slice B m cb] Try.func18 rfl Try.ntmps18 rfl rfl ?_
  have hla := lenI ha; have hlb := lenI hb; have hcap := ha.cap; have hmax := ha.max; have hcap2 := hb.cap; have hmax2 := hb.max; have S0 := St.start w0 noM
  refine T_seq fun K1 hK1 => ?_
  refine T_region ?_
  refine L_y (y_assign rfl) rfl ?_
  refine L_y (y_assign rfl) rfl ?_
  refine L_nil ?_
  refine hK1 _ _ ?_
  refine T_seq fun K2 hK2 => ?_
  refine T_seq fun K3 hK3 => ?_
  refine T_region ?_
  refine L_y (y_move rfl) rfl ?_
  refine L_y (y_len Try.underlying22 rfl) rfl ?_
  refine L_y (y_gtr rfl rfl) rfl ?_
  refine L_y (y_move rfl) rfl ?_
  refine L_split 10 rfl (fun h10 => ?_) (fun h10 => ?_)
  ·
    exact absurd h10 (by omega)
  ·
    refine L_gyes rfl rfl ?_
    refine L_y (y_move rfl) rfl ?_
    refine L_gyes rfl rfl ?_
    refine L_y (y_len Try.underlying22 rfl) rfl ?_
    refine L_gyes rfl rfl ?_
    refine L_y (y_gtr rfl rfl) rfl ?_
    refine L_y ((by first | exact y_pickT rfl rfl | exact y_pickF rfl rfl)) rfl ?_
    refine L_nil ?_
    refine hK3 _ _ ?_
    refine T_cond rfl (fun h14 => ?_) (fun h14 => ?_)
    ·
      exact absurd h14 (by omega)
    ·
      refine T_skip ?_
      refine hK2 _ _ ?_
      refine T_seq fun K4 hK4 => ?_
      refine T_region ?_
      refine L_o (o_alloc zz36 S0 rfl fun b2 w2 hb2 S2 => ?_)
      have S3 := S2.nilrow 43 4
      refine L_nil ?_
      refine hK4 _ _ ?_
      refine T_seq fun K5 hK5 => ?_
      refine T_region ?_
      refine L_y (y_move rfl) rfl ?_
      refine L_y (y_move rfl) rfl ?_
      refine L_y (y_makeFunc rfl rfl) rfl ?_
      refine L_o (o_call Try.func39 rfl rfl (heachP b2 A n ca B m cb la lb w2 (St.getL (ps := []) (rs := [_, _]) S3) (rsM_of (ps := []) (rs := [_, _]) S3 ha) (rsM_of (ps := []) (rs := [_, _]) S3 hb) hn9 hm9) rfl rfl ?_)
      rintro e4 w4 ⟨v4, rfl, A4, c4, rfl, T4⟩
      refine ⟨_, rfl, ?_⟩
      have S4 := St.turnL (ps := []) (rs := [_, _]) (rs' := [_, _]) S3 T4
      refine L_nil ?_
      refine hK5 _ _ ?_
      refine T_seq fun K6 hK6 => ?_
      refine T_region ?_
      refine L_y (y_ldc Try.underlying36 rfl rfl (((S4.blk 0 rfl).cell _).trans (by rfl))) rfl ?_
      refine L_y (y_assign rfl) rfl ?_
      refine L_y (y_assign rfl) rfl ?_
      refine L_nil ?_
      refine hK6 _ _ ?_
      refine T_ret ?_
      repeat (first | with_reducible refine up_then ?_ | with_reducible refine up_in ?_)
      refine ret2 rfl rfl rfl ?_
      exact ⟨_, rfl, S4.like0, _, _, _, rfl, S4.own 1 rfl⟩


set_option maxRecDepth 100000 in
theorem rcnt24 (A : Option Addr) (n ca : Nat) (la : List Int) (x : Int) (w0 : World) (ha : Rs w0 1 A n ca (iL la)) (hn9 : n ≤ 1048576) :
    Calls Try.prog 41 #[.slice A n ca, .int .i64 x] w0 fun e w' => ∃ u, e = .returned u ∧ Like w0 w' ∧ u = .int .i64 (la.count x : Int) := by
  refine enter1 (env := [(0, .slice A n ca), (1, .int .i64 x)]) [.slice A n ca, .int .i64 x] Try.func41 rfl Try.ntmps41 rfl rfl ?_
  have hla := lenI ha; have hcap := ha.cap; have hmax := ha.max; have S0 := St.start w0 noM
  refine T_seq fun K1 hK1 => ?_
  refine T_region ?_
  refine L_y (y_assign rfl) rfl ?_
  refine L_nil ?_
  refine hK1 _ _ ?_
  refine T_seq fun K2 hK2 => ?_
  refine T_region ?_
  refine L_y (y_assign rfl) rfl ?_
  refine L_nil ?_
  refine hK2 _ _ ?_
  refine T_seq fun K3 hK3 => ?_
  refine T_seq fun K4 hK4 => ?_
  refine T_region ?_
  refine L_y (y_assign rfl) rfl ?_
  refine L_nil ?_
  refine hK4 _ _ ?_
  refine T_block ?_
  refine T_loop1 [(0, _), (1, _)] (fun (k : Nat) => [(6, .int .i64 (k : Int)), (5, .int .i64 ((la.take k).count x : Int))]) (fun (k : Nat) => n - k) (fun (k : Nat) (w : World) => k ≤ n ∧ St w0 noM [] w) 0 (Sub.cons rfl (by first | rfl | exact congrArg (Value.int _) (by omega)) (Sub.cons rfl (by first | rfl | exact congrArg (Value.int _) (by omega)) (Sub.nil _))) (Sub.cons rfl rfl (Sub.cons rfl rfl (Sub.nil _))) ?_ ?_
  ·
    exact ⟨Nat.zero_le _, S0⟩
  ·
    intro k w1 hrel
    obtain ⟨hk, S1⟩ := hrel
    have hcc := List.count_le_length (a := x) (l := la.take k)
    rw [List.length_take] at hcc
    refine T_seq fun K5 hK5 => ?_
    refine T_seq fun K6 hK6 => ?_
    refine T_region ?_
    refine L_y (y_move rfl) rfl ?_
    refine L_y (y_move rfl) rfl ?_
    refine L_y (y_len Try.underlying22 rfl) rfl ?_
    refine L_y (y_lss rfl rfl) rfl ?_
    refine L_nil ?_
    refine hK6 _ _ ?_
    refine T_cond rfl (fun h10 => ?_) (fun h10 => ?_)
    ·
      obtain ⟨y, hy⟩ : ∃ y, la[k]? = some y := ⟨_, List.getElem?_eq_getElem (by omega)⟩
      refine T_skip ?_
      refine hK5 _ _ ?_
      refine T_seq fun K7 hK7 => ?_
      refine T_block ?_
      refine T_seq fun K8 hK8 => ?_
      refine T_region ?_
      refine L_y (y_move rfl) rfl ?_
      refine L_y (y_move rfl) rfl ?_
      refine L_y (y_idx Try.underlying22 sz3 rfl rfl (S1.rd ha) (Nt.mk (by omega) : Nt _ (k)) (by omega)) rfl ?_
      refine L_y (y_ldr Try.underlying3 rfl rfl (S1.rd ha) (iL_get _ _ _ hy)) rfl ?_
      refine L_y (y_move rfl) rfl ?_
      refine L_y (y_eql rfl rfl) rfl ?_
      refine L_nil ?_
      refine hK8 _ _ ?_
      refine T_cond rfl (fun h18 => ?_) (fun h18 => ?_)
      ·
        refine T_region ?_
        refine L_y (y_move rfl) rfl ?_
        refine L_y (y_add rfl rfl (i64w (by omega))) rfl ?_
        refine L_y (y_assign rfl) rfl ?_
        refine L_nil ?_
        refine hK7 _ _ ?_
        refine T_region ?_
        refine L_y (y_move rfl) rfl ?_
        refine L_y (y_add rfl rfl (i64w (by omega))) rfl ?_
        refine L_y (y_assign rfl) rfl ?_
        refine L_nil ?_
        refine ⟨k + 1, by omega, ⟨by omega, S1⟩, ?_⟩
        exact (Sub.cons rfl (by first | rfl | exact congrArg (Value.int _) (by omega)) (Sub.cons rfl (by rw [tk hy]; first | (rw [h18, cnt_hit]; rfl) | (rw [cnt_miss _ h18])) (Sub.cons rfl rfl (Sub.cons rfl rfl (Sub.nil _)))))
      ·
        refine T_skip ?_
        refine hK7 _ _ ?_
        refine T_region ?_
        refine L_y (y_move rfl) rfl ?_
        refine L_y (y_add rfl rfl (i64w (by omega))) rfl ?_
        refine L_y (y_assign rfl) rfl ?_
        refine L_nil ?_
        refine ⟨k + 1, by omega, ⟨by omega, S1⟩, ?_⟩
        exact (Sub.cons rfl (by first | rfl | exact congrArg (Value.int _) (by omega)) (Sub.cons rfl (by rw [tk hy]; first | (rw [h18, cnt_hit]; rfl) | (rw [cnt_miss _ h18])) (Sub.cons rfl rfl (Sub.cons rfl rfl (Sub.nil _)))))
    ·
      refine T_exit ?_
      refine hK3 _ _ ?_
      refine T_seq fun K9 hK9 => ?_
      refine T_region ?_
      refine L_y (y_move rfl) rfl ?_
      refine L_y (y_assign rfl) rfl ?_
      refine L_nil ?_
      refine hK9 _ _ ?_
      refine T_ret ?_
      repeat (first | with_reducible refine up_then ?_ | with_reducible refine up_in ?_)
      refine ret1 rfl rfl ?_
      have hkn : k = n := by omega
      subst hkn
      exact ⟨_, rfl, S1.like0, by rw [← hla, List.take_length]⟩


set_option maxRecDepth 100000 in
theorem rbet24 (p q : PT) (w0 : World)  :
    Calls Try.prog 43 #[.agg (ptf p).toArray, .agg (ptf q).toArray] w0 fun e w' => ∃ u, e = .returned u ∧ Like w0 w' ∧ u = .bool (bet p q) := by
  refine enter1 (env := [(0, .agg (ptf p).toArray), (1, .agg (ptf q).toArray)]) [.agg (ptf p).toArray, .agg (ptf q).toArray] Try.func43 rfl Try.ntmps43 rfl rfl ?_
  have S0 := St.start w0 noM
  refine T_seq fun K1 hK1 => ?_
  refine T_region ?_
  refine L_o (o_box rfl S0 rfl fun b1 w1 hb1 S1 => ?_)
  refine L_o (o_box rfl S1 rfl fun b2 w2 hb2 S2 => ?_)
  refine L_y (y_assign rfl) rfl ?_
  refine L_nil ?_
  refine hK1 _ _ ?_
  refine T_seq fun K2 hK2 => ?_
  refine T_seq fun K3 hK3 => ?_
  refine T_region ?_
  refine L_y (y_fieldA 3 Try.underlying44 rfl sz3 rfl rfl rfl) rfl ?_
  refine L_y (y_ldc Try.underlying3 rfl rfl (((S2.blk 0 rfl).cell _).trans (by rfl))) rfl ?_
  refine L_y (y_fieldA 3 Try.underlying44 rfl sz3 rfl rfl rfl) rfl ?_
  refine L_y (y_ldc Try.underlying3 rfl rfl (((S2.blk 1 rfl).cell _).trans (by rfl))) rfl ?_
  refine L_y (y_neq rfl rfl) rfl ?_
  refine L_nil ?_
  refine hK3 _ _ ?_
  refine T_cond rfl (fun h9 => ?_) (fun h9 => ?_)
  ·
    refine T_seq fun K4 hK4 => ?_
    refine T_region ?_
    refine L_y (y_fieldA 3 Try.underlying44 rfl sz3 rfl rfl rfl) rfl ?_
    refine L_y (y_ldc Try.underlying3 rfl rfl (((S2.blk 0 rfl).cell _).trans (by rfl))) rfl ?_
    refine L_y (y_fieldA 3 Try.underlying44 rfl sz3 rfl rfl rfl) rfl ?_
    refine L_y (y_ldc Try.underlying3 rfl rfl (((S2.blk 1 rfl).cell _).trans (by rfl))) rfl ?_
    refine L_y (y_lss rfl rfl) rfl ?_
    refine L_y (y_assign rfl) rfl ?_
    refine L_nil ?_
    refine hK4 _ _ ?_
    refine T_ret ?_
    repeat (first | with_reducible refine up_then ?_ | with_reducible refine up_in ?_)
    refine ret1 rfl rfl ?_
    exact ⟨_, rfl, S2.like0, congrArg Value.bool (by unfold bet; rw [if_neg (by omega)]; exact decide_eq_decide.2 (by omega))⟩
  ·
    refine T_skip ?_
    refine hK2 _ _ ?_
    refine T_seq fun K5 hK5 => ?_
    refine T_region ?_
    refine L_y (y_fieldA 2 Try.underlying44 rfl sz3 rfl rfl rfl) rfl ?_
    refine L_y (y_ldc Try.underlying3 rfl rfl (((S2.blk 0 rfl).cell _).trans (by rfl))) rfl ?_
    refine L_y (y_fieldA 2 Try.underlying44 rfl sz3 rfl rfl rfl) rfl ?_
    refine L_y (y_ldc Try.underlying3 rfl rfl (((S2.blk 1 rfl).cell _).trans (by rfl))) rfl ?_
    refine L_y (y_gtr rfl rfl) rfl ?_
    refine L_y (y_assign rfl) rfl ?_
    refine L_nil ?_
    refine hK5 _ _ ?_
    refine T_ret ?_
    repeat (first | with_reducible refine up_then ?_ | with_reducible refine up_in ?_)
    refine ret1 rfl rfl ?_
    exact ⟨_, rfl, S2.like0, congrArg Value.bool (by unfold bet; rw [if_pos (by omega)]; exact decide_eq_decide.2 (by omega))⟩


set_option maxRecDepth 100000 in
set_option maxHeartbeats 2000000 in
theorem rparts (A B : Option Addr) (n ca m cb : Nat) (la lb : List Int) (w0 : World) (ha : Rs w0 1 A n ca (iL la)) (hb : Rs w0 1 B m cb (iL lb)) (hn9 : n ≤ 800) (hm9 : m ≤ 800) :
    Calls Try.prog 19 #[.slice A n ca, .slice B m cb] w0 fun e w' => ∃ u, e = .returned u ∧ Like w0 w' ∧ ∃ A m c, u = .slice A m c ∧ w'.ownsRow w0.heap.size 44 4 (.slice A m c) m ((parts la lb la.length).flatMap ptf) := by
  refine enter1 (env := [(0, .slice A n ca), (1, .slice B m cb)]) [.slice A n ca, .slice B m cb] Try.func19 rfl Try.ntmps19 rfl rfl ?_
  have hla := lenI ha; have hlb := lenI hb; have hcap := ha.cap; have hmax := ha.max; have hcap2 := hb.cap; have hmax2 := hb.max; have S0 := St.start w0 noM
  refine T_seq fun K1 hK1 => ?_
  refine T_region ?_
  refine L_y (y_assign rfl) rfl ?_
  refine L_nil ?_
  refine hK1 _ _ ?_
  refine T_seq fun K2 hK2 => ?_
  refine T_region ?_
  have S1 := S0.nilrow 44 4
  refine L_y (y_assign rfl) rfl ?_
  refine L_nil ?_
  refine hK2 _ _ ?_
  refine T_seq fun K3 hK3 => ?_
  refine T_seq fun K4 hK4 => ?_
  refine T_region ?_
  refine L_y (y_assign rfl) rfl ?_
  refine L_nil ?_
  refine hK4 _ _ ?_
  refine T_block ?_
  refine T_loop3 [(0, _), (1, _)] (fun (i : Nat) (A1 : Option Addr) (c1 : Nat) => [(6, .int .i64 (i : Int)), (5, .slice A1 (parts la lb i).length c1)]) (fun (i : Nat) (A1 : Option Addr) (c1 : Nat) => n - i) (fun (i : Nat) (A1 : Option Addr) (c1 : Nat) (w : World) => i ≤ n ∧ St w0 noM [row 44 4 A1 (parts la lb i).length c1 ((parts la lb i).flatMap ptf)] w) 0 none 0 (Sub.cons rfl (by first | rfl | exact congrArg (Value.int _) (by omega)) (Sub.cons rfl (by first | rfl | exact congrArg (Value.int _) (by omega)) (Sub.nil _))) (Sub.cons rfl rfl (Sub.cons rfl rfl (Sub.nil _))) ?_ ?_
  ·
    exact ⟨Nat.zero_le _, S1⟩
  ·
    intro i A1 c1 w2 hrel
    obtain ⟨hi, S2⟩ := hrel
    refine T_seq fun K5 hK5 => ?_
    refine T_seq fun K6 hK6 => ?_
    refine T_region ?_
    refine L_y (y_move rfl) rfl ?_
    refine L_y (y_move rfl) rfl ?_
    refine L_y (y_len Try.underlying22 rfl) rfl ?_
    refine L_y (y_lss rfl rfl) rfl ?_
    refine L_nil ?_
    refine hK6 _ _ ?_
    refine T_cond rfl (fun h13 => ?_) (fun h13 => ?_)
    ·
      obtain ⟨x, hx⟩ : ∃ x, la[i]? = some x := ⟨_, List.getElem?_eq_getElem (by omega)⟩
      have hz0 : (parts la lb i ++ rowP la lb i (plc (lb.take (0)) x)) = parts la lb i := by rw [List.take_zero, plc_nil]; exact List.append_nil _
      refine T_skip ?_
      refine hK5 _ _ ?_
      refine T_seq fun K7 hK7 => ?_
      refine T_block ?_
      refine T_seq fun K8 hK8 => ?_
      refine T_region ?_
      refine L_y (y_assign rfl) rfl ?_
      refine L_nil ?_
      refine hK8 _ _ ?_
      refine T_block ?_
      refine T_loop3 [(0, _), (1, _), (6, _)] (fun (k : Nat) (A2 : Option Addr) (c2 : Nat) => [(7, .int .i64 (k : Int)), (5, .slice A2 (parts la lb i ++ rowP la lb i (plc (lb.take (k)) x)).length c2)]) (fun (k : Nat) (A2 : Option Addr) (c2 : Nat) => m - k) (fun (k : Nat) (A2 : Option Addr) (c2 : Nat) (w : World) => k ≤ m ∧ St w0 noM [row 44 4 A2 (parts la lb i ++ rowP la lb i (plc (lb.take (k)) x)).length c2 ((parts la lb i ++ rowP la lb i (plc (lb.take (k)) x)).flatMap ptf)] w) 0 A1 c1 (Sub.cons rfl (by first | rfl | exact congrArg (Value.int _) (by omega) | (rw [hz0])) (Sub.cons rfl (by first | rfl | exact congrArg (Value.int _) (by omega) | (rw [hz0])) (Sub.nil _))) (Sub.cons rfl rfl (Sub.cons rfl rfl (Sub.cons rfl rfl (Sub.nil _)))) ?_ ?_
      ·
        exact ⟨Nat.zero_le _, by rw [hz0]; exact S2⟩
      ·
        intro k A2 c2 w3 hrel
        obtain ⟨hk, S3⟩ := hrel
        have hpl := parts_len2 (a := la) (b := lb) (i := i) (by omega) (by omega)
        have hrl := rowP_len la lb i (plc (lb.take k) x)
        have hpl2 := plc_le (lb.take k) x
        rw [List.length_take] at hpl2
        have hLl : (parts la lb i ++ rowP la lb i (plc (lb.take (k)) x)).length = (parts la lb i).length + (rowP la lb i (plc (lb.take k) x)).length := List.length_append
        refine T_seq fun K9 hK9 => ?_
        refine T_seq fun K10 hK10 => ?_
        refine T_region ?_
        refine L_y (y_move rfl) rfl ?_
        refine L_y (y_move rfl) rfl ?_
        refine L_y (y_len Try.underlying22 rfl) rfl ?_
        refine L_y (y_lss rfl rfl) rfl ?_
        refine L_nil ?_
        refine hK10 _ _ ?_
        refine T_cond rfl (fun h19 => ?_) (fun h19 => ?_)
        ·
          obtain ⟨y, hy⟩ : ∃ y, lb[k]? = some y := ⟨_, List.getElem?_eq_getElem (by omega)⟩
          refine T_skip ?_
          refine hK9 _ _ ?_
          refine T_seq fun K11 hK11 => ?_
          refine T_block ?_
          refine T_seq fun K12 hK12 => ?_
          refine T_seq fun K13 hK13 => ?_
          refine T_drawnL [(0, true), (1, true), (2, true), (3, true), (4, true), (5, true), (6, true), (7, true), (8, true), (9, true), (10, true), (11, true), (12, true), (13, true), (14, true), (15, true), (16, true), (17, true), (18, true), (19, true), (20, true), (21, true), (22, true), (23, true), (24, true), (25, true), (26, true), (27, true), (28, true), (29, true)] hmix (by kernel_rfl) fun w4 l4 => ?_
          have S4 := S3.like l4
          refine DL_y rfl (y_move rfl) rfl ?_
          refine DL_y rfl (y_move rfl) rfl ?_
          refine DL_y rfl (y_idx Try.underlying22 sz3 rfl rfl (S4.rd ha) (Nt.mk rfl : Nt _ (i)) (by omega)) rfl ?_
          refine DL_y rfl (y_ldr Try.underlying3 rfl rfl (S4.rd ha) (iL_get _ _ _ hx)) rfl ?_
          refine DL_y rfl (y_move rfl) rfl ?_
          refine DL_y rfl (y_move rfl) rfl ?_
          refine DL_y rfl (y_idx Try.underlying22 sz3 rfl rfl (S4.rd hb) (Nt.mk rfl : Nt _ (k)) (by omega)) rfl ?_
          refine DL_y rfl (y_ldr Try.underlying3 rfl rfl (S4.rd hb) (iL_get _ _ _ hy)) rfl ?_
          refine DL_y rfl (y_neq rfl rfl) rfl ?_
          refine DL_y rfl (y_move rfl) rfl ?_
          refine DL_split 31 rfl (fun h31 => ?_) (fun h31 => ?_)
          ·
            refine DL_gno rfl rfl rfl rfl ?_
            refine DL_gno rfl rfl rfl rfl ?_
            refine DL_gno rfl rfl rfl rfl ?_
            refine DL_gnu rfl rfl rfl rfl ?_
            refine DL_gnu rfl rfl rfl rfl ?_
            refine DL_gno rfl rfl rfl rfl ?_
            refine DL_gno rfl rfl rfl rfl ?_
            refine DL_gnu rfl rfl rfl rfl ?_
            refine DL_gnu rfl rfl rfl rfl ?_
            refine DL_gnu rfl rfl rfl rfl ?_
            refine DL_gnu rfl rfl rfl rfl ?_
            refine DL_gnu rfl rfl rfl rfl ?_
            refine DL_gnu rfl rfl rfl rfl ?_
            refine DL_gnu rfl rfl rfl rfl ?_
            refine DL_gnu rfl rfl rfl rfl ?_
            refine DL_gnu rfl rfl rfl rfl ?_
            refine DL_gnu rfl rfl rfl rfl ?_
            refine DL_gnu rfl rfl rfl rfl ?_
            refine DL_gno rfl rfl rfl rfl ?_
            refine DL_y rfl ((by first | exact y_pickT rfl rfl | exact y_pickF rfl rfl)) rfl ?_
            refine DL_nil ?_
            refine hK13 _ _ ?_
            refine T_true rfl ?_
            refine T_exit ?_
            refine hK11 _ _ ?_
            have S5 : St w0 _ [_] w4 := S4.sel [0] (by decide)
            refine T_region ?_
            refine L_y (y_move rfl) rfl ?_
            refine L_y (y_add rfl rfl (i64w (by omega))) rfl ?_
            refine L_y (y_assign rfl) rfl ?_
            refine L_nil ?_
            have hps := plc_snoc (lb.take k) y x
            rw [← tk hy] at hps
            have hle : (parts la lb i ++ rowP la lb i (plc (lb.take (k + 1)) x)) = (parts la lb i ++ rowP la lb i (plc (lb.take (k)) x)) := by rw [hps, if_neg (fun h => h31 h.symm), List.append_nil]
            rw [← hle] at S5
            refine ⟨k + 1, _, _, by omega, ⟨by omega, S5⟩, ?_⟩
            exact (Sub.cons rfl (by first | rfl | exact congrArg (Value.int _) (by omega)) (Sub.cons rfl (by first | (rw [hle]; done) | (rw [hle]; exact congrArg (Value.slice _ · _) (snoc_len _ _))) (Sub.cons rfl rfl (Sub.cons rfl rfl (Sub.cons rfl rfl (Sub.nil _))))))
          ·
            have hxy : x = y := by first | exact Decidable.not_not.1 h31 | omega
            refine DL_gyes rfl rfl rfl (y_move rfl) rfl ?_
            refine DL_gyes rfl rfl rfl (y_gtr rfl rfl) rfl ?_
            refine DL_gyes rfl rfl rfl (y_move rfl) rfl ?_
            refine DL_split 34 rfl (fun h34 => ?_) (fun h34 => ?_)
            ·
              refine DL_gyes rfl rfl rfl (y_move rfl) rfl ?_
              refine DL_gyes rfl rfl rfl (y_gtr rfl rfl) rfl ?_
              refine DL_gyes rfl rfl rfl ((by first | exact y_pickT rfl rfl | exact y_pickF rfl rfl)) rfl ?_
              refine DL_gyes rfl rfl rfl (y_move rfl) rfl ?_
              refine DL_split 38 rfl (fun h38 => ?_) (fun h38 => ?_)
              ·
                obtain ⟨x1, hx1⟩ : ∃ x1, la[i - 1]? = some x1 := ⟨_, List.getElem?_eq_getElem (by omega)⟩
                obtain ⟨y1, hy1⟩ : ∃ y1, lb[k - 1]? = some y1 := ⟨_, List.getElem?_eq_getElem (by omega)⟩
                refine DL_gyes rfl rfl rfl (y_move rfl) rfl ?_
                refine DL_gyes rfl rfl rfl (y_move rfl) rfl ?_
                refine DL_gyes rfl rfl rfl (y_sub rfl rfl (i64e (k := i - 1) (by omega))) rfl ?_
                refine DL_gyes rfl rfl rfl (y_idx Try.underlying22 sz3 rfl rfl (S4.rd ha) (Nt.mk rfl : Nt _ (i - 1)) (by omega)) rfl ?_
                refine DL_gyes rfl rfl rfl (y_ldr Try.underlying3 rfl rfl (S4.rd ha) (iL_get _ _ _ hx1)) rfl ?_
                refine DL_gyes rfl rfl rfl (y_move rfl) rfl ?_
                refine DL_gyes rfl rfl rfl (y_move rfl) rfl ?_
                refine DL_gyes rfl rfl rfl (y_sub rfl rfl (i64e (k := k - 1) (by omega))) rfl ?_
                refine DL_gyes rfl rfl rfl (y_idx Try.underlying22 sz3 rfl rfl (S4.rd hb) (Nt.mk rfl : Nt _ (k - 1)) (by omega)) rfl ?_
                refine DL_gyes rfl rfl rfl (y_ldr Try.underlying3 rfl rfl (S4.rd hb) (iL_get _ _ _ hy1)) rfl ?_
                refine DL_gyes rfl rfl rfl (y_eql rfl rfl) rfl ?_
                refine DL_gyes rfl rfl rfl ((by first | exact y_pickT rfl rfl | exact y_pickF rfl rfl)) rfl ?_
                refine DL_y rfl ((by first | exact y_pickT rfl rfl | exact y_pickF rfl rfl)) rfl ?_
                refine DL_nil ?_
                refine hK13 _ _ ?_
                refine T_cond rfl (fun h51 => ?_) (fun h51 => ?_)
                ·
                  refine T_exit ?_
                  refine hK11 _ _ ?_
                  have S6 : St w0 _ [_] w4 := S4.sel [0] (by decide)
                  refine T_region ?_
                  refine L_y (y_move rfl) rfl ?_
                  refine L_y (y_add rfl rfl (i64w (by omega))) rfl ?_
                  refine L_y (y_assign rfl) rfl ?_
                  refine L_nil ?_
                  have hps := plc_snoc (lb.take k) y x
                  rw [← tk hy] at hps
                  have hle : (parts la lb i ++ rowP la lb i (plc (lb.take (k + 1)) x)) = (parts la lb i ++ rowP la lb i (plc (lb.take (k)) x)) ++ atP la lb i k := by rw [hps, if_pos hxy.symm, List.length_take, Nat.min_eq_left (by omega)]; unfold rowP; rw [List.flatMap_append, List.flatMap_singleton, List.append_assoc]
                  have hat : atP la lb i k = [] := by unfold atP; rw [if_pos ⟨by omega, by omega, by rw [hx1, hy1, h51]⟩]
                  rw [hat, List.append_nil] at hle
                  rw [← hle] at S6
                  refine ⟨k + 1, _, _, by omega, ⟨by omega, S6⟩, ?_⟩
                  exact (Sub.cons rfl (by first | rfl | exact congrArg (Value.int _) (by omega)) (Sub.cons rfl (by first | (rw [hle]; done) | (rw [hle]; exact congrArg (Value.slice _ · _) (snoc_len _ _))) (Sub.cons rfl rfl (Sub.cons rfl rfl (Sub.cons rfl rfl (Sub.nil _))))))
                ·
                  refine T_skip ?_
                  refine hK12 _ _ ?_
                  refine T_seq fun K14 hK14 => ?_
                  have hat : atP la lb i k = [pt la lb i k] := by unfold atP; rw [if_neg (fun h => by have h9 := h.2.2; rw [hx1, hy1] at h9; exact h51 (Option.some.inj h9))]
                  refine T_region ?_
                  refine L_y (y_move rfl) rfl ?_
                  refine L_y (y_move rfl) rfl ?_
                  refine L_y (y_move rfl) rfl ?_
                  refine L_y (y_len Try.underlying22 rfl) rfl ?_
                  refine L_y (y_build rfl (show _ = some #[Value.int .i64 (i : Int), Value.int .i64 (k : Int), Value.int .i64 0, Value.int .i64 (n : Int)] by kernel_rfl)) rfl ?_
                  refine L_o (o_alloc zz44 S4 rfl fun b7 w7 hb7 S7 => ?_)
                  refine L_o (o_stW S7 1 rfl rfl rfl sz44 (by rfl) (by intro u hu; simp at hu; rcases hu with rfl | rfl | rfl | rfl <;> rfl) fun w8 S8 => ?_)
                  refine L_nil ?_
                  refine hK14 _ _ ?_
                  refine T_seq fun K15 hK15 => ?_
                  refine T_block ?_
                  refine T_loop1 [(0, _), (1, _), (5, _), (6, _), (7, _), (8, _)] (fun (nn : Nat) => []) (fun (nn : Nat) => n - nn) (fun (nn : Nat) (w : World) => ((i + nn ≤ n ∧ k + nn ≤ m) ∧ ∀ q, q < nn → la[i + q]? = lb[k + q]?) ∧ St w0 noM [row 44 4 A2 (parts la lb i ++ rowP la lb i (plc (lb.take (k)) x)).length c2 ((parts la lb i ++ rowP la lb i (plc (lb.take (k)) x)).flatMap ptf), blk b7 44 #[.int .i64 (i : Int), .int .i64 (k : Int), .int .i64 (nn : Int), .int .i64 (wr la i nn : Int)]] w) 0 (Sub.nil _) (Sub.cons rfl rfl (Sub.cons rfl rfl (Sub.cons rfl rfl (Sub.cons rfl rfl (Sub.cons rfl rfl (Sub.cons rfl rfl (Sub.nil _))))))) ?_ ?_
                  ·
                    exact ⟨⟨⟨by omega, by omega⟩, fun q hq => absurd hq (Nat.not_lt_zero _)⟩, by rw [show wr la i 0 = n from hla]; exact S8⟩
                  ·
                    intro nn w9 hrel
                    obtain ⟨⟨⟨hn1, hn2⟩, hnn⟩, S9⟩ := hrel
                    refine T_seq fun K16 hK16 => ?_
                    refine T_seq fun K17 hK17 => ?_
                    refine T_drawnL [(0, true), (1, true), (2, true), (3, true), (4, true), (5, true), (6, true), (7, true), (8, true), (9, true), (10, true), (11, true), (12, true), (13, true), (14, true), (15, true), (16, true), (17, true), (18, true), (19, true), (20, true), (21, true), (22, true), (23, true), (24, true), (25, true), (26, true), (27, true), (28, true), (29, true), (30, true), (31, true), (32, true)] hmix (by kernel_rfl) fun w10 l10 => ?_
                    have S10 := S9.like l10
                    refine DL_y rfl (y_move rfl) rfl ?_
                    refine DL_y rfl (y_fieldA 2 Try.underlying44 rfl sz3 rfl rfl rfl) rfl ?_
                    refine DL_y rfl (y_ldc Try.underlying3 rfl rfl (((S10.blk 1 rfl).cell _).trans (by rfl))) rfl ?_
                    refine DL_y rfl (y_add rfl rfl (i64e (k := i + nn) (by omega))) rfl ?_
                    refine DL_y rfl (y_move rfl) rfl ?_
                    refine DL_y rfl (y_len Try.underlying22 rfl) rfl ?_
                    refine DL_y rfl (y_lss rfl rfl) rfl ?_
                    refine DL_y rfl (y_move rfl) rfl ?_
                    refine DL_split 64 rfl (fun h64 => ?_) (fun h64 => ?_)
                    ·
                      refine DL_gyes rfl rfl rfl (y_move rfl) rfl ?_
                      refine DL_gyes rfl rfl rfl (y_fieldA 2 Try.underlying44 rfl sz3 rfl rfl rfl) rfl ?_
                      refine DL_gyes rfl rfl rfl (y_ldc Try.underlying3 rfl rfl (((S10.blk 1 rfl).cell _).trans (by rfl))) rfl ?_
                      refine DL_gyes rfl rfl rfl (y_add rfl rfl (i64e (k := k + nn) (by omega))) rfl ?_
                      refine DL_gyes rfl rfl rfl (y_move rfl) rfl ?_
                      refine DL_gyes rfl rfl rfl (y_len Try.underlying22 rfl) rfl ?_
                      refine DL_gyes rfl rfl rfl (y_lss rfl rfl) rfl ?_
                      refine DL_y rfl ((by first | exact y_pickT rfl rfl | exact y_pickF rfl rfl)) rfl ?_
                      refine DL_y rfl (y_move rfl) rfl ?_
                      refine DL_split 73 rfl (fun h73 => ?_) (fun h73 => ?_)
                      ·
                        obtain ⟨x2, hx2⟩ : ∃ x2, la[i + nn]? = some x2 := ⟨_, List.getElem?_eq_getElem (by omega)⟩
                        obtain ⟨y2, hy2⟩ : ∃ y2, lb[k + nn]? = some y2 := ⟨_, List.getElem?_eq_getElem (by omega)⟩
                        refine DL_gyes rfl rfl rfl (y_move rfl) rfl ?_
                        refine DL_gyes rfl rfl rfl (y_move rfl) rfl ?_
                        refine DL_gyes rfl rfl rfl (y_fieldA 2 Try.underlying44 rfl sz3 rfl rfl rfl) rfl ?_
                        refine DL_gyes rfl rfl rfl (y_ldc Try.underlying3 rfl rfl (((S10.blk 1 rfl).cell _).trans (by rfl))) rfl ?_
                        refine DL_gyes rfl rfl rfl (y_add rfl rfl (i64e (k := i + nn) (by omega))) rfl ?_
                        refine DL_gyes rfl rfl rfl (y_idx Try.underlying22 sz3 rfl rfl (S10.rd ha) (Nt.mk rfl : Nt _ (i + nn)) (by omega)) rfl ?_
                        refine DL_gyes rfl rfl rfl (y_ldr Try.underlying3 rfl rfl (S10.rd ha) (iL_get _ _ _ hx2)) rfl ?_
                        refine DL_gyes rfl rfl rfl (y_move rfl) rfl ?_
                        refine DL_gyes rfl rfl rfl (y_move rfl) rfl ?_
                        refine DL_gyes rfl rfl rfl (y_fieldA 2 Try.underlying44 rfl sz3 rfl rfl rfl) rfl ?_
                        refine DL_gyes rfl rfl rfl (y_ldc Try.underlying3 rfl rfl (((S10.blk 1 rfl).cell _).trans (by rfl))) rfl ?_
                        refine DL_gyes rfl rfl rfl (y_add rfl rfl (i64e (k := k + nn) (by omega))) rfl ?_
                        refine DL_gyes rfl rfl rfl (y_idx Try.underlying22 sz3 rfl rfl (S10.rd hb) (Nt.mk rfl : Nt _ (k + nn)) (by omega)) rfl ?_
                        refine DL_gyes rfl rfl rfl (y_ldr Try.underlying3 rfl rfl (S10.rd hb) (iL_get _ _ _ hy2)) rfl ?_
                        refine DL_gyes rfl rfl rfl (y_eql rfl rfl) rfl ?_
                        refine DL_y rfl ((by first | exact y_pickT rfl rfl | exact y_pickF rfl rfl)) rfl ?_
                        refine DL_nil ?_
                        refine hK17 _ _ ?_
                        refine T_cond rfl (fun h89 => ?_) (fun h89 => ?_)
                        ·
                          refine T_skip ?_
                          refine hK16 _ _ ?_
                          refine T_block ?_
                          refine T_seq fun K18 hK18 => ?_
                          refine T_region ?_
                          refine L_y (y_move rfl) rfl ?_
                          refine L_y (y_move rfl) rfl ?_
                          refine L_y (y_move rfl) rfl ?_
                          refine L_y (y_fieldA 2 Try.underlying44 rfl sz3 rfl rfl rfl) rfl ?_
                          refine L_y (y_ldc Try.underlying3 rfl rfl (((S10.blk 1 rfl).cell _).trans (by rfl))) rfl ?_
                          refine L_y (y_add rfl rfl (i64e (k := i + nn) (by omega))) rfl ?_
                          refine L_y (y_idx Try.underlying22 sz3 rfl rfl (S10.rd ha) (Nt.mk rfl : Nt _ (i + nn)) (by omega)) rfl ?_
                          refine L_y (y_ldr Try.underlying3 rfl rfl (S10.rd ha) (iL_get _ _ _ hx2)) rfl ?_
                          refine L_o (o_call Try.func41 rfl rfl (rcnt24 A n ca la x2 w10 (S10.rd ha) (by omega)) rfl rfl ?_)
                          rintro e11 w11 ⟨v11, rfl, l11, rfl⟩
                          refine ⟨_, rfl, ?_⟩
                          have S11 := S10.like l11
                          refine L_y (y_assign rfl) rfl ?_
                          refine L_nil ?_
                          refine hK18 _ _ ?_
                          refine T_seq fun K19 hK19 => ?_
                          refine T_seq fun K20 hK20 => ?_
                          refine T_region ?_
                          refine L_y (y_move rfl) rfl ?_
                          refine L_y (y_fieldA 3 Try.underlying44 rfl sz3 rfl rfl rfl) rfl ?_
                          refine L_y (y_ldc Try.underlying3 rfl rfl (((S11.blk 1 rfl).cell _).trans (by rfl))) rfl ?_
                          refine L_y (y_lss rfl rfl) rfl ?_
                          refine L_nil ?_
                          refine hK20 _ _ ?_
                          refine T_cond rfl (fun h102 => ?_) (fun h102 => ?_)
                          ·
                            refine T_region ?_
                            refine L_y (y_move rfl) rfl ?_
                            refine L_y (y_fieldA 3 Try.underlying44 rfl sz3 rfl rfl rfl) rfl ?_
                            refine L_o (o_st1 S11 1 rfl rfl rfl rfl sz3 (by simp; done) fun w12 S12 => ?_)
                            refine L_nil ?_
                            refine hK19 _ _ ?_
                            refine T_region ?_
                            refine L_y (y_fieldA 2 Try.underlying44 rfl sz3 rfl rfl rfl) rfl ?_
                            refine L_y (y_ldc Try.underlying3 rfl rfl (((S12.blk 1 rfl).cell _).trans (by rfl))) rfl ?_
                            refine L_y (y_add rfl rfl (i64e (k := nn + 1) (by omega))) rfl ?_
                            refine L_y (y_fieldA 2 Try.underlying44 rfl sz3 rfl rfl rfl) rfl ?_
                            refine L_o (o_st1 S12 1 rfl rfl rfl rfl sz3 (by simp; done) fun w13 S13 => ?_)
                            refine L_nil ?_
                            have S14 := S13.blkc 1 rfl (cs' := #[.int .i64 (i : Int), .int .i64 (k : Int), .int .i64 ((nn + 1 : Nat) : Int), .int .i64 (wr la i (nn + 1) : Int)]) (by rw [wr_hit hx2 (by omega)]; rfl)
                            refine ⟨nn + 1, by omega, ⟨⟨⟨by omega, by omega⟩, fun q hq => by rcases Nat.lt_or_ge q nn with h9 | h9; exact hnn q h9; (obtain rfl : q = nn := by omega); rw [hx2, hy2, h89]⟩, S14⟩, ?_⟩
                            exact (Sub.cons rfl rfl (Sub.cons rfl rfl (Sub.cons rfl rfl (Sub.cons rfl rfl (Sub.cons rfl rfl (Sub.cons rfl rfl (Sub.nil _)))))))
                          ·
                            refine T_skip ?_
                            refine hK19 _ _ ?_
                            refine T_region ?_
                            refine L_y (y_fieldA 2 Try.underlying44 rfl sz3 rfl rfl rfl) rfl ?_
                            refine L_y (y_ldc Try.underlying3 rfl rfl (((S11.blk 1 rfl).cell _).trans (by rfl))) rfl ?_
                            refine L_y (y_add rfl rfl (i64e (k := nn + 1) (by omega))) rfl ?_
                            refine L_y (y_fieldA 2 Try.underlying44 rfl sz3 rfl rfl rfl) rfl ?_
                            refine L_o (o_st1 S11 1 rfl rfl rfl rfl sz3 (by simp; done) fun w15 S15 => ?_)
                            refine L_nil ?_
                            have S16 := S15.blkc 1 rfl (cs' := #[.int .i64 (i : Int), .int .i64 (k : Int), .int .i64 ((nn + 1 : Nat) : Int), .int .i64 (wr la i (nn + 1) : Int)]) (by rw [wr_miss hx2 (by omega)]; rfl)
                            refine ⟨nn + 1, by omega, ⟨⟨⟨by omega, by omega⟩, fun q hq => by rcases Nat.lt_or_ge q nn with h9 | h9; exact hnn q h9; (obtain rfl : q = nn := by omega); rw [hx2, hy2, h89]⟩, S16⟩, ?_⟩
                            exact (Sub.cons rfl rfl (Sub.cons rfl rfl (Sub.cons rfl rfl (Sub.cons rfl rfl (Sub.cons rfl rfl (Sub.cons rfl rfl (Sub.nil _)))))))
                        ·
                          refine T_exit ?_
                          refine hK15 _ _ ?_
                          have hln : ln la lb i k = nn := ln_of hnn (by omega) (by omega) (.inr (.inr (fun h => by rw [hx2, hy2] at h; exact h89 (Option.some.inj h))))
                          have hpt : pt la lb i k = ⟨i, k, nn, wr la i nn⟩ := by unfold pt; rw [hln]
                          refine T_region ?_
                          refine L_y (y_move rfl) rfl ?_
                          refine L_y (y_ldW Try.underlying44 rfl sz44 rfl (S10.blk 1 rfl) (show _ = ptf (⟨i, k, nn, wr la i nn⟩) ∧ _ from ⟨rfl, rfl⟩)) rfl ?_
                          refine L_o (o_bsl [_, _, _, _] te39 zz44 S10 rfl rfl rfl rfl rfl rfl rfl rfl fun b17 w17 S17 => ?_)
                          refine L_o (o_app te39 S17 0 rfl rfl rfl (by first | exact S17.row 0 rfl | exact S17.row 2 rfl) (ptf_one2 ⟨i, k, nn, wr la i nn⟩) rfl (by omega) (by omega) fun A18 c18 w18 S18 => ?_)
                          have S18d := S18.drop (rs' := [_, _]) (.cons_cons _ (.cons_cons _ (.cons _ (.refl _))))
                          refine L_y (y_assign rfl) rfl ?_
                          refine L_nil ?_
                          refine hK11 _ _ ?_
                          have S19 : St w0 _ [_] w18 := S18d.sel [0] (by decide)
                          refine T_region ?_
                          refine L_y (y_move rfl) rfl ?_
                          refine L_y (y_add rfl rfl (i64w (by omega))) rfl ?_
                          refine L_y (y_assign rfl) rfl ?_
                          refine L_nil ?_
                          have hps := plc_snoc (lb.take k) y x
                          rw [← tk hy] at hps
                          have hle : (parts la lb i ++ rowP la lb i (plc (lb.take (k + 1)) x)) = (parts la lb i ++ rowP la lb i (plc (lb.take (k)) x)) ++ atP la lb i k := by rw [hps, if_pos hxy.symm, List.length_take, Nat.min_eq_left (by omega)]; unfold rowP; rw [List.flatMap_append, List.flatMap_singleton, List.append_assoc]
                          rw [hat] at hle
                          have S20 := S19.rowc 0 rfl (n' := (parts la lb i ++ rowP la lb i (plc (lb.take (k + 1)) x)).length) (xs' := (parts la lb i ++ rowP la lb i (plc (lb.take (k + 1)) x)).flatMap ptf) (by rw [hle]; exact (snoc_len _ _)) (by rw [hle, ← ptf_snoc, hpt])
                          refine ⟨k + 1, _, _, by omega, ⟨by omega, S20⟩, ?_⟩
                          exact (Sub.cons rfl (by first | rfl | exact congrArg (Value.int _) (by omega)) (Sub.cons rfl (by first | (rw [hle]; done) | (rw [hle]; exact congrArg (Value.slice _ · _) (snoc_len _ _))) (Sub.cons rfl rfl (Sub.cons rfl rfl (Sub.cons rfl rfl (Sub.nil _))))))
                      ·
                        refine DL_gno rfl rfl rfl rfl ?_
                        refine DL_gno rfl rfl rfl rfl ?_
                        refine DL_gno rfl rfl rfl rfl ?_
                        refine DL_gno rfl rfl rfl rfl ?_
                        refine DL_gno rfl rfl rfl rfl ?_
                        refine DL_gno rfl rfl rfl rfl ?_
                        refine DL_gno rfl rfl rfl rfl ?_
                        refine DL_gno rfl rfl rfl rfl ?_
                        refine DL_gno rfl rfl rfl rfl ?_
                        refine DL_gno rfl rfl rfl rfl ?_
                        refine DL_gno rfl rfl rfl rfl ?_
                        refine DL_gno rfl rfl rfl rfl ?_
                        refine DL_gno rfl rfl rfl rfl ?_
                        refine DL_gno rfl rfl rfl rfl ?_
                        refine DL_gno rfl rfl rfl rfl ?_
                        refine DL_y rfl ((by first | exact y_pickT rfl rfl | exact y_pickF rfl rfl)) rfl ?_
                        refine DL_nil ?_
                        refine hK17 _ _ ?_
                        refine T_false rfl ?_
                        refine T_exit ?_
                        refine hK15 _ _ ?_
                        have hln : ln la lb i k = nn := ln_of hnn (by omega) (by omega) (.inr (.inl (by omega)))
                        have hpt : pt la lb i k = ⟨i, k, nn, wr la i nn⟩ := by unfold pt; rw [hln]
                        refine T_region ?_
                        refine L_y (y_move rfl) rfl ?_
                        refine L_y (y_ldW Try.underlying44 rfl sz44 rfl (S10.blk 1 rfl) (show _ = ptf (⟨i, k, nn, wr la i nn⟩) ∧ _ from ⟨rfl, rfl⟩)) rfl ?_
                        refine L_o (o_bsl [_, _, _, _] te39 zz44 S10 rfl rfl rfl rfl rfl rfl rfl rfl fun b21 w21 S21 => ?_)
                        refine L_o (o_app te39 S21 0 rfl rfl rfl (by first | exact S21.row 0 rfl | exact S21.row 2 rfl) (ptf_one2 ⟨i, k, nn, wr la i nn⟩) rfl (by omega) (by omega) fun A22 c22 w22 S22 => ?_)
                        have S22d := S22.drop (rs' := [_, _]) (.cons_cons _ (.cons_cons _ (.cons _ (.refl _))))
                        refine L_y (y_assign rfl) rfl ?_
                        refine L_nil ?_
                        refine hK11 _ _ ?_
                        have S23 : St w0 _ [_] w22 := S22d.sel [0] (by decide)
                        refine T_region ?_
                        refine L_y (y_move rfl) rfl ?_
                        refine L_y (y_add rfl rfl (i64w (by omega))) rfl ?_
                        refine L_y (y_assign rfl) rfl ?_
                        refine L_nil ?_
                        have hps := plc_snoc (lb.take k) y x
                        rw [← tk hy] at hps
                        have hle : (parts la lb i ++ rowP la lb i (plc (lb.take (k + 1)) x)) = (parts la lb i ++ rowP la lb i (plc (lb.take (k)) x)) ++ atP la lb i k := by rw [hps, if_pos hxy.symm, List.length_take, Nat.min_eq_left (by omega)]; unfold rowP; rw [List.flatMap_append, List.flatMap_singleton, List.append_assoc]
                        rw [hat] at hle
                        have S24 := S23.rowc 0 rfl (n' := (parts la lb i ++ rowP la lb i (plc (lb.take (k + 1)) x)).length) (xs' := (parts la lb i ++ rowP la lb i (plc (lb.take (k + 1)) x)).flatMap ptf) (by rw [hle]; exact (snoc_len _ _)) (by rw [hle, ← ptf_snoc, hpt])
                        refine ⟨k + 1, _, _, by omega, ⟨by omega, S24⟩, ?_⟩
                        exact (Sub.cons rfl (by first | rfl | exact congrArg (Value.int _) (by omega)) (Sub.cons rfl (by first | (rw [hle]; done) | (rw [hle]; exact congrArg (Value.slice _ · _) (snoc_len _ _))) (Sub.cons rfl rfl (Sub.cons rfl rfl (Sub.cons rfl rfl (Sub.nil _))))))
                    ·
                      refine DL_gno rfl rfl rfl rfl ?_
                      refine DL_gno rfl rfl rfl rfl ?_
                      refine DL_gno rfl rfl rfl rfl ?_
                      refine DL_gno rfl rfl rfl rfl ?_
                      refine DL_gno rfl rfl rfl rfl ?_
                      refine DL_gno rfl rfl rfl rfl ?_
                      refine DL_gno rfl rfl rfl rfl ?_
                      refine DL_y rfl ((by first | exact y_pickT rfl rfl | exact y_pickF rfl rfl)) rfl ?_
                      refine DL_y rfl (y_move rfl) rfl ?_
                      refine DL_gno rfl rfl rfl rfl ?_
                      refine DL_gno rfl rfl rfl rfl ?_
                      refine DL_gno rfl rfl rfl rfl ?_
                      refine DL_gno rfl rfl rfl rfl ?_
                      refine DL_gno rfl rfl rfl rfl ?_
                      refine DL_gno rfl rfl rfl rfl ?_
                      refine DL_gno rfl rfl rfl rfl ?_
                      refine DL_gno rfl rfl rfl rfl ?_
                      refine DL_gno rfl rfl rfl rfl ?_
                      refine DL_gno rfl rfl rfl rfl ?_
                      refine DL_gno rfl rfl rfl rfl ?_
                      refine DL_gno rfl rfl rfl rfl ?_
                      refine DL_gno rfl rfl rfl rfl ?_
                      refine DL_gno rfl rfl rfl rfl ?_
                      refine DL_gno rfl rfl rfl rfl ?_
                      refine DL_y rfl ((by first | exact y_pickT rfl rfl | exact y_pickF rfl rfl)) rfl ?_
                      refine DL_nil ?_
                      refine hK17 _ _ ?_
                      refine T_false rfl ?_
                      refine T_exit ?_
                      refine hK15 _ _ ?_
                      have hln : ln la lb i k = nn := ln_of hnn (by omega) (by omega) (.inl (by omega))
                      have hpt : pt la lb i k = ⟨i, k, nn, wr la i nn⟩ := by unfold pt; rw [hln]
                      refine T_region ?_
                      refine L_y (y_move rfl) rfl ?_
                      refine L_y (y_ldW Try.underlying44 rfl sz44 rfl (S10.blk 1 rfl) (show _ = ptf (⟨i, k, nn, wr la i nn⟩) ∧ _ from ⟨rfl, rfl⟩)) rfl ?_
                      refine L_o (o_bsl [_, _, _, _] te39 zz44 S10 rfl rfl rfl rfl rfl rfl rfl rfl fun b25 w25 S25 => ?_)
                      refine L_o (o_app te39 S25 0 rfl rfl rfl (by first | exact S25.row 0 rfl | exact S25.row 2 rfl) (ptf_one2 ⟨i, k, nn, wr la i nn⟩) rfl (by omega) (by omega) fun A26 c26 w26 S26 => ?_)
                      have S26d := S26.drop (rs' := [_, _]) (.cons_cons _ (.cons_cons _ (.cons _ (.refl _))))
                      refine L_y (y_assign rfl) rfl ?_
                      refine L_nil ?_
                      refine hK11 _ _ ?_
                      have S27 : St w0 _ [_] w26 := S26d.sel [0] (by decide)
                      refine T_region ?_
                      refine L_y (y_move rfl) rfl ?_
                      refine L_y (y_add rfl rfl (i64w (by omega))) rfl ?_
                      refine L_y (y_assign rfl) rfl ?_
                      refine L_nil ?_
                      have hps := plc_snoc (lb.take k) y x
                      rw [← tk hy] at hps
                      have hle : (parts la lb i ++ rowP la lb i (plc (lb.take (k + 1)) x)) = (parts la lb i ++ rowP la lb i (plc (lb.take (k)) x)) ++ atP la lb i k := by rw [hps, if_pos hxy.symm, List.length_take, Nat.min_eq_left (by omega)]; unfold rowP; rw [List.flatMap_append, List.flatMap_singleton, List.append_assoc]
                      rw [hat] at hle
                      have S28 := S27.rowc 0 rfl (n' := (parts la lb i ++ rowP la lb i (plc (lb.take (k + 1)) x)).length) (xs' := (parts la lb i ++ rowP la lb i (plc (lb.take (k + 1)) x)).flatMap ptf) (by rw [hle]; exact (snoc_len _ _)) (by rw [hle, ← ptf_snoc, hpt])
                      refine ⟨k + 1, _, _, by omega, ⟨by omega, S28⟩, ?_⟩
                      exact (Sub.cons rfl (by first | rfl | exact congrArg (Value.int _) (by omega)) (Sub.cons rfl (by first | (rw [hle]; done) | (rw [hle]; exact congrArg (Value.slice _ · _) (snoc_len _ _))) (Sub.cons rfl rfl (Sub.cons rfl rfl (Sub.cons rfl rfl (Sub.nil _))))))
              ·
                refine DL_gno rfl rfl rfl rfl ?_
                refine DL_gno rfl rfl rfl rfl ?_
                refine DL_gno rfl rfl rfl rfl ?_
                refine DL_gno rfl rfl rfl rfl ?_
                refine DL_gno rfl rfl rfl rfl ?_
                refine DL_gno rfl rfl rfl rfl ?_
                refine DL_gno rfl rfl rfl rfl ?_
                refine DL_gno rfl rfl rfl rfl ?_
                refine DL_gno rfl rfl rfl rfl ?_
                refine DL_gno rfl rfl rfl rfl ?_
                refine DL_gno rfl rfl rfl rfl ?_
                refine DL_gyes rfl rfl rfl ((by first | exact y_pickT rfl rfl | exact y_pickF rfl rfl)) rfl ?_
                refine DL_y rfl ((by first | exact y_pickT rfl rfl | exact y_pickF rfl rfl)) rfl ?_
                refine DL_nil ?_
                refine hK13 _ _ ?_
                refine T_false rfl ?_
                refine T_skip ?_
                refine hK12 _ _ ?_
                refine T_seq fun K21 hK21 => ?_
                have hat : atP la lb i k = [pt la lb i k] := by unfold atP; rw [if_neg (fun h => by omega)]
                refine T_region ?_
                refine L_y (y_move rfl) rfl ?_
                refine L_y (y_move rfl) rfl ?_
                refine L_y (y_move rfl) rfl ?_
                refine L_y (y_len Try.underlying22 rfl) rfl ?_
                refine L_y (y_build rfl (show _ = some #[Value.int .i64 (i : Int), Value.int .i64 (k : Int), Value.int .i64 0, Value.int .i64 (n : Int)] by kernel_rfl)) rfl ?_
                refine L_o (o_alloc zz44 S4 rfl fun b29 w29 hb29 S29 => ?_)
                refine L_o (o_stW S29 1 rfl rfl rfl sz44 (by rfl) (by intro u hu; simp at hu; rcases hu with rfl | rfl | rfl | rfl <;> rfl) fun w30 S30 => ?_)
                refine L_nil ?_
                refine hK21 _ _ ?_
                refine T_seq fun K22 hK22 => ?_
                refine T_block ?_
                refine T_loop1 [(0, _), (1, _), (5, _), (6, _), (7, _), (8, _)] (fun (nn : Nat) => []) (fun (nn : Nat) => n - nn) (fun (nn : Nat) (w : World) => ((i + nn ≤ n ∧ k + nn ≤ m) ∧ ∀ q, q < nn → la[i + q]? = lb[k + q]?) ∧ St w0 noM [row 44 4 A2 (parts la lb i ++ rowP la lb i (plc (lb.take (k)) x)).length c2 ((parts la lb i ++ rowP la lb i (plc (lb.take (k)) x)).flatMap ptf), blk b29 44 #[.int .i64 (i : Int), .int .i64 (k : Int), .int .i64 (nn : Int), .int .i64 (wr la i nn : Int)]] w) 0 (Sub.nil _) (Sub.cons rfl rfl (Sub.cons rfl rfl (Sub.cons rfl rfl (Sub.cons rfl rfl (Sub.cons rfl rfl (Sub.cons rfl rfl (Sub.nil _))))))) ?_ ?_
                ·
                  exact ⟨⟨⟨by omega, by omega⟩, fun q hq => absurd hq (Nat.not_lt_zero _)⟩, by rw [show wr la i 0 = n from hla]; exact S30⟩
                ·
                  intro nn w31 hrel
                  obtain ⟨⟨⟨hn1, hn2⟩, hnn⟩, S31⟩ := hrel
                  refine T_seq fun K23 hK23 => ?_
                  refine T_seq fun K24 hK24 => ?_
                  refine T_drawnL [(0, true), (1, true), (2, true), (3, true), (4, true), (5, true), (6, true), (7, true), (8, true), (9, true), (10, true), (11, true), (12, true), (13, true), (14, true), (15, true), (16, true), (17, true), (18, true), (19, true), (20, true), (21, true), (22, true), (23, true), (24, true), (25, true), (26, true), (27, true), (28, true), (29, true), (30, true), (31, true), (32, true)] hmix (by kernel_rfl) fun w32 l32 => ?_
                  have S32 := S31.like l32
                  refine DL_y rfl (y_move rfl) rfl ?_
                  refine DL_y rfl (y_fieldA 2 Try.underlying44 rfl sz3 rfl rfl rfl) rfl ?_
                  refine DL_y rfl (y_ldc Try.underlying3 rfl rfl (((S32.blk 1 rfl).cell _).trans (by rfl))) rfl ?_
                  refine DL_y rfl (y_add rfl rfl (i64e (k := i + nn) (by omega))) rfl ?_
                  refine DL_y rfl (y_move rfl) rfl ?_
                  refine DL_y rfl (y_len Try.underlying22 rfl) rfl ?_
                  refine DL_y rfl (y_lss rfl rfl) rfl ?_
                  refine DL_y rfl (y_move rfl) rfl ?_
                  refine DL_split 64 rfl (fun h64 => ?_) (fun h64 => ?_)
                  ·
                    refine DL_gyes rfl rfl rfl (y_move rfl) rfl ?_
                    refine DL_gyes rfl rfl rfl (y_fieldA 2 Try.underlying44 rfl sz3 rfl rfl rfl) rfl ?_
                    refine DL_gyes rfl rfl rfl (y_ldc Try.underlying3 rfl rfl (((S32.blk 1 rfl).cell _).trans (by rfl))) rfl ?_
                    refine DL_gyes rfl rfl rfl (y_add rfl rfl (i64e (k := k + nn) (by omega))) rfl ?_
                    refine DL_gyes rfl rfl rfl (y_move rfl) rfl ?_
                    refine DL_gyes rfl rfl rfl (y_len Try.underlying22 rfl) rfl ?_
                    refine DL_gyes rfl rfl rfl (y_lss rfl rfl) rfl ?_
                    refine DL_y rfl ((by first | exact y_pickT rfl rfl | exact y_pickF rfl rfl)) rfl ?_
                    refine DL_y rfl (y_move rfl) rfl ?_
                    refine DL_split 73 rfl (fun h73 => ?_) (fun h73 => ?_)
                    ·
                      obtain ⟨x2, hx2⟩ : ∃ x2, la[i + nn]? = some x2 := ⟨_, List.getElem?_eq_getElem (by omega)⟩
                      obtain ⟨y2, hy2⟩ : ∃ y2, lb[k + nn]? = some y2 := ⟨_, List.getElem?_eq_getElem (by omega)⟩
                      refine DL_gyes rfl rfl rfl (y_move rfl) rfl ?_
                      refine DL_gyes rfl rfl rfl (y_move rfl) rfl ?_
                      refine DL_gyes rfl rfl rfl (y_fieldA 2 Try.underlying44 rfl sz3 rfl rfl rfl) rfl ?_
                      refine DL_gyes rfl rfl rfl (y_ldc Try.underlying3 rfl rfl (((S32.blk 1 rfl).cell _).trans (by rfl))) rfl ?_
                      refine DL_gyes rfl rfl rfl (y_add rfl rfl (i64e (k := i + nn) (by omega))) rfl ?_
                      refine DL_gyes rfl rfl rfl (y_idx Try.underlying22 sz3 rfl rfl (S32.rd ha) (Nt.mk rfl : Nt _ (i + nn)) (by omega)) rfl ?_
                      refine DL_gyes rfl rfl rfl (y_ldr Try.underlying3 rfl rfl (S32.rd ha) (iL_get _ _ _ hx2)) rfl ?_
                      refine DL_gyes rfl rfl rfl (y_move rfl) rfl ?_
                      refine DL_gyes rfl rfl rfl (y_move rfl) rfl ?_
                      refine DL_gyes rfl rfl rfl (y_fieldA 2 Try.underlying44 rfl sz3 rfl rfl rfl) rfl ?_
                      refine DL_gyes rfl rfl rfl (y_ldc Try.underlying3 rfl rfl (((S32.blk 1 rfl).cell _).trans (by rfl))) rfl ?_
                      refine DL_gyes rfl rfl rfl (y_add rfl rfl (i64e (k := k + nn) (by omega))) rfl ?_
                      refine DL_gyes rfl rfl rfl (y_idx Try.underlying22 sz3 rfl rfl (S32.rd hb) (Nt.mk rfl : Nt _ (k + nn)) (by omega)) rfl ?_
                      refine DL_gyes rfl rfl rfl (y_ldr Try.underlying3 rfl rfl (S32.rd hb) (iL_get _ _ _ hy2)) rfl ?_
                      refine DL_gyes rfl rfl rfl (y_eql rfl rfl) rfl ?_
                      refine DL_y rfl ((by first | exact y_pickT rfl rfl | exact y_pickF rfl rfl)) rfl ?_
                      refine DL_nil ?_
                      refine hK24 _ _ ?_
                      refine T_cond rfl (fun h89 => ?_) (fun h89 => ?_)
                      ·
                        refine T_skip ?_
                        refine hK23 _ _ ?_
                        refine T_block ?_
                        refine T_seq fun K25 hK25 => ?_
                        refine T_region ?_
                        refine L_y (y_move rfl) rfl ?_
                        refine L_y (y_move rfl) rfl ?_
                        refine L_y (y_move rfl) rfl ?_
                        refine L_y (y_fieldA 2 Try.underlying44 rfl sz3 rfl rfl rfl) rfl ?_
                        refine L_y (y_ldc Try.underlying3 rfl rfl (((S32.blk 1 rfl).cell _).trans (by rfl))) rfl ?_
                        refine L_y (y_add rfl rfl (i64e (k := i + nn) (by omega))) rfl ?_
                        refine L_y (y_idx Try.underlying22 sz3 rfl rfl (S32.rd ha) (Nt.mk rfl : Nt _ (i + nn)) (by omega)) rfl ?_
                        refine L_y (y_ldr Try.underlying3 rfl rfl (S32.rd ha) (iL_get _ _ _ hx2)) rfl ?_
                        refine L_o (o_call Try.func41 rfl rfl (rcnt24 A n ca la x2 w32 (S32.rd ha) (by omega)) rfl rfl ?_)
                        rintro e33 w33 ⟨v33, rfl, l33, rfl⟩
                        refine ⟨_, rfl, ?_⟩
                        have S33 := S32.like l33
                        refine L_y (y_assign rfl) rfl ?_
                        refine L_nil ?_
                        refine hK25 _ _ ?_
                        refine T_seq fun K26 hK26 => ?_
                        refine T_seq fun K27 hK27 => ?_
                        refine T_region ?_
                        refine L_y (y_move rfl) rfl ?_
                        refine L_y (y_fieldA 3 Try.underlying44 rfl sz3 rfl rfl rfl) rfl ?_
                        refine L_y (y_ldc Try.underlying3 rfl rfl (((S33.blk 1 rfl).cell _).trans (by rfl))) rfl ?_
                        refine L_y (y_lss rfl rfl) rfl ?_
                        refine L_nil ?_
                        refine hK27 _ _ ?_
                        refine T_cond rfl (fun h102 => ?_) (fun h102 => ?_)
                        ·
                          refine T_region ?_
                          refine L_y (y_move rfl) rfl ?_
                          refine L_y (y_fieldA 3 Try.underlying44 rfl sz3 rfl rfl rfl) rfl ?_
                          refine L_o (o_st1 S33 1 rfl rfl rfl rfl sz3 (by simp; done) fun w34 S34 => ?_)
                          refine L_nil ?_
                          refine hK26 _ _ ?_
                          refine T_region ?_
                          refine L_y (y_fieldA 2 Try.underlying44 rfl sz3 rfl rfl rfl) rfl ?_
                          refine L_y (y_ldc Try.underlying3 rfl rfl (((S34.blk 1 rfl).cell _).trans (by rfl))) rfl ?_
                          refine L_y (y_add rfl rfl (i64e (k := nn + 1) (by omega))) rfl ?_
                          refine L_y (y_fieldA 2 Try.underlying44 rfl sz3 rfl rfl rfl) rfl ?_
                          refine L_o (o_st1 S34 1 rfl rfl rfl rfl sz3 (by simp; done) fun w35 S35 => ?_)
                          refine L_nil ?_
                          have S36 := S35.blkc 1 rfl (cs' := #[.int .i64 (i : Int), .int .i64 (k : Int), .int .i64 ((nn + 1 : Nat) : Int), .int .i64 (wr la i (nn + 1) : Int)]) (by rw [wr_hit hx2 (by omega)]; rfl)
                          refine ⟨nn + 1, by omega, ⟨⟨⟨by omega, by omega⟩, fun q hq => by rcases Nat.lt_or_ge q nn with h9 | h9; exact hnn q h9; (obtain rfl : q = nn := by omega); rw [hx2, hy2, h89]⟩, S36⟩, ?_⟩
                          exact (Sub.cons rfl rfl (Sub.cons rfl rfl (Sub.cons rfl rfl (Sub.cons rfl rfl (Sub.cons rfl rfl (Sub.cons rfl rfl (Sub.nil _)))))))
                        ·
                          refine T_skip ?_
                          refine hK26 _ _ ?_
                          refine T_region ?_
                          refine L_y (y_fieldA 2 Try.underlying44 rfl sz3 rfl rfl rfl) rfl ?_
                          refine L_y (y_ldc Try.underlying3 rfl rfl (((S33.blk 1 rfl).cell _).trans (by rfl))) rfl ?_
                          refine L_y (y_add rfl rfl (i64e (k := nn + 1) (by omega))) rfl ?_
                          refine L_y (y_fieldA 2 Try.underlying44 rfl sz3 rfl rfl rfl) rfl ?_
                          refine L_o (o_st1 S33 1 rfl rfl rfl rfl sz3 (by simp; done) fun w37 S37 => ?_)
                          refine L_nil ?_
                          have S38 := S37.blkc 1 rfl (cs' := #[.int .i64 (i : Int), .int .i64 (k : Int), .int .i64 ((nn + 1 : Nat) : Int), .int .i64 (wr la i (nn + 1) : Int)]) (by rw [wr_miss hx2 (by omega)]; rfl)
                          refine ⟨nn + 1, by omega, ⟨⟨⟨by omega, by omega⟩, fun q hq => by rcases Nat.lt_or_ge q nn with h9 | h9; exact hnn q h9; (obtain rfl : q = nn := by omega); rw [hx2, hy2, h89]⟩, S38⟩, ?_⟩
                          exact (Sub.cons rfl rfl (Sub.cons rfl rfl (Sub.cons rfl rfl (Sub.cons rfl rfl (Sub.cons rfl rfl (Sub.cons rfl rfl (Sub.nil _)))))))
                      ·
                        refine T_exit ?_
                        refine hK22 _ _ ?_
                        have hln : ln la lb i k = nn := ln_of hnn (by omega) (by omega) (.inr (.inr (fun h => by rw [hx2, hy2] at h; exact h89 (Option.some.inj h))))
                        have hpt : pt la lb i k = ⟨i, k, nn, wr la i nn⟩ := by unfold pt; rw [hln]
                        refine T_region ?_
                        refine L_y (y_move rfl) rfl ?_
                        refine L_y (y_ldW Try.underlying44 rfl sz44 rfl (S32.blk 1 rfl) (show _ = ptf (⟨i, k, nn, wr la i nn⟩) ∧ _ from ⟨rfl, rfl⟩)) rfl ?_
                        refine L_o (o_bsl [_, _, _, _] te39 zz44 S32 rfl rfl rfl rfl rfl rfl rfl rfl fun b39 w39 S39 => ?_)
                        refine L_o (o_app te39 S39 0 rfl rfl rfl (by first | exact S39.row 0 rfl | exact S39.row 2 rfl) (ptf_one2 ⟨i, k, nn, wr la i nn⟩) rfl (by omega) (by omega) fun A40 c40 w40 S40 => ?_)
                        have S40d := S40.drop (rs' := [_, _]) (.cons_cons _ (.cons_cons _ (.cons _ (.refl _))))
                        refine L_y (y_assign rfl) rfl ?_
                        refine L_nil ?_
                        refine hK11 _ _ ?_
                        have S41 : St w0 _ [_] w40 := S40d.sel [0] (by decide)
                        refine T_region ?_
                        refine L_y (y_move rfl) rfl ?_
                        refine L_y (y_add rfl rfl (i64w (by omega))) rfl ?_
                        refine L_y (y_assign rfl) rfl ?_
                        refine L_nil ?_
                        have hps := plc_snoc (lb.take k) y x
                        rw [← tk hy] at hps
                        have hle : (parts la lb i ++ rowP la lb i (plc (lb.take (k + 1)) x)) = (parts la lb i ++ rowP la lb i (plc (lb.take (k)) x)) ++ atP la lb i k := by rw [hps, if_pos hxy.symm, List.length_take, Nat.min_eq_left (by omega)]; unfold rowP; rw [List.flatMap_append, List.flatMap_singleton, List.append_assoc]
                        rw [hat] at hle
                        have S42 := S41.rowc 0 rfl (n' := (parts la lb i ++ rowP la lb i (plc (lb.take (k + 1)) x)).length) (xs' := (parts la lb i ++ rowP la lb i (plc (lb.take (k + 1)) x)).flatMap ptf) (by rw [hle]; exact (snoc_len _ _)) (by rw [hle, ← ptf_snoc, hpt])
                        refine ⟨k + 1, _, _, by omega, ⟨by omega, S42⟩, ?_⟩
                        exact (Sub.cons rfl (by first | rfl | exact congrArg (Value.int _) (by omega)) (Sub.cons rfl (by first | (rw [hle]; done) | (rw [hle]; exact congrArg (Value.slice _ · _) (snoc_len _ _))) (Sub.cons rfl rfl (Sub.cons rfl rfl (Sub.cons rfl rfl (Sub.nil _))))))
                    ·
                      refine DL_gno rfl rfl rfl rfl ?_
                      refine DL_gno rfl rfl rfl rfl ?_
                      refine DL_gno rfl rfl rfl rfl ?_
                      refine DL_gno rfl rfl rfl rfl ?_
                      refine DL_gno rfl rfl rfl rfl ?_
                      refine DL_gno rfl rfl rfl rfl ?_
                      refine DL_gno rfl rfl rfl rfl ?_
                      refine DL_gno rfl rfl rfl rfl ?_
                      refine DL_gno rfl rfl rfl rfl ?_
                      refine DL_gno rfl rfl rfl rfl ?_
                      refine DL_gno rfl rfl rfl rfl ?_
                      refine DL_gno rfl rfl rfl rfl ?_
                      refine DL_gno rfl rfl rfl rfl ?_
                      refine DL_gno rfl rfl rfl rfl ?_
                      refine DL_gno rfl rfl rfl rfl ?_
                      refine DL_y rfl ((by first | exact y_pickT rfl rfl | exact y_pickF rfl rfl)) rfl ?_
                      refine DL_nil ?_
                      refine hK24 _ _ ?_
                      refine T_false rfl ?_
                      refine T_exit ?_
                      refine hK22 _ _ ?_
                      have hln : ln la lb i k = nn := ln_of hnn (by omega) (by omega) (.inr (.inl (by omega)))
                      have hpt : pt la lb i k = ⟨i, k, nn, wr la i nn⟩ := by unfold pt; rw [hln]
                      refine T_region ?_
                      refine L_y (y_move rfl) rfl ?_
                      refine L_y (y_ldW Try.underlying44 rfl sz44 rfl (S32.blk 1 rfl) (show _ = ptf (⟨i, k, nn, wr la i nn⟩) ∧ _ from ⟨rfl, rfl⟩)) rfl ?_
                      refine L_o (o_bsl [_, _, _, _] te39 zz44 S32 rfl rfl rfl rfl rfl rfl rfl rfl fun b43 w43 S43 => ?_)
                      refine L_o (o_app te39 S43 0 rfl rfl rfl (by first | exact S43.row 0 rfl | exact S43.row 2 rfl) (ptf_one2 ⟨i, k, nn, wr la i nn⟩) rfl (by omega) (by omega) fun A44 c44 w44 S44 => ?_)
                      have S44d := S44.drop (rs' := [_, _]) (.cons_cons _ (.cons_cons _ (.cons _ (.refl _))))
                      refine L_y (y_assign rfl) rfl ?_
                      refine L_nil ?_
                      refine hK11 _ _ ?_
                      have S45 : St w0 _ [_] w44 := S44d.sel [0] (by decide)
                      refine T_region ?_
                      refine L_y (y_move rfl) rfl ?_
                      refine L_y (y_add rfl rfl (i64w (by omega))) rfl ?_
                      refine L_y (y_assign rfl) rfl ?_
                      refine L_nil ?_
                      have hps := plc_snoc (lb.take k) y x
                      rw [← tk hy] at hps
                      have hle : (parts la lb i ++ rowP la lb i (plc (lb.take (k + 1)) x)) = (parts la lb i ++ rowP la lb i (plc (lb.take (k)) x)) ++ atP la lb i k := by rw [hps, if_pos hxy.symm, List.length_take, Nat.min_eq_left (by omega)]; unfold rowP; rw [List.flatMap_append, List.flatMap_singleton, List.append_assoc]
                      rw [hat] at hle
                      have S46 := S45.rowc 0 rfl (n' := (parts la lb i ++ rowP la lb i (plc (lb.take (k + 1)) x)).length) (xs' := (parts la lb i ++ rowP la lb i (plc (lb.take (k + 1)) x)).flatMap ptf) (by rw [hle]; exact (snoc_len _ _)) (by rw [hle, ← ptf_snoc, hpt])
                      refine ⟨k + 1, _, _, by omega, ⟨by omega, S46⟩, ?_⟩
                      exact (Sub.cons rfl (by first | rfl | exact congrArg (Value.int _) (by omega)) (Sub.cons rfl (by first | (rw [hle]; done) | (rw [hle]; exact congrArg (Value.slice _ · _) (snoc_len _ _))) (Sub.cons rfl rfl (Sub.cons rfl rfl (Sub.cons rfl rfl (Sub.nil _))))))
                  ·
                    refine DL_gno rfl rfl rfl rfl ?_
                    refine DL_gno rfl rfl rfl rfl ?_
                    refine DL_gno rfl rfl rfl rfl ?_
                    refine DL_gno rfl rfl rfl rfl ?_
                    refine DL_gno rfl rfl rfl rfl ?_
                    refine DL_gno rfl rfl rfl rfl ?_
                    refine DL_gno rfl rfl rfl rfl ?_
                    refine DL_y rfl ((by first | exact y_pickT rfl rfl | exact y_pickF rfl rfl)) rfl ?_
                    refine DL_y rfl (y_move rfl) rfl ?_
                    refine DL_gno rfl rfl rfl rfl ?_
                    refine DL_gno rfl rfl rfl rfl ?_
                    refine DL_gno rfl rfl rfl rfl ?_
                    refine DL_gno rfl rfl rfl rfl ?_
                    refine DL_gno rfl rfl rfl rfl ?_
                    refine DL_gno rfl rfl rfl rfl ?_
                    refine DL_gno rfl rfl rfl rfl ?_
                    refine DL_gno rfl rfl rfl rfl ?_
                    refine DL_gno rfl rfl rfl rfl ?_
                    refine DL_gno rfl rfl rfl rfl ?_
                    refine DL_gno rfl rfl rfl rfl ?_
                    refine DL_gno rfl rfl rfl rfl ?_
                    refine DL_gno rfl rfl rfl rfl ?_
                    refine DL_gno rfl rfl rfl rfl ?_
                    refine DL_gno rfl rfl rfl rfl ?_
                    refine DL_y rfl ((by first | exact y_pickT rfl rfl | exact y_pickF rfl rfl)) rfl ?_
                    refine DL_nil ?_
                    refine hK24 _ _ ?_
                    refine T_false rfl ?_
                    refine T_exit ?_
                    refine hK22 _ _ ?_
                    have hln : ln la lb i k = nn := ln_of hnn (by omega) (by omega) (.inl (by omega))
                    have hpt : pt la lb i k = ⟨i, k, nn, wr la i nn⟩ := by unfold pt; rw [hln]
                    refine T_region ?_
                    refine L_y (y_move rfl) rfl ?_
                    refine L_y (y_ldW Try.underlying44 rfl sz44 rfl (S32.blk 1 rfl) (show _ = ptf (⟨i, k, nn, wr la i nn⟩) ∧ _ from ⟨rfl, rfl⟩)) rfl ?_
                    refine L_o (o_bsl [_, _, _, _] te39 zz44 S32 rfl rfl rfl rfl rfl rfl rfl rfl fun b47 w47 S47 => ?_)
                    refine L_o (o_app te39 S47 0 rfl rfl rfl (by first | exact S47.row 0 rfl | exact S47.row 2 rfl) (ptf_one2 ⟨i, k, nn, wr la i nn⟩) rfl (by omega) (by omega) fun A48 c48 w48 S48 => ?_)
                    have S48d := S48.drop (rs' := [_, _]) (.cons_cons _ (.cons_cons _ (.cons _ (.refl _))))
                    refine L_y (y_assign rfl) rfl ?_
                    refine L_nil ?_
                    refine hK11 _ _ ?_
                    have S49 : St w0 _ [_] w48 := S48d.sel [0] (by decide)
                    refine T_region ?_
                    refine L_y (y_move rfl) rfl ?_
                    refine L_y (y_add rfl rfl (i64w (by omega))) rfl ?_
                    refine L_y (y_assign rfl) rfl ?_
                    refine L_nil ?_
                    have hps := plc_snoc (lb.take k) y x
                    rw [← tk hy] at hps
                    have hle : (parts la lb i ++ rowP la lb i (plc (lb.take (k + 1)) x)) = (parts la lb i ++ rowP la lb i (plc (lb.take (k)) x)) ++ atP la lb i k := by rw [hps, if_pos hxy.symm, List.length_take, Nat.min_eq_left (by omega)]; unfold rowP; rw [List.flatMap_append, List.flatMap_singleton, List.append_assoc]
                    rw [hat] at hle
                    have S50 := S49.rowc 0 rfl (n' := (parts la lb i ++ rowP la lb i (plc (lb.take (k + 1)) x)).length) (xs' := (parts la lb i ++ rowP la lb i (plc (lb.take (k + 1)) x)).flatMap ptf) (by rw [hle]; exact (snoc_len _ _)) (by rw [hle, ← ptf_snoc, hpt])
                    refine ⟨k + 1, _, _, by omega, ⟨by omega, S50⟩, ?_⟩
                    exact (Sub.cons rfl (by first | rfl | exact congrArg (Value.int _) (by omega)) (Sub.cons rfl (by first | (rw [hle]; done) | (rw [hle]; exact congrArg (Value.slice _ · _) (snoc_len _ _))) (Sub.cons rfl rfl (Sub.cons rfl rfl (Sub.cons rfl rfl (Sub.nil _))))))
            ·
              refine DL_gno rfl rfl rfl rfl ?_
              refine DL_gno rfl rfl rfl rfl ?_
              refine DL_gyes rfl rfl rfl ((by first | exact y_pickT rfl rfl | exact y_pickF rfl rfl)) rfl ?_
              refine DL_gyes rfl rfl rfl (y_move rfl) rfl ?_
              refine DL_gno rfl rfl rfl rfl ?_
              refine DL_gno rfl rfl rfl rfl ?_
              refine DL_gno rfl rfl rfl rfl ?_
              refine DL_gno rfl rfl rfl rfl ?_
              refine DL_gno rfl rfl rfl rfl ?_
              refine DL_gno rfl rfl rfl rfl ?_
              refine DL_gno rfl rfl rfl rfl ?_
              refine DL_gno rfl rfl rfl rfl ?_
              refine DL_gno rfl rfl rfl rfl ?_
              refine DL_gno rfl rfl rfl rfl ?_
              refine DL_gno rfl rfl rfl rfl ?_
              refine DL_gyes rfl rfl rfl ((by first | exact y_pickT rfl rfl | exact y_pickF rfl rfl)) rfl ?_
              refine DL_y rfl ((by first | exact y_pickT rfl rfl | exact y_pickF rfl rfl)) rfl ?_
              refine DL_nil ?_
              refine hK13 _ _ ?_
              refine T_false rfl ?_
              refine T_skip ?_
              refine hK12 _ _ ?_
              refine T_seq fun K28 hK28 => ?_
              have hat : atP la lb i k = [pt la lb i k] := by unfold atP; rw [if_neg (fun h => by omega)]
              refine T_region ?_
              refine L_y (y_move rfl) rfl ?_
              refine L_y (y_move rfl) rfl ?_
              refine L_y (y_move rfl) rfl ?_
              refine L_y (y_len Try.underlying22 rfl) rfl ?_
              refine L_y (y_build rfl (show _ = some #[Value.int .i64 (i : Int), Value.int .i64 (k : Int), Value.int .i64 0, Value.int .i64 (n : Int)] by kernel_rfl)) rfl ?_
              refine L_o (o_alloc zz44 S4 rfl fun b51 w51 hb51 S51 => ?_)
              refine L_o (o_stW S51 1 rfl rfl rfl sz44 (by rfl) (by intro u hu; simp at hu; rcases hu with rfl | rfl | rfl | rfl <;> rfl) fun w52 S52 => ?_)
              refine L_nil ?_
              refine hK28 _ _ ?_
              refine T_seq fun K29 hK29 => ?_
              refine T_block ?_
              refine T_loop1 [(0, _), (1, _), (5, _), (6, _), (7, _), (8, _)] (fun (nn : Nat) => []) (fun (nn : Nat) => n - nn) (fun (nn : Nat) (w : World) => ((i + nn ≤ n ∧ k + nn ≤ m) ∧ ∀ q, q < nn → la[i + q]? = lb[k + q]?) ∧ St w0 noM [row 44 4 A2 (parts la lb i ++ rowP la lb i (plc (lb.take (k)) x)).length c2 ((parts la lb i ++ rowP la lb i (plc (lb.take (k)) x)).flatMap ptf), blk b51 44 #[.int .i64 (i : Int), .int .i64 (k : Int), .int .i64 (nn : Int), .int .i64 (wr la i nn : Int)]] w) 0 (Sub.nil _) (Sub.cons rfl rfl (Sub.cons rfl rfl (Sub.cons rfl rfl (Sub.cons rfl rfl (Sub.cons rfl rfl (Sub.cons rfl rfl (Sub.nil _))))))) ?_ ?_
              ·
                exact ⟨⟨⟨by omega, by omega⟩, fun q hq => absurd hq (Nat.not_lt_zero _)⟩, by rw [show wr la i 0 = n from hla]; exact S52⟩
              ·
                intro nn w53 hrel
                obtain ⟨⟨⟨hn1, hn2⟩, hnn⟩, S53⟩ := hrel
                refine T_seq fun K30 hK30 => ?_
                refine T_seq fun K31 hK31 => ?_
                refine T_drawnL [(0, true), (1, true), (2, true), (3, true), (4, true), (5, true), (6, true), (7, true), (8, true), (9, true), (10, true), (11, true), (12, true), (13, true), (14, true), (15, true), (16, true), (17, true), (18, true), (19, true), (20, true), (21, true), (22, true), (23, true), (24, true), (25, true), (26, true), (27, true), (28, true), (29, true), (30, true), (31, true), (32, true)] hmix (by kernel_rfl) fun w54 l54 => ?_
                have S54 := S53.like l54
                refine DL_y rfl (y_move rfl) rfl ?_
                refine DL_y rfl (y_fieldA 2 Try.underlying44 rfl sz3 rfl rfl rfl) rfl ?_
                refine DL_y rfl (y_ldc Try.underlying3 rfl rfl (((S54.blk 1 rfl).cell _).trans (by rfl))) rfl ?_
                refine DL_y rfl (y_add rfl rfl (i64e (k := i + nn) (by omega))) rfl ?_
                refine DL_y rfl (y_move rfl) rfl ?_
                refine DL_y rfl (y_len Try.underlying22 rfl) rfl ?_
                refine DL_y rfl (y_lss rfl rfl) rfl ?_
                refine DL_y rfl (y_move rfl) rfl ?_
                refine DL_split 64 rfl (fun h64 => ?_) (fun h64 => ?_)
                ·
                  refine DL_gyes rfl rfl rfl (y_move rfl) rfl ?_
                  refine DL_gyes rfl rfl rfl (y_fieldA 2 Try.underlying44 rfl sz3 rfl rfl rfl) rfl ?_
                  refine DL_gyes rfl rfl rfl (y_ldc Try.underlying3 rfl rfl (((S54.blk 1 rfl).cell _).trans (by rfl))) rfl ?_
                  refine DL_gyes rfl rfl rfl (y_add rfl rfl (i64e (k := k + nn) (by omega))) rfl ?_
                  refine DL_gyes rfl rfl rfl (y_move rfl) rfl ?_
                  refine DL_gyes rfl rfl rfl (y_len Try.underlying22 rfl) rfl ?_
                  refine DL_gyes rfl rfl rfl (y_lss rfl rfl) rfl ?_
                  refine DL_y rfl ((by first | exact y_pickT rfl rfl | exact y_pickF rfl rfl)) rfl ?_
                  refine DL_y rfl (y_move rfl) rfl ?_
                  refine DL_split 73 rfl (fun h73 => ?_) (fun h73 => ?_)
                  ·
                    obtain ⟨x2, hx2⟩ : ∃ x2, la[i + nn]? = some x2 := ⟨_, List.getElem?_eq_getElem (by omega)⟩
                    obtain ⟨y2, hy2⟩ : ∃ y2, lb[k + nn]? = some y2 := ⟨_, List.getElem?_eq_getElem (by omega)⟩
                    refine DL_gyes rfl rfl rfl (y_move rfl) rfl ?_
                    refine DL_gyes rfl rfl rfl (y_move rfl) rfl ?_
                    refine DL_gyes rfl rfl rfl (y_fieldA 2 Try.underlying44 rfl sz3 rfl rfl rfl) rfl ?_
                    refine DL_gyes rfl rfl rfl (y_ldc Try.underlying3 rfl rfl (((S54.blk 1 rfl).cell _).trans (by rfl))) rfl ?_
                    refine DL_gyes rfl rfl rfl (y_add rfl rfl (i64e (k := i + nn) (by omega))) rfl ?_
                    refine DL_gyes rfl rfl rfl (y_idx Try.underlying22 sz3 rfl rfl (S54.rd ha) (Nt.mk rfl : Nt _ (i + nn)) (by omega)) rfl ?_
                    refine DL_gyes rfl rfl rfl (y_ldr Try.underlying3 rfl rfl (S54.rd ha) (iL_get _ _ _ hx2)) rfl ?_
                    refine DL_gyes rfl rfl rfl (y_move rfl) rfl ?_
                    refine DL_gyes rfl rfl rfl (y_move rfl) rfl ?_
                    refine DL_gyes rfl rfl rfl (y_fieldA 2 Try.underlying44 rfl sz3 rfl rfl rfl) rfl ?_
                    refine DL_gyes rfl rfl rfl (y_ldc Try.underlying3 rfl rfl (((S54.blk 1 rfl).cell _).trans (by rfl))) rfl ?_
                    refine DL_gyes rfl rfl rfl (y_add rfl rfl (i64e (k := k + nn) (by omega))) rfl ?_
                    refine DL_gyes rfl rfl rfl (y_idx Try.underlying22 sz3 rfl rfl (S54.rd hb) (Nt.mk rfl : Nt _ (k + nn)) (by omega)) rfl ?_
                    refine DL_gyes rfl rfl rfl (y_ldr Try.underlying3 rfl rfl (S54.rd hb) (iL_get _ _ _ hy2)) rfl ?_
                    refine DL_gyes rfl rfl rfl (y_eql rfl rfl) rfl ?_
                    refine DL_y rfl ((by first | exact y_pickT rfl rfl | exact y_pickF rfl rfl)) rfl ?_
                    refine DL_nil ?_
                    refine hK31 _ _ ?_
                    refine T_cond rfl (fun h89 => ?_) (fun h89 => ?_)
                    ·
                      refine T_skip ?_
                      refine hK30 _ _ ?_
                      refine T_block ?_
                      refine T_seq fun K32 hK32 => ?_
                      refine T_region ?_
                      refine L_y (y_move rfl) rfl ?_
                      refine L_y (y_move rfl) rfl ?_
                      refine L_y (y_move rfl) rfl ?_
                      refine L_y (y_fieldA 2 Try.underlying44 rfl sz3 rfl rfl rfl) rfl ?_
                      refine L_y (y_ldc Try.underlying3 rfl rfl (((S54.blk 1 rfl).cell _).trans (by rfl))) rfl ?_
                      refine L_y (y_add rfl rfl (i64e (k := i + nn) (by omega))) rfl ?_
                      refine L_y (y_idx Try.underlying22 sz3 rfl rfl (S54.rd ha) (Nt.mk rfl : Nt _ (i + nn)) (by omega)) rfl ?_
                      refine L_y (y_ldr Try.underlying3 rfl rfl (S54.rd ha) (iL_get _ _ _ hx2)) rfl ?_
                      refine L_o (o_call Try.func41 rfl rfl (rcnt24 A n ca la x2 w54 (S54.rd ha) (by omega)) rfl rfl ?_)
                      rintro e55 w55 ⟨v55, rfl, l55, rfl⟩
                      refine ⟨_, rfl, ?_⟩
                      have S55 := S54.like l55
                      refine L_y (y_assign rfl) rfl ?_
                      refine L_nil ?_
                      refine hK32 _ _ ?_
                      refine T_seq fun K33 hK33 => ?_
                      refine T_seq fun K34 hK34 => ?_
                      refine T_region ?_
                      refine L_y (y_move rfl) rfl ?_
                      refine L_y (y_fieldA 3 Try.underlying44 rfl sz3 rfl rfl rfl) rfl ?_
                      refine L_y (y_ldc Try.underlying3 rfl rfl (((S55.blk 1 rfl).cell _).trans (by rfl))) rfl ?_
                      refine L_y (y_lss rfl rfl) rfl ?_
                      refine L_nil ?_
                      refine hK34 _ _ ?_
                      refine T_cond rfl (fun h102 => ?_) (fun h102 => ?_)
                      ·
                        refine T_region ?_
                        refine L_y (y_move rfl) rfl ?_
                        refine L_y (y_fieldA 3 Try.underlying44 rfl sz3 rfl rfl rfl) rfl ?_
                        refine L_o (o_st1 S55 1 rfl rfl rfl rfl sz3 (by simp; done) fun w56 S56 => ?_)
                        refine L_nil ?_
                        refine hK33 _ _ ?_
                        refine T_region ?_
                        refine L_y (y_fieldA 2 Try.underlying44 rfl sz3 rfl rfl rfl) rfl ?_
                        refine L_y (y_ldc Try.underlying3 rfl rfl (((S56.blk 1 rfl).cell _).trans (by rfl))) rfl ?_
                        refine L_y (y_add rfl rfl (i64e (k := nn + 1) (by omega))) rfl ?_
                        refine L_y (y_fieldA 2 Try.underlying44 rfl sz3 rfl rfl rfl) rfl ?_
                        refine L_o (o_st1 S56 1 rfl rfl rfl rfl sz3 (by simp; done) fun w57 S57 => ?_)
                        refine L_nil ?_
                        have S58 := S57.blkc 1 rfl (cs' := #[.int .i64 (i : Int), .int .i64 (k : Int), .int .i64 ((nn + 1 : Nat) : Int), .int .i64 (wr la i (nn + 1) : Int)]) (by rw [wr_hit hx2 (by omega)]; rfl)
                        refine ⟨nn + 1, by omega, ⟨⟨⟨by omega, by omega⟩, fun q hq => by rcases Nat.lt_or_ge q nn with h9 | h9; exact hnn q h9; (obtain rfl : q = nn := by omega); rw [hx2, hy2, h89]⟩, S58⟩, ?_⟩
                        exact (Sub.cons rfl rfl (Sub.cons rfl rfl (Sub.cons rfl rfl (Sub.cons rfl rfl (Sub.cons rfl rfl (Sub.cons rfl rfl (Sub.nil _)))))))
                      ·
                        refine T_skip ?_
                        refine hK33 _ _ ?_
                        refine T_region ?_
                        refine L_y (y_fieldA 2 Try.underlying44 rfl sz3 rfl rfl rfl) rfl ?_
                        refine L_y (y_ldc Try.underlying3 rfl rfl (((S55.blk 1 rfl).cell _).trans (by rfl))) rfl ?_
                        refine L_y (y_add rfl rfl (i64e (k := nn + 1) (by omega))) rfl ?_
                        refine L_y (y_fieldA 2 Try.underlying44 rfl sz3 rfl rfl rfl) rfl ?_
                        refine L_o (o_st1 S55 1 rfl rfl rfl rfl sz3 (by simp; done) fun w59 S59 => ?_)
                        refine L_nil ?_
                        have S60 := S59.blkc 1 rfl (cs' := #[.int .i64 (i : Int), .int .i64 (k : Int), .int .i64 ((nn + 1 : Nat) : Int), .int .i64 (wr la i (nn + 1) : Int)]) (by rw [wr_miss hx2 (by omega)]; rfl)
                        refine ⟨nn + 1, by omega, ⟨⟨⟨by omega, by omega⟩, fun q hq => by rcases Nat.lt_or_ge q nn with h9 | h9; exact hnn q h9; (obtain rfl : q = nn := by omega); rw [hx2, hy2, h89]⟩, S60⟩, ?_⟩
                        exact (Sub.cons rfl rfl (Sub.cons rfl rfl (Sub.cons rfl rfl (Sub.cons rfl rfl (Sub.cons rfl rfl (Sub.cons rfl rfl (Sub.nil _)))))))
                    ·
                      refine T_exit ?_
                      refine hK29 _ _ ?_
                      have hln : ln la lb i k = nn := ln_of hnn (by omega) (by omega) (.inr (.inr (fun h => by rw [hx2, hy2] at h; exact h89 (Option.some.inj h))))
                      have hpt : pt la lb i k = ⟨i, k, nn, wr la i nn⟩ := by unfold pt; rw [hln]
                      refine T_region ?_
                      refine L_y (y_move rfl) rfl ?_
                      refine L_y (y_ldW Try.underlying44 rfl sz44 rfl (S54.blk 1 rfl) (show _ = ptf (⟨i, k, nn, wr la i nn⟩) ∧ _ from ⟨rfl, rfl⟩)) rfl ?_
                      refine L_o (o_bsl [_, _, _, _] te39 zz44 S54 rfl rfl rfl rfl rfl rfl rfl rfl fun b61 w61 S61 => ?_)
                      refine L_o (o_app te39 S61 0 rfl rfl rfl (by first | exact S61.row 0 rfl | exact S61.row 2 rfl) (ptf_one2 ⟨i, k, nn, wr la i nn⟩) rfl (by omega) (by omega) fun A62 c62 w62 S62 => ?_)
                      have S62d := S62.drop (rs' := [_, _]) (.cons_cons _ (.cons_cons _ (.cons _ (.refl _))))
                      refine L_y (y_assign rfl) rfl ?_
                      refine L_nil ?_
                      refine hK11 _ _ ?_
                      have S63 : St w0 _ [_] w62 := S62d.sel [0] (by decide)
                      refine T_region ?_
                      refine L_y (y_move rfl) rfl ?_
                      refine L_y (y_add rfl rfl (i64w (by omega))) rfl ?_
                      refine L_y (y_assign rfl) rfl ?_
                      refine L_nil ?_
                      have hps := plc_snoc (lb.take k) y x
                      rw [← tk hy] at hps
                      have hle : (parts la lb i ++ rowP la lb i (plc (lb.take (k + 1)) x)) = (parts la lb i ++ rowP la lb i (plc (lb.take (k)) x)) ++ atP la lb i k := by rw [hps, if_pos hxy.symm, List.length_take, Nat.min_eq_left (by omega)]; unfold rowP; rw [List.flatMap_append, List.flatMap_singleton, List.append_assoc]
                      rw [hat] at hle
                      have S64 := S63.rowc 0 rfl (n' := (parts la lb i ++ rowP la lb i (plc (lb.take (k + 1)) x)).length) (xs' := (parts la lb i ++ rowP la lb i (plc (lb.take (k + 1)) x)).flatMap ptf) (by rw [hle]; exact (snoc_len _ _)) (by rw [hle, ← ptf_snoc, hpt])
                      refine ⟨k + 1, _, _, by omega, ⟨by omega, S64⟩, ?_⟩
                      exact (Sub.cons rfl (by first | rfl | exact congrArg (Value.int _) (by omega)) (Sub.cons rfl (by first | (rw [hle]; done) | (rw [hle]; exact congrArg (Value.slice _ · _) (snoc_len _ _))) (Sub.cons rfl rfl (Sub.cons rfl rfl (Sub.cons rfl rfl (Sub.nil _))))))
                  ·
                    refine DL_gno rfl rfl rfl rfl ?_
                    refine DL_gno rfl rfl rfl rfl ?_
                    refine DL_gno rfl rfl rfl rfl ?_
                    refine DL_gno rfl rfl rfl rfl ?_
                    refine DL_gno rfl rfl rfl rfl ?_
                    refine DL_gno rfl rfl rfl rfl ?_
                    refine DL_gno rfl rfl rfl rfl ?_
                    refine DL_gno rfl rfl rfl rfl ?_
                    refine DL_gno rfl rfl rfl rfl ?_
                    refine DL_gno rfl rfl rfl rfl ?_
                    refine DL_gno rfl rfl rfl rfl ?_
                    refine DL_gno rfl rfl rfl rfl ?_
                    refine DL_gno rfl rfl rfl rfl ?_
                    refine DL_gno rfl rfl rfl rfl ?_
                    refine DL_gno rfl rfl rfl rfl ?_
                    refine DL_y rfl ((by first | exact y_pickT rfl rfl | exact y_pickF rfl rfl)) rfl ?_
                    refine DL_nil ?_
                    refine hK31 _ _ ?_
                    refine T_false rfl ?_
                    refine T_exit ?_
                    refine hK29 _ _ ?_
                    have hln : ln la lb i k = nn := ln_of hnn (by omega) (by omega) (.inr (.inl (by omega)))
                    have hpt : pt la lb i k = ⟨i, k, nn, wr la i nn⟩ := by unfold pt; rw [hln]
                    refine T_region ?_
                    refine L_y (y_move rfl) rfl ?_
                    refine L_y (y_ldW Try.underlying44 rfl sz44 rfl (S54.blk 1 rfl) (show _ = ptf (⟨i, k, nn, wr la i nn⟩) ∧ _ from ⟨rfl, rfl⟩)) rfl ?_
                    refine L_o (o_bsl [_, _, _, _] te39 zz44 S54 rfl rfl rfl rfl rfl rfl rfl rfl fun b65 w65 S65 => ?_)
                    refine L_o (o_app te39 S65 0 rfl rfl rfl (by first | exact S65.row 0 rfl | exact S65.row 2 rfl) (ptf_one2 ⟨i, k, nn, wr la i nn⟩) rfl (by omega) (by omega) fun A66 c66 w66 S66 => ?_)
                    have S66d := S66.drop (rs' := [_, _]) (.cons_cons _ (.cons_cons _ (.cons _ (.refl _))))
                    refine L_y (y_assign rfl) rfl ?_
                    refine L_nil ?_
                    refine hK11 _ _ ?_
                    have S67 : St w0 _ [_] w66 := S66d.sel [0] (by decide)
                    refine T_region ?_
                    refine L_y (y_move rfl) rfl ?_
                    refine L_y (y_add rfl rfl (i64w (by omega))) rfl ?_
                    refine L_y (y_assign rfl) rfl ?_
                    refine L_nil ?_
                    have hps := plc_snoc (lb.take k) y x
                    rw [← tk hy] at hps
                    have hle : (parts la lb i ++ rowP la lb i (plc (lb.take (k + 1)) x)) = (parts la lb i ++ rowP la lb i (plc (lb.take (k)) x)) ++ atP la lb i k := by rw [hps, if_pos hxy.symm, List.length_take, Nat.min_eq_left (by omega)]; unfold rowP; rw [List.flatMap_append, List.flatMap_singleton, List.append_assoc]
                    rw [hat] at hle
                    have S68 := S67.rowc 0 rfl (n' := (parts la lb i ++ rowP la lb i (plc (lb.take (k + 1)) x)).length) (xs' := (parts la lb i ++ rowP la lb i (plc (lb.take (k + 1)) x)).flatMap ptf) (by rw [hle]; exact (snoc_len _ _)) (by rw [hle, ← ptf_snoc, hpt])
                    refine ⟨k + 1, _, _, by omega, ⟨by omega, S68⟩, ?_⟩
                    exact (Sub.cons rfl (by first | rfl | exact congrArg (Value.int _) (by omega)) (Sub.cons rfl (by first | (rw [hle]; done) | (rw [hle]; exact congrArg (Value.slice _ · _) (snoc_len _ _))) (Sub.cons rfl rfl (Sub.cons rfl rfl (Sub.cons rfl rfl (Sub.nil _))))))
                ·
                  refine DL_gno rfl rfl rfl rfl ?_
                  refine DL_gno rfl rfl rfl rfl ?_
                  refine DL_gno rfl rfl rfl rfl ?_
                  refine DL_gno rfl rfl rfl rfl ?_
                  refine DL_gno rfl rfl rfl rfl ?_
                  refine DL_gno rfl rfl rfl rfl ?_
                  refine DL_gno rfl rfl rfl rfl ?_
                  refine DL_y rfl ((by first | exact y_pickT rfl rfl | exact y_pickF rfl rfl)) rfl ?_
                  refine DL_y rfl (y_move rfl) rfl ?_
                  refine DL_gno rfl rfl rfl rfl ?_
                  refine DL_gno rfl rfl rfl rfl ?_
                  refine DL_gno rfl rfl rfl rfl ?_
                  refine DL_gno rfl rfl rfl rfl ?_
                  refine DL_gno rfl rfl rfl rfl ?_
                  refine DL_gno rfl rfl rfl rfl ?_
                  refine DL_gno rfl rfl rfl rfl ?_
                  refine DL_gno rfl rfl rfl rfl ?_
                  refine DL_gno rfl rfl rfl rfl ?_
                  refine DL_gno rfl rfl rfl rfl ?_
                  refine DL_gno rfl rfl rfl rfl ?_
                  refine DL_gno rfl rfl rfl rfl ?_
                  refine DL_gno rfl rfl rfl rfl ?_
                  refine DL_gno rfl rfl rfl rfl ?_
                  refine DL_gno rfl rfl rfl rfl ?_
                  refine DL_y rfl ((by first | exact y_pickT rfl rfl | exact y_pickF rfl rfl)) rfl ?_
                  refine DL_nil ?_
                  refine hK31 _ _ ?_
                  refine T_false rfl ?_
                  refine T_exit ?_
                  refine hK29 _ _ ?_
                  have hln : ln la lb i k = nn := ln_of hnn (by omega) (by omega) (.inl (by omega))
                  have hpt : pt la lb i k = ⟨i, k, nn, wr la i nn⟩ := by unfold pt; rw [hln]
                  refine T_region ?_
                  refine L_y (y_move rfl) rfl ?_
                  refine L_y (y_ldW Try.underlying44 rfl sz44 rfl (S54.blk 1 rfl) (show _ = ptf (⟨i, k, nn, wr la i nn⟩) ∧ _ from ⟨rfl, rfl⟩)) rfl ?_
                  refine L_o (o_bsl [_, _, _, _] te39 zz44 S54 rfl rfl rfl rfl rfl rfl rfl rfl fun b69 w69 S69 => ?_)
                  refine L_o (o_app te39 S69 0 rfl rfl rfl (by first | exact S69.row 0 rfl | exact S69.row 2 rfl) (ptf_one2 ⟨i, k, nn, wr la i nn⟩) rfl (by omega) (by omega) fun A70 c70 w70 S70 => ?_)
                  have S70d := S70.drop (rs' := [_, _]) (.cons_cons _ (.cons_cons _ (.cons _ (.refl _))))
                  refine L_y (y_assign rfl) rfl ?_
                  refine L_nil ?_
                  refine hK11 _ _ ?_
                  have S71 : St w0 _ [_] w70 := S70d.sel [0] (by decide)
                  refine T_region ?_
                  refine L_y (y_move rfl) rfl ?_
                  refine L_y (y_add rfl rfl (i64w (by omega))) rfl ?_
                  refine L_y (y_assign rfl) rfl ?_
                  refine L_nil ?_
                  have hps := plc_snoc (lb.take k) y x
                  rw [← tk hy] at hps
                  have hle : (parts la lb i ++ rowP la lb i (plc (lb.take (k + 1)) x)) = (parts la lb i ++ rowP la lb i (plc (lb.take (k)) x)) ++ atP la lb i k := by rw [hps, if_pos hxy.symm, List.length_take, Nat.min_eq_left (by omega)]; unfold rowP; rw [List.flatMap_append, List.flatMap_singleton, List.append_assoc]
                  rw [hat] at hle
                  have S72 := S71.rowc 0 rfl (n' := (parts la lb i ++ rowP la lb i (plc (lb.take (k + 1)) x)).length) (xs' := (parts la lb i ++ rowP la lb i (plc (lb.take (k + 1)) x)).flatMap ptf) (by rw [hle]; exact (snoc_len _ _)) (by rw [hle, ← ptf_snoc, hpt])
                  refine ⟨k + 1, _, _, by omega, ⟨by omega, S72⟩, ?_⟩
                  exact (Sub.cons rfl (by first | rfl | exact congrArg (Value.int _) (by omega)) (Sub.cons rfl (by first | (rw [hle]; done) | (rw [hle]; exact congrArg (Value.slice _ · _) (snoc_len _ _))) (Sub.cons rfl rfl (Sub.cons rfl rfl (Sub.cons rfl rfl (Sub.nil _))))))
        ·
          refine T_exit ?_
          refine hK7 _ _ ?_
          refine T_region ?_
          refine L_y (y_move rfl) rfl ?_
          refine L_y (y_add rfl rfl (i64w (by omega))) rfl ?_
          refine L_y (y_assign rfl) rfl ?_
          refine L_nil ?_
          have hke : k = m := by omega
          subst hke
          have hte : (parts la lb i ++ rowP la lb i (plc (lb.take (k)) x)) = parts la lb (i + 1) := by rw [← hlb, List.take_length, parts_step hx]
          rw [hte] at S3
          refine ⟨i + 1, _, _, by omega, ⟨by omega, S3⟩, ?_⟩
          exact (Sub.cons rfl (by first | rfl | exact congrArg (Value.int _) (by omega)) (Sub.cons rfl (by rw [hte]) (Sub.cons rfl rfl (Sub.cons rfl rfl (Sub.nil _)))))
    ·
      refine T_exit ?_
      refine hK3 _ _ ?_
      refine T_seq fun K35 hK35 => ?_
      refine T_region ?_
      refine L_y (y_move rfl) rfl ?_
      refine L_y (y_assign rfl) rfl ?_
      refine L_nil ?_
      refine hK35 _ _ ?_
      refine T_ret ?_
      repeat (first | with_reducible refine up_then ?_ | with_reducible refine up_in ?_)
      refine ret1 rfl rfl ?_
      have hin : i = n := by omega
      subst hin
      refine ⟨_, rfl, S2.like0, _, _, _, rfl, ?_⟩
      have hown := S2.own 0 rfl
      rw [← hla] at hown ⊢
      exact hown


set_option maxRecDepth 100000 in
theorem rbest24 (A B : Option Addr) (n ca m cb : Nat) (la lb : List Int) (w0 : World) (ha : Rs w0 1 A n ca (iL la)) (hb : Rs w0 1 B m cb (iL lb)) (hn9 : n ≤ 800) (hm9 : m ≤ 800) :
    Calls Try.prog 22 #[.slice A n ca, .slice B m cb] w0 fun e w' => ∃ u, e = .returned u ∧ Like w0 w' ∧ u = .agg (ptf (bst la lb)).toArray := by
  refine enter1 (env := [(0, .slice A n ca), (1, .slice B m cb)]) [.slice A n ca, .slice B m cb] Try.func22 rfl Try.ntmps22 rfl rfl ?_
  have hla := lenI ha; have hlb := lenI hb; have hcap := ha.cap; have hmax := ha.max; have hcap2 := hb.cap; have hmax2 := hb.max; have S0 := St.start w0 noM
  refine T_seq fun K1 hK1 => ?_
  refine T_region ?_
  refine L_o (o_alloc zz44 S0 rfl fun b1 w1 hb1 S1 => ?_)
  refine L_nil ?_
  refine hK1 _ _ ?_
  refine T_seq fun K2 hK2 => ?_
  refine T_region ?_
  refine L_y (y_move rfl) rfl ?_
  refine L_y (y_move rfl) rfl ?_
  refine L_o (o_call Try.func19 rfl rfl (rparts A B n ca m cb la lb w1 (S1.rd ha) (S1.rd hb) hn9 hm9) rfl rfl ?_)
  rintro e2 w2 ⟨v2, rfl, l2, AP, nP, cP, rfl, O2⟩
  refine ⟨_, rfl, ?_⟩
  have S2 := S1.adopt l2 O2
  have hnP := ptf_n (S2.row 1 rfl)
  have hpl := parts_len3 hla hlb hn9 hm9
  refine L_y (y_assign rfl) rfl ?_
  refine L_nil ?_
  refine hK2 _ _ ?_
  refine T_seq fun K3 hK3 => ?_
  refine T_region ?_
  refine L_o (o_alloc zz44 S2 rfl fun b3 w3 hb3 S3 => ?_)
  refine L_nil ?_
  refine hK3 _ _ ?_
  refine T_seq fun K4 hK4 => ?_
  refine T_seq fun K5 hK5 => ?_
  refine T_region ?_
  refine L_y (y_assign rfl) rfl ?_
  refine L_nil ?_
  refine hK5 _ _ ?_
  refine T_block ?_
  refine T_loop1 [(4, _), (5, _), (6, _)] (fun (k : Nat) => [(7, .int .i64 (k : Int))]) (fun (k : Nat) => nP - k) (fun (k : Nat) (w : World) => k ≤ nP ∧ St w0 noM [blk b1 44 (ptf ⟨0, 0, 0, 0⟩).toArray, row 44 4 AP nP cP ((parts la lb la.length).flatMap ptf), blk b3 44 (ptf (top ((parts la lb la.length).take k))).toArray] w) 0 (Sub.cons rfl (by first | rfl | exact congrArg (Value.int _) (by omega)) (Sub.nil _)) (Sub.cons rfl rfl (Sub.cons rfl rfl (Sub.cons rfl rfl (Sub.nil _)))) ?_ ?_
  ·
    exact ⟨Nat.zero_le _, S3⟩
  ·
    intro k w4 hrel
    obtain ⟨hk, S4⟩ := hrel
    refine T_seq fun K6 hK6 => ?_
    refine T_seq fun K7 hK7 => ?_
    refine T_region ?_
    refine L_y (y_move rfl) rfl ?_
    refine L_y (y_move rfl) rfl ?_
    refine L_y (y_len Try.underlying39 rfl) rfl ?_
    refine L_y (y_lss rfl rfl) rfl ?_
    refine L_nil ?_
    refine hK7 _ _ ?_
    refine T_cond rfl (fun h14 => ?_) (fun h14 => ?_)
    ·
      obtain ⟨p, hp⟩ : ∃ p, (parts la lb la.length)[k]? = some p := ⟨_, List.getElem?_eq_getElem (by omega)⟩
      refine T_skip ?_
      refine hK6 _ _ ?_
      refine T_seq fun K8 hK8 => ?_
      refine T_block ?_
      refine T_seq fun K9 hK9 => ?_
      refine T_tail 9 hmix (by kernel_rfl) fun w5 l5 K10 hK10 => ?_
      have S5 := S4.like l5
      refine HL_y (y_fieldA 2 Try.underlying44 rfl sz3 rfl rfl rfl) rfl ?_
      refine HL_y (y_ldc Try.underlying3 rfl rfl (((S5.blk 2 rfl).cell _).trans (by rfl))) rfl ?_
      refine HL_y (y_eql rfl rfl) rfl ?_
      refine HL_y (y_move rfl) rfl ?_
      refine HL_split 20 rfl (fun h20 => ?_) (fun h20 => ?_)
      ·
        refine HL_gno rfl rfl rfl ?_
        refine HL_gno rfl rfl rfl ?_
        refine HL_gno rfl rfl rfl ?_
        refine HL_gno rfl rfl rfl ?_
        refine HL_gno rfl rfl rfl ?_
        refine HL_nil ?_
        refine hK10 _ ?_
        refine L_gno rfl rfl rfl ?_
        refine L_y ((by first | exact y_pickT rfl rfl | exact y_pickF rfl rfl)) rfl ?_
        refine L_nil ?_
        refine hK9 _ _ ?_
        refine T_true rfl ?_
        refine T_region ?_
        refine L_y (y_move rfl) rfl ?_
        refine L_y (y_move rfl) rfl ?_
        refine L_y (y_idx Try.underlying39 sz44 rfl rfl (S5.row 1 rfl) (Nt.mk rfl : Nt _ (k)) (by omega)) rfl ?_
        refine L_y (y_ldp (f := ptf) ptf_len Try.underlying44 rfl sz44 rfl (S5.row 1 rfl) (by omega) hp) rfl ?_
        refine L_o (o_stW S5 2 rfl rfl rfl sz44 (by rfl) (ptf_one1 _) fun w7 S7 => ?_)
        refine L_nil ?_
        refine hK8 _ _ ?_
        refine T_region ?_
        refine L_y (y_move rfl) rfl ?_
        refine L_y (y_add rfl rfl (i64w (by omega))) rfl ?_
        refine L_y (y_assign rfl) rfl ?_
        refine L_nil ?_
        have S8 := S7.blkc 2 rfl (cs' := (ptf (top ((parts la lb la.length).take (k + 1)))).toArray) (by rw [top_take hp, if_pos (by first | exact .inl (by omega) | exact .inr h27)])
        refine ⟨k + 1, by omega, ⟨by omega, S8⟩, ?_⟩
        exact (Sub.cons rfl (by first | rfl | exact congrArg (Value.int _) (by omega)) (Sub.cons rfl rfl (Sub.cons rfl rfl (Sub.cons rfl rfl (Sub.nil _)))))
      ·
        refine HL_gyes rfl rfl ?_
        refine HL_y (y_move rfl) rfl ?_
        refine HL_gyes rfl rfl ?_
        refine HL_y (y_move rfl) rfl ?_
        refine HL_gyes rfl rfl ?_
        refine HL_y (y_idx Try.underlying39 sz44 rfl rfl (S5.row 1 rfl) (Nt.mk rfl : Nt _ (k)) (by omega)) rfl ?_
        refine HL_gyes rfl rfl ?_
        refine HL_y (y_ldp (f := ptf) ptf_len Try.underlying44 rfl sz44 rfl (S5.row 1 rfl) (by omega) hp) rfl ?_
        refine HL_gyes rfl rfl ?_
        refine HL_y (y_ldW Try.underlying44 rfl sz44 rfl (S5.blk 2 rfl) (show _ = ptf (top ((parts la lb la.length).take k)) ∧ _ from ⟨rfl, rfl⟩)) rfl ?_
        refine HL_nil ?_
        refine hK10 _ ?_
        refine L_gyes rfl rfl ?_
        refine L_o (o_call Try.func43 rfl rfl (rbet24 p (top ((parts la lb la.length).take k)) w5) rfl rfl ?_)
        rintro e9 w9 ⟨v9, rfl, l9, rfl⟩
        refine ⟨_, rfl, ?_⟩
        have S9 := S5.like l9
        refine L_y ((by first | exact y_pickT rfl rfl | exact y_pickF rfl rfl)) rfl ?_
        refine L_nil ?_
        refine hK9 _ _ ?_
        refine T_condB rfl (fun h27 => ?_) (fun h27 => ?_)
        ·
          refine T_region ?_
          refine L_y (y_move rfl) rfl ?_
          refine L_y (y_move rfl) rfl ?_
          refine L_y (y_idx Try.underlying39 sz44 rfl rfl (S9.row 1 rfl) (Nt.mk rfl : Nt _ (k)) (by omega)) rfl ?_
          refine L_y (y_ldp (f := ptf) ptf_len Try.underlying44 rfl sz44 rfl (S9.row 1 rfl) (by omega) hp) rfl ?_
          refine L_o (o_stW S9 2 rfl rfl rfl sz44 (by rfl) (ptf_one1 _) fun w10 S10 => ?_)
          refine L_nil ?_
          refine hK8 _ _ ?_
          refine T_region ?_
          refine L_y (y_move rfl) rfl ?_
          refine L_y (y_add rfl rfl (i64w (by omega))) rfl ?_
          refine L_y (y_assign rfl) rfl ?_
          refine L_nil ?_
          have S11 := S10.blkc 2 rfl (cs' := (ptf (top ((parts la lb la.length).take (k + 1)))).toArray) (by rw [top_take hp, if_pos (by first | exact .inl (by omega) | exact .inr h27)])
          refine ⟨k + 1, by omega, ⟨by omega, S11⟩, ?_⟩
          exact (Sub.cons rfl (by first | rfl | exact congrArg (Value.int _) (by omega)) (Sub.cons rfl rfl (Sub.cons rfl rfl (Sub.cons rfl rfl (Sub.nil _)))))
        ·
          refine T_skip ?_
          refine hK8 _ _ ?_
          refine T_region ?_
          refine L_y (y_move rfl) rfl ?_
          refine L_y (y_add rfl rfl (i64w (by omega))) rfl ?_
          refine L_y (y_assign rfl) rfl ?_
          refine L_nil ?_
          have S12 := S9.blkc 2 rfl (cs' := (ptf (top ((parts la lb la.length).take (k + 1)))).toArray) (by rw [top_take hp, if_neg (fun h => by rcases h with h | h; exact h20 (by omega); (rw [h27] at h; cases h))])
          refine ⟨k + 1, by omega, ⟨by omega, S12⟩, ?_⟩
          exact (Sub.cons rfl (by first | rfl | exact congrArg (Value.int _) (by omega)) (Sub.cons rfl rfl (Sub.cons rfl rfl (Sub.cons rfl rfl (Sub.nil _)))))
    ·
      refine T_exit ?_
      refine hK4 _ _ ?_
      refine T_seq fun K11 hK11 => ?_
      have hkn : k = (parts la lb la.length).length := by omega
      subst hkn
      rw [List.take_length] at S4
      refine T_region ?_
      refine L_y (y_ldW Try.underlying44 rfl sz44 rfl (S4.blk 2 rfl) (show _ = ptf (bst la lb) ∧ _ from ⟨rfl, rfl⟩)) rfl ?_
      refine L_o (o_stW S4 0 rfl rfl rfl sz44 (by rfl) (ptf_one1 _) fun w13 S13 => ?_)
      refine L_nil ?_
      refine hK11 _ _ ?_
      refine T_ret ?_
      repeat (first | with_reducible refine up_then ?_ | with_reducible refine up_in ?_)
      refine retc rfl rfl (S13.blk 0 rfl) Try.underlying44 rfl (by exact sz44) ?_
      exact ⟨_, rfl, S13.like0, rfl⟩
end Go.Proofs.Ytbbmkgpgiacdeaa


/-
  Families: a piece taken out and put in, anywhere; rows that stay as they are. General; nothing here names a program.
-/
namespace Go.Proofs.Ytbbmkgpgiacdeaa.Zx
open Go.RowKit Zk
set_option linter.unusedVariables false
set_option linter.unusedSimpArgs false
section
variable {w w0 : World} {M : Nat → Prop} {rs : List Res}
end
section
variable {P : Program} {env : Env} {w : World} {dst : Option Tmp} {ty : TypeId} {pos : String} {after : Array Edge} {g : Option (Nat × Bool)}
end
end Go.Proofs.Ytbbmkgpgiacdeaa.Zx


/-
  Regions that draw their order, where two operations may come up: both are walked. General; nothing here names a program.
-/
namespace Go.Proofs.Ytbbmkgpgiacdeaa.Zx
open Go.RowKit Zk
set_option linter.unusedVariables false
set_option linter.unusedSimpArgs false
section
variable {P : Program} {N : Nat} {Q : Post} {env : Env} {w w0 : World} {M : Nat → Prop} {rs : List Res} {S : World → Prop} {ops : Array Oper} {listed : Array Bool} {fuel : Nat}
theorem DX_nil (hr : Region.ready .any ops listed = []) (h : Q .normal env w) : DX P N ops Q S listed fuel env w := fun _ _ a ha => wpAnyH_done hr ⟨env, ha, h⟩ fuel
theorem DX_o1 {d : Option Tmp} {op : Op} {ty : TypeId} {pos : String} {after : Array Edge} (i : Nat) (hr : Region.ready .any ops listed = [i]) (hi : ops[i]? = some ⟨d, op, ty, pos, after, none⟩)
    (h : O P N Q ⟨d, op, ty, pos, after, none⟩ env w (fun e' w' => S w' ∧ DX P N ops Q S (listed.setIfInBounds i true) fuel e' w')) : DX P N ops Q S listed (fuel + 1) env w := fun hs hS a ha => by
  refine wpAnyH_all hr (by simp) fun j hj => ?_
  obtain rfl := List.mem_singleton.1 hj
  unfold wpOp
  simp only [hi, Region.wanted, if_true]
  exact .inl (Oper.wp_mono (fun a' w' ⟨e', h3, h4, h5⟩ => ⟨h4, h5 hs h4 a' h3⟩) (h a ha))
theorem DX_o2 {d1 d2 : Option Tmp} {op1 op2 : Op} {ty1 ty2 : TypeId} {pos1 pos2 : String} {after1 after2 : Array Edge} (i j : Nat) (hr : Region.ready .any ops listed = [i, j]) (hi : ops[i]? = some ⟨d1, op1, ty1, pos1, after1, none⟩) (hj : ops[j]? = some ⟨d2, op2, ty2, pos2, after2, none⟩)
    (h1 : O P N Q ⟨d1, op1, ty1, pos1, after1, none⟩ env w (fun e' w' => S w' ∧ DX P N ops Q S (listed.setIfInBounds i true) fuel e' w'))
    (h2 : O P N Q ⟨d2, op2, ty2, pos2, after2, none⟩ env w (fun e' w' => S w' ∧ DX P N ops Q S (listed.setIfInBounds j true) fuel e' w')) : DX P N ops Q S listed (fuel + 1) env w := fun hs hS a ha => by
  refine wpAnyH_all hr (by simp) fun q hq => ?_
  have hq' : q = i ∨ q = j := by simpa using hq
  rcases hq' with rfl | rfl
  · unfold wpOp
    simp only [hi, Region.wanted, if_true]
    exact .inl (Oper.wp_mono (fun a' w' ⟨e', h3, h4, h5⟩ => ⟨h4, h5 hs h4 a' h3⟩) (h1 a ha))
  · unfold wpOp
    simp only [hj, Region.wanted, if_true]
    exact .inl (Oper.wp_mono (fun a' w' ⟨e', h3, h4, h5⟩ => ⟨h4, h5 hs h4 a' h3⟩) (h2 a ha))
end
end Go.Proofs.Ytbbmkgpgiacdeaa.Zx


/-
  What is kept by the histogram way: plain laws.
-/
namespace Go.Proofs.Ytbbmkgpgiacdeaa
set_option linter.unusedVariables false
set_option linter.unusedSimpArgs false
def splitH (D : List Int → List Int → List (Nat × Nat)) (x y : List Int) (p : PT) : List (Nat × Nat) :=
  D (x.take p.A) (y.take p.B) ++ (dg p.A p.B p.N ++ mv (p.A + p.N) (p.B + p.N) (D (x.drop (p.A + p.N)) (y.drop (p.B + p.N))))
def coreH (K : List Int → List Int → List (Nat × Nat)) (D : List Int → List Int → List (Nat × Nat)) (x y : List Int) : List (Nat × Nat) :=
  if (bst x y).N = 0 then [] else if 64 < (bst x y).W then K x y else splitH D x y (bst x y)
def DHf (K : List Int → List Int → List (Nat × Nat)) : Nat → List Int → List Int → List (Nat × Nat)
  | 0, _, _ => []
  | n + 1, a, b => dg 0 0 (pre a b) ++ mv (pre a b) (pre a b) (coreH K (DHf K n) (mid a (pre a b) (suf a b)) (mid b (pre a b) (suf a b))) ++ dg (a.length - suf a b) (b.length - suf a b) (suf a b)
theorem coreH_congr {K D D' : List Int → List Int → List (Nat × Nat)} {x y : List Int} (h : ∀ u v : List Int, u.length + v.length < x.length + y.length → D u v = D' u v) : coreH K D x y = coreH K D' x y := by
  unfold coreH
  split
  · rfl
  · split
    · rfl
    · rename_i h1 h2
      have hb := bst_ok x y h1
      unfold splitH
      rw [h, h]
      · rw [List.length_drop, List.length_drop]
        omega
      · rw [List.length_take, List.length_take]
        omega
theorem DHf_fuel (K : List Int → List Int → List (Nat × Nat)) : ∀ (n m : Nat) (a b : List Int), a.length + b.length < n → a.length + b.length < m → DHf K n a b = DHf K m a b
  | 0, _, _, _, h, _ => by omega
  | _ + 1, 0, _, _, _, h => by omega
  | n + 1, m + 1, a, b, h1, h2 => by
    rw [DHf, DHf, coreH_congr]
    intro u v huv
    rw [mid_len, mid_len] at huv
    exact DHf_fuel K n m u v (by omega) (by omega)
def DH (K : List Int → List Int → List (Nat × Nat)) (a b : List Int) : List (Nat × Nat) := DHf K (a.length + b.length + 1) a b
theorem DH_eq (K : List Int → List Int → List (Nat × Nat)) (a b : List Int) : DH K a b = dg 0 0 (pre a b) ++ mv (pre a b) (pre a b) (coreH K (DH K) (mid a (pre a b) (suf a b)) (mid b (pre a b) (suf a b))) ++ dg (a.length - suf a b) (b.length - suf a b) (suf a b) := by
  conv => lhs; unfold DH
  rw [DHf, coreH_congr]
  intro u v huv
  rw [mid_len, mid_len] at huv
  exact DHf_fuel K _ _ u v (by omega) (by omega)
theorem coreH_ok {K D : List Int → List Int → List (Nat × Nat)} (hK : OkF K) (hD : OkF D) : OkF (coreH K D) := fun x y => by
  unfold coreH
  split
  · exact OkR.nil _ _ _ _ _ _
  · split
    · exact hK x y
    · rename_i h1 h2
      obtain ⟨h3, h4, h5⟩ := bst_ok x y h1
      unfold splitH
      generalize bst x y = p at h3 h4 h5
      have e1 : OkR (sub x 0 p.A) (sub y 0 p.B) 0 (sub x 0 p.A).length 0 (sub y 0 p.B).length (D (sub x 0 p.A) (sub y 0 p.B)) := hD _ _
      have e2 := e1.mv (Nat.le_of_eq (sub_len (by omega))) (Nat.le_of_eq (sub_len (by omega)))
      rw [mv_zero] at e2
      have e3 : OkR x y p.A (p.A + p.N) p.B (p.B + p.N) (dg p.A p.B p.N) := OkR.dg h5
      have e4 := hD (x.drop (p.A + p.N)) (y.drop (p.B + p.N))
      rw [← sub_drop, ← sub_drop] at e4 ⊢
      have e5 := e4.mv (Nat.le_of_eq (sub_len (Nat.le_refl _))) (Nat.le_of_eq (sub_len (Nat.le_refl _)))
      exact e2.app (e3.app e5 (by omega) (by omega) (by omega) (by omega)) (by omega) (by omega) (by omega) (by omega)
theorem DHf_ok {K : List Int → List Int → List (Nat × Nat)} (hK : OkF K) : ∀ n, OkF (DHf K n)
  | 0 => fun a b => by rw [DHf]; exact OkR.nil _ _ _ _ _ _
  | n + 1 => fun a b => by
    rw [DHf]
    have hp := pre_le a b
    have hs := suf_le a b
    generalize hf : pre a b = f at hp hs
    generalize ht : suf a b = t at hs
    have h1 : OkR a b 0 (0 + f) 0 (0 + f) (dg 0 0 f) := OkR.dg fun j hj => by rw [Nat.zero_add]; exact pre_eq a b j (by omega)
    rw [Nat.zero_add] at h1
    have h2 : OkR a b f (a.length - t) f (b.length - t) (mv f f (coreH K (DHf K n) (mid a f t) (mid b f t))) :=
      OkR.mv (coreH_ok hK (DHf_ok hK n) (mid a f t) (mid b f t)) (Nat.le_of_eq (by rw [mid_len])) (Nat.le_of_eq (by rw [mid_len]))
    have h3 : OkR a b (a.length - t) (a.length - t + t) (b.length - t) (b.length - t + t) (dg (a.length - t) (b.length - t) t) := OkR.dg fun j hj => by
      have h := suf_eq (a := a) (b := b) (k := t - 1 - j) (by omega)
      rw [show a.length - t + j = a.length - 1 - (t - 1 - j) by omega, show b.length - t + j = b.length - 1 - (t - 1 - j) by omega]
      exact h
    rw [Nat.sub_add_cancel (by omega), Nat.sub_add_cancel (by omega)] at h3
    exact (h1.app h2 (by omega) (by omega) (by omega) (by omega)).app h3 (by omega) (by omega) (by omega) (by omega)
theorem DH_ok {K : List Int → List Int → List (Nat × Nat)} (hK : OkF K) : OkF (DH K) := fun a b => DHf_ok hK _ a b
section
variable (K : List Int → List Int → List (Nat × Nat)) (la lb : List Int)
/-- What is kept of a block. -/
def HB (x : BK) : List (Nat × Nat) := mv x.a x.b (DH K (sub la x.a x.an) (sub lb x.b x.bn))
variable {K la lb}
theorem HB_eq {x : BK} (h : BKok la.length lb.length x) {f t : Nat} (hf : pre (sub la x.a x.an) (sub lb x.b x.bn) = f) (ht : suf (sub la x.a x.an) (sub lb x.b x.bn) = t) :
    HB K la lb x = dg x.a x.b f ++ (mv (x.a + f) (x.b + f) (coreH K (DH K) (sub la (x.a + f) (x.an - t)) (sub lb (x.b + f) (x.bn - t))) ++ dg (x.an - t) (x.bn - t) t) ∧ x.a + f + t ≤ x.an ∧ x.b + f + t ≤ x.bn := by
  obtain ⟨h1, h2, h3, h4⟩ := h
  have e1 := sub_len (l := la) (i := x.a) h2
  have e2 := sub_len (l := lb) (i := x.b) h4
  have hle := pre_le (sub la x.a x.an) (sub lb x.b x.bn)
  have hsl := suf_le (sub la x.a x.an) (sub lb x.b x.bn)
  rw [hf] at hle
  rw [ht, hf] at hsl
  refine ⟨?_, by omega, by omega⟩
  unfold HB
  rw [DH_eq, hf, ht, mid_sub h2 (by omega) h1, mid_sub h4 (by omega) h3, mv_app, mv_app, mv_dg, mv_dg, mv_mv, e1, e2, List.append_assoc]
  rw [Nat.add_zero, Nat.add_zero, show x.a + (x.an - x.a - t) = x.an - t by omega, show x.b + (x.bn - x.b - t) = x.bn - t by omega]
theorem split_eq {i0 an k0 bn : Nat} {p : PT} (h1 : i0 + p.A + p.N ≤ an) (h2 : k0 + p.B + p.N ≤ bn) :
    mv i0 k0 (splitH (DH K) (sub la i0 an) (sub lb k0 bn) p) = HB K la lb ⟨i0, i0 + p.A, k0, k0 + p.B⟩ ++ (dg (i0 + p.A) (k0 + p.B) p.N ++ HB K la lb ⟨i0 + p.A + p.N, an, k0 + p.B + p.N, bn⟩) := by
  unfold splitH
  rw [mv_app, mv_app, mv_mv, mv_dg]
  have e1 : (sub la i0 an).take p.A = sub la i0 (i0 + p.A) := by
    have h := sub_sub (l := la) (i := i0) (u := an) (p := 0) (q := p.A) (by omega)
    exact h
  have e2 : (sub lb k0 bn).take p.B = sub lb k0 (k0 + p.B) := by
    have h := sub_sub (l := lb) (i := k0) (u := bn) (p := 0) (q := p.B) (by omega)
    exact h
  have e3 : (sub la i0 an).drop (p.A + p.N) = sub la (i0 + p.A + p.N) an := by unfold sub; rw [List.drop_drop, Nat.add_assoc]
  have e4 : (sub lb k0 bn).drop (p.B + p.N) = sub lb (k0 + p.B + p.N) bn := by unfold sub; rw [List.drop_drop, Nat.add_assoc]
  rw [e1, e2, e3, e4]
  unfold HB
  rw [show i0 + (p.A + p.N) = i0 + p.A + p.N by omega, show k0 + (p.B + p.N) = k0 + p.B + p.N by omega]
end
theorem perm_mid2 {α : Type} (k0 D Q h1 h2 : List α) : ((k0 ++ D) ++ (Q ++ (h1 ++ h2))).Perm (k0 ++ (Q ++ (h1 ++ (D ++ h2)))) := by
  rw [List.append_assoc]
  refine List.Perm.append_left k0 ?_
  have e1 : (D ++ (Q ++ (h1 ++ h2))).Perm (Q ++ (D ++ (h1 ++ h2))) := by
    rw [← List.append_assoc D Q, ← List.append_assoc Q D]
    exact List.Perm.append_right _ List.perm_append_comm
  refine e1.trans (List.Perm.append_left Q ?_)
  rw [← List.append_assoc D h1, ← List.append_assoc h1 D]
  exact List.Perm.append_right _ List.perm_append_comm
end Go.Proofs.Ytbbmkgpgiacdeaa


/-
  The program: Diff, by the histogram way.
-/
namespace Go.Proofs.Ytbbmkgpgiacdeaa
open Go.RowKit Zk Zx
set_option linter.unusedVariables false
set_option linter.unusedSimpArgs false

theorem y_sliceH0 {P : Program} {S : World → Prop} {env : Env} {dst : Option Tmp} {ty : TypeId} {pos : String} {after : Array Edge} {g : Option (Nat × Bool)} {x : Operand} {t e : TypeId} {A : Option Addr} {n c u size : Nat} {kh : IntKind} {jh : Int} {j : Operand} (ht : P.underlying t = some (.slice e)) (hsz : (P.info? e).map (·.size) = some size) (hx : ev env x = some (.slice A n c))
    (hj : ev env j = some (.int kh jh)) (hu : Nt jh u) (h2 : u ≤ c) : Y P S env ⟨dst, .slice t x none (some j) none, ty, pos, after, g⟩ (.slice A u c) := by
  have h := y_sliceH (P := P) (S := S) (env := env) (dst := dst) (ty := ty) (pos := pos) (after := after) (g := g) ht hsz hx hj hu h2
  rw [cutA_zero, Nat.sub_zero, Nat.sub_zero] at h
  exact h
theorem DHK_len (a b : List Int) : (DH KM a b).length ≤ a.length := by
  have := (DH_ok KM_ok a b).len
  omega
theorem bf_snoc2 (ps : List BK) (z1 z2 : BK) : ps.flatMap bf ++ (bf z1 ++ bf z2) = (ps ++ [z1, z2]).flatMap bf := by
  rw [List.flatMap_append]
  simp
theorem bf_one3 (x y : BK) : ∀ u ∈ bf x ++ bf y, u.oneCell' = true := fun u hu => by
  rcases List.mem_append.1 hu with hu | hu
  · exact bf_one2 x u (by simpa using hu)
  · exact bf_one2 y u (by simpa using hu)
theorem Wt_two (ps : List BK) (x y : BK) : Wt (ps ++ [x, y]) = Wt ps + wt x + wt y := by simp [Wt, Nat.add_assoc]
theorem len_two {α : Type} (l : List α) (x y : α) : l.length + 2 = (l ++ [x, y]).length := by simp
theorem flat_two (f : BK → List (Nat × Nat)) (qs : List BK) (x y : BK) : (qs ++ [x, y]).flatMap f = qs.flatMap f ++ (f x ++ f y) := by simp


set_option maxRecDepth 100000 in
set_option maxHeartbeats 4000000 in
theorem hrun (A B : Option Addr) (n ca m cb : Nat) (la lb : List Int) (w0 : World) (ha : Rs w0 1 A n ca (iL la)) (hb : Rs w0 1 B m cb (iL lb)) (hn9 : n ≤ 800) (hm9 : m ≤ 800) :
    Calls Try.prog 32 #[.slice A n ca, .slice B m cb] w0 fun e w' => ∃ u, e = .returned u ∧ Like w0 w' ∧ ∃ (A : Option Addr) (ks : List (Nat × Nat)) (c : Nat), u = .slice A ks.length c ∧ w'.ownsRow w0.heap.size 34 2 (.slice A ks.length c) ks.length (ks.flatMap pf) ∧ ks.Perm (DH KM la lb) := by
  refine enter1 (env := [(0, .slice A n ca), (1, .slice B m cb)]) [.slice A n ca, .slice B m cb] Try.func32 rfl Try.ntmps32 rfl rfl ?_
  have hla := lenI ha; have hlb := lenI hb; have hcap := ha.cap; have hmax := ha.max; have hcap2 := hb.cap; have hmax2 := hb.max; have S0 := St.start w0 noM
  refine T_seq fun K1 hK1 => ?_
  refine T_region ?_
  refine L_y (y_assign rfl) rfl ?_
  refine L_nil ?_
  refine hK1 _ _ ?_
  refine T_seq fun K2 hK2 => ?_
  refine T_region ?_
  refine L_o (o_alloc zz25 S0 rfl fun b1 w1 hb1 S1 => ?_)
  have S2 := S1.nilrow 34 2
  refine L_nil ?_
  refine hK2 _ _ ?_
  refine T_seq fun K3 hK3 => ?_
  refine T_region ?_
  refine L_y (y_makeFunc rfl rfl) rfl ?_
  refine L_y (y_assign rfl) rfl ?_
  refine L_nil ?_
  refine hK3 _ _ ?_
  refine T_seq fun K4 hK4 => ?_
  refine T_seq fun K5 hK5 => ?_
  refine T_region ?_
  refine L_y (y_move rfl) rfl ?_
  refine L_y (y_len Try.underlying22 rfl) rfl ?_
  refine L_y (y_move rfl) rfl ?_
  refine L_y (y_len Try.underlying22 rfl) rfl ?_
  refine L_y (y_build rfl (show _ = some #[Value.int .i64 0, Value.int .i64 (n : Int), Value.int .i64 0, Value.int .i64 (m : Int)] by rfl)) rfl ?_
  refine L_o (o_bsl [_, _, _, _] te79 zz78 S2 rfl rfl rfl rfl rfl rfl rfl rfl fun b3 w3 S3 => ?_)
  refine L_y (y_assign rfl) rfl ?_
  have S4 : St w0 _ [_, _, _] w3 := S3.sel [2, 0, 1] (by decide)
  refine L_nil ?_
  refine hK5 _ _ ?_
  refine T_block ?_
  refine T_loop6 [(0, _), (1, _), (5, _), (6, _)] (fun (PA : Option Addr) (pc : Nat) (ps : List BK) (KA : Option Addr) (kc : Nat) (ks : List (Nat × Nat)) => [(7, .slice PA ps.length pc)]) (fun (PA : Option Addr) (pc : Nat) (ps : List BK) (KA : Option Addr) (kc : Nat) (ks : List (Nat × Nat)) => Wt ps) (fun (PA : Option Addr) (pc : Nat) (ps : List BK) (KA : Option Addr) (kc : Nat) (ks : List (Nat × Nat)) (w : World) => ((∀ z ∈ ps, BKok la.length lb.length z) ∧ Wt ps ≤ n + m + 1 ∧ (ks ++ ps.flatMap (HB KM la lb)).Perm (DH KM la lb)) ∧ St w0 noM [row 78 4 PA (ps).length pc ((ps).flatMap bf), blk b1 25 #[.slice KA (ks).length kc], row 34 2 KA (ks).length kc ((ks).flatMap pf)] w) (some ⟨b3, 0, none⟩) 1 [⟨0, n, 0, m⟩] none 0 [] (Sub.cons rfl (by first | rfl | exact congrArg (Value.int _) (by omega)) (Sub.nil _)) (Sub.cons rfl rfl (Sub.cons rfl rfl (Sub.cons rfl rfl (Sub.cons rfl rfl (Sub.nil _))))) ?_ ?_
  ·
    refine ⟨⟨fun z hz => by obtain rfl := List.mem_singleton.1 hz; exact ⟨Nat.zero_le _, (by show n ≤ la.length; omega), Nat.zero_le _, (by show m ≤ lb.length; omega)⟩, Nat.le_refl _, ?_⟩, S4⟩
    rw [List.nil_append, List.flatMap_singleton]
    unfold HB
    rw [mv_zero, show sub la 0 n = la by rw [← hla]; exact sub_all la, show sub lb 0 m = lb by rw [← hlb]; exact sub_all lb]
  ·
    intro PA pc ps KA kc ks w5 hrel
    obtain ⟨⟨hbk, hW, hpm⟩, S5⟩ := hrel
    have hWl := Wt_len ps
    have hpl := hpm.length_eq
    have hdl := DHK_len la lb
    have hpc := (S5.row 0 rfl).cap
    have hpx := (S5.row 0 rfl).max
    refine T_seq fun K6 hK6 => ?_
    refine T_seq fun K7 hK7 => ?_
    refine T_region ?_
    refine L_y (y_move rfl) rfl ?_
    refine L_y (y_len Try.underlying79 rfl) rfl ?_
    refine L_y (y_gtr rfl rfl) rfl ?_
    refine L_nil ?_
    refine hK7 _ _ ?_
    refine T_cond rfl (fun h28 => ?_) (fun h28 => ?_)
    ·
      obtain ⟨qs, ⟨a, an, b, bn⟩, rfl⟩ : ∃ qs x, ps = qs ++ [x] := ⟨ps.dropLast, ps.getLast (fun e => by rw [e] at h28; exact absurd h28 (by decide)), (List.dropLast_concat_getLast _).symm⟩
      have hql : (qs ++ [(⟨a, an, b, bn⟩ : BK)]).length = qs.length + 1 := List.length_append
      have hbx := hbk ⟨a, an, b, bn⟩ (List.mem_append_right _ (List.mem_singleton_self _))
      have ba1 : a ≤ an := hbx.1
      have ba2 : an ≤ la.length := hbx.2.1
      have ba3 : b ≤ bn := hbx.2.2.1
      have ba4 : bn ≤ lb.length := hbx.2.2.2
      have hbq : ∀ z ∈ qs, BKok la.length lb.length z := fun z hz => hbk z (List.mem_append_left _ hz)
      have hgx : (qs ++ [(⟨a, an, b, bn⟩ : BK)])[qs.length]? = some ⟨a, an, b, bn⟩ := by simp
      have hWs := Wt_snoc qs ⟨a, an, b, bn⟩
      have hwx : wt ⟨a, an, b, bn⟩ = (an - a) + (bn - b) + 1 := rfl
      have hpm9 := hpm
      rw [List.flatMap_append, List.flatMap_singleton] at hpm9
      have hT : (ks ++ (HB KM la lb ⟨a, an, b, bn⟩ ++ qs.flatMap (HB KM la lb))).length ≤ 4096 := by
        have h9 := ((List.Perm.append_left ks List.perm_append_comm).trans hpm9).length_eq
        omega
      refine T_skip ?_
      refine hK6 _ _ ?_
      refine T_block ?_
      refine T_seq fun K8 hK8 => ?_
      refine T_region ?_
      refine L_y (y_move rfl) rfl ?_
      refine L_y (y_move rfl) rfl ?_
      refine L_y (y_len Try.underlying79 rfl) rfl ?_
      refine L_y (y_sub rfl rfl (i64e (k := qs.length) (by omega))) rfl ?_
      refine L_y (y_idx Try.underlying79 sz78 rfl rfl (S5.row 0 rfl) (Nt.mk rfl : Nt _ (qs.length)) (by omega)) rfl ?_
      refine L_y (y_ldp (f := bf) bf_len Try.underlying78 rfl sz78 rfl (S5.row 0 rfl) (by omega) hgx) rfl ?_
      refine L_o (o_alloc zz78 S5 rfl fun b6 w6 hb6 S6 => ?_)
      refine L_o (o_stW S6 3 rfl rfl rfl sz78 (by rfl) (by first | exact bf_one2 ⟨a, an, b, bn⟩ | (intro u hu; simp at hu; rcases hu with rfl | rfl | rfl | rfl <;> rfl)) fun w7 S7 => ?_)
      refine L_nil ?_
      refine hK8 _ _ ?_
      refine T_seq fun K9 hK9 => ?_
      refine T_region ?_
      refine L_y (y_move rfl) rfl ?_
      refine L_y (y_move rfl) rfl ?_
      refine L_y (y_len Try.underlying79 rfl) rfl ?_
      refine L_y (y_sub rfl rfl (i64e (k := qs.length) (by omega))) rfl ?_
      refine L_y (y_sliceH0 Try.underlying79 sz78 rfl rfl inferInstance (by omega)) rfl ?_
      refine L_y (y_assign rfl) rfl ?_
      refine L_nil ?_
      refine hK9 _ _ ?_
      refine T_seq fun K10 hK10 => ?_
      have S8 := S7.rowcut 0 rfl (m := qs.length) (by omega)
      have S9 := S8.rowc 0 rfl (n' := qs.length) (xs' := qs.flatMap bf) rfl (bf_take qs _)
      have S10 : St w0 _ [_, _, _, _] w7 := S9.sel [0, 3, 1, 2] (by decide)
      have S11 : St w0 _ [row 78 4 PA (qs).length pc ((qs).flatMap bf), blk b6 78 #[.int .i64 (a : Int), .int .i64 (an : Int), .int .i64 (b : Int), .int .i64 (bn : Int)], blk b1 25 #[.slice KA (ks).length kc], row 34 2 KA (ks).length kc ((ks).flatMap pf)] w7 := S10
      refine T_drawnL [(0, true), (1, true), (2, true), (3, true), (4, true), (5, true), (6, true), (7, true), (8, true), (9, true), (10, true), (11, true), (12, false), (13, true), (14, true), (15, true), (16, true), (17, true)] hmix (by kernel_rfl) fun w12 l12 => ?_
      have S12 := S11.like l12
      refine DL_y rfl (y_move rfl) rfl ?_
      refine DL_y rfl (y_fieldA 0 Try.underlying78 rfl sz3 rfl rfl rfl) rfl ?_
      refine DL_y rfl (y_ldc Try.underlying3 rfl rfl (((S12.blk 1 rfl).cell _).trans (by rfl))) rfl ?_
      refine DL_y rfl (y_fieldA 1 Try.underlying78 rfl sz3 rfl rfl rfl) rfl ?_
      refine DL_y rfl (y_ldc Try.underlying3 rfl rfl (((S12.blk 1 rfl).cell _).trans (by rfl))) rfl ?_
      refine DL_y rfl (y_slice Try.underlying22 sz3 rfl rfl rfl inferInstance inferInstance (by omega) (by omega)) rfl ?_
      refine DL_y rfl (y_move rfl) rfl ?_
      refine DL_y rfl (y_fieldA 2 Try.underlying78 rfl sz3 rfl rfl rfl) rfl ?_
      refine DL_y rfl (y_ldc Try.underlying3 rfl rfl (((S12.blk 1 rfl).cell _).trans (by rfl))) rfl ?_
      refine DL_y rfl (y_fieldA 3 Try.underlying78 rfl sz3 rfl rfl rfl) rfl ?_
      refine DL_y rfl (y_ldc Try.underlying3 rfl rfl (((S12.blk 1 rfl).cell _).trans (by rfl))) rfl ?_
      refine DL_y rfl (y_slice Try.underlying22 sz3 rfl rfl rfl inferInstance inferInstance (by omega) (by omega)) rfl ?_
      refine DL_o rfl (o_call Try.func52 rfl rfl (pends _ _ _ _ _ _ (sub la a an) (sub lb b bn) w12 (cutI (S12.rd ha) (i := a) (u := an) (by omega) (by omega)) (cutI (S12.rd hb) (i := b) (u := bn) (by omega) (by omega))) rfl rfl ?_)
      rintro e13 w13 ⟨v13, rfl, l13, rfl⟩
      refine ⟨_, rfl, l13, ?_⟩
      have S13 := S12.like l13
      generalize hf : pre (sub la a an) (sub lb b bn) = f
      generalize ht : suf (sub la a an) (sub lb b bn) = t
      have hDD : HB KM la lb ⟨a, an, b, bn⟩ = dg a b f ++ ((mv (a + f) (b + f) (coreH KM (DH KM) (sub la (a + f) (an - t)) (sub lb (b + f) (bn - t)))) ++ dg (an - t) (bn - t) t) ∧ a + f + t ≤ an ∧ b + f + t ≤ bn := HB_eq (x := ⟨a, an, b, bn⟩) hbx hf ht
      obtain ⟨hDB, hf1, hf2⟩ := hDD
      have hT2 : ks.length + (f + ((mv (a + f) (b + f) (coreH KM (DH KM) (sub la (a + f) (an - t)) (sub lb (b + f) (bn - t)))).length + t)) + (qs.flatMap (HB KM la lb)).length ≤ 4096 := by rw [hDB] at hT; simp only [List.length_append, dg_len] at hT; omega
      have hXl : (sub la (a + f) (an - t)).length = an - t - (a + f) := sub_len (by omega)
      have hYl : (sub lb (b + f) (bn - t)).length = bn - t - (b + f) := sub_len (by omega)
      have q13 := l13
      refine DL_y rfl (y_move rfl) rfl ?_
      refine DL_y rfl (y_extract rfl rfl) rfl ?_
      refine DL_y rfl (y_extract rfl rfl) rfl ?_
      refine DL_y rfl (y_assign rfl) rfl ?_
      refine DL_y rfl (y_assign rfl) rfl ?_
      refine DL_nil ?_
      refine hK10 _ _ ?_
      refine T_seq fun K11 hK11 => ?_
      have S14 : St w0 _ [_, _, _, _] w13 := S13.sel [0, 1, 2, 3] (by decide)
      refine T_region ?_
      refine L_y (y_move rfl) rfl ?_
      refine L_y (y_fieldA 0 Try.underlying78 rfl sz3 rfl rfl rfl) rfl ?_
      refine L_y (y_ldc Try.underlying3 rfl rfl (((S14.blk 1 rfl).cell _).trans (by rfl))) rfl ?_
      refine L_y (y_fieldA 2 Try.underlying78 rfl sz3 rfl rfl rfl) rfl ?_
      refine L_y (y_ldc Try.underlying3 rfl rfl (((S14.blk 1 rfl).cell _).trans (by rfl))) rfl ?_
      refine L_y (y_move rfl) rfl ?_
      refine L_o (o_callv rfl Try.func51 rfl rfl (hkeep b1 KA kc (ks) (a) (b) (f) w13 (St.getL (ps := [_, _]) (rs := [_, _]) S14) (by omega) (by omega) (by first | omega | (simp only [List.length_append, dg_len, mv_len, List.length_take]; omega))) rfl rfl (fun d' hd => by cases hd <;> rfl) ?_)
      rintro e15 w15 ⟨v15, rfl, KK15, kc15, rfl, T15⟩
      refine ⟨_, rfl, ?_⟩
      have S15 := St.turnL (ps := [_, _]) (rs := [_, _]) (rs' := [_, _]) S14 T15
      have S16 : St w0 _ [_, _, blk b1 25 #[.slice KK15 (ks ++ dg (a) (b) (f)).length kc15], row 34 2 KK15 (ks ++ dg (a) (b) (f)).length kc15 ((ks ++ dg (a) (b) (f)).flatMap pf)] w15 := S15
      refine L_nil ?_
      refine hK11 _ _ ?_
      refine T_seq fun K12 hK12 => ?_
      have S17 : St w0 _ [_, _, _, _] w15 := S16.sel [0, 1, 2, 3] (by decide)
      refine T_region ?_
      refine L_y (y_move rfl) rfl ?_
      refine L_y (y_fieldA 1 Try.underlying78 rfl sz3 rfl rfl rfl) rfl ?_
      refine L_y (y_ldc Try.underlying3 rfl rfl (((S17.blk 1 rfl).cell _).trans (by rfl))) rfl ?_
      refine L_y (y_move rfl) rfl ?_
      refine L_y (y_sub rfl rfl (i64e (k := an - t) (by omega))) rfl ?_
      refine L_y (y_fieldA 3 Try.underlying78 rfl sz3 rfl rfl rfl) rfl ?_
      refine L_y (y_ldc Try.underlying3 rfl rfl (((S17.blk 1 rfl).cell _).trans (by rfl))) rfl ?_
      refine L_y (y_move rfl) rfl ?_
      refine L_y (y_sub rfl rfl (i64e (k := bn - t) (by omega))) rfl ?_
      refine L_y (y_move rfl) rfl ?_
      refine L_o (o_callv rfl Try.func51 rfl rfl (hkeep b1 KK15 kc15 (ks ++ dg (a) (b) (f)) (an - t) (bn - t) (t) w15 (St.getL (ps := [_, _]) (rs := [_, _]) S17) (by omega) (by omega) (by first | omega | (simp only [List.length_append, dg_len, mv_len, List.length_take]; omega))) rfl rfl (fun d' hd => by cases hd <;> rfl) ?_)
      rintro e18 w18 ⟨v18, rfl, KK18, kc18, rfl, T18⟩
      refine ⟨_, rfl, ?_⟩
      have S18 := St.turnL (ps := [_, _]) (rs := [_, _]) (rs' := [_, _]) S17 T18
      have S19 : St w0 _ [_, _, blk b1 25 #[.slice KK18 (ks ++ dg (a) (b) (f) ++ dg (an - t) (bn - t) (t)).length kc18], row 34 2 KK18 (ks ++ dg (a) (b) (f) ++ dg (an - t) (bn - t) (t)).length kc18 ((ks ++ dg (a) (b) (f) ++ dg (an - t) (bn - t) (t)).flatMap pf)] w18 := S18
      refine L_nil ?_
      refine hK12 _ _ ?_
      refine T_seq fun K13 hK13 => ?_
      refine T_region ?_
      refine L_y (y_fieldA 0 Try.underlying78 rfl sz3 rfl rfl rfl) rfl ?_
      refine L_y (y_ldc Try.underlying3 rfl rfl (((S19.blk 1 rfl).cell _).trans (by rfl))) rfl ?_
      refine L_y (y_move rfl) rfl ?_
      refine L_y (y_add rfl rfl (i64e (k := a + f) (by omega))) rfl ?_
      refine L_y (y_fieldA 1 Try.underlying78 rfl sz3 rfl rfl rfl) rfl ?_
      refine L_y (y_ldc Try.underlying3 rfl rfl (((S19.blk 1 rfl).cell _).trans (by rfl))) rfl ?_
      refine L_y (y_move rfl) rfl ?_
      refine L_y (y_sub rfl rfl (i64e (k := an - t) (by omega))) rfl ?_
      refine L_y (y_fieldA 2 Try.underlying78 rfl sz3 rfl rfl rfl) rfl ?_
      refine L_y (y_ldc Try.underlying3 rfl rfl (((S19.blk 1 rfl).cell _).trans (by rfl))) rfl ?_
      refine L_y (y_move rfl) rfl ?_
      refine L_y (y_add rfl rfl (i64e (k := b + f) (by omega))) rfl ?_
      refine L_y (y_fieldA 3 Try.underlying78 rfl sz3 rfl rfl rfl) rfl ?_
      refine L_y (y_ldc Try.underlying3 rfl rfl (((S19.blk 1 rfl).cell _).trans (by rfl))) rfl ?_
      refine L_y (y_move rfl) rfl ?_
      refine L_y (y_sub rfl rfl (i64e (k := bn - t) (by omega))) rfl ?_
      refine L_y (y_build rfl (show _ = some #[.int .i64 ((a + f : Nat) : Int), .int .i64 ((an - t : Nat) : Int), .int .i64 ((b + f : Nat) : Int), .int .i64 ((bn - t : Nat) : Int)] by rfl)) rfl ?_
      refine L_o (o_stW S19 1 rfl rfl rfl sz78 (by rfl) (by first | exact bf_one2 ⟨a, an, b, bn⟩ | (intro u hu; simp at hu; rcases hu with rfl | rfl | rfl | rfl <;> rfl)) fun w20 S20 => ?_)
      refine L_nil ?_
      refine hK13 _ _ ?_
      refine T_seq fun K14 hK14 => ?_
      have S21 : St w0 _ [_, blk b6 78 #[.int .i64 ((a + f : Nat) : Int), .int .i64 ((an - t : Nat) : Int), .int .i64 ((b + f : Nat) : Int), .int .i64 ((bn - t : Nat) : Int)], _, _] w20 := S20
      refine T_drawnX (fun w => Blk w b6 78 #[.int .i64 ((a + f : Nat) : Int), .int .i64 ((an - t : Nat) : Int), .int .i64 ((b + f : Nat) : Int), .int .i64 ((bn - t : Nat) : Int)]) hmix (by kernel_rfl) (fun w l => (S21.like l).blk 1 rfl) fun w22 l22 => ?_
      have S22 := S21.like l22
      refine DX_y 0 (by kernel_rfl) rfl (y_move rfl) rfl ?_
      refine DX_y 1 (by kernel_rfl) rfl (y_fieldA 0 Try.underlying78 rfl sz3 rfl rfl rfl) rfl ?_
      refine DX_y 2 (by kernel_rfl) rfl (y_of fun w hw => y_ldc Try.underlying3 rfl rfl (((hw).cell _).trans (by rfl))) rfl ?_
      refine DX_y 3 (by kernel_rfl) rfl (y_fieldA 1 Try.underlying78 rfl sz3 rfl rfl rfl) rfl ?_
      refine DX_y 4 (by kernel_rfl) rfl (y_of fun w hw => y_ldc Try.underlying3 rfl rfl (((hw).cell _).trans (by rfl))) rfl ?_
      refine DX_y 5 (by kernel_rfl) rfl (y_slice Try.underlying22 sz3 rfl rfl rfl inferInstance inferInstance (by omega) (by omega)) rfl ?_
      refine DX_y 6 (by kernel_rfl) rfl (y_move rfl) rfl ?_
      refine DX_y 7 (by kernel_rfl) rfl (y_fieldA 2 Try.underlying78 rfl sz3 rfl rfl rfl) rfl ?_
      refine DX_y 8 (by kernel_rfl) rfl (y_of fun w hw => y_ldc Try.underlying3 rfl rfl (((hw).cell _).trans (by rfl))) rfl ?_
      refine DX_y 9 (by kernel_rfl) rfl (y_fieldA 3 Try.underlying78 rfl sz3 rfl rfl rfl) rfl ?_
      refine DX_y 10 (by kernel_rfl) rfl (y_of fun w hw => y_ldc Try.underlying3 rfl rfl (((hw).cell _).trans (by rfl))) rfl ?_
      refine DX_y 11 (by kernel_rfl) rfl (y_slice Try.underlying22 sz3 rfl rfl rfl inferInstance inferInstance (by omega) (by omega)) rfl ?_
      refine DX_o2 12 16 (by kernel_rfl) rfl rfl ?_ ?_
      ·
        refine o_call Try.func42 rfl rfl (hbest _ _ _ _ _ _ (sub la (a + f) (an - t)) (sub lb (b + f) (bn - t)) w22 (cutI (S22.rd ha) (i := a + f) (u := an - t) (by omega) (by omega)) (cutI (S22.rd hb) (i := b + f) (u := bn - t) (by omega) (by omega)) (by omega) (by omega)) rfl rfl ?_
        rintro e23 w23 ⟨v23, rfl, l23, rfl⟩
        refine ⟨_, rfl, ?_⟩
        have S23 := S22.like l23
        have hbo := bst_ok (sub la (a + f) (an - t)) (sub lb (b + f) (bn - t))
        refine ⟨S23.blk 1 rfl, ?_⟩
        refine DX_y 13 (by kernel_rfl) rfl (y_move rfl) rfl ?_
        refine DX_y 14 (by kernel_rfl) rfl (y_extract rfl rfl) rfl ?_
        refine DX_y 15 (by kernel_rfl) rfl (y_extract rfl rfl) rfl ?_
        refine DX_o1 16 (by kernel_rfl) rfl ?_
        refine o_alloc zz43 S23 rfl fun b24 w24 hb24 S24 => ?_
        refine ⟨S24.blk 1 rfl, ?_⟩
        refine DX_o1 17 (by kernel_rfl) rfl ?_
        refine o_stW S24 4 rfl rfl rfl sz43 (by rfl) (ptf_one1 _) fun w25 S25 => ?_
        refine ⟨S25.blk 1 rfl, ?_⟩
        refine DX_y 18 (by kernel_rfl) rfl (y_assign rfl) rfl ?_
        refine DX_nil (by kernel_rfl) ?_
        refine hK14 _ _ ?_
        refine T_block ?_
        refine T_seq fun K15 hK15 => ?_
        refine T_region ?_
        refine L_y (y_move rfl) rfl ?_
        refine L_y ((by first | exact y_notD rfl | exact y_not rfl)) rfl ?_
        refine L_y (y_assign rfl) rfl ?_
        refine L_nil ?_
        refine hK15 _ _ ?_
        refine T_cond rfl (fun h146 => ?_) (fun h146 => ?_)
        ·
          have hN0 : (bst (sub la (a + f) (an - t)) (sub lb (b + f) (bn - t))).N = 0 := by omega
          refine T_skip ?_
          have S26 : St w0 _ [_, _, _] w25 := S25.sel [0, 2, 3] (by decide)
          have hM : (mv (a + f) (b + f) (coreH KM (DH KM) (sub la (a + f) (an - t)) (sub lb (b + f) (bn - t)))) = [] := by unfold coreH; rw [if_pos hN0]; rfl
          have hfin : (((ks ++ dg a b f) ++ dg (an - t) (bn - t) t) ++ (qs.flatMap (HB KM la lb))).Perm (ks ++ (HB KM la lb ⟨a, an, b, bn⟩ ++ (qs.flatMap (HB KM la lb)))) := by
            rw [hDB]
            have h := perm_one ks (dg a b f) (mv (a + f) (b + f) (coreH KM (DH KM) (sub la (a + f) (an - t)) (sub lb (b + f) (bn - t)))) (dg (an - t) (bn - t) t) (qs.flatMap (HB KM la lb))
            rw [hM, List.append_nil] at h
            rw [hM]
            exact h
          refine ⟨PA, pc, qs, _, _, _, by omega, ⟨⟨hbq, by omega, perm_pop hfin hpm9⟩, S26⟩, ?_⟩
          exact (Sub.cons rfl (by first | rfl | exact congrArg (Value.slice _ · _) (len_two _ _ _)) (Sub.cons rfl rfl (Sub.cons rfl rfl (Sub.cons rfl rfl (Sub.cons rfl rfl (Sub.nil _))))))
        ·
          have hN0 : ¬ (bst (sub la (a + f) (an - t)) (sub lb (b + f) (bn - t))).N = 0 := by omega
          obtain ⟨hbo1, hbo2, _⟩ := hbo hN0
          refine T_seq fun K16 hK16 => ?_
          refine T_region ?_
          refine L_y (y_fieldA 3 Try.underlying43 rfl sz3 rfl rfl rfl) rfl ?_
          refine L_y (y_ldc Try.underlying3 rfl rfl (((S25.blk 4 rfl).cell _).trans (by rfl))) rfl ?_
          refine L_y (y_gtr rfl rfl) rfl ?_
          refine L_y (y_assign rfl) rfl ?_
          refine L_nil ?_
          refine hK16 _ _ ?_
          refine T_cond rfl (fun h149 => ?_) (fun h149 => ?_)
          ·
            have hM : (mv (a + f) (b + f) (coreH KM (DH KM) (sub la (a + f) (an - t)) (sub lb (b + f) (bn - t)))) = mv (a + f) (b + f) (KM (sub la (a + f) (an - t)) (sub lb (b + f) (bn - t))) := by unfold coreH; rw [if_neg hN0, if_pos (by omega)]
            have hml : (mv (a + f) (b + f) (coreH KM (DH KM) (sub la (a + f) (an - t)) (sub lb (b + f) (bn - t)))).length = (KM (sub la (a + f) (an - t)) (sub lb (b + f) (bn - t))).length := by rw [hM, mv_len]
            refine T_seq fun K17 hK17 => ?_
            refine T_drawnL [(0, true), (1, true), (2, true), (3, true), (4, true), (5, true), (6, true), (7, true), (8, true), (9, true), (10, true), (11, true), (12, false), (13, true), (14, true), (15, true), (16, true), (17, true)] hmix (by kernel_rfl) fun w27 l27 => ?_
            have S27 := S25.like l27
            refine DL_y rfl (y_move rfl) rfl ?_
            refine DL_y rfl (y_fieldA 0 Try.underlying78 rfl sz3 rfl rfl rfl) rfl ?_
            refine DL_y rfl (y_ldc Try.underlying3 rfl rfl (((S27.blk 1 rfl).cell _).trans (by rfl))) rfl ?_
            refine DL_y rfl (y_fieldA 1 Try.underlying78 rfl sz3 rfl rfl rfl) rfl ?_
            refine DL_y rfl (y_ldc Try.underlying3 rfl rfl (((S27.blk 1 rfl).cell _).trans (by rfl))) rfl ?_
            refine DL_y rfl (y_slice Try.underlying22 sz3 rfl rfl rfl inferInstance inferInstance (by omega) (by omega)) rfl ?_
            refine DL_y rfl (y_move rfl) rfl ?_
            refine DL_y rfl (y_fieldA 2 Try.underlying78 rfl sz3 rfl rfl rfl) rfl ?_
            refine DL_y rfl (y_ldc Try.underlying3 rfl rfl (((S27.blk 1 rfl).cell _).trans (by rfl))) rfl ?_
            refine DL_y rfl (y_fieldA 3 Try.underlying78 rfl sz3 rfl rfl rfl) rfl ?_
            refine DL_y rfl (y_ldc Try.underlying3 rfl rfl (((S27.blk 1 rfl).cell _).trans (by rfl))) rfl ?_
            refine DL_y rfl (y_slice Try.underlying22 sz3 rfl rfl rfl inferInstance inferInstance (by omega) (by omega)) rfl ?_
            refine DL_o rfl (o_call Try.func53 rfl rfl (fdiff _ _ _ _ _ _ (sub la (a + f) (an - t)) (sub lb (b + f) (bn - t)) w27 (cutI (S27.rd ha) (i := a + f) (u := an - t) (by omega) (by omega)) (cutI (S27.rd hb) (i := b + f) (u := bn - t) (by omega) (by omega)) (by omega) (by omega)) rfl rfl ?_)
            rintro e28 w28 ⟨v28, rfl, l28, A28, n28, c28, rfl, O28⟩
            refine ⟨_, rfl, l28, ?_⟩
            have S28 := S27.adopt l28 O28
            have hdn : n28 = (KM (sub la (a + f) (an - t)) (sub lb (b + f) (bn - t))).length := pf_n (S28.row 5 rfl)
            have q28 := l28
            refine DL_y rfl (y_move rfl) rfl ?_
            refine DL_y rfl (y_extract rfl rfl) rfl ?_
            refine DL_y rfl (y_extract rfl rfl) rfl ?_
            refine DL_y rfl (y_assign rfl) rfl ?_
            refine DL_y rfl (y_assign rfl) rfl ?_
            refine DL_nil ?_
            refine hK17 _ _ ?_
            refine T_seq fun K18 hK18 => ?_
            have S29 : St w0 _ [_, _, _, _, _] w28 := S28.sel [0, 1, 5, 2, 3] (by decide)
            refine T_region ?_
            refine L_y (y_move rfl) rfl ?_
            refine L_y (y_len Try.underlying25 rfl) rfl ?_
            refine L_y (y_move rfl) rfl ?_
            refine L_nil ?_
            refine hK18 _ _ ?_
            refine T_block ?_
            refine T_loop3 [(0, _), (1, _), (5, _), (6, _), (7, _), (8, _), (169, _), (170, _)] (fun (j : Nat) (K1 : Option Addr) (c1 : Nat) => [(171, .int .i64 (j : Int))]) (fun (j : Nat) (K1 : Option Addr) (c1 : Nat) => (KM (sub la (a + f) (an - t)) (sub lb (b + f) (bn - t))).length - j) (fun (j : Nat) (K1 : Option Addr) (c1 : Nat) (w : World) => j ≤ (KM (sub la (a + f) (an - t)) (sub lb (b + f) (bn - t))).length ∧ St w0 noM [row 78 4 PA (qs).length pc ((qs).flatMap bf), blk b6 78 #[.int .i64 ((a + f : Nat) : Int), .int .i64 ((an - t : Nat) : Int), .int .i64 ((b + f : Nat) : Int), .int .i64 ((bn - t : Nat) : Int)], row 34 2 A28 n28 c28 ((KM (sub la (a + f) (an - t)) (sub lb (b + f) (bn - t))).flatMap pf), blk b1 25 #[.slice K1 (((ks ++ dg a b f) ++ dg (an - t) (bn - t) t) ++ mv (a + f) (b + f) ((KM (sub la (a + f) (an - t)) (sub lb (b + f) (bn - t))).take j)).length c1], row 34 2 K1 (((ks ++ dg a b f) ++ dg (an - t) (bn - t) t) ++ mv (a + f) (b + f) ((KM (sub la (a + f) (an - t)) (sub lb (b + f) (bn - t))).take j)).length c1 ((((ks ++ dg a b f) ++ dg (an - t) (bn - t) t) ++ mv (a + f) (b + f) ((KM (sub la (a + f) (an - t)) (sub lb (b + f) (bn - t))).take j)).flatMap pf)] w) 0 KK18 kc18 (Sub.cons rfl (by first | rfl | exact congrArg (Value.int _) (by omega)) (Sub.nil _)) (Sub.cons rfl rfl (Sub.cons rfl rfl (Sub.cons rfl rfl (Sub.cons rfl rfl (Sub.cons rfl rfl (Sub.cons rfl rfl (Sub.cons rfl rfl (Sub.cons rfl rfl (Sub.nil _))))))))) ?_ ?_
            ·
              exact ⟨Nat.zero_le _, by rw [List.take_zero, mv_nil, List.append_nil]; exact S29⟩
            ·
              intro j K1 c1 w30 hrel
              obtain ⟨hj, S30⟩ := hrel
              have hjl : ((KM (sub la (a + f) (an - t)) (sub lb (b + f) (bn - t))).take j).length = j := by rw [List.length_take]; omega
              refine T_seq fun K19 hK19 => ?_
              refine T_region ?_
              refine L_y (y_lss rfl rfl) rfl ?_
              refine L_nil ?_
              refine hK19 _ _ ?_
              refine T_seq fun K20 hK20 => ?_
              refine T_cond rfl (fun h172 => ?_) (fun h172 => ?_)
              ·
                obtain ⟨p, hp⟩ : ∃ p, (KM (sub la (a + f) (an - t)) (sub lb (b + f) (bn - t)))[j]? = some p := ⟨_, List.getElem?_eq_getElem (by omega)⟩
                have hpb := (keep_ok (sub la (a + f) (an - t)) (sub lb (b + f) (bn - t)) _ 0 0 rfl).1 p (List.mem_of_getElem? hp)
                refine T_skip ?_
                refine hK20 _ _ ?_
                refine T_seq fun K21 hK21 => ?_
                refine T_block ?_
                refine T_seq fun K22 hK22 => ?_
                refine T_region ?_
                refine L_y (y_idx Try.underlying25 sz34 rfl rfl (S30.row 2 rfl) (Nt.mk rfl : Nt _ (j)) (by omega)) rfl ?_
                refine L_y (y_ldp (f := pf) pf_len1 Try.underlying34 rfl sz34 rfl (S30.row 2 rfl) (by omega) hp) rfl ?_
                refine L_o (o_alloc zz34 S30 rfl fun b31 w31 hb31 S31 => ?_)
                refine L_o (o_stW S31 5 rfl rfl rfl sz34 (by rfl) (pf_one1 p) fun w32 S32 => ?_)
                refine L_nil ?_
                refine hK22 _ _ ?_
                have S33 : St w0 _ [_, _, _, _, _, _] w32 := S32.sel [0, 1, 2, 5, 3, 4] (by decide)
                refine T_region ?_
                refine L_y (y_move rfl) rfl ?_
                refine L_y (y_fieldA 0 Try.underlying78 rfl sz3 rfl rfl rfl) rfl ?_
                refine L_y (y_ldc Try.underlying3 rfl rfl (((S33.blk 1 rfl).cell _).trans (by rfl))) rfl ?_
                refine L_y (y_fieldA 0 Try.underlying34 rfl sz3 rfl rfl rfl) rfl ?_
                refine L_y (y_ldc Try.underlying3 rfl rfl (((S33.blk 3 rfl).cell _).trans (by rfl))) rfl ?_
                refine L_y (y_add rfl rfl (i64e (k := a + f + p.1) (by omega))) rfl ?_
                refine L_y (y_fieldA 2 Try.underlying78 rfl sz3 rfl rfl rfl) rfl ?_
                refine L_y (y_ldc Try.underlying3 rfl rfl (((S33.blk 1 rfl).cell _).trans (by rfl))) rfl ?_
                refine L_y (y_fieldA 1 Try.underlying34 rfl sz3 rfl rfl rfl) rfl ?_
                refine L_y (y_ldc Try.underlying3 rfl rfl (((S33.blk 3 rfl).cell _).trans (by rfl))) rfl ?_
                refine L_y (y_add rfl rfl (i64e (k := b + f + p.2) (by omega))) rfl ?_
                refine L_o (o_callv rfl Try.func51 rfl rfl (hkeep b1 K1 c1 (((ks ++ dg a b f) ++ dg (an - t) (bn - t) t) ++ mv (a + f) (b + f) ((KM (sub la (a + f) (an - t)) (sub lb (b + f) (bn - t))).take j)) (a + f + p.1) (b + f + p.2) (1) w32 (St.getL (ps := [_, _, _, _]) (rs := [_, _]) S33) (by omega) (by omega) (by first | omega | (simp only [List.length_append, dg_len, mv_len, List.length_take]; omega))) rfl rfl (fun d' hd => by cases hd <;> rfl) ?_)
                rintro e34 w34 ⟨v34, rfl, KK34, kc34, rfl, T34⟩
                refine ⟨_, rfl, ?_⟩
                have S34 := St.turnL (ps := [_, _, _, _]) (rs := [_, _]) (rs' := [_, _]) S33 T34
                have S35 : St w0 _ [_, _, _, _, blk b1 25 #[.slice KK34 (((ks ++ dg a b f) ++ dg (an - t) (bn - t) t) ++ mv (a + f) (b + f) ((KM (sub la (a + f) (an - t)) (sub lb (b + f) (bn - t))).take j) ++ dg (a + f + p.1) (b + f + p.2) (1)).length kc34], row 34 2 KK34 (((ks ++ dg a b f) ++ dg (an - t) (bn - t) t) ++ mv (a + f) (b + f) ((KM (sub la (a + f) (an - t)) (sub lb (b + f) (bn - t))).take j) ++ dg (a + f + p.1) (b + f + p.2) (1)).length kc34 ((((ks ++ dg a b f) ++ dg (an - t) (bn - t) t) ++ mv (a + f) (b + f) ((KM (sub la (a + f) (an - t)) (sub lb (b + f) (bn - t))).take j) ++ dg (a + f + p.1) (b + f + p.2) (1)).flatMap pf)] w34 := S34
                refine L_nil ?_
                refine hK21 _ _ ?_
                have S36 : St w0 _ [_, _, _, _, _] w34 := S35.sel [0, 1, 2, 4, 5] (by decide)
                refine T_region ?_
                refine L_y (y_add rfl rfl (i64w (by omega))) rfl ?_
                refine L_y (y_move rfl) rfl ?_
                refine L_nil ?_
                rw [List.append_assoc, dg_one, ← mv_snoc hp (a + f) (b + f)] at S36
                refine ⟨j + 1, _, _, by omega, ⟨by omega, S36⟩, ?_⟩
                exact (Sub.cons rfl (by first | rfl | exact congrArg (Value.int _) (by omega)) (Sub.cons rfl rfl (Sub.cons rfl rfl (Sub.cons rfl rfl (Sub.cons rfl rfl (Sub.cons rfl rfl (Sub.cons rfl rfl (Sub.cons rfl rfl (Sub.cons rfl rfl (Sub.nil _))))))))))
              ·
                refine T_exit ?_
                have S37 : St w0 _ [_, _, _] w30 := S30.sel [0, 3, 4] (by decide)
                have hje : j = (KM (sub la (a + f) (an - t)) (sub lb (b + f) (bn - t))).length := by omega
                subst hje
                have hfin : ((((ks ++ dg a b f) ++ dg (an - t) (bn - t) t) ++ mv (a + f) (b + f) ((KM (sub la (a + f) (an - t)) (sub lb (b + f) (bn - t))).take (KM (sub la (a + f) (an - t)) (sub lb (b + f) (bn - t))).length)) ++ (qs.flatMap (HB KM la lb))).Perm (ks ++ (HB KM la lb ⟨a, an, b, bn⟩ ++ (qs.flatMap (HB KM la lb)))) := by
                  rw [List.take_length, ← hM, hDB]
                  exact (perm_tail _ _ _).trans (perm_one _ _ _ _ _)
                refine ⟨PA, pc, qs, _, _, _, by omega, ⟨⟨hbq, by omega, perm_pop hfin hpm9⟩, S37⟩, ?_⟩
                exact (Sub.cons rfl (by first | rfl | exact congrArg (Value.slice _ · _) (len_two _ _ _)) (Sub.cons rfl rfl (Sub.cons rfl rfl (Sub.cons rfl rfl (Sub.cons rfl rfl (Sub.nil _))))))
          ·
            have hsp : (mv (a + f) (b + f) (coreH KM (DH KM) (sub la (a + f) (an - t)) (sub lb (b + f) (bn - t)))) = HB KM la lb (⟨a + f, a + f + (bst (sub la (a + f) (an - t)) (sub lb (b + f) (bn - t))).A, b + f, b + f + (bst (sub la (a + f) (an - t)) (sub lb (b + f) (bn - t))).B⟩ : BK) ++ (dg (a + f + (bst (sub la (a + f) (an - t)) (sub lb (b + f) (bn - t))).A) (b + f + (bst (sub la (a + f) (an - t)) (sub lb (b + f) (bn - t))).B) (bst (sub la (a + f) (an - t)) (sub lb (b + f) (bn - t))).N ++ HB KM la lb (⟨a + f + (bst (sub la (a + f) (an - t)) (sub lb (b + f) (bn - t))).A + (bst (sub la (a + f) (an - t)) (sub lb (b + f) (bn - t))).N, an - t, b + f + (bst (sub la (a + f) (an - t)) (sub lb (b + f) (bn - t))).B + (bst (sub la (a + f) (an - t)) (sub lb (b + f) (bn - t))).N, bn - t⟩ : BK)) := by unfold coreH; rw [if_neg hN0, if_neg (by omega)]; exact split_eq (by omega) (by omega)
            have hml := congrArg List.length hsp
            rw [List.length_append, List.length_append, dg_len] at hml
            refine T_seq fun K23 hK23 => ?_
            refine T_drawnL [(0, true), (1, true), (2, true), (3, true), (4, true), (5, true), (6, true), (7, true), (8, true), (9, true), (10, true), (11, true)] hmix (by kernel_rfl) fun w38 l38 => ?_
            have S38 := S25.like l38
            refine DL_y rfl (y_fieldA 0 Try.underlying78 rfl sz3 rfl rfl rfl) rfl ?_
            refine DL_y rfl (y_ldc Try.underlying3 rfl rfl (((S38.blk 1 rfl).cell _).trans (by rfl))) rfl ?_
            refine DL_y rfl (y_fieldA 0 Try.underlying43 rfl sz3 rfl rfl rfl) rfl ?_
            refine DL_y rfl (y_ldc Try.underlying3 rfl rfl (((S38.blk 4 rfl).cell _).trans (by rfl))) rfl ?_
            refine DL_y rfl (y_add rfl rfl (i64e (k := a + f + (bst (sub la (a + f) (an - t)) (sub lb (b + f) (bn - t))).A) (by omega))) rfl ?_
            refine DL_y rfl (y_fieldA 2 Try.underlying78 rfl sz3 rfl rfl rfl) rfl ?_
            refine DL_y rfl (y_ldc Try.underlying3 rfl rfl (((S38.blk 1 rfl).cell _).trans (by rfl))) rfl ?_
            refine DL_y rfl (y_fieldA 1 Try.underlying43 rfl sz3 rfl rfl rfl) rfl ?_
            refine DL_y rfl (y_ldc Try.underlying3 rfl rfl (((S38.blk 4 rfl).cell _).trans (by rfl))) rfl ?_
            refine DL_y rfl (y_add rfl rfl (i64e (k := b + f + (bst (sub la (a + f) (an - t)) (sub lb (b + f) (bn - t))).B) (by omega))) rfl ?_
            refine DL_y rfl (y_assign rfl) rfl ?_
            refine DL_y rfl (y_assign rfl) rfl ?_
            refine DL_nil ?_
            refine hK23 _ _ ?_
            refine T_seq fun K24 hK24 => ?_
            have S39 : St w0 _ [_, _, _, _, _] w38 := S38.sel [0, 1, 4, 2, 3] (by decide)
            refine T_region ?_
            refine L_y (y_move rfl) rfl ?_
            refine L_y (y_move rfl) rfl ?_
            refine L_y (y_move rfl) rfl ?_
            refine L_y (y_fieldA 2 Try.underlying43 rfl sz3 rfl rfl rfl) rfl ?_
            refine L_y (y_ldc Try.underlying3 rfl rfl (((S39.blk 2 rfl).cell _).trans (by rfl))) rfl ?_
            refine L_o (o_callv rfl Try.func51 rfl rfl (hkeep b1 KK18 kc18 (ks ++ dg (a) (b) (f) ++ dg (an - t) (bn - t) (t)) (a + f + (bst (sub la (a + f) (an - t)) (sub lb (b + f) (bn - t))).A) (b + f + (bst (sub la (a + f) (an - t)) (sub lb (b + f) (bn - t))).B) ((bst (sub la (a + f) (an - t)) (sub lb (b + f) (bn - t))).N) w38 (St.getL (ps := [_, _, _]) (rs := [_, _]) S39) (by omega) (by omega) (by first | omega | (simp only [List.length_append, dg_len, mv_len, List.length_take]; omega))) rfl rfl (fun d' hd => by cases hd <;> rfl) ?_)
            rintro e40 w40 ⟨v40, rfl, KK40, kc40, rfl, T40⟩
            refine ⟨_, rfl, ?_⟩
            have S40 := St.turnL (ps := [_, _, _]) (rs := [_, _]) (rs' := [_, _]) S39 T40
            have S41 : St w0 _ [_, _, _, blk b1 25 #[.slice KK40 (ks ++ dg (a) (b) (f) ++ dg (an - t) (bn - t) (t) ++ dg (a + f + (bst (sub la (a + f) (an - t)) (sub lb (b + f) (bn - t))).A) (b + f + (bst (sub la (a + f) (an - t)) (sub lb (b + f) (bn - t))).B) ((bst (sub la (a + f) (an - t)) (sub lb (b + f) (bn - t))).N)).length kc40], row 34 2 KK40 (ks ++ dg (a) (b) (f) ++ dg (an - t) (bn - t) (t) ++ dg (a + f + (bst (sub la (a + f) (an - t)) (sub lb (b + f) (bn - t))).A) (b + f + (bst (sub la (a + f) (an - t)) (sub lb (b + f) (bn - t))).B) ((bst (sub la (a + f) (an - t)) (sub lb (b + f) (bn - t))).N)).length kc40 ((ks ++ dg (a) (b) (f) ++ dg (an - t) (bn - t) (t) ++ dg (a + f + (bst (sub la (a + f) (an - t)) (sub lb (b + f) (bn - t))).A) (b + f + (bst (sub la (a + f) (an - t)) (sub lb (b + f) (bn - t))).B) ((bst (sub la (a + f) (an - t)) (sub lb (b + f) (bn - t))).N)).flatMap pf)] w40 := S40
            refine L_nil ?_
            refine hK24 _ _ ?_
            refine T_region ?_
            refine L_y (y_move rfl) rfl ?_
            refine L_y (y_fieldA 0 Try.underlying78 rfl sz3 rfl rfl rfl) rfl ?_
            refine L_y (y_ldc Try.underlying3 rfl rfl (((S41.blk 1 rfl).cell _).trans (by rfl))) rfl ?_
            refine L_y (y_move rfl) rfl ?_
            refine L_y (y_fieldA 2 Try.underlying78 rfl sz3 rfl rfl rfl) rfl ?_
            refine L_y (y_ldc Try.underlying3 rfl rfl (((S41.blk 1 rfl).cell _).trans (by rfl))) rfl ?_
            refine L_y (y_move rfl) rfl ?_
            refine L_y (y_build rfl (show _ = some #[Value.int .i64 ((a + f : Nat) : Int), Value.int .i64 ((a + f + (bst (sub la (a + f) (an - t)) (sub lb (b + f) (bn - t))).A : Nat) : Int), Value.int .i64 ((b + f : Nat) : Int), Value.int .i64 ((b + f + (bst (sub la (a + f) (an - t)) (sub lb (b + f) (bn - t))).B : Nat) : Int)] by rfl)) rfl ?_
            refine L_y (y_move rfl) rfl ?_
            refine L_y (y_fieldA 2 Try.underlying43 rfl sz3 rfl rfl rfl) rfl ?_
            refine L_y (y_ldc Try.underlying3 rfl rfl (((S41.blk 2 rfl).cell _).trans (by rfl))) rfl ?_
            refine L_y (y_add rfl rfl (i64e (k := a + f + (bst (sub la (a + f) (an - t)) (sub lb (b + f) (bn - t))).A + (bst (sub la (a + f) (an - t)) (sub lb (b + f) (bn - t))).N) (by omega))) rfl ?_
            refine L_y (y_fieldA 1 Try.underlying78 rfl sz3 rfl rfl rfl) rfl ?_
            refine L_y (y_ldc Try.underlying3 rfl rfl (((S41.blk 1 rfl).cell _).trans (by rfl))) rfl ?_
            refine L_y (y_move rfl) rfl ?_
            refine L_y (y_fieldA 2 Try.underlying43 rfl sz3 rfl rfl rfl) rfl ?_
            refine L_y (y_ldc Try.underlying3 rfl rfl (((S41.blk 2 rfl).cell _).trans (by rfl))) rfl ?_
            refine L_y (y_add rfl rfl (i64e (k := b + f + (bst (sub la (a + f) (an - t)) (sub lb (b + f) (bn - t))).B + (bst (sub la (a + f) (an - t)) (sub lb (b + f) (bn - t))).N) (by omega))) rfl ?_
            refine L_y (y_fieldA 3 Try.underlying78 rfl sz3 rfl rfl rfl) rfl ?_
            refine L_y (y_ldc Try.underlying3 rfl rfl (((S41.blk 1 rfl).cell _).trans (by rfl))) rfl ?_
            refine L_y (y_build rfl (show _ = some #[Value.int .i64 ((a + f + (bst (sub la (a + f) (an - t)) (sub lb (b + f) (bn - t))).A + (bst (sub la (a + f) (an - t)) (sub lb (b + f) (bn - t))).N : Nat) : Int), Value.int .i64 ((an - t : Nat) : Int), Value.int .i64 ((b + f + (bst (sub la (a + f) (an - t)) (sub lb (b + f) (bn - t))).B + (bst (sub la (a + f) (an - t)) (sub lb (b + f) (bn - t))).N : Nat) : Int), Value.int .i64 ((bn - t : Nat) : Int)] by rfl)) rfl ?_
            refine L_o (o_bsl [_, _, _, _, _, _, _, _] te79 zz78 S41 rfl rfl rfl rfl rfl rfl rfl rfl fun b42 w42 S42 => ?_)
            refine L_o (o_app te79 S42 0 rfl rfl rfl (by first | exact S42.row 0 rfl | exact S42.row 4 rfl | exact S42.row 5 rfl) (bf_one3 ⟨a + f, a + f + (bst (sub la (a + f) (an - t)) (sub lb (b + f) (bn - t))).A, b + f, b + f + (bst (sub la (a + f) (an - t)) (sub lb (b + f) (bn - t))).B⟩ ⟨a + f + (bst (sub la (a + f) (an - t)) (sub lb (b + f) (bn - t))).A + (bst (sub la (a + f) (an - t)) (sub lb (b + f) (bn - t))).N, an - t, b + f + (bst (sub la (a + f) (an - t)) (sub lb (b + f) (bn - t))).B + (bst (sub la (a + f) (an - t)) (sub lb (b + f) (bn - t))).N, bn - t⟩) rfl (by omega) (by omega) fun A43 c43 w43 S43 => ?_)
            have S43d := S43.drop (rs' := [_, _, _, _, _]) (.cons_cons _ (.cons_cons _ (.cons_cons _ (.cons_cons _ (.cons_cons _ (.cons _ (.refl _)))))))
            refine L_y (y_assign rfl) rfl ?_
            refine L_nil ?_
            have S44 : St w0 _ [_, _, _] w43 := S43d.sel [0, 3, 4] (by decide)
            have S45 := S44.rowc 0 rfl (n' := (qs ++ [(⟨a + f, a + f + (bst (sub la (a + f) (an - t)) (sub lb (b + f) (bn - t))).A, b + f, b + f + (bst (sub la (a + f) (an - t)) (sub lb (b + f) (bn - t))).B⟩ : BK), (⟨a + f + (bst (sub la (a + f) (an - t)) (sub lb (b + f) (bn - t))).A + (bst (sub la (a + f) (an - t)) (sub lb (b + f) (bn - t))).N, an - t, b + f + (bst (sub la (a + f) (an - t)) (sub lb (b + f) (bn - t))).B + (bst (sub la (a + f) (an - t)) (sub lb (b + f) (bn - t))).N, bn - t⟩ : BK)]).length) (xs' := (qs ++ [(⟨a + f, a + f + (bst (sub la (a + f) (an - t)) (sub lb (b + f) (bn - t))).A, b + f, b + f + (bst (sub la (a + f) (an - t)) (sub lb (b + f) (bn - t))).B⟩ : BK), (⟨a + f + (bst (sub la (a + f) (an - t)) (sub lb (b + f) (bn - t))).A + (bst (sub la (a + f) (an - t)) (sub lb (b + f) (bn - t))).N, an - t, b + f + (bst (sub la (a + f) (an - t)) (sub lb (b + f) (bn - t))).B + (bst (sub la (a + f) (an - t)) (sub lb (b + f) (bn - t))).N, bn - t⟩ : BK)]).flatMap bf) (len_two _ _ _) (bf_snoc2 qs (⟨a + f, a + f + (bst (sub la (a + f) (an - t)) (sub lb (b + f) (bn - t))).A, b + f, b + f + (bst (sub la (a + f) (an - t)) (sub lb (b + f) (bn - t))).B⟩ : BK) (⟨a + f + (bst (sub la (a + f) (an - t)) (sub lb (b + f) (bn - t))).A + (bst (sub la (a + f) (an - t)) (sub lb (b + f) (bn - t))).N, an - t, b + f + (bst (sub la (a + f) (an - t)) (sub lb (b + f) (bn - t))).B + (bst (sub la (a + f) (an - t)) (sub lb (b + f) (bn - t))).N, bn - t⟩ : BK))
            have hW2 := Wt_two qs (⟨a + f, a + f + (bst (sub la (a + f) (an - t)) (sub lb (b + f) (bn - t))).A, b + f, b + f + (bst (sub la (a + f) (an - t)) (sub lb (b + f) (bn - t))).B⟩ : BK) (⟨a + f + (bst (sub la (a + f) (an - t)) (sub lb (b + f) (bn - t))).A + (bst (sub la (a + f) (an - t)) (sub lb (b + f) (bn - t))).N, an - t, b + f + (bst (sub la (a + f) (an - t)) (sub lb (b + f) (bn - t))).B + (bst (sub la (a + f) (an - t)) (sub lb (b + f) (bn - t))).N, bn - t⟩ : BK)
            have hw1 : wt (⟨a + f, a + f + (bst (sub la (a + f) (an - t)) (sub lb (b + f) (bn - t))).A, b + f, b + f + (bst (sub la (a + f) (an - t)) (sub lb (b + f) (bn - t))).B⟩ : BK) = (a + f + (bst (sub la (a + f) (an - t)) (sub lb (b + f) (bn - t))).A - (a + f)) + (b + f + (bst (sub la (a + f) (an - t)) (sub lb (b + f) (bn - t))).B - (b + f)) + 1 := rfl
            have hw2 : wt (⟨a + f + (bst (sub la (a + f) (an - t)) (sub lb (b + f) (bn - t))).A + (bst (sub la (a + f) (an - t)) (sub lb (b + f) (bn - t))).N, an - t, b + f + (bst (sub la (a + f) (an - t)) (sub lb (b + f) (bn - t))).B + (bst (sub la (a + f) (an - t)) (sub lb (b + f) (bn - t))).N, bn - t⟩ : BK) = (an - t - (a + f + (bst (sub la (a + f) (an - t)) (sub lb (b + f) (bn - t))).A + (bst (sub la (a + f) (an - t)) (sub lb (b + f) (bn - t))).N)) + (bn - t - (b + f + (bst (sub la (a + f) (an - t)) (sub lb (b + f) (bn - t))).B + (bst (sub la (a + f) (an - t)) (sub lb (b + f) (bn - t))).N)) + 1 := rfl
            have hbk2 : ∀ z ∈ qs ++ [(⟨a + f, a + f + (bst (sub la (a + f) (an - t)) (sub lb (b + f) (bn - t))).A, b + f, b + f + (bst (sub la (a + f) (an - t)) (sub lb (b + f) (bn - t))).B⟩ : BK), (⟨a + f + (bst (sub la (a + f) (an - t)) (sub lb (b + f) (bn - t))).A + (bst (sub la (a + f) (an - t)) (sub lb (b + f) (bn - t))).N, an - t, b + f + (bst (sub la (a + f) (an - t)) (sub lb (b + f) (bn - t))).B + (bst (sub la (a + f) (an - t)) (sub lb (b + f) (bn - t))).N, bn - t⟩ : BK)], BKok la.length lb.length z := fun z hz => by
              rcases List.mem_append.1 hz with hz | hz
              · exact hbq z hz
              · simp only [List.mem_cons, List.not_mem_nil, or_false] at hz
                rcases hz with rfl | rfl
                · exact ⟨by show a + f ≤ a + f + _; omega, by show a + f + (bst (sub la (a + f) (an - t)) (sub lb (b + f) (bn - t))).A ≤ _; omega, by show b + f ≤ b + f + _; omega, by show b + f + (bst (sub la (a + f) (an - t)) (sub lb (b + f) (bn - t))).B ≤ _; omega⟩
                · exact ⟨by show a + f + (bst (sub la (a + f) (an - t)) (sub lb (b + f) (bn - t))).A + (bst (sub la (a + f) (an - t)) (sub lb (b + f) (bn - t))).N ≤ an - t; omega, by show an - t ≤ _; omega, by show b + f + (bst (sub la (a + f) (an - t)) (sub lb (b + f) (bn - t))).B + (bst (sub la (a + f) (an - t)) (sub lb (b + f) (bn - t))).N ≤ bn - t; omega, by show bn - t ≤ _; omega⟩
            have hfin : ((((ks ++ dg a b f) ++ dg (an - t) (bn - t) t) ++ dg (a + f + (bst (sub la (a + f) (an - t)) (sub lb (b + f) (bn - t))).A) (b + f + (bst (sub la (a + f) (an - t)) (sub lb (b + f) (bn - t))).B) (bst (sub la (a + f) (an - t)) (sub lb (b + f) (bn - t))).N) ++ (qs ++ [(⟨a + f, a + f + (bst (sub la (a + f) (an - t)) (sub lb (b + f) (bn - t))).A, b + f, b + f + (bst (sub la (a + f) (an - t)) (sub lb (b + f) (bn - t))).B⟩ : BK), (⟨a + f + (bst (sub la (a + f) (an - t)) (sub lb (b + f) (bn - t))).A + (bst (sub la (a + f) (an - t)) (sub lb (b + f) (bn - t))).N, an - t, b + f + (bst (sub la (a + f) (an - t)) (sub lb (b + f) (bn - t))).B + (bst (sub la (a + f) (an - t)) (sub lb (b + f) (bn - t))).N, bn - t⟩ : BK)]).flatMap (HB KM la lb)).Perm (ks ++ (HB KM la lb ⟨a, an, b, bn⟩ ++ (qs.flatMap (HB KM la lb)))) := by
              rw [flat_two, hDB]
              refine (perm_mid2 _ _ _ _ _).trans ?_
              rw [hsp]
              exact perm_one _ _ _ _ _
            refine ⟨A43, c43, qs ++ [(⟨a + f, a + f + (bst (sub la (a + f) (an - t)) (sub lb (b + f) (bn - t))).A, b + f, b + f + (bst (sub la (a + f) (an - t)) (sub lb (b + f) (bn - t))).B⟩ : BK), (⟨a + f + (bst (sub la (a + f) (an - t)) (sub lb (b + f) (bn - t))).A + (bst (sub la (a + f) (an - t)) (sub lb (b + f) (bn - t))).N, an - t, b + f + (bst (sub la (a + f) (an - t)) (sub lb (b + f) (bn - t))).B + (bst (sub la (a + f) (an - t)) (sub lb (b + f) (bn - t))).N, bn - t⟩ : BK)], _, _, _, by omega, ⟨⟨hbk2, by omega, perm_pop hfin hpm9⟩, S45⟩, ?_⟩
            exact (Sub.cons rfl (by first | rfl | exact congrArg (Value.slice _ · _) (len_two _ _ _)) (Sub.cons rfl rfl (Sub.cons rfl rfl (Sub.cons rfl rfl (Sub.cons rfl rfl (Sub.nil _))))))
      ·
        refine o_alloc zz43 S22 rfl fun b46 w46 hb46 S46 => ?_
        refine ⟨S46.blk 1 rfl, ?_⟩
        refine DX_o1 12 (by kernel_rfl) rfl ?_
        refine o_call Try.func42 rfl rfl (hbest _ _ _ _ _ _ (sub la (a + f) (an - t)) (sub lb (b + f) (bn - t)) w46 (cutI (S46.rd ha) (i := a + f) (u := an - t) (by omega) (by omega)) (cutI (S46.rd hb) (i := b + f) (u := bn - t) (by omega) (by omega)) (by omega) (by omega)) rfl rfl ?_
        rintro e47 w47 ⟨v47, rfl, l47, rfl⟩
        refine ⟨_, rfl, ?_⟩
        have S47 := S46.like l47
        have hbo := bst_ok (sub la (a + f) (an - t)) (sub lb (b + f) (bn - t))
        refine ⟨S47.blk 1 rfl, ?_⟩
        refine DX_y 13 (by kernel_rfl) rfl (y_move rfl) rfl ?_
        refine DX_y 14 (by kernel_rfl) rfl (y_extract rfl rfl) rfl ?_
        refine DX_y 15 (by kernel_rfl) rfl (y_extract rfl rfl) rfl ?_
        refine DX_o1 17 (by kernel_rfl) rfl ?_
        refine o_stW S47 4 rfl rfl rfl sz43 (by rfl) (ptf_one1 _) fun w48 S48 => ?_
        refine ⟨S48.blk 1 rfl, ?_⟩
        refine DX_y 18 (by kernel_rfl) rfl (y_assign rfl) rfl ?_
        refine DX_nil (by kernel_rfl) ?_
        refine hK14 _ _ ?_
        refine T_block ?_
        refine T_seq fun K25 hK25 => ?_
        refine T_region ?_
        refine L_y (y_move rfl) rfl ?_
        refine L_y ((by first | exact y_notD rfl | exact y_not rfl)) rfl ?_
        refine L_y (y_assign rfl) rfl ?_
        refine L_nil ?_
        refine hK25 _ _ ?_
        refine T_cond rfl (fun h146 => ?_) (fun h146 => ?_)
        ·
          have hN0 : (bst (sub la (a + f) (an - t)) (sub lb (b + f) (bn - t))).N = 0 := by omega
          refine T_skip ?_
          have S49 : St w0 _ [_, _, _] w48 := S48.sel [0, 2, 3] (by decide)
          have hM : (mv (a + f) (b + f) (coreH KM (DH KM) (sub la (a + f) (an - t)) (sub lb (b + f) (bn - t)))) = [] := by unfold coreH; rw [if_pos hN0]; rfl
          have hfin : (((ks ++ dg a b f) ++ dg (an - t) (bn - t) t) ++ (qs.flatMap (HB KM la lb))).Perm (ks ++ (HB KM la lb ⟨a, an, b, bn⟩ ++ (qs.flatMap (HB KM la lb)))) := by
            rw [hDB]
            have h := perm_one ks (dg a b f) (mv (a + f) (b + f) (coreH KM (DH KM) (sub la (a + f) (an - t)) (sub lb (b + f) (bn - t)))) (dg (an - t) (bn - t) t) (qs.flatMap (HB KM la lb))
            rw [hM, List.append_nil] at h
            rw [hM]
            exact h
          refine ⟨PA, pc, qs, _, _, _, by omega, ⟨⟨hbq, by omega, perm_pop hfin hpm9⟩, S49⟩, ?_⟩
          exact (Sub.cons rfl (by first | rfl | exact congrArg (Value.slice _ · _) (len_two _ _ _)) (Sub.cons rfl rfl (Sub.cons rfl rfl (Sub.cons rfl rfl (Sub.cons rfl rfl (Sub.nil _))))))
        ·
          have hN0 : ¬ (bst (sub la (a + f) (an - t)) (sub lb (b + f) (bn - t))).N = 0 := by omega
          obtain ⟨hbo1, hbo2, _⟩ := hbo hN0
          refine T_seq fun K26 hK26 => ?_
          refine T_region ?_
          refine L_y (y_fieldA 3 Try.underlying43 rfl sz3 rfl rfl rfl) rfl ?_
          refine L_y (y_ldc Try.underlying3 rfl rfl (((S48.blk 4 rfl).cell _).trans (by rfl))) rfl ?_
          refine L_y (y_gtr rfl rfl) rfl ?_
          refine L_y (y_assign rfl) rfl ?_
          refine L_nil ?_
          refine hK26 _ _ ?_
          refine T_cond rfl (fun h149 => ?_) (fun h149 => ?_)
          ·
            have hM : (mv (a + f) (b + f) (coreH KM (DH KM) (sub la (a + f) (an - t)) (sub lb (b + f) (bn - t)))) = mv (a + f) (b + f) (KM (sub la (a + f) (an - t)) (sub lb (b + f) (bn - t))) := by unfold coreH; rw [if_neg hN0, if_pos (by omega)]
            have hml : (mv (a + f) (b + f) (coreH KM (DH KM) (sub la (a + f) (an - t)) (sub lb (b + f) (bn - t)))).length = (KM (sub la (a + f) (an - t)) (sub lb (b + f) (bn - t))).length := by rw [hM, mv_len]
            refine T_seq fun K27 hK27 => ?_
            refine T_drawnL [(0, true), (1, true), (2, true), (3, true), (4, true), (5, true), (6, true), (7, true), (8, true), (9, true), (10, true), (11, true), (12, false), (13, true), (14, true), (15, true), (16, true), (17, true)] hmix (by kernel_rfl) fun w50 l50 => ?_
            have S50 := S48.like l50
            refine DL_y rfl (y_move rfl) rfl ?_
            refine DL_y rfl (y_fieldA 0 Try.underlying78 rfl sz3 rfl rfl rfl) rfl ?_
            refine DL_y rfl (y_ldc Try.underlying3 rfl rfl (((S50.blk 1 rfl).cell _).trans (by rfl))) rfl ?_
            refine DL_y rfl (y_fieldA 1 Try.underlying78 rfl sz3 rfl rfl rfl) rfl ?_
            refine DL_y rfl (y_ldc Try.underlying3 rfl rfl (((S50.blk 1 rfl).cell _).trans (by rfl))) rfl ?_
            refine DL_y rfl (y_slice Try.underlying22 sz3 rfl rfl rfl inferInstance inferInstance (by omega) (by omega)) rfl ?_
            refine DL_y rfl (y_move rfl) rfl ?_
            refine DL_y rfl (y_fieldA 2 Try.underlying78 rfl sz3 rfl rfl rfl) rfl ?_
            refine DL_y rfl (y_ldc Try.underlying3 rfl rfl (((S50.blk 1 rfl).cell _).trans (by rfl))) rfl ?_
            refine DL_y rfl (y_fieldA 3 Try.underlying78 rfl sz3 rfl rfl rfl) rfl ?_
            refine DL_y rfl (y_ldc Try.underlying3 rfl rfl (((S50.blk 1 rfl).cell _).trans (by rfl))) rfl ?_
            refine DL_y rfl (y_slice Try.underlying22 sz3 rfl rfl rfl inferInstance inferInstance (by omega) (by omega)) rfl ?_
            refine DL_o rfl (o_call Try.func53 rfl rfl (fdiff _ _ _ _ _ _ (sub la (a + f) (an - t)) (sub lb (b + f) (bn - t)) w50 (cutI (S50.rd ha) (i := a + f) (u := an - t) (by omega) (by omega)) (cutI (S50.rd hb) (i := b + f) (u := bn - t) (by omega) (by omega)) (by omega) (by omega)) rfl rfl ?_)
            rintro e51 w51 ⟨v51, rfl, l51, A51, n51, c51, rfl, O51⟩
            refine ⟨_, rfl, l51, ?_⟩
            have S51 := S50.adopt l51 O51
            have hdn : n51 = (KM (sub la (a + f) (an - t)) (sub lb (b + f) (bn - t))).length := pf_n (S51.row 5 rfl)
            have q51 := l51
            refine DL_y rfl (y_move rfl) rfl ?_
            refine DL_y rfl (y_extract rfl rfl) rfl ?_
            refine DL_y rfl (y_extract rfl rfl) rfl ?_
            refine DL_y rfl (y_assign rfl) rfl ?_
            refine DL_y rfl (y_assign rfl) rfl ?_
            refine DL_nil ?_
            refine hK27 _ _ ?_
            refine T_seq fun K28 hK28 => ?_
            have S52 : St w0 _ [_, _, _, _, _] w51 := S51.sel [0, 1, 5, 2, 3] (by decide)
            refine T_region ?_
            refine L_y (y_move rfl) rfl ?_
            refine L_y (y_len Try.underlying25 rfl) rfl ?_
            refine L_y (y_move rfl) rfl ?_
            refine L_nil ?_
            refine hK28 _ _ ?_
            refine T_block ?_
            refine T_loop3 [(0, _), (1, _), (5, _), (6, _), (7, _), (8, _), (169, _), (170, _)] (fun (j : Nat) (K1 : Option Addr) (c1 : Nat) => [(171, .int .i64 (j : Int))]) (fun (j : Nat) (K1 : Option Addr) (c1 : Nat) => (KM (sub la (a + f) (an - t)) (sub lb (b + f) (bn - t))).length - j) (fun (j : Nat) (K1 : Option Addr) (c1 : Nat) (w : World) => j ≤ (KM (sub la (a + f) (an - t)) (sub lb (b + f) (bn - t))).length ∧ St w0 noM [row 78 4 PA (qs).length pc ((qs).flatMap bf), blk b6 78 #[.int .i64 ((a + f : Nat) : Int), .int .i64 ((an - t : Nat) : Int), .int .i64 ((b + f : Nat) : Int), .int .i64 ((bn - t : Nat) : Int)], row 34 2 A51 n51 c51 ((KM (sub la (a + f) (an - t)) (sub lb (b + f) (bn - t))).flatMap pf), blk b1 25 #[.slice K1 (((ks ++ dg a b f) ++ dg (an - t) (bn - t) t) ++ mv (a + f) (b + f) ((KM (sub la (a + f) (an - t)) (sub lb (b + f) (bn - t))).take j)).length c1], row 34 2 K1 (((ks ++ dg a b f) ++ dg (an - t) (bn - t) t) ++ mv (a + f) (b + f) ((KM (sub la (a + f) (an - t)) (sub lb (b + f) (bn - t))).take j)).length c1 ((((ks ++ dg a b f) ++ dg (an - t) (bn - t) t) ++ mv (a + f) (b + f) ((KM (sub la (a + f) (an - t)) (sub lb (b + f) (bn - t))).take j)).flatMap pf)] w) 0 KK18 kc18 (Sub.cons rfl (by first | rfl | exact congrArg (Value.int _) (by omega)) (Sub.nil _)) (Sub.cons rfl rfl (Sub.cons rfl rfl (Sub.cons rfl rfl (Sub.cons rfl rfl (Sub.cons rfl rfl (Sub.cons rfl rfl (Sub.cons rfl rfl (Sub.cons rfl rfl (Sub.nil _))))))))) ?_ ?_
            ·
              exact ⟨Nat.zero_le _, by rw [List.take_zero, mv_nil, List.append_nil]; exact S52⟩
            ·
              intro j K1 c1 w53 hrel
              obtain ⟨hj, S53⟩ := hrel
              have hjl : ((KM (sub la (a + f) (an - t)) (sub lb (b + f) (bn - t))).take j).length = j := by rw [List.length_take]; omega
              refine T_seq fun K29 hK29 => ?_
              refine T_region ?_
              refine L_y (y_lss rfl rfl) rfl ?_
              refine L_nil ?_
              refine hK29 _ _ ?_
              refine T_seq fun K30 hK30 => ?_
              refine T_cond rfl (fun h172 => ?_) (fun h172 => ?_)
              ·
                obtain ⟨p, hp⟩ : ∃ p, (KM (sub la (a + f) (an - t)) (sub lb (b + f) (bn - t)))[j]? = some p := ⟨_, List.getElem?_eq_getElem (by omega)⟩
                have hpb := (keep_ok (sub la (a + f) (an - t)) (sub lb (b + f) (bn - t)) _ 0 0 rfl).1 p (List.mem_of_getElem? hp)
                refine T_skip ?_
                refine hK30 _ _ ?_
                refine T_seq fun K31 hK31 => ?_
                refine T_block ?_
                refine T_seq fun K32 hK32 => ?_
                refine T_region ?_
                refine L_y (y_idx Try.underlying25 sz34 rfl rfl (S53.row 2 rfl) (Nt.mk rfl : Nt _ (j)) (by omega)) rfl ?_
                refine L_y (y_ldp (f := pf) pf_len1 Try.underlying34 rfl sz34 rfl (S53.row 2 rfl) (by omega) hp) rfl ?_
                refine L_o (o_alloc zz34 S53 rfl fun b54 w54 hb54 S54 => ?_)
                refine L_o (o_stW S54 5 rfl rfl rfl sz34 (by rfl) (pf_one1 p) fun w55 S55 => ?_)
                refine L_nil ?_
                refine hK32 _ _ ?_
                have S56 : St w0 _ [_, _, _, _, _, _] w55 := S55.sel [0, 1, 2, 5, 3, 4] (by decide)
                refine T_region ?_
                refine L_y (y_move rfl) rfl ?_
                refine L_y (y_fieldA 0 Try.underlying78 rfl sz3 rfl rfl rfl) rfl ?_
                refine L_y (y_ldc Try.underlying3 rfl rfl (((S56.blk 1 rfl).cell _).trans (by rfl))) rfl ?_
                refine L_y (y_fieldA 0 Try.underlying34 rfl sz3 rfl rfl rfl) rfl ?_
                refine L_y (y_ldc Try.underlying3 rfl rfl (((S56.blk 3 rfl).cell _).trans (by rfl))) rfl ?_
                refine L_y (y_add rfl rfl (i64e (k := a + f + p.1) (by omega))) rfl ?_
                refine L_y (y_fieldA 2 Try.underlying78 rfl sz3 rfl rfl rfl) rfl ?_
                refine L_y (y_ldc Try.underlying3 rfl rfl (((S56.blk 1 rfl).cell _).trans (by rfl))) rfl ?_
                refine L_y (y_fieldA 1 Try.underlying34 rfl sz3 rfl rfl rfl) rfl ?_
                refine L_y (y_ldc Try.underlying3 rfl rfl (((S56.blk 3 rfl).cell _).trans (by rfl))) rfl ?_
                refine L_y (y_add rfl rfl (i64e (k := b + f + p.2) (by omega))) rfl ?_
                refine L_o (o_callv rfl Try.func51 rfl rfl (hkeep b1 K1 c1 (((ks ++ dg a b f) ++ dg (an - t) (bn - t) t) ++ mv (a + f) (b + f) ((KM (sub la (a + f) (an - t)) (sub lb (b + f) (bn - t))).take j)) (a + f + p.1) (b + f + p.2) (1) w55 (St.getL (ps := [_, _, _, _]) (rs := [_, _]) S56) (by omega) (by omega) (by first | omega | (simp only [List.length_append, dg_len, mv_len, List.length_take]; omega))) rfl rfl (fun d' hd => by cases hd <;> rfl) ?_)
                rintro e57 w57 ⟨v57, rfl, KK57, kc57, rfl, T57⟩
                refine ⟨_, rfl, ?_⟩
                have S57 := St.turnL (ps := [_, _, _, _]) (rs := [_, _]) (rs' := [_, _]) S56 T57
                have S58 : St w0 _ [_, _, _, _, blk b1 25 #[.slice KK57 (((ks ++ dg a b f) ++ dg (an - t) (bn - t) t) ++ mv (a + f) (b + f) ((KM (sub la (a + f) (an - t)) (sub lb (b + f) (bn - t))).take j) ++ dg (a + f + p.1) (b + f + p.2) (1)).length kc57], row 34 2 KK57 (((ks ++ dg a b f) ++ dg (an - t) (bn - t) t) ++ mv (a + f) (b + f) ((KM (sub la (a + f) (an - t)) (sub lb (b + f) (bn - t))).take j) ++ dg (a + f + p.1) (b + f + p.2) (1)).length kc57 ((((ks ++ dg a b f) ++ dg (an - t) (bn - t) t) ++ mv (a + f) (b + f) ((KM (sub la (a + f) (an - t)) (sub lb (b + f) (bn - t))).take j) ++ dg (a + f + p.1) (b + f + p.2) (1)).flatMap pf)] w57 := S57
                refine L_nil ?_
                refine hK31 _ _ ?_
                have S59 : St w0 _ [_, _, _, _, _] w57 := S58.sel [0, 1, 2, 4, 5] (by decide)
                refine T_region ?_
                refine L_y (y_add rfl rfl (i64w (by omega))) rfl ?_
                refine L_y (y_move rfl) rfl ?_
                refine L_nil ?_
                rw [List.append_assoc, dg_one, ← mv_snoc hp (a + f) (b + f)] at S59
                refine ⟨j + 1, _, _, by omega, ⟨by omega, S59⟩, ?_⟩
                exact (Sub.cons rfl (by first | rfl | exact congrArg (Value.int _) (by omega)) (Sub.cons rfl rfl (Sub.cons rfl rfl (Sub.cons rfl rfl (Sub.cons rfl rfl (Sub.cons rfl rfl (Sub.cons rfl rfl (Sub.cons rfl rfl (Sub.cons rfl rfl (Sub.nil _))))))))))
              ·
                refine T_exit ?_
                have S60 : St w0 _ [_, _, _] w53 := S53.sel [0, 3, 4] (by decide)
                have hje : j = (KM (sub la (a + f) (an - t)) (sub lb (b + f) (bn - t))).length := by omega
                subst hje
                have hfin : ((((ks ++ dg a b f) ++ dg (an - t) (bn - t) t) ++ mv (a + f) (b + f) ((KM (sub la (a + f) (an - t)) (sub lb (b + f) (bn - t))).take (KM (sub la (a + f) (an - t)) (sub lb (b + f) (bn - t))).length)) ++ (qs.flatMap (HB KM la lb))).Perm (ks ++ (HB KM la lb ⟨a, an, b, bn⟩ ++ (qs.flatMap (HB KM la lb)))) := by
                  rw [List.take_length, ← hM, hDB]
                  exact (perm_tail _ _ _).trans (perm_one _ _ _ _ _)
                refine ⟨PA, pc, qs, _, _, _, by omega, ⟨⟨hbq, by omega, perm_pop hfin hpm9⟩, S60⟩, ?_⟩
                exact (Sub.cons rfl (by first | rfl | exact congrArg (Value.slice _ · _) (len_two _ _ _)) (Sub.cons rfl rfl (Sub.cons rfl rfl (Sub.cons rfl rfl (Sub.cons rfl rfl (Sub.nil _))))))
          ·
            have hsp : (mv (a + f) (b + f) (coreH KM (DH KM) (sub la (a + f) (an - t)) (sub lb (b + f) (bn - t)))) = HB KM la lb (⟨a + f, a + f + (bst (sub la (a + f) (an - t)) (sub lb (b + f) (bn - t))).A, b + f, b + f + (bst (sub la (a + f) (an - t)) (sub lb (b + f) (bn - t))).B⟩ : BK) ++ (dg (a + f + (bst (sub la (a + f) (an - t)) (sub lb (b + f) (bn - t))).A) (b + f + (bst (sub la (a + f) (an - t)) (sub lb (b + f) (bn - t))).B) (bst (sub la (a + f) (an - t)) (sub lb (b + f) (bn - t))).N ++ HB KM la lb (⟨a + f + (bst (sub la (a + f) (an - t)) (sub lb (b + f) (bn - t))).A + (bst (sub la (a + f) (an - t)) (sub lb (b + f) (bn - t))).N, an - t, b + f + (bst (sub la (a + f) (an - t)) (sub lb (b + f) (bn - t))).B + (bst (sub la (a + f) (an - t)) (sub lb (b + f) (bn - t))).N, bn - t⟩ : BK)) := by unfold coreH; rw [if_neg hN0, if_neg (by omega)]; exact split_eq (by omega) (by omega)
            have hml := congrArg List.length hsp
            rw [List.length_append, List.length_append, dg_len] at hml
            refine T_seq fun K33 hK33 => ?_
            refine T_drawnL [(0, true), (1, true), (2, true), (3, true), (4, true), (5, true), (6, true), (7, true), (8, true), (9, true), (10, true), (11, true)] hmix (by kernel_rfl) fun w61 l61 => ?_
            have S61 := S48.like l61
            refine DL_y rfl (y_fieldA 0 Try.underlying78 rfl sz3 rfl rfl rfl) rfl ?_
            refine DL_y rfl (y_ldc Try.underlying3 rfl rfl (((S61.blk 1 rfl).cell _).trans (by rfl))) rfl ?_
            refine DL_y rfl (y_fieldA 0 Try.underlying43 rfl sz3 rfl rfl rfl) rfl ?_
            refine DL_y rfl (y_ldc Try.underlying3 rfl rfl (((S61.blk 4 rfl).cell _).trans (by rfl))) rfl ?_
            refine DL_y rfl (y_add rfl rfl (i64e (k := a + f + (bst (sub la (a + f) (an - t)) (sub lb (b + f) (bn - t))).A) (by omega))) rfl ?_
            refine DL_y rfl (y_fieldA 2 Try.underlying78 rfl sz3 rfl rfl rfl) rfl ?_
            refine DL_y rfl (y_ldc Try.underlying3 rfl rfl (((S61.blk 1 rfl).cell _).trans (by rfl))) rfl ?_
            refine DL_y rfl (y_fieldA 1 Try.underlying43 rfl sz3 rfl rfl rfl) rfl ?_
            refine DL_y rfl (y_ldc Try.underlying3 rfl rfl (((S61.blk 4 rfl).cell _).trans (by rfl))) rfl ?_
            refine DL_y rfl (y_add rfl rfl (i64e (k := b + f + (bst (sub la (a + f) (an - t)) (sub lb (b + f) (bn - t))).B) (by omega))) rfl ?_
            refine DL_y rfl (y_assign rfl) rfl ?_
            refine DL_y rfl (y_assign rfl) rfl ?_
            refine DL_nil ?_
            refine hK33 _ _ ?_
            refine T_seq fun K34 hK34 => ?_
            have S62 : St w0 _ [_, _, _, _, _] w61 := S61.sel [0, 1, 4, 2, 3] (by decide)
            refine T_region ?_
            refine L_y (y_move rfl) rfl ?_
            refine L_y (y_move rfl) rfl ?_
            refine L_y (y_move rfl) rfl ?_
            refine L_y (y_fieldA 2 Try.underlying43 rfl sz3 rfl rfl rfl) rfl ?_
            refine L_y (y_ldc Try.underlying3 rfl rfl (((S62.blk 2 rfl).cell _).trans (by rfl))) rfl ?_
            refine L_o (o_callv rfl Try.func51 rfl rfl (hkeep b1 KK18 kc18 (ks ++ dg (a) (b) (f) ++ dg (an - t) (bn - t) (t)) (a + f + (bst (sub la (a + f) (an - t)) (sub lb (b + f) (bn - t))).A) (b + f + (bst (sub la (a + f) (an - t)) (sub lb (b + f) (bn - t))).B) ((bst (sub la (a + f) (an - t)) (sub lb (b + f) (bn - t))).N) w61 (St.getL (ps := [_, _, _]) (rs := [_, _]) S62) (by omega) (by omega) (by first | omega | (simp only [List.length_append, dg_len, mv_len, List.length_take]; omega))) rfl rfl (fun d' hd => by cases hd <;> rfl) ?_)
            rintro e63 w63 ⟨v63, rfl, KK63, kc63, rfl, T63⟩
            refine ⟨_, rfl, ?_⟩
            have S63 := St.turnL (ps := [_, _, _]) (rs := [_, _]) (rs' := [_, _]) S62 T63
            have S64 : St w0 _ [_, _, _, blk b1 25 #[.slice KK63 (ks ++ dg (a) (b) (f) ++ dg (an - t) (bn - t) (t) ++ dg (a + f + (bst (sub la (a + f) (an - t)) (sub lb (b + f) (bn - t))).A) (b + f + (bst (sub la (a + f) (an - t)) (sub lb (b + f) (bn - t))).B) ((bst (sub la (a + f) (an - t)) (sub lb (b + f) (bn - t))).N)).length kc63], row 34 2 KK63 (ks ++ dg (a) (b) (f) ++ dg (an - t) (bn - t) (t) ++ dg (a + f + (bst (sub la (a + f) (an - t)) (sub lb (b + f) (bn - t))).A) (b + f + (bst (sub la (a + f) (an - t)) (sub lb (b + f) (bn - t))).B) ((bst (sub la (a + f) (an - t)) (sub lb (b + f) (bn - t))).N)).length kc63 ((ks ++ dg (a) (b) (f) ++ dg (an - t) (bn - t) (t) ++ dg (a + f + (bst (sub la (a + f) (an - t)) (sub lb (b + f) (bn - t))).A) (b + f + (bst (sub la (a + f) (an - t)) (sub lb (b + f) (bn - t))).B) ((bst (sub la (a + f) (an - t)) (sub lb (b + f) (bn - t))).N)).flatMap pf)] w63 := S63
            refine L_nil ?_
            refine hK34 _ _ ?_
            refine T_region ?_
            refine L_y (y_move rfl) rfl ?_
            refine L_y (y_fieldA 0 Try.underlying78 rfl sz3 rfl rfl rfl) rfl ?_
            refine L_y (y_ldc Try.underlying3 rfl rfl (((S64.blk 1 rfl).cell _).trans (by rfl))) rfl ?_
            refine L_y (y_move rfl) rfl ?_
            refine L_y (y_fieldA 2 Try.underlying78 rfl sz3 rfl rfl rfl) rfl ?_
            refine L_y (y_ldc Try.underlying3 rfl rfl (((S64.blk 1 rfl).cell _).trans (by rfl))) rfl ?_
            refine L_y (y_move rfl) rfl ?_
            refine L_y (y_build rfl (show _ = some #[Value.int .i64 ((a + f : Nat) : Int), Value.int .i64 ((a + f + (bst (sub la (a + f) (an - t)) (sub lb (b + f) (bn - t))).A : Nat) : Int), Value.int .i64 ((b + f : Nat) : Int), Value.int .i64 ((b + f + (bst (sub la (a + f) (an - t)) (sub lb (b + f) (bn - t))).B : Nat) : Int)] by rfl)) rfl ?_
            refine L_y (y_move rfl) rfl ?_
            refine L_y (y_fieldA 2 Try.underlying43 rfl sz3 rfl rfl rfl) rfl ?_
            refine L_y (y_ldc Try.underlying3 rfl rfl (((S64.blk 2 rfl).cell _).trans (by rfl))) rfl ?_
            refine L_y (y_add rfl rfl (i64e (k := a + f + (bst (sub la (a + f) (an - t)) (sub lb (b + f) (bn - t))).A + (bst (sub la (a + f) (an - t)) (sub lb (b + f) (bn - t))).N) (by omega))) rfl ?_
            refine L_y (y_fieldA 1 Try.underlying78 rfl sz3 rfl rfl rfl) rfl ?_
            refine L_y (y_ldc Try.underlying3 rfl rfl (((S64.blk 1 rfl).cell _).trans (by rfl))) rfl ?_
            refine L_y (y_move rfl) rfl ?_
            refine L_y (y_fieldA 2 Try.underlying43 rfl sz3 rfl rfl rfl) rfl ?_
            refine L_y (y_ldc Try.underlying3 rfl rfl (((S64.blk 2 rfl).cell _).trans (by rfl))) rfl ?_
            refine L_y (y_add rfl rfl (i64e (k := b + f + (bst (sub la (a + f) (an - t)) (sub lb (b + f) (bn - t))).B + (bst (sub la (a + f) (an - t)) (sub lb (b + f) (bn - t))).N) (by omega))) rfl ?_
            refine L_y (y_fieldA 3 Try.underlying78 rfl sz3 rfl rfl rfl) rfl ?_
            refine L_y (y_ldc Try.underlying3 rfl rfl (((S64.blk 1 rfl).cell _).trans (by rfl))) rfl ?_
            refine L_y (y_build rfl (show _ = some #[Value.int .i64 ((a + f + (bst (sub la (a + f) (an - t)) (sub lb (b + f) (bn - t))).A + (bst (sub la (a + f) (an - t)) (sub lb (b + f) (bn - t))).N : Nat) : Int), Value.int .i64 ((an - t : Nat) : Int), Value.int .i64 ((b + f + (bst (sub la (a + f) (an - t)) (sub lb (b + f) (bn - t))).B + (bst (sub la (a + f) (an - t)) (sub lb (b + f) (bn - t))).N : Nat) : Int), Value.int .i64 ((bn - t : Nat) : Int)] by rfl)) rfl ?_
            refine L_o (o_bsl [_, _, _, _, _, _, _, _] te79 zz78 S64 rfl rfl rfl rfl rfl rfl rfl rfl fun b65 w65 S65 => ?_)
            refine L_o (o_app te79 S65 0 rfl rfl rfl (by first | exact S65.row 0 rfl | exact S65.row 4 rfl | exact S65.row 5 rfl) (bf_one3 ⟨a + f, a + f + (bst (sub la (a + f) (an - t)) (sub lb (b + f) (bn - t))).A, b + f, b + f + (bst (sub la (a + f) (an - t)) (sub lb (b + f) (bn - t))).B⟩ ⟨a + f + (bst (sub la (a + f) (an - t)) (sub lb (b + f) (bn - t))).A + (bst (sub la (a + f) (an - t)) (sub lb (b + f) (bn - t))).N, an - t, b + f + (bst (sub la (a + f) (an - t)) (sub lb (b + f) (bn - t))).B + (bst (sub la (a + f) (an - t)) (sub lb (b + f) (bn - t))).N, bn - t⟩) rfl (by omega) (by omega) fun A66 c66 w66 S66 => ?_)
            have S66d := S66.drop (rs' := [_, _, _, _, _]) (.cons_cons _ (.cons_cons _ (.cons_cons _ (.cons_cons _ (.cons_cons _ (.cons _ (.refl _)))))))
            refine L_y (y_assign rfl) rfl ?_
            refine L_nil ?_
            have S67 : St w0 _ [_, _, _] w66 := S66d.sel [0, 3, 4] (by decide)
            have S68 := S67.rowc 0 rfl (n' := (qs ++ [(⟨a + f, a + f + (bst (sub la (a + f) (an - t)) (sub lb (b + f) (bn - t))).A, b + f, b + f + (bst (sub la (a + f) (an - t)) (sub lb (b + f) (bn - t))).B⟩ : BK), (⟨a + f + (bst (sub la (a + f) (an - t)) (sub lb (b + f) (bn - t))).A + (bst (sub la (a + f) (an - t)) (sub lb (b + f) (bn - t))).N, an - t, b + f + (bst (sub la (a + f) (an - t)) (sub lb (b + f) (bn - t))).B + (bst (sub la (a + f) (an - t)) (sub lb (b + f) (bn - t))).N, bn - t⟩ : BK)]).length) (xs' := (qs ++ [(⟨a + f, a + f + (bst (sub la (a + f) (an - t)) (sub lb (b + f) (bn - t))).A, b + f, b + f + (bst (sub la (a + f) (an - t)) (sub lb (b + f) (bn - t))).B⟩ : BK), (⟨a + f + (bst (sub la (a + f) (an - t)) (sub lb (b + f) (bn - t))).A + (bst (sub la (a + f) (an - t)) (sub lb (b + f) (bn - t))).N, an - t, b + f + (bst (sub la (a + f) (an - t)) (sub lb (b + f) (bn - t))).B + (bst (sub la (a + f) (an - t)) (sub lb (b + f) (bn - t))).N, bn - t⟩ : BK)]).flatMap bf) (len_two _ _ _) (bf_snoc2 qs (⟨a + f, a + f + (bst (sub la (a + f) (an - t)) (sub lb (b + f) (bn - t))).A, b + f, b + f + (bst (sub la (a + f) (an - t)) (sub lb (b + f) (bn - t))).B⟩ : BK) (⟨a + f + (bst (sub la (a + f) (an - t)) (sub lb (b + f) (bn - t))).A + (bst (sub la (a + f) (an - t)) (sub lb (b + f) (bn - t))).N, an - t, b + f + (bst (sub la (a + f) (an - t)) (sub lb (b + f) (bn - t))).B + (bst (sub la (a + f) (an - t)) (sub lb (b + f) (bn - t))).N, bn - t⟩ : BK))
            have hW2 := Wt_two qs (⟨a + f, a + f + (bst (sub la (a + f) (an - t)) (sub lb (b + f) (bn - t))).A, b + f, b + f + (bst (sub la (a + f) (an - t)) (sub lb (b + f) (bn - t))).B⟩ : BK) (⟨a + f + (bst (sub la (a + f) (an - t)) (sub lb (b + f) (bn - t))).A + (bst (sub la (a + f) (an - t)) (sub lb (b + f) (bn - t))).N, an - t, b + f + (bst (sub la (a + f) (an - t)) (sub lb (b + f) (bn - t))).B + (bst (sub la (a + f) (an - t)) (sub lb (b + f) (bn - t))).N, bn - t⟩ : BK)
            have hw1 : wt (⟨a + f, a + f + (bst (sub la (a + f) (an - t)) (sub lb (b + f) (bn - t))).A, b + f, b + f + (bst (sub la (a + f) (an - t)) (sub lb (b + f) (bn - t))).B⟩ : BK) = (a + f + (bst (sub la (a + f) (an - t)) (sub lb (b + f) (bn - t))).A - (a + f)) + (b + f + (bst (sub la (a + f) (an - t)) (sub lb (b + f) (bn - t))).B - (b + f)) + 1 := rfl
            have hw2 : wt (⟨a + f + (bst (sub la (a + f) (an - t)) (sub lb (b + f) (bn - t))).A + (bst (sub la (a + f) (an - t)) (sub lb (b + f) (bn - t))).N, an - t, b + f + (bst (sub la (a + f) (an - t)) (sub lb (b + f) (bn - t))).B + (bst (sub la (a + f) (an - t)) (sub lb (b + f) (bn - t))).N, bn - t⟩ : BK) = (an - t - (a + f + (bst (sub la (a + f) (an - t)) (sub lb (b + f) (bn - t))).A + (bst (sub la (a + f) (an - t)) (sub lb (b + f) (bn - t))).N)) + (bn - t - (b + f + (bst (sub la (a + f) (an - t)) (sub lb (b + f) (bn - t))).B + (bst (sub la (a + f) (an - t)) (sub lb (b + f) (bn - t))).N)) + 1 := rfl
            have hbk2 : ∀ z ∈ qs ++ [(⟨a + f, a + f + (bst (sub la (a + f) (an - t)) (sub lb (b + f) (bn - t))).A, b + f, b + f + (bst (sub la (a + f) (an - t)) (sub lb (b + f) (bn - t))).B⟩ : BK), (⟨a + f + (bst (sub la (a + f) (an - t)) (sub lb (b + f) (bn - t))).A + (bst (sub la (a + f) (an - t)) (sub lb (b + f) (bn - t))).N, an - t, b + f + (bst (sub la (a + f) (an - t)) (sub lb (b + f) (bn - t))).B + (bst (sub la (a + f) (an - t)) (sub lb (b + f) (bn - t))).N, bn - t⟩ : BK)], BKok la.length lb.length z := fun z hz => by
              rcases List.mem_append.1 hz with hz | hz
              · exact hbq z hz
              · simp only [List.mem_cons, List.not_mem_nil, or_false] at hz
                rcases hz with rfl | rfl
                · exact ⟨by show a + f ≤ a + f + _; omega, by show a + f + (bst (sub la (a + f) (an - t)) (sub lb (b + f) (bn - t))).A ≤ _; omega, by show b + f ≤ b + f + _; omega, by show b + f + (bst (sub la (a + f) (an - t)) (sub lb (b + f) (bn - t))).B ≤ _; omega⟩
                · exact ⟨by show a + f + (bst (sub la (a + f) (an - t)) (sub lb (b + f) (bn - t))).A + (bst (sub la (a + f) (an - t)) (sub lb (b + f) (bn - t))).N ≤ an - t; omega, by show an - t ≤ _; omega, by show b + f + (bst (sub la (a + f) (an - t)) (sub lb (b + f) (bn - t))).B + (bst (sub la (a + f) (an - t)) (sub lb (b + f) (bn - t))).N ≤ bn - t; omega, by show bn - t ≤ _; omega⟩
            have hfin : ((((ks ++ dg a b f) ++ dg (an - t) (bn - t) t) ++ dg (a + f + (bst (sub la (a + f) (an - t)) (sub lb (b + f) (bn - t))).A) (b + f + (bst (sub la (a + f) (an - t)) (sub lb (b + f) (bn - t))).B) (bst (sub la (a + f) (an - t)) (sub lb (b + f) (bn - t))).N) ++ (qs ++ [(⟨a + f, a + f + (bst (sub la (a + f) (an - t)) (sub lb (b + f) (bn - t))).A, b + f, b + f + (bst (sub la (a + f) (an - t)) (sub lb (b + f) (bn - t))).B⟩ : BK), (⟨a + f + (bst (sub la (a + f) (an - t)) (sub lb (b + f) (bn - t))).A + (bst (sub la (a + f) (an - t)) (sub lb (b + f) (bn - t))).N, an - t, b + f + (bst (sub la (a + f) (an - t)) (sub lb (b + f) (bn - t))).B + (bst (sub la (a + f) (an - t)) (sub lb (b + f) (bn - t))).N, bn - t⟩ : BK)]).flatMap (HB KM la lb)).Perm (ks ++ (HB KM la lb ⟨a, an, b, bn⟩ ++ (qs.flatMap (HB KM la lb)))) := by
              rw [flat_two, hDB]
              refine (perm_mid2 _ _ _ _ _).trans ?_
              rw [hsp]
              exact perm_one _ _ _ _ _
            refine ⟨A66, c66, qs ++ [(⟨a + f, a + f + (bst (sub la (a + f) (an - t)) (sub lb (b + f) (bn - t))).A, b + f, b + f + (bst (sub la (a + f) (an - t)) (sub lb (b + f) (bn - t))).B⟩ : BK), (⟨a + f + (bst (sub la (a + f) (an - t)) (sub lb (b + f) (bn - t))).A + (bst (sub la (a + f) (an - t)) (sub lb (b + f) (bn - t))).N, an - t, b + f + (bst (sub la (a + f) (an - t)) (sub lb (b + f) (bn - t))).B + (bst (sub la (a + f) (an - t)) (sub lb (b + f) (bn - t))).N, bn - t⟩ : BK)], _, _, _, by omega, ⟨⟨hbk2, by omega, perm_pop hfin hpm9⟩, S68⟩, ?_⟩
            exact (Sub.cons rfl (by first | rfl | exact congrArg (Value.slice _ · _) (len_two _ _ _)) (Sub.cons rfl rfl (Sub.cons rfl rfl (Sub.cons rfl rfl (Sub.cons rfl rfl (Sub.nil _))))))
    ·
      refine T_exit ?_
      refine hK4 _ _ ?_
      refine T_seq fun K35 hK35 => ?_
      have hp0 : ps = [] := List.eq_nil_of_length_eq_zero (by omega)
      subst hp0
      rw [List.flatMap_nil, List.append_nil] at hpm hpl
      refine T_region ?_
      refine L_y (y_ldc Try.underlying25 rfl rfl (((S5.blk 1 rfl).cell _).trans (by rfl))) rfl ?_
      refine L_y (y_assign rfl) rfl ?_
      refine L_nil ?_
      refine hK35 _ _ ?_
      refine T_ret ?_
      repeat (first | with_reducible refine up_then ?_ | with_reducible refine up_in ?_)
      refine ret1 rfl rfl ?_
      exact ⟨_, rfl, S5.like0, KA, ks, kc, rfl, S5.own 2 rfl, hpm⟩


set_option maxRecDepth 100000 in
theorem hdiff (A B : Option Addr) (n ca m cb : Nat) (la lb : List Int) (w0 : World) (ha : Rs w0 1 A n ca (iL la)) (hb : Rs w0 1 B m cb (iL lb)) (hn9 : n ≤ 800) (hm9 : m ≤ 800) :
    Calls Try.prog 13 #[.slice A n ca, .slice B m cb] w0 fun e w' => ∃ u, e = .returned u ∧ Like w0 w' ∧ ∃ A m c, u = .tuple #[.slice A m c, .int .i64 0] ∧ w'.ownsRow w0.heap.size 34 2 (.slice A m c) m ((DH KM la lb).flatMap pf) := by
  refine enter1 (env := [(0, .slice A n ca), (1, .slice B m cb)]) [.slice A n ca, .slice B m cb] Try.func13 rfl Try.ntmps13 rfl rfl ?_
  have hla := lenI ha; have hlb := lenI hb; have hcap := ha.cap; have hmax := ha.max; have hcap2 := hb.cap; have hmax2 := hb.max; have S0 := St.start w0 noM
  refine T_seq fun K1 hK1 => ?_
  refine T_region ?_
  refine L_y (y_assign rfl) rfl ?_
  refine L_y (y_assign rfl) rfl ?_
  refine L_nil ?_
  refine hK1 _ _ ?_
  refine T_seq fun K2 hK2 => ?_
  refine T_seq fun K3 hK3 => ?_
  refine T_region ?_
  refine L_y (y_move rfl) rfl ?_
  refine L_y (y_len Try.underlying22 rfl) rfl ?_
  refine L_y (y_gtr rfl rfl) rfl ?_
  refine L_y (y_move rfl) rfl ?_
  refine L_split 10 rfl (fun h10 => ?_) (fun h10 => ?_)
  ·
    exact absurd h10 (by omega)
  ·
    refine L_gyes rfl rfl ?_
    refine L_y (y_move rfl) rfl ?_
    refine L_gyes rfl rfl ?_
    refine L_y (y_len Try.underlying22 rfl) rfl ?_
    refine L_gyes rfl rfl ?_
    refine L_y (y_gtr rfl rfl) rfl ?_
    refine L_y ((by first | exact y_pickT rfl rfl | exact y_pickF rfl rfl)) rfl ?_
    refine L_nil ?_
    refine hK3 _ _ ?_
    refine T_cond rfl (fun h14 => ?_) (fun h14 => ?_)
    ·
      exact absurd h14 (by omega)
    ·
      refine T_skip ?_
      refine hK2 _ _ ?_
      refine T_seq fun K4 hK4 => ?_
      refine T_region ?_
      refine L_y (y_move rfl) rfl ?_
      refine L_y (y_move rfl) rfl ?_
      refine L_o (o_call Try.func32 rfl rfl (hrun A B n ca m cb la lb w0 (S0.rd ha) (S0.rd hb) hn9 hm9) rfl rfl ?_)
      rintro e2 w2 ⟨v2, rfl, l2, A2, ks, c2, rfl, O2, hpm⟩
      refine ⟨_, rfl, ?_⟩
      have S2 := S0.adopt l2 O2
      have hpl := hpm.length_eq
      have hdl := DHK_len la lb
      refine L_y (y_assign rfl) rfl ?_
      refine L_nil ?_
      refine hK4 _ _ ?_
      refine T_seq fun K5 hK5 => ?_
      refine T_region ?_
      refine L_y (y_move rfl) rfl ?_
      refine L_o (o_call Try.func33 rfl rfl (sortH _ ks.length _ ks w2 rfl (S2.get 0 rfl) (by omega)) rfl rfl ?_)
      rintro e3 w3 ⟨v3, rfl, zs, hzp, hzs, T3⟩
      refine ⟨_, rfl, ?_⟩
      have S3 := S2.turn 0 rfl T3
      have hze := asc_of (hzp.trans hpm) hzs ((DH_ok KM_ok la lb).2.imp fun {p q} h => h.1)
      subst hze
      refine L_nil ?_
      refine hK5 _ _ ?_
      refine T_seq fun K6 hK6 => ?_
      refine T_region ?_
      refine L_y (y_move rfl) rfl ?_
      refine L_y (y_assign rfl) rfl ?_
      refine L_y (y_assign rfl) rfl ?_
      refine L_nil ?_
      refine hK6 _ _ ?_
      refine T_ret ?_
      repeat (first | with_reducible refine up_then ?_ | with_reducible refine up_in ?_)
      refine ret2 rfl rfl rfl ?_
      exact ⟨_, rfl, S3.like0, _, _, _, rfl, S3.own 0 rfl⟩


end Go.Proofs.Ytbbmkgpgiacdeaa


/-
  The document: Diff, by the histogram way.
-/
namespace Go.Proofs.Ytbbmkgpgiacdeaa
open Go.RowKit Zk Zx
set_option linter.unusedVariables false
set_option linter.unusedSimpArgs false

end Go.Proofs.Ytbbmkgpgiacdeaa


/-
  The laws PatienceOnce, PatienceChains.
-/
namespace Go.Proofs.Ytbbmkgpgiacdeaa
open Go.RowKit Zk Zx
set_option linter.unusedVariables false
set_option linter.unusedSimpArgs false

section
open Go.ChangeShapes Go.WideShapes Go.ChangeAt Go.Deep
variable {H : Type} {enc : TypeId × Value → H} {w : World} {base : Nat} {spare : Nat → Bool} {held : Bool}
end
end Go.Proofs.Ytbbmkgpgiacdeaa


/-
  The laws PatienceDiffs, PatienceKeeps.
-/
namespace Go.Proofs.Ytbbmkgpgiacdeaa
open Go.RowKit Zk Zx
set_option linter.unusedVariables false
set_option linter.unusedSimpArgs false

/-- Each place's partner. -/
def Par (l : List (Nat × Nat)) (vs : List Int) (k : Nat) : Prop := ∀ (t : Nat) (p : Nat × Nat), t < k → l[t]? = some p → vs[p.1]? = some (p.2 : Int)
theorem Par.at {l : List (Nat × Nat)} {vs : List Int} (h : Par l vs l.length) {i k : Nat} (hm : (i, k) ∈ l) : vs[i]? = some (k : Int) := by
  obtain ⟨t, ht⟩ := List.getElem?_of_mem hm
  exact h t (i, k) (List.getElem?_eq_some_iff.1 ht).1 ht


end Go.Proofs.Ytbbmkgpgiacdeaa


/-
  The laws of the histogram way.
-/
namespace Go.Proofs.Ytbbmkgpgiacdeaa
open Go.RowKit Zk Zx
set_option linter.unusedVariables false
set_option linter.unusedSimpArgs false

theorem y_eqb {P : Program} {S : World → Prop} {env : Env} {dst : Option Tmp} {ty : TypeId} {pos : String} {after : Array Edge} {g : Option (Nat × Bool)} {x y : Operand} {t u : TypeId} {a b : Bool} (ht : P.underlying t = some .bool) (hx : ev env x = some (.bool a)) (hy : ev env y = some (.bool b)) (h : a = b) :
    Y P S env ⟨dst, .binOp .eql t x y u, ty, pos, after, g⟩ (.bool true) := fun N c w hc _ => by
  subst h
  have he : (Op.equal t (.bool a) (.bool a)).run P w = .ok true w := by
    unfold Op.equal Op.maxDepth Op.equalIn
    simp only [Sem.run_bind, run_underlying ht, Result.andThen_ok, Sem.run_pure]
    simp
  simp only [execOp, hc.eval hx, hc.eval hy, eqGuard, binOp, Sem.run_bind, Sem.run_pure, Result.andThen_ok, he]
  rw [if_neg (by decide)]
  simp only [Sem.run_pure, Result.andThen_ok, he]
theorem bst_works : bst [7, 1, 7, 2, 3] [7, 2, 3, 7] = ⟨2, 0, 3, 1⟩ := by
  have h : (fun p : PT => (p.A, p.B, p.N, p.W)) (bst [7, 1, 7, 2, 3] [7, 2, 3, 7]) = (2, 0, 3, 1) := by decide +kernel
  generalize bst [7, 1, 7, 2, 3] [7, 2, 3, 7] = p at h
  obtain ⟨a, b, c, d⟩ := p
  cases h
  rfl
theorem DH_works : (DH KM [1, 2, 3, 1] [1, 3, 1]).length = 3 := by decide +kernel
theorem fieldsPart : FieldsI Try.prog [{ name := "A", type := 3, offset := 0, embedded := false, tag := "", pkgPath := "", byteOffset := 0 }, { name := "B", type := 3, offset := 1, embedded := false, tag := "", pkgPath := "", byteOffset := 8 }, { name := "N", type := 3, offset := 2, embedded := false, tag := "", pkgPath := "", byteOffset := 16 }, { name := "Worth", type := 3, offset := 3, embedded := false, tag := "", pkgPath := "", byteOffset := 24 }] 0 :=
  ⟨by decide, rfl, Try.underlying3, by decide, rfl, Try.underlying3, by decide, rfl, Try.underlying3, by decide, rfl, Try.underlying3, trivial⟩
set_option maxRecDepth 100000 in
theorem works24  (w0 : World)  :
    Calls Try.prog 12 #[] w0 fun e w' => ∃ u, e = .returned u ∧ Like w0 w' ∧ u = .bool true := by
  refine enter1 (env := []) [] Try.func12 rfl Try.ntmps12 rfl rfl ?_
  have S0 := St.start w0 noM
  refine T_seq fun K1 hK1 => ?_
  refine T_region ?_
  refine L_y (y_assign rfl) rfl ?_
  refine L_nil ?_
  refine hK1 _ _ ?_
  refine T_seq fun K2 hK2 => ?_
  refine T_region ?_
  refine L_o (o_bsl [_, _, _, _, _] te22 zz3 S0 rfl rfl rfl rfl rfl rfl rfl rfl fun b1 w1 S1 => ?_)
  refine L_o (o_bsl [_, _, _, _] te22 zz3 S1 rfl rfl rfl rfl rfl rfl rfl rfl fun b2 w2 S2 => ?_)
  refine L_o (o_call Try.func21 rfl rfl (hBest _ _ _ _ _ _ [7, 1, 7, 2, 3] [7, 2, 3, 7] w2 (S2.row 0 rfl) (S2.row 1 rfl) (by omega) (by omega)) rfl rfl ?_)
  rintro e3 w3 ⟨v3, rfl, l3, rfl⟩
  refine ⟨_, rfl, ?_⟩
  have S3 := S2.like l3
  rw [bst_works]
  refine L_y (y_move rfl) rfl ?_
  refine L_y (y_extract rfl rfl) rfl ?_
  refine L_y (y_extract rfl rfl) rfl ?_
  refine L_o (o_alloc zz43 S3 rfl fun b4 w4 hb4 S4 => ?_)
  refine L_o (o_stW S4 2 rfl rfl rfl sz43 (by rfl) (ptf_one1 _) fun w5 S5 => ?_)
  refine L_y (y_assign rfl) rfl ?_
  refine L_nil ?_
  refine hK2 _ _ ?_
  refine T_seq fun K3 hK3 => ?_
  refine T_region ?_
  refine L_o (o_bsl [_, _, _, _] te22 zz3 S5 rfl rfl rfl rfl rfl rfl rfl rfl fun b6 w6 S6 => ?_)
  refine L_o (o_bsl [_, _, _] te22 zz3 S6 rfl rfl rfl rfl rfl rfl rfl rfl fun b7 w7 S7 => ?_)
  refine L_o (o_call Try.func13 rfl rfl (hdiff _ _ _ _ _ _ [1, 2, 3, 1] [1, 3, 1] w7 (S7.row 3 rfl) (S7.row 4 rfl) (by omega) (by omega)) rfl rfl ?_)
  rintro e8 w8 ⟨v8, rfl, l8, AQ, mQ, cQ, rfl, O8⟩
  refine ⟨_, rfl, ?_⟩
  have S8 := S7.adopt l8 O8
  have hmQ := pf_n (S8.row 5 rfl)
  rw [DH_works] at hmQ
  subst hmQ
  refine L_y (y_move rfl) rfl ?_
  refine L_y (y_extract rfl rfl) rfl ?_
  refine L_y (y_extract rfl rfl) rfl ?_
  refine L_y (y_assign rfl) rfl ?_
  refine L_y (y_assign rfl) rfl ?_
  refine L_nil ?_
  refine hK3 _ _ ?_
  refine T_seq fun K4 hK4 => ?_
  refine T_region ?_
  refine L_y (y_move rfl) rfl ?_
  refine L_y (y_move rfl) rfl ?_
  refine L_split 18 rfl (fun h18 => ?_) (fun h18 => ?_)
  ·
    refine L_gyes rfl rfl ?_
    refine L_y (y_ldW Try.underlying43 rfl sz43 rfl (S8.blk 2 rfl) (show _ = ptf (⟨2, 0, 3, 1⟩) ∧ _ from ⟨rfl, rfl⟩)) rfl ?_
    refine L_gyes rfl rfl ?_
    refine L_y (y_build rfl (show _ = some #[Value.int .i64 2, Value.int .i64 0, Value.int .i64 3, Value.int .i64 1] by kernel_rfl)) rfl ?_
    refine L_gyes rfl rfl ?_
    refine L_y (y_eqI (xs := [2, 0, 3, 1]) (ys := [2, 0, 3, 1]) Try.underlying43 (by kernel_rfl) (by kernel_rfl) fieldsPart rfl rfl rfl rfl) rfl ?_
    refine L_y ((by first | exact y_pickT rfl rfl | exact y_pickF rfl rfl)) rfl ?_
    refine L_y (y_move rfl) rfl ?_
    refine L_split 23 rfl (fun h23 => ?_) (fun h23 => ?_)
    ·
      refine L_gyes rfl rfl ?_
      refine L_y (y_move rfl) rfl ?_
      refine L_gyes rfl rfl ?_
      refine L_y (y_eql rfl rfl) rfl ?_
      refine L_y ((by first | exact y_pickT rfl rfl | exact y_pickF rfl rfl)) rfl ?_
      refine L_y (y_move rfl) rfl ?_
      refine L_split 27 rfl (fun h27 => ?_) (fun h27 => ?_)
      ·
        refine L_gyes rfl rfl ?_
        refine L_y (y_move rfl) rfl ?_
        refine L_gyes rfl rfl ?_
        refine L_y (y_len Try.underlying25 rfl) rfl ?_
        refine L_gyes rfl rfl ?_
        refine L_y (y_eql rfl rfl) rfl ?_
        refine L_y ((by first | exact y_pickT rfl rfl | exact y_pickF rfl rfl)) rfl ?_
        refine L_y (y_assign rfl) rfl ?_
        refine L_nil ?_
        refine hK4 _ _ ?_
        refine T_ret ?_
        repeat (first | with_reducible refine up_then ?_ | with_reducible refine up_in ?_)
        refine ret1 rfl rfl ?_
        exact ⟨_, rfl, S8.like0, rfl⟩
      ·
        exact absurd rfl h27
    ·
      exact absurd rfl h23
  ·
    exact absurd (by decide) h18


set_option maxRecDepth 100000 in
theorem long24 (A B : Option Addr) (n ca m cb : Nat) (w0 : World)  :
    Calls Try.prog 11 #[.slice A n ca, .slice B m cb] w0 fun e w' => ∃ u, e = .returned u ∧ Like w0 w' ∧ u = .bool (decide (90 < n ∨ 90 < m)) := by
  refine enter1 (env := [(0, .slice A n ca), (1, .slice B m cb)]) [.slice A n ca, .slice B m cb] Try.func11 rfl Try.ntmps11 rfl rfl ?_
  have S0 := St.start w0 noM
  refine T_seq fun K1 hK1 => ?_
  refine T_region ?_
  refine L_y (y_assign rfl) rfl ?_
  refine L_nil ?_
  refine hK1 _ _ ?_
  refine T_seq fun K2 hK2 => ?_
  refine T_region ?_
  refine L_y (y_move rfl) rfl ?_
  refine L_y (y_len Try.underlying22 rfl) rfl ?_
  refine L_y (y_gtr rfl rfl) rfl ?_
  refine L_y (y_move rfl) rfl ?_
  refine L_split 8 rfl (fun h8 => ?_) (fun h8 => ?_)
  ·
    refine L_gno rfl rfl rfl ?_
    refine L_gno rfl rfl rfl ?_
    refine L_gno rfl rfl rfl ?_
    refine L_y ((by first | exact y_pickT rfl rfl | exact y_pickF rfl rfl)) rfl ?_
    refine L_y (y_assign rfl) rfl ?_
    refine L_nil ?_
    refine hK2 _ _ ?_
    refine T_ret ?_
    repeat (first | with_reducible refine up_then ?_ | with_reducible refine up_in ?_)
    refine ret1 rfl rfl ?_
    exact ⟨_, rfl, S0.like0, congrArg Value.bool (by first | exact (decide_eq_true (by omega)).symm | exact decide_eq_decide.2 (by omega))⟩
  ·
    refine L_gyes rfl rfl ?_
    refine L_y (y_move rfl) rfl ?_
    refine L_gyes rfl rfl ?_
    refine L_y (y_len Try.underlying22 rfl) rfl ?_
    refine L_gyes rfl rfl ?_
    refine L_y (y_gtr rfl rfl) rfl ?_
    refine L_y ((by first | exact y_pickT rfl rfl | exact y_pickF rfl rfl)) rfl ?_
    refine L_y (y_assign rfl) rfl ?_
    refine L_nil ?_
    refine hK2 _ _ ?_
    refine T_ret ?_
    repeat (first | with_reducible refine up_then ?_ | with_reducible refine up_in ?_)
    refine ret1 rfl rfl ?_
    exact ⟨_, rfl, S0.like0, congrArg Value.bool (by first | exact (decide_eq_true (by omega)).symm | exact decide_eq_decide.2 (by omega))⟩


set_option maxRecDepth 100000 in
theorem same24 (p : PT) (w0 : World)  :
    Calls Try.prog 20 #[.agg (ptf p).toArray, .agg (ptf p).toArray] w0 fun e w' => ∃ u, e = .returned u ∧ Like w0 w' ∧ u = .bool true := by
  refine enter1 (env := [(0, .agg (ptf p).toArray), (1, .agg (ptf p).toArray)]) [.agg (ptf p).toArray, .agg (ptf p).toArray] Try.func20 rfl Try.ntmps20 rfl rfl ?_
  have S0 := St.start w0 noM
  refine T_seq fun K1 hK1 => ?_
  refine T_region ?_
  refine L_o (o_box rfl S0 rfl fun b1 w1 hb1 S1 => ?_)
  refine L_o (o_box rfl S1 rfl fun b2 w2 hb2 S2 => ?_)
  refine L_y (y_assign rfl) rfl ?_
  refine L_nil ?_
  refine hK1 _ _ ?_
  refine T_seq fun K2 hK2 => ?_
  refine T_region ?_
  refine L_y (y_fieldA 0 Try.underlying43 rfl sz3 rfl rfl rfl) rfl ?_
  refine L_y (y_ldc Try.underlying3 rfl rfl (((S2.blk 0 rfl).cell _).trans (by rfl))) rfl ?_
  refine L_y (y_fieldA 0 Try.underlying44 rfl sz3 rfl rfl rfl) rfl ?_
  refine L_y (y_ldc Try.underlying3 rfl rfl (((S2.blk 1 rfl).cell _).trans (by rfl))) rfl ?_
  refine L_y (y_eql rfl rfl) rfl ?_
  refine L_y (y_move rfl) rfl ?_
  refine L_split 10 rfl (fun h10 => ?_) (fun h10 => ?_)
  ·
    refine L_gyes rfl rfl ?_
    refine L_y (y_fieldA 1 Try.underlying43 rfl sz3 rfl rfl rfl) rfl ?_
    refine L_gyes rfl rfl ?_
    refine L_y (y_ldc Try.underlying3 rfl rfl (((S2.blk 0 rfl).cell _).trans (by rfl))) rfl ?_
    refine L_gyes rfl rfl ?_
    refine L_y (y_fieldA 1 Try.underlying44 rfl sz3 rfl rfl rfl) rfl ?_
    refine L_gyes rfl rfl ?_
    refine L_y (y_ldc Try.underlying3 rfl rfl (((S2.blk 1 rfl).cell _).trans (by rfl))) rfl ?_
    refine L_gyes rfl rfl ?_
    refine L_y (y_eql rfl rfl) rfl ?_
    refine L_y ((by first | exact y_pickT rfl rfl | exact y_pickF rfl rfl)) rfl ?_
    refine L_y (y_move rfl) rfl ?_
    refine L_split 17 rfl (fun h17 => ?_) (fun h17 => ?_)
    ·
      refine L_gyes rfl rfl ?_
      refine L_y (y_fieldA 2 Try.underlying43 rfl sz3 rfl rfl rfl) rfl ?_
      refine L_gyes rfl rfl ?_
      refine L_y (y_ldc Try.underlying3 rfl rfl (((S2.blk 0 rfl).cell _).trans (by rfl))) rfl ?_
      refine L_gyes rfl rfl ?_
      refine L_y (y_fieldA 2 Try.underlying44 rfl sz3 rfl rfl rfl) rfl ?_
      refine L_gyes rfl rfl ?_
      refine L_y (y_ldc Try.underlying3 rfl rfl (((S2.blk 1 rfl).cell _).trans (by rfl))) rfl ?_
      refine L_gyes rfl rfl ?_
      refine L_y (y_eql rfl rfl) rfl ?_
      refine L_y ((by first | exact y_pickT rfl rfl | exact y_pickF rfl rfl)) rfl ?_
      refine L_y (y_move rfl) rfl ?_
      refine L_split 24 rfl (fun h24 => ?_) (fun h24 => ?_)
      ·
        refine L_gyes rfl rfl ?_
        refine L_y (y_fieldA 3 Try.underlying43 rfl sz3 rfl rfl rfl) rfl ?_
        refine L_gyes rfl rfl ?_
        refine L_y (y_ldc Try.underlying3 rfl rfl (((S2.blk 0 rfl).cell _).trans (by rfl))) rfl ?_
        refine L_gyes rfl rfl ?_
        refine L_y (y_fieldA 3 Try.underlying44 rfl sz3 rfl rfl rfl) rfl ?_
        refine L_gyes rfl rfl ?_
        refine L_y (y_ldc Try.underlying3 rfl rfl (((S2.blk 1 rfl).cell _).trans (by rfl))) rfl ?_
        refine L_gyes rfl rfl ?_
        refine L_y (y_eql rfl rfl) rfl ?_
        refine L_y ((by first | exact y_pickT rfl rfl | exact y_pickF rfl rfl)) rfl ?_
        refine L_y (y_assign rfl) rfl ?_
        refine L_nil ?_
        refine hK2 _ _ ?_
        refine T_ret ?_
        repeat (first | with_reducible refine up_then ?_ | with_reducible refine up_in ?_)
        refine ret1 rfl rfl ?_
        exact ⟨_, rfl, S2.like0, congrArg Value.bool (decide_eq_true rfl)⟩
      ·
        exact absurd rfl h24
    ·
      exact absurd rfl h17
  ·
    exact absurd rfl h10


set_option maxRecDepth 100000 in
theorem hparts (A B : Option Addr) (n ca m cb : Nat) (la lb : List Int) (w0 : World) (ha : Rs w0 1 A n ca (iL la)) (hb : Rs w0 1 B m cb (iL lb)) :
    Calls Try.prog 5 #[.slice A n ca, .slice B m cb] w0 fun e w' => ∃ u, e = .returned u ∧ Like w0 w' ∧ u = .bool true := by
  refine enter1 (env := [(0, .slice A n ca), (1, .slice B m cb)]) [.slice A n ca, .slice B m cb] Try.func5 rfl Try.ntmps5 rfl rfl ?_
  have hla := lenI ha; have hlb := lenI hb; have hcap := ha.cap; have hmax := ha.max; have hcap2 := hb.cap; have hmax2 := hb.max; have S0 := St.start w0 noM
  refine T_seq fun K1 hK1 => ?_
  refine T_region ?_
  refine L_y (y_assign rfl) rfl ?_
  refine L_nil ?_
  refine hK1 _ _ ?_
  refine T_seq fun K2 hK2 => ?_
  refine T_seq fun K3 hK3 => ?_
  refine T_region ?_
  refine L_y (y_move rfl) rfl ?_
  refine L_y (y_move rfl) rfl ?_
  refine L_o (o_call Try.func11 rfl rfl (long24 A B n ca m cb w0) rfl rfl ?_)
  rintro e1 w1 ⟨v1, rfl, l1, rfl⟩
  refine ⟨_, rfl, ?_⟩
  have S1 := S0.like l1
  refine L_nil ?_
  refine hK3 _ _ ?_
  refine T_condB rfl (fun h14 => ?_) (fun h14 => ?_)
  ·
    refine T_seq fun K4 hK4 => ?_
    refine T_region ?_
    refine L_o (o_call Try.func12 rfl rfl (works24 w1) rfl rfl ?_)
    rintro e2 w2 ⟨v2, rfl, l2, rfl⟩
    refine ⟨_, rfl, ?_⟩
    have S2 := S1.like l2
    refine L_y (y_assign rfl) rfl ?_
    refine L_nil ?_
    refine hK4 _ _ ?_
    refine T_ret ?_
    repeat (first | with_reducible refine up_then ?_ | with_reducible refine up_in ?_)
    refine ret1 rfl rfl ?_
    exact ⟨_, rfl, S2.like0, rfl⟩
  ·
    have hl9 := of_decide_eq_false h14
    refine T_skip ?_
    refine hK2 _ _ ?_
    refine T_seq fun K5 hK5 => ?_
    refine T_region ?_
    refine L_y (y_move rfl) rfl ?_
    refine L_y (y_move rfl) rfl ?_
    refine L_o (o_call Try.func18 rfl rfl (hParts A B n ca m cb la lb w1 (S1.rd ha) (S1.rd hb) (by omega) (by omega)) rfl rfl ?_)
    rintro e3 w3 ⟨v3, rfl, l3, AP, nP, cP, rfl, O3⟩
    refine ⟨_, rfl, ?_⟩
    have S3 := S1.adopt l3 O3
    have hnP := ptf_n (S3.row 0 rfl)
    have hpl := parts_len3 hla hlb (by omega) (by omega)
    refine L_y (y_move rfl) rfl ?_
    refine L_y (y_extract rfl rfl) rfl ?_
    refine L_y (y_extract rfl rfl) rfl ?_
    refine L_y (y_assign rfl) rfl ?_
    refine L_y (y_assign rfl) rfl ?_
    refine L_nil ?_
    refine hK5 _ _ ?_
    refine T_seq fun K6 hK6 => ?_
    refine T_region ?_
    refine L_y (y_move rfl) rfl ?_
    refine L_y (y_move rfl) rfl ?_
    refine L_o (o_call Try.func19 rfl rfl (rparts A B n ca m cb la lb w3 (S3.rd ha) (S3.rd hb) (by omega) (by omega)) rfl rfl ?_)
    rintro e4 w4 ⟨v4, rfl, l4, AQ, nQ, cQ, rfl, O4⟩
    refine ⟨_, rfl, ?_⟩
    have S4 := S3.adopt l4 O4
    have hnQ := ptf_n (S4.row 1 rfl)
    refine L_y (y_assign rfl) rfl ?_
    refine L_nil ?_
    refine hK6 _ _ ?_
    refine T_seq fun K7 hK7 => ?_
    refine T_seq fun K8 hK8 => ?_
    refine T_region ?_
    refine L_y (y_move rfl) rfl ?_
    refine L_y (y_neq rfl rfl) rfl ?_
    refine L_y (y_move rfl) rfl ?_
    refine L_split 27 rfl (fun h27 => ?_) (fun h27 => ?_)
    ·
      exact absurd rfl h27
    ·
      refine L_gyes rfl rfl ?_
      refine L_y (y_move rfl) rfl ?_
      refine L_gyes rfl rfl ?_
      refine L_y (y_len Try.underlying36 rfl) rfl ?_
      refine L_gyes rfl rfl ?_
      refine L_y (y_move rfl) rfl ?_
      refine L_gyes rfl rfl ?_
      refine L_y (y_len Try.underlying39 rfl) rfl ?_
      refine L_gyes rfl rfl ?_
      refine L_y (y_neq rfl rfl) rfl ?_
      refine L_y ((by first | exact y_pickT rfl rfl | exact y_pickF rfl rfl)) rfl ?_
      refine L_nil ?_
      refine hK8 _ _ ?_
      refine T_cond rfl (fun h33 => ?_) (fun h33 => ?_)
      ·
        exact absurd (by omega) h33
      ·
        refine T_skip ?_
        refine hK7 _ _ ?_
        refine T_seq fun K9 hK9 => ?_
        refine T_seq fun K10 hK10 => ?_
        refine T_region ?_
        refine L_y (y_assign rfl) rfl ?_
        refine L_nil ?_
        refine hK10 _ _ ?_
        refine T_block ?_
        refine T_loop1 [(0, _), (1, _), (5, _), (7, _)] (fun (k : Nat) => [(8, .int .i64 (k : Int))]) (fun (k : Nat) => nP - k) (fun (k : Nat) (w : World) => k ≤ nP ∧ St w0 noM [row 43 4 AP nP cP ((parts la lb la.length).flatMap ptf), row 44 4 AQ nQ cQ ((parts la lb la.length).flatMap ptf)] w) 0 (Sub.cons rfl (by first | rfl | exact congrArg (Value.int _) (by omega)) (Sub.nil _)) (Sub.cons rfl rfl (Sub.cons rfl rfl (Sub.cons rfl rfl (Sub.cons rfl rfl (Sub.nil _))))) ?_ ?_
        ·
          exact ⟨Nat.zero_le _, S4⟩
        ·
          intro k w6 hrel
          obtain ⟨hk, S6⟩ := hrel
          refine T_seq fun K11 hK11 => ?_
          refine T_seq fun K12 hK12 => ?_
          refine T_region ?_
          refine L_y (y_move rfl) rfl ?_
          refine L_y (y_move rfl) rfl ?_
          refine L_y (y_len Try.underlying36 rfl) rfl ?_
          refine L_y (y_lss rfl rfl) rfl ?_
          refine L_nil ?_
          refine hK12 _ _ ?_
          refine T_cond rfl (fun h37 => ?_) (fun h37 => ?_)
          ·
            obtain ⟨p, hp⟩ : ∃ p, (parts la lb la.length)[k]? = some p := ⟨_, List.getElem?_eq_getElem (by omega)⟩
            refine T_skip ?_
            refine hK11 _ _ ?_
            refine T_seq fun K13 hK13 => ?_
            refine T_block ?_
            refine T_seq fun K14 hK14 => ?_
            refine T_tail 8 hmix (by kernel_rfl) fun w7 l7 K15 hK15 => ?_
            have S7 := S6.like l7
            refine HL_y (y_move rfl) rfl ?_
            refine HL_y (y_move rfl) rfl ?_
            refine HL_y (y_idx Try.underlying36 sz43 rfl rfl (S7.row 0 rfl) (Nt.mk rfl : Nt _ (k)) (by omega)) rfl ?_
            refine HL_y (y_ldp (f := ptf) ptf_len Try.underlying43 rfl sz43 rfl (S7.row 0 rfl) (by omega) hp) rfl ?_
            refine HL_y (y_move rfl) rfl ?_
            refine HL_y (y_move rfl) rfl ?_
            refine HL_y (y_idx Try.underlying39 sz44 rfl rfl (S7.row 1 rfl) (Nt.mk rfl : Nt _ (k)) (by omega)) rfl ?_
            refine HL_y (y_ldp (f := ptf) ptf_len Try.underlying44 rfl sz44 rfl (S7.row 1 rfl) (by omega) hp) rfl ?_
            refine HL_nil ?_
            refine hK15 _ ?_
            refine L_o (o_call Try.func20 rfl rfl (same24 p w7) rfl rfl ?_)
            rintro e8 w8 ⟨v8, rfl, l8, rfl⟩
            refine ⟨_, rfl, ?_⟩
            have S8 := S7.like l8
            refine L_y ((by first | exact y_notD rfl | exact y_not rfl)) rfl ?_
            refine L_nil ?_
            refine hK14 _ _ ?_
            refine T_false rfl ?_
            refine T_skip ?_
            refine hK13 _ _ ?_
            refine T_region ?_
            refine L_y (y_move rfl) rfl ?_
            refine L_y (y_add rfl rfl (i64w (by omega))) rfl ?_
            refine L_y (y_assign rfl) rfl ?_
            refine L_nil ?_
            refine ⟨k + 1, by omega, ⟨by omega, S8⟩, ?_⟩
            exact (Sub.cons rfl (by first | rfl | exact congrArg (Value.int _) (by omega)) (Sub.cons rfl rfl (Sub.cons rfl rfl (Sub.cons rfl rfl (Sub.cons rfl rfl (Sub.nil _))))))
          ·
            refine T_exit ?_
            refine hK9 _ _ ?_
            refine T_seq fun K16 hK16 => ?_
            refine T_region ?_
            refine L_y (y_move rfl) rfl ?_
            refine L_y (y_move rfl) rfl ?_
            refine L_o (o_call Try.func21 rfl rfl (hBest A B n ca m cb la lb w6 (S6.rd ha) (S6.rd hb) (by omega) (by omega)) rfl rfl ?_)
            rintro e9 w9 ⟨v9, rfl, l9, rfl⟩
            refine ⟨_, rfl, ?_⟩
            have S9 := S6.like l9
            refine L_y (y_move rfl) rfl ?_
            refine L_y (y_extract rfl rfl) rfl ?_
            refine L_y (y_extract rfl rfl) rfl ?_
            refine L_o (o_alloc zz43 S9 rfl fun b10 w10 hb10 S10 => ?_)
            refine L_o (o_stW S10 2 rfl rfl rfl sz43 (by rfl) (ptf_one1 _) fun w11 S11 => ?_)
            refine L_y (y_assign rfl) rfl ?_
            refine L_nil ?_
            refine hK16 _ _ ?_
            refine T_seq fun K17 hK17 => ?_
            refine T_region ?_
            refine L_y (y_move rfl) rfl ?_
            refine L_y (y_move rfl) rfl ?_
            refine L_o (o_call Try.func22 rfl rfl (rbest24 A B n ca m cb la lb w11 (S11.rd ha) (S11.rd hb) (by omega) (by omega)) rfl rfl ?_)
            rintro e12 w12 ⟨v12, rfl, l12, rfl⟩
            refine ⟨_, rfl, ?_⟩
            have S12 := S11.like l12
            refine L_o (o_alloc zz44 S12 rfl fun b13 w13 hb13 S13 => ?_)
            refine L_o (o_stW S13 3 rfl rfl rfl sz44 (by rfl) (ptf_one1 _) fun w14 S14 => ?_)
            refine L_nil ?_
            refine hK17 _ _ ?_
            refine T_seq fun K18 hK18 => ?_
            refine T_region ?_
            refine L_y (y_ldW Try.underlying43 rfl sz43 rfl (S14.blk 2 rfl) (show _ = ptf (bst la lb) ∧ _ from ⟨rfl, rfl⟩)) rfl ?_
            refine L_y (y_ldW Try.underlying44 rfl sz44 rfl (S14.blk 3 rfl) (show _ = ptf (bst la lb) ∧ _ from ⟨rfl, rfl⟩)) rfl ?_
            refine L_o (o_call Try.func20 rfl rfl (same24 (bst la lb) w14) rfl rfl ?_)
            rintro e15 w15 ⟨v15, rfl, l15, rfl⟩
            refine ⟨_, rfl, ?_⟩
            have S15 := S14.like l15
            refine L_y (y_move rfl) rfl ?_
            refine L_gyes rfl rfl ?_
            refine L_y (y_move rfl) rfl ?_
            refine L_gyes rfl rfl ?_
            refine L_y (y_fieldA 2 Try.underlying44 rfl sz3 rfl rfl rfl) rfl ?_
            refine L_gyes rfl rfl ?_
            refine L_y (y_ldc Try.underlying3 rfl rfl (((S15.blk 3 rfl).cell _).trans (by rfl))) rfl ?_
            refine L_gyes rfl rfl ?_
            refine L_y (y_gtr rfl rfl) rfl ?_
            refine L_gyes rfl rfl ?_
            refine L_y (y_eqb Try.underlying4 rfl rfl (decide_eq_decide.2 (by omega))) rfl ?_
            refine L_y ((by first | exact y_pickT rfl rfl | exact y_pickF rfl rfl)) rfl ?_
            refine L_y (y_move rfl) rfl ?_
            refine L_gyes rfl rfl ?_
            refine L_o (o_call Try.func12 rfl rfl (works24 w15) rfl rfl ?_)
            rintro e16 w16 ⟨v16, rfl, l16, rfl⟩
            refine ⟨_, rfl, ?_⟩
            have S16 := S15.like l16
            refine L_y ((by first | exact y_pickT rfl rfl | exact y_pickF rfl rfl)) rfl ?_
            refine L_y (y_assign rfl) rfl ?_
            refine L_nil ?_
            refine hK18 _ _ ?_
            refine T_ret ?_
            repeat (first | with_reducible refine up_then ?_ | with_reducible refine up_in ?_)
            refine ret1 rfl rfl ?_
            exact ⟨_, rfl, S16.like0, rfl⟩


theorem hparts_law (A B : Option Addr) (n ca m cb : Nat) (la lb : List Int) (w0 : World) (ha : Rs w0 1 A n ca (iL la)) (hb : Rs w0 1 B m cb (iL lb))  :
    Calls Try.prog 5 #[.slice A n ca, .slice B m cb] w0 fun e w' => e = .returned (.bool true) ∧ Below w0.heap.size w0 w' :=
  (hparts A B n ca m cb la lb w0 ha hb ).mono fun e w' ⟨u, h1, h2, h3⟩ => by subst h3; exact ⟨h1, h2⟩


end Go.Proofs.Ytbbmkgpgiacdeaa
