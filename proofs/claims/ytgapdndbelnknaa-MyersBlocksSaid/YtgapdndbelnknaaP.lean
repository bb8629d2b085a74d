/-
  The document: Distance, Diff.
-/
import Derived.Test.YtgapdndbelnknaaO
namespace Go.Proofs.Ytgapdndbelnknaa
open Go.RowKit Zk Zx
set_option linter.unusedVariables false
set_option linter.unusedSimpArgs false

theorem own_mono {w : World} {b b' : Nat} {e size n : Nat} {v : Value} {xs : List Value} (h : w.ownsRow b e size v n xs) (hb : b' ≤ b) : w.ownsRow b' e size v n xs :=
  ⟨h.1, h.2.imp id fun ⟨g, cap, cur, a, h1, c⟩ => ⟨g, cap, cur, a, Nat.le_trans hb h1, c⟩⟩


set_option maxRecDepth 100000 in
theorem rdist (A B : Option Addr) (n ca m cb : Nat) (la lb : List Int) (w0 : World) (ha : Rs w0 1 A n ca (iL la)) (hb : Rs w0 1 B m cb (iL lb)) (hn : n ≤ 4096) (hm : m ≤ 4096) :
    Calls Try.prog 13 #[.slice A n ca, .slice B m cb] w0 fun e w' => ∃ u, e = .returned u ∧ Like w0 w' ∧ u = .int .i64 (rR la lb 0 0 : Int) := by
  refine enter1 (env := [(0, .slice A n ca), (1, .slice B m cb)]) [.slice A n ca, .slice B m cb] Try.func13 rfl Try.ntmps13 rfl rfl ?_
  have hla := lenI ha; have hlb := lenI hb; have S0 := St.start w0 noM
  refine T_seq fun K1 hK1 => ?_
  refine T_region ?_
  refine L_y (y_assign rfl) rfl ?_
  refine L_nil ?_
  refine hK1 _ _ ?_
  refine T_seq fun K2 hK2 => ?_
  refine T_region ?_
  refine L_y (y_move rfl) rfl ?_
  refine L_y (y_move rfl) rfl ?_
  refine L_o (o_call Try.func21 rfl rfl (rrests A B n ca m cb la lb w0 (S0.rd ha) (S0.rd hb) hn hm) rfl rfl ?_)
  rintro e1 w1 ⟨v1, rfl, l1, R, c, rfl, vs, hR1, hR2⟩
  refine ⟨_, rfl, ?_⟩
  have S1 := S0.like l1
  rw [hla] at hR1
  obtain ⟨ad, hv1, hv2⟩ := hR2 0 (Nat.zero_le _)
  refine L_y (y_idx Try.underlying48 sz22 rfl rfl (hR1) inferInstance (by omega)) rfl ?_
  refine L_y (y_ldr Try.underlying22 rfl rfl hR1 hv1) rfl ?_
  refine L_y (y_idx Try.underlying22 sz3 rfl rfl (hv2) inferInstance (by omega)) rfl ?_
  refine L_y (y_ldr Try.underlying3 rfl rfl hv2 (rowV_get _ _ _ 0 (Nat.zero_le _))) rfl ?_
  refine L_y (y_assign rfl) rfl ?_
  refine L_nil ?_
  refine hK2 _ _ ?_
  refine T_ret ?_
  repeat (first | with_reducible refine up_then ?_ | with_reducible refine up_in ?_)
  refine ret1 rfl rfl ?_
  exact ⟨_, rfl, S1.like0, rfl⟩


set_option maxRecDepth 100000 in
theorem rdiff (A B : Option Addr) (n ca m cb : Nat) (la lb : List Int) (w0 : World) (ha : Rs w0 1 A n ca (iL la)) (hb : Rs w0 1 B m cb (iL lb)) (hn : n ≤ 4096) (hm : m ≤ 4096) :
    Calls Try.prog 11 #[.slice A n ca, .slice B m cb] w0 fun e w' => ∃ u, e = .returned u ∧ Like w0 w' ∧ ∃ A m c, u = .slice A m c ∧ w'.ownsRow w0.heap.size 36 2 (.slice A m c) m ((keepT la lb 0 0).flatMap pf) := by
  refine enter1 (env := [(0, .slice A n ca), (1, .slice B m cb)]) [.slice A n ca, .slice B m cb] Try.func11 rfl Try.ntmps11 rfl rfl ?_
  have hla := lenI ha; have hlb := lenI hb; have S0 := St.start w0 noM
  refine T_seq fun K1 hK1 => ?_
  refine T_region ?_
  refine L_y (y_assign rfl) rfl ?_
  refine L_nil ?_
  refine hK1 _ _ ?_
  refine T_seq fun K2 hK2 => ?_
  refine T_region ?_
  refine L_y (y_move rfl) rfl ?_
  refine L_y (y_move rfl) rfl ?_
  refine L_o (o_call Try.func21 rfl rfl (rrests A B n ca m cb la lb w0 (S0.rd ha) (S0.rd hb) hn hm) rfl rfl ?_)
  rintro e1 w1 ⟨v1, rfl, l1, R, c, rfl, vs, hR1, hR2⟩
  refine ⟨_, rfl, ?_⟩
  have S1 := S0.like l1
  rw [hla] at hR1
  have ha2 := S1.rd ha
  have hb2 := S1.rd hb
  have hl2 := S1.like0
  have hsz := S1.size
  have S90 := St.start w1 noM
  refine L_y (y_assign rfl) rfl ?_
  refine L_nil ?_
  refine hK2 _ _ ?_
  refine T_seq fun K3 hK3 => ?_
  refine T_region ?_
  have S2 := S90.nilrow 36 2
  refine L_y (y_assign rfl) rfl ?_
  refine L_nil ?_
  refine hK3 _ _ ?_
  refine T_seq fun K4 hK4 => ?_
  refine T_region ?_
  refine L_y (y_assign rfl) rfl ?_
  refine L_y (y_assign rfl) rfl ?_
  refine L_nil ?_
  refine hK4 _ _ ?_
  refine T_seq fun K5 hK5 => ?_
  refine T_block ?_
  refine T_loop5 [(0, _), (1, _), (5, _)] (fun (i : Nat) (k : Nat) (A1 : Option Addr) (c1 : Nat) (ps : List (Nat × Nat)) => [(0, .slice A n ca), (1, .slice B m cb), (5, .slice R (n + 1) c), (6, .slice A1 ps.length c1), (7, .int .i64 (i : Int)), (8, .int .i64 (k : Int))]) (fun (i : Nat) (k : Nat) (A1 : Option Addr) (c1 : Nat) (ps : List (Nat × Nat)) => (n - i) + (m - k)) (fun (i : Nat) (k : Nat) (A1 : Option Addr) (c1 : Nat) (ps : List (Nat × Nat)) (w : World) => (i ≤ n ∧ k ≤ m ∧ ps.length ≤ i ∧ ps ++ keepT la lb i k = keepT la lb 0 0) ∧ St w1 noM [row 36 2 A1 ps.length c1 (ps.flatMap pf)] w) 0 0 none 0 [] (Sub.cons rfl (by first | rfl | exact congrArg (Value.int _) (by omega)) (Sub.cons rfl (by first | rfl | exact congrArg (Value.int _) (by omega)) (Sub.cons rfl (by first | rfl | exact congrArg (Value.int _) (by omega)) (Sub.cons rfl (by first | rfl | exact congrArg (Value.int _) (by omega)) (Sub.cons rfl (by first | rfl | exact congrArg (Value.int _) (by omega)) (Sub.cons rfl (by first | rfl | exact congrArg (Value.int _) (by omega)) (Sub.nil _))))))) (Sub.cons rfl rfl (Sub.cons rfl rfl (Sub.cons rfl rfl (Sub.nil _)))) ?_ ?_
  ·
    exact ⟨⟨Nat.zero_le _, Nat.zero_le _, Nat.le_refl _, rfl⟩, S2⟩
  ·
    intro i k A1 c1 ps w3 hrel
    obtain ⟨⟨hi, hk, hpl, hps⟩, S3⟩ := hrel
    refine T_seq fun K6 hK6 => ?_
    refine T_seq fun K7 hK7 => ?_
    refine T_region ?_
    refine L_y (y_move rfl) rfl ?_
    refine L_y (y_move rfl) rfl ?_
    refine L_y (y_len Try.underlying22 rfl) rfl ?_
    refine L_y (y_lss rfl rfl) rfl ?_
    refine L_y (y_move rfl) rfl ?_
    refine L_split 16 rfl (fun h16 => ?_) (fun h16 => ?_)
    ·
      refine L_gno rfl rfl rfl ?_
      refine L_gno rfl rfl rfl ?_
      refine L_gno rfl rfl rfl ?_
      refine L_gno rfl rfl rfl ?_
      refine L_y ((by first | exact y_pickT rfl rfl | exact y_pickF rfl rfl)) rfl ?_
      refine L_nil ?_
      refine hK7 _ _ ?_
      refine T_true rfl ?_
      refine T_skip ?_
      refine hK6 _ _ ?_
      refine T_block ?_
      refine T_seq fun K8 hK8 => ?_
      refine T_seq fun K9 hK9 => ?_
      refine T_drawnL [(0, true), (1, true), (2, true), (3, true), (4, true), (5, true), (6, true), (7, true), (8, true), (9, true), (10, true), (11, true), (12, true), (13, true), (14, true), (15, true), (16, true), (17, true), (18, true), (19, true), (20, true)] hmix (by kernel_rfl) fun w5 l5 => ?_
      have S5 := S3.like l5
      refine DL_y rfl (y_move rfl) rfl ?_
      refine DL_y rfl (y_move rfl) rfl ?_
      refine DL_y rfl (y_len Try.underlying22 rfl) rfl ?_
      refine DL_y rfl (y_lss rfl rfl) rfl ?_
      refine DL_y rfl (y_move rfl) rfl ?_
      refine DL_split 26 rfl (fun h26 => ?_) (fun h26 => ?_)
      ·
        refine DL_gyes rfl rfl rfl (y_move rfl) rfl ?_
        refine DL_gyes rfl rfl rfl (y_move rfl) rfl ?_
        refine DL_gyes rfl rfl rfl (y_len Try.underlying22 rfl) rfl ?_
        refine DL_gyes rfl rfl rfl (y_lss rfl rfl) rfl ?_
        refine DL_y rfl ((by first | exact y_pickT rfl rfl | exact y_pickF rfl rfl)) rfl ?_
        refine DL_y rfl (y_move rfl) rfl ?_
        refine DL_split 32 rfl (fun h32 => ?_) (fun h32 => ?_)
        ·
          obtain ⟨x, hx⟩ : ∃ x, la[i]? = some x := ⟨_, List.getElem?_eq_getElem (by omega)⟩
          obtain ⟨y, hy⟩ : ∃ y, lb[k]? = some y := ⟨_, List.getElem?_eq_getElem (by omega)⟩
          refine DL_gyes rfl rfl rfl (y_move rfl) rfl ?_
          refine DL_gyes rfl rfl rfl (y_move rfl) rfl ?_
          refine DL_gyes rfl rfl rfl (y_idx Try.underlying22 sz3 rfl rfl (S5.rd ha2) inferInstance (by omega)) rfl ?_
          refine DL_gyes rfl rfl rfl (y_ldr Try.underlying3 rfl rfl (S5.rd ha2) (iL_get _ _ _ hx)) rfl ?_
          refine DL_gyes rfl rfl rfl (y_move rfl) rfl ?_
          refine DL_gyes rfl rfl rfl (y_move rfl) rfl ?_
          refine DL_gyes rfl rfl rfl (y_idx Try.underlying22 sz3 rfl rfl (S5.rd hb2) inferInstance (by omega)) rfl ?_
          refine DL_gyes rfl rfl rfl (y_ldr Try.underlying3 rfl rfl (S5.rd hb2) (iL_get _ _ _ hy)) rfl ?_
          refine DL_gyes rfl rfl rfl (y_eql rfl rfl) rfl ?_
          refine DL_y rfl ((by first | exact y_pickT rfl rfl | exact y_pickF rfl rfl)) rfl ?_
          refine DL_nil ?_
          refine hK9 _ _ ?_
          refine T_cond rfl (fun h42 => ?_) (fun h42 => ?_)
          ·
            refine T_seq fun K10 hK10 => ?_
            refine T_region ?_
            refine L_y (y_move rfl) rfl ?_
            refine L_y (y_move rfl) rfl ?_
            refine L_y (y_move rfl) rfl ?_
            refine L_y (y_build rfl (show _ = some #[Value.int .i64 (i : Int), Value.int .i64 (k : Int)] by kernel_rfl)) rfl ?_
            refine L_o (o_bsl [_, _] te25 zz36 S5 rfl rfl rfl rfl rfl rfl rfl rfl fun b6 w6 S6 => ?_)
            refine L_o (o_app te25 S6 0 rfl rfl rfl (by first | exact S6.row 0 rfl | exact S6.row 1 rfl) (fun u hu => pf_one [(i, k)] u hu) rfl (by omega) (by omega) fun A7 c7 w7 S7 => ?_)
            have S7d := S7.drop (rs' := [_]) (.cons_cons _ (.cons _ (.refl _)))
            refine L_y (y_assign rfl) rfl ?_
            refine L_nil ?_
            refine hK10 _ _ ?_
            refine T_seq fun K11 hK11 => ?_
            refine T_region ?_
            refine L_y (y_move rfl) rfl ?_
            refine L_y (y_add rfl rfl (i64w (by omega))) rfl ?_
            refine L_y (y_assign rfl) rfl ?_
            refine L_nil ?_
            refine hK11 _ _ ?_
            refine T_seq fun K12 hK12 => ?_
            refine T_region ?_
            refine L_y (y_move rfl) rfl ?_
            refine L_y (y_add rfl rfl (i64w (by omega))) rfl ?_
            refine L_y (y_assign rfl) rfl ?_
            refine L_nil ?_
            refine hK12 _ _ ?_
            refine T_exit ?_
            have hh : i < la.length ∧ k < lb.length ∧ la[i]? = lb[k]? := ⟨by omega, by omega, by rw [hx, hy, h42]⟩
            have S91 := S7d.rowc 0 rfl (n' := (ps ++ [(i, k)]).length) (xs' := (ps ++ [(i, k)]).flatMap pf) (by simp) (by rw [List.flatMap_append])
            refine ⟨i + 1, k + 1, _, _, ps ++ [(i, k)], by omega, ⟨⟨by omega, by omega, by rw [List.length_append]; simp only [List.length_cons, List.length_nil]; omega, by rw [← hps, keep_hit hh, List.append_assoc]; rfl⟩, S91⟩, ?_⟩
            exact (Sub.cons rfl (by first | rfl | exact congrArg (Value.int _) (by omega)) (Sub.cons rfl (by first | rfl | exact congrArg (Value.int _) (by omega)) (Sub.cons rfl (by first | rfl | exact congrArg (Value.int _) (by omega)) (Sub.cons rfl (by first | rfl | (rw [List.length_append]; rfl)) (Sub.cons rfl (by first | rfl | exact congrArg (Value.int _) (by omega)) (Sub.cons rfl (by first | rfl | exact congrArg (Value.int _) (by omega)) (Sub.cons rfl rfl (Sub.cons rfl rfl (Sub.cons rfl rfl (Sub.nil _))))))))))
          ·
            refine T_skip ?_
            refine hK8 _ _ ?_
            refine T_seq fun K13 hK13 => ?_
            have hno : ¬ (i < la.length ∧ k < lb.length ∧ la[i]? = lb[k]?) := (fun h => by have h9 := h.2.2; rw [hx, hy] at h9; exact h42 (Option.some.inj h9))
            refine T_drawnL [(0, true), (1, true), (2, true), (3, true), (4, true), (5, true), (6, true), (7, true), (8, true), (9, true), (10, true), (11, true), (12, true), (13, true), (14, true), (15, true), (16, true), (17, true), (18, true), (19, true), (20, true), (21, true)] hmix (by kernel_rfl) fun w8 l8 => ?_
            have S8 := S5.like l8
            refine DL_y rfl (y_move rfl) rfl ?_
            refine DL_y rfl (y_move rfl) rfl ?_
            refine DL_y rfl (y_len Try.underlying22 rfl) rfl ?_
            refine DL_y rfl (y_lss rfl rfl) rfl ?_
            refine DL_y rfl (y_move rfl) rfl ?_
            refine DL_split 57 rfl (fun h57 => ?_) (fun h57 => ?_)
            ·
              obtain ⟨ad1, hu1, hu2⟩ := hR2 (i + 1) (by omega)
              obtain ⟨ad2, hu3, hu4⟩ := hR2 i (by omega)
              refine DL_gyes rfl rfl rfl (y_move rfl) rfl ?_
              refine DL_gyes rfl rfl rfl (y_move rfl) rfl ?_
              refine DL_gyes rfl rfl rfl (y_add rfl rfl (i64w (by omega))) rfl ?_
              refine DL_gyes rfl rfl rfl (y_idx Try.underlying48 sz22 rfl rfl (S8.rd hR1) (Nt.mk (by omega) : Nt _ (i + 1)) (by omega)) rfl ?_
              refine DL_gyes rfl rfl rfl (y_ldr Try.underlying22 rfl rfl (S8.rd hR1) hu1) rfl ?_
              refine DL_gyes rfl rfl rfl (y_move rfl) rfl ?_
              refine DL_gyes rfl rfl rfl (y_idx Try.underlying22 sz3 rfl rfl (S8.rd hu2) inferInstance (by omega)) rfl ?_
              refine DL_gyes rfl rfl rfl (y_ldr Try.underlying3 rfl rfl (S8.rd hu2) (rowV_get _ _ _ _ (by omega))) rfl ?_
              refine DL_gyes rfl rfl rfl (y_move rfl) rfl ?_
              refine DL_gyes rfl rfl rfl (y_move rfl) rfl ?_
              refine DL_gyes rfl rfl rfl (y_idx Try.underlying48 sz22 rfl rfl (S8.rd hR1) inferInstance (by omega)) rfl ?_
              refine DL_gyes rfl rfl rfl (y_ldr Try.underlying22 rfl rfl (S8.rd hR1) hu3) rfl ?_
              refine DL_gyes rfl rfl rfl (y_move rfl) rfl ?_
              refine DL_gyes rfl rfl rfl (y_idx Try.underlying22 sz3 rfl rfl (S8.rd hu4) inferInstance (by omega)) rfl ?_
              refine DL_gyes rfl rfl rfl (y_ldr Try.underlying3 rfl rfl (S8.rd hu4) (rowV_get _ _ _ _ (by omega))) rfl ?_
              refine DL_gyes rfl rfl rfl (y_lss rfl rfl) rfl ?_
              refine DL_y rfl ((by first | exact y_pickT rfl rfl | exact y_pickF rfl rfl)) rfl ?_
              refine DL_nil ?_
              refine hK13 _ _ ?_
              refine T_cond rfl (fun h74 => ?_) (fun h74 => ?_)
              ·
                refine T_region ?_
                refine L_y (y_move rfl) rfl ?_
                refine L_y (y_add rfl rfl (i64w (by omega))) rfl ?_
                refine L_y (y_assign rfl) rfl ?_
                refine L_nil ?_
                have hm2 : i < la.length ∧ rR la lb (i + 1) k < rR la lb i k := ⟨by omega, by omega⟩
                refine ⟨i + 1, k, A1, c1, ps, by omega, ⟨⟨by omega, by omega, by omega, by rw [← hps, keep_a hno hm2]⟩, S8⟩, ?_⟩
                exact (Sub.cons rfl (by first | rfl | exact congrArg (Value.int _) (by omega)) (Sub.cons rfl (by first | rfl | exact congrArg (Value.int _) (by omega)) (Sub.cons rfl (by first | rfl | exact congrArg (Value.int _) (by omega)) (Sub.cons rfl (by first | rfl | (rw [List.length_append]; rfl)) (Sub.cons rfl (by first | rfl | exact congrArg (Value.int _) (by omega)) (Sub.cons rfl (by first | rfl | exact congrArg (Value.int _) (by omega)) (Sub.cons rfl rfl (Sub.cons rfl rfl (Sub.cons rfl rfl (Sub.nil _))))))))))
              ·
                refine T_region ?_
                refine L_y (y_move rfl) rfl ?_
                refine L_y (y_add rfl rfl (i64w (by omega))) rfl ?_
                refine L_y (y_assign rfl) rfl ?_
                refine L_nil ?_
                have hm2 : ¬ (i < la.length ∧ rR la lb (i + 1) k < rR la lb i k) := fun h => by omega
                have hkl : k < lb.length := by rcases Nat.lt_or_ge k lb.length with q | q; exact q; exact (hm2 ⟨by omega, by rw [rR_endB q, rR_endB q]; omega⟩).elim
                refine ⟨i, k + 1, A1, c1, ps, by omega, ⟨⟨by omega, by omega, by omega, by rw [← hps, keep_b hno hm2 hkl]⟩, S8⟩, ?_⟩
                exact (Sub.cons rfl (by first | rfl | exact congrArg (Value.int _) (by omega)) (Sub.cons rfl (by first | rfl | exact congrArg (Value.int _) (by omega)) (Sub.cons rfl (by first | rfl | exact congrArg (Value.int _) (by omega)) (Sub.cons rfl (by first | rfl | (rw [List.length_append]; rfl)) (Sub.cons rfl (by first | rfl | exact congrArg (Value.int _) (by omega)) (Sub.cons rfl (by first | rfl | exact congrArg (Value.int _) (by omega)) (Sub.cons rfl rfl (Sub.cons rfl rfl (Sub.cons rfl rfl (Sub.nil _))))))))))
            ·
              refine DL_gno rfl rfl rfl rfl ?_
              refine DL_gno rfl rfl rfl rfl ?_
              refine DL_gno rfl rfl rfl rfl ?_
              refine DL_gno rfl rfl rfl rfl ?_
              refine DL_gno rfl rfl rfl rfl ?_
              refine DL_gno rfl rfl rfl rfl ?_
              refine DL_gno rfl rfl rfl rfl ?_
              refine DL_gno rfl rfl rfl rfl ?_
              refine DL_gno rfl rfl rfl rfl ?_
              refine DL_gno rfl rfl rfl rfl ?_
              refine DL_gno rfl rfl rfl rfl ?_
              refine DL_gno rfl rfl rfl rfl ?_
              refine DL_gno rfl rfl rfl rfl ?_
              refine DL_gno rfl rfl rfl rfl ?_
              refine DL_gno rfl rfl rfl rfl ?_
              refine DL_gno rfl rfl rfl rfl ?_
              refine DL_y rfl ((by first | exact y_pickT rfl rfl | exact y_pickF rfl rfl)) rfl ?_
              refine DL_nil ?_
              refine hK13 _ _ ?_
              refine T_false rfl ?_
              refine T_region ?_
              refine L_y (y_move rfl) rfl ?_
              refine L_y (y_add rfl rfl (i64w (by omega))) rfl ?_
              refine L_y (y_assign rfl) rfl ?_
              refine L_nil ?_
              have hm2 : ¬ (i < la.length ∧ rR la lb (i + 1) k < rR la lb i k) := fun h => by omega
              have hkl : k < lb.length := by rcases Nat.lt_or_ge k lb.length with q | q; exact q; exact (hm2 ⟨by omega, by rw [rR_endB q, rR_endB q]; omega⟩).elim
              refine ⟨i, k + 1, A1, c1, ps, by omega, ⟨⟨by omega, by omega, by omega, by rw [← hps, keep_b hno hm2 hkl]⟩, S8⟩, ?_⟩
              exact (Sub.cons rfl (by first | rfl | exact congrArg (Value.int _) (by omega)) (Sub.cons rfl (by first | rfl | exact congrArg (Value.int _) (by omega)) (Sub.cons rfl (by first | rfl | exact congrArg (Value.int _) (by omega)) (Sub.cons rfl (by first | rfl | (rw [List.length_append]; rfl)) (Sub.cons rfl (by first | rfl | exact congrArg (Value.int _) (by omega)) (Sub.cons rfl (by first | rfl | exact congrArg (Value.int _) (by omega)) (Sub.cons rfl rfl (Sub.cons rfl rfl (Sub.cons rfl rfl (Sub.nil _))))))))))
        ·
          refine DL_gno rfl rfl rfl rfl ?_
          refine DL_gno rfl rfl rfl rfl ?_
          refine DL_gno rfl rfl rfl rfl ?_
          refine DL_gno rfl rfl rfl rfl ?_
          refine DL_gno rfl rfl rfl rfl ?_
          refine DL_gno rfl rfl rfl rfl ?_
          refine DL_gno rfl rfl rfl rfl ?_
          refine DL_gno rfl rfl rfl rfl ?_
          refine DL_gno rfl rfl rfl rfl ?_
          refine DL_y rfl ((by first | exact y_pickT rfl rfl | exact y_pickF rfl rfl)) rfl ?_
          refine DL_nil ?_
          refine hK9 _ _ ?_
          refine T_false rfl ?_
          refine T_skip ?_
          refine hK8 _ _ ?_
          refine T_seq fun K14 hK14 => ?_
          have hno : ¬ (i < la.length ∧ k < lb.length ∧ la[i]? = lb[k]?) := (fun h => by omega)
          refine T_drawnL [(0, true), (1, true), (2, true), (3, true), (4, true), (5, true), (6, true), (7, true), (8, true), (9, true), (10, true), (11, true), (12, true), (13, true), (14, true), (15, true), (16, true), (17, true), (18, true), (19, true), (20, true), (21, true)] hmix (by kernel_rfl) fun w9 l9 => ?_
          have S9 := S5.like l9
          refine DL_y rfl (y_move rfl) rfl ?_
          refine DL_y rfl (y_move rfl) rfl ?_
          refine DL_y rfl (y_len Try.underlying22 rfl) rfl ?_
          refine DL_y rfl (y_lss rfl rfl) rfl ?_
          refine DL_y rfl (y_move rfl) rfl ?_
          refine DL_split 57 rfl (fun h57 => ?_) (fun h57 => ?_)
          ·
            obtain ⟨ad1, hu1, hu2⟩ := hR2 (i + 1) (by omega)
            obtain ⟨ad2, hu3, hu4⟩ := hR2 i (by omega)
            refine DL_gyes rfl rfl rfl (y_move rfl) rfl ?_
            refine DL_gyes rfl rfl rfl (y_move rfl) rfl ?_
            refine DL_gyes rfl rfl rfl (y_add rfl rfl (i64w (by omega))) rfl ?_
            refine DL_gyes rfl rfl rfl (y_idx Try.underlying48 sz22 rfl rfl (S9.rd hR1) (Nt.mk (by omega) : Nt _ (i + 1)) (by omega)) rfl ?_
            refine DL_gyes rfl rfl rfl (y_ldr Try.underlying22 rfl rfl (S9.rd hR1) hu1) rfl ?_
            refine DL_gyes rfl rfl rfl (y_move rfl) rfl ?_
            refine DL_gyes rfl rfl rfl (y_idx Try.underlying22 sz3 rfl rfl (S9.rd hu2) inferInstance (by omega)) rfl ?_
            refine DL_gyes rfl rfl rfl (y_ldr Try.underlying3 rfl rfl (S9.rd hu2) (rowV_get _ _ _ _ (by omega))) rfl ?_
            refine DL_gyes rfl rfl rfl (y_move rfl) rfl ?_
            refine DL_gyes rfl rfl rfl (y_move rfl) rfl ?_
            refine DL_gyes rfl rfl rfl (y_idx Try.underlying48 sz22 rfl rfl (S9.rd hR1) inferInstance (by omega)) rfl ?_
            refine DL_gyes rfl rfl rfl (y_ldr Try.underlying22 rfl rfl (S9.rd hR1) hu3) rfl ?_
            refine DL_gyes rfl rfl rfl (y_move rfl) rfl ?_
            refine DL_gyes rfl rfl rfl (y_idx Try.underlying22 sz3 rfl rfl (S9.rd hu4) inferInstance (by omega)) rfl ?_
            refine DL_gyes rfl rfl rfl (y_ldr Try.underlying3 rfl rfl (S9.rd hu4) (rowV_get _ _ _ _ (by omega))) rfl ?_
            refine DL_gyes rfl rfl rfl (y_lss rfl rfl) rfl ?_
            refine DL_y rfl ((by first | exact y_pickT rfl rfl | exact y_pickF rfl rfl)) rfl ?_
            refine DL_nil ?_
            refine hK14 _ _ ?_
            refine T_cond rfl (fun h74 => ?_) (fun h74 => ?_)
            ·
              refine T_region ?_
              refine L_y (y_move rfl) rfl ?_
              refine L_y (y_add rfl rfl (i64w (by omega))) rfl ?_
              refine L_y (y_assign rfl) rfl ?_
              refine L_nil ?_
              have hm2 : i < la.length ∧ rR la lb (i + 1) k < rR la lb i k := ⟨by omega, by omega⟩
              refine ⟨i + 1, k, A1, c1, ps, by omega, ⟨⟨by omega, by omega, by omega, by rw [← hps, keep_a hno hm2]⟩, S9⟩, ?_⟩
              exact (Sub.cons rfl (by first | rfl | exact congrArg (Value.int _) (by omega)) (Sub.cons rfl (by first | rfl | exact congrArg (Value.int _) (by omega)) (Sub.cons rfl (by first | rfl | exact congrArg (Value.int _) (by omega)) (Sub.cons rfl (by first | rfl | (rw [List.length_append]; rfl)) (Sub.cons rfl (by first | rfl | exact congrArg (Value.int _) (by omega)) (Sub.cons rfl (by first | rfl | exact congrArg (Value.int _) (by omega)) (Sub.cons rfl rfl (Sub.cons rfl rfl (Sub.cons rfl rfl (Sub.nil _))))))))))
            ·
              refine T_region ?_
              refine L_y (y_move rfl) rfl ?_
              refine L_y (y_add rfl rfl (i64w (by omega))) rfl ?_
              refine L_y (y_assign rfl) rfl ?_
              refine L_nil ?_
              have hm2 : ¬ (i < la.length ∧ rR la lb (i + 1) k < rR la lb i k) := fun h => by omega
              have hkl : k < lb.length := by rcases Nat.lt_or_ge k lb.length with q | q; exact q; exact (hm2 ⟨by omega, by rw [rR_endB q, rR_endB q]; omega⟩).elim
              refine ⟨i, k + 1, A1, c1, ps, by omega, ⟨⟨by omega, by omega, by omega, by rw [← hps, keep_b hno hm2 hkl]⟩, S9⟩, ?_⟩
              exact (Sub.cons rfl (by first | rfl | exact congrArg (Value.int _) (by omega)) (Sub.cons rfl (by first | rfl | exact congrArg (Value.int _) (by omega)) (Sub.cons rfl (by first | rfl | exact congrArg (Value.int _) (by omega)) (Sub.cons rfl (by first | rfl | (rw [List.length_append]; rfl)) (Sub.cons rfl (by first | rfl | exact congrArg (Value.int _) (by omega)) (Sub.cons rfl (by first | rfl | exact congrArg (Value.int _) (by omega)) (Sub.cons rfl rfl (Sub.cons rfl rfl (Sub.cons rfl rfl (Sub.nil _))))))))))
          ·
            refine DL_gno rfl rfl rfl rfl ?_
            refine DL_gno rfl rfl rfl rfl ?_
            refine DL_gno rfl rfl rfl rfl ?_
            refine DL_gno rfl rfl rfl rfl ?_
            refine DL_gno rfl rfl rfl rfl ?_
            refine DL_gno rfl rfl rfl rfl ?_
            refine DL_gno rfl rfl rfl rfl ?_
            refine DL_gno rfl rfl rfl rfl ?_
            refine DL_gno rfl rfl rfl rfl ?_
            refine DL_gno rfl rfl rfl rfl ?_
            refine DL_gno rfl rfl rfl rfl ?_
            refine DL_gno rfl rfl rfl rfl ?_
            refine DL_gno rfl rfl rfl rfl ?_
            refine DL_gno rfl rfl rfl rfl ?_
            refine DL_gno rfl rfl rfl rfl ?_
            refine DL_gno rfl rfl rfl rfl ?_
            refine DL_y rfl ((by first | exact y_pickT rfl rfl | exact y_pickF rfl rfl)) rfl ?_
            refine DL_nil ?_
            refine hK14 _ _ ?_
            refine T_false rfl ?_
            refine T_region ?_
            refine L_y (y_move rfl) rfl ?_
            refine L_y (y_add rfl rfl (i64w (by omega))) rfl ?_
            refine L_y (y_assign rfl) rfl ?_
            refine L_nil ?_
            have hm2 : ¬ (i < la.length ∧ rR la lb (i + 1) k < rR la lb i k) := fun h => by omega
            have hkl : k < lb.length := by rcases Nat.lt_or_ge k lb.length with q | q; exact q; exact (hm2 ⟨by omega, by rw [rR_endB q, rR_endB q]; omega⟩).elim
            refine ⟨i, k + 1, A1, c1, ps, by omega, ⟨⟨by omega, by omega, by omega, by rw [← hps, keep_b hno hm2 hkl]⟩, S9⟩, ?_⟩
            exact (Sub.cons rfl (by first | rfl | exact congrArg (Value.int _) (by omega)) (Sub.cons rfl (by first | rfl | exact congrArg (Value.int _) (by omega)) (Sub.cons rfl (by first | rfl | exact congrArg (Value.int _) (by omega)) (Sub.cons rfl (by first | rfl | (rw [List.length_append]; rfl)) (Sub.cons rfl (by first | rfl | exact congrArg (Value.int _) (by omega)) (Sub.cons rfl (by first | rfl | exact congrArg (Value.int _) (by omega)) (Sub.cons rfl rfl (Sub.cons rfl rfl (Sub.cons rfl rfl (Sub.nil _))))))))))
      ·
        refine DL_gno rfl rfl rfl rfl ?_
        refine DL_gno rfl rfl rfl rfl ?_
        refine DL_gno rfl rfl rfl rfl ?_
        refine DL_gno rfl rfl rfl rfl ?_
        refine DL_y rfl ((by first | exact y_pickT rfl rfl | exact y_pickF rfl rfl)) rfl ?_
        refine DL_y rfl (y_move rfl) rfl ?_
        refine DL_gno rfl rfl rfl rfl ?_
        refine DL_gno rfl rfl rfl rfl ?_
        refine DL_gno rfl rfl rfl rfl ?_
        refine DL_gno rfl rfl rfl rfl ?_
        refine DL_gno rfl rfl rfl rfl ?_
        refine DL_gno rfl rfl rfl rfl ?_
        refine DL_gno rfl rfl rfl rfl ?_
        refine DL_gno rfl rfl rfl rfl ?_
        refine DL_gno rfl rfl rfl rfl ?_
        refine DL_y rfl ((by first | exact y_pickT rfl rfl | exact y_pickF rfl rfl)) rfl ?_
        refine DL_nil ?_
        refine hK9 _ _ ?_
        refine T_false rfl ?_
        refine T_skip ?_
        refine hK8 _ _ ?_
        refine T_seq fun K15 hK15 => ?_
        have hno : ¬ (i < la.length ∧ k < lb.length ∧ la[i]? = lb[k]?) := (fun h => by omega)
        refine T_drawnL [(0, true), (1, true), (2, true), (3, true), (4, true), (5, true), (6, true), (7, true), (8, true), (9, true), (10, true), (11, true), (12, true), (13, true), (14, true), (15, true), (16, true), (17, true), (18, true), (19, true), (20, true), (21, true)] hmix (by kernel_rfl) fun w10 l10 => ?_
        have S10 := S5.like l10
        refine DL_y rfl (y_move rfl) rfl ?_
        refine DL_y rfl (y_move rfl) rfl ?_
        refine DL_y rfl (y_len Try.underlying22 rfl) rfl ?_
        refine DL_y rfl (y_lss rfl rfl) rfl ?_
        refine DL_y rfl (y_move rfl) rfl ?_
        refine DL_split 57 rfl (fun h57 => ?_) (fun h57 => ?_)
        ·
          obtain ⟨ad1, hu1, hu2⟩ := hR2 (i + 1) (by omega)
          obtain ⟨ad2, hu3, hu4⟩ := hR2 i (by omega)
          refine DL_gyes rfl rfl rfl (y_move rfl) rfl ?_
          refine DL_gyes rfl rfl rfl (y_move rfl) rfl ?_
          refine DL_gyes rfl rfl rfl (y_add rfl rfl (i64w (by omega))) rfl ?_
          refine DL_gyes rfl rfl rfl (y_idx Try.underlying48 sz22 rfl rfl (S10.rd hR1) (Nt.mk (by omega) : Nt _ (i + 1)) (by omega)) rfl ?_
          refine DL_gyes rfl rfl rfl (y_ldr Try.underlying22 rfl rfl (S10.rd hR1) hu1) rfl ?_
          refine DL_gyes rfl rfl rfl (y_move rfl) rfl ?_
          refine DL_gyes rfl rfl rfl (y_idx Try.underlying22 sz3 rfl rfl (S10.rd hu2) inferInstance (by omega)) rfl ?_
          refine DL_gyes rfl rfl rfl (y_ldr Try.underlying3 rfl rfl (S10.rd hu2) (rowV_get _ _ _ _ (by omega))) rfl ?_
          refine DL_gyes rfl rfl rfl (y_move rfl) rfl ?_
          refine DL_gyes rfl rfl rfl (y_move rfl) rfl ?_
          refine DL_gyes rfl rfl rfl (y_idx Try.underlying48 sz22 rfl rfl (S10.rd hR1) inferInstance (by omega)) rfl ?_
          refine DL_gyes rfl rfl rfl (y_ldr Try.underlying22 rfl rfl (S10.rd hR1) hu3) rfl ?_
          refine DL_gyes rfl rfl rfl (y_move rfl) rfl ?_
          refine DL_gyes rfl rfl rfl (y_idx Try.underlying22 sz3 rfl rfl (S10.rd hu4) inferInstance (by omega)) rfl ?_
          refine DL_gyes rfl rfl rfl (y_ldr Try.underlying3 rfl rfl (S10.rd hu4) (rowV_get _ _ _ _ (by omega))) rfl ?_
          refine DL_gyes rfl rfl rfl (y_lss rfl rfl) rfl ?_
          refine DL_y rfl ((by first | exact y_pickT rfl rfl | exact y_pickF rfl rfl)) rfl ?_
          refine DL_nil ?_
          refine hK15 _ _ ?_
          refine T_cond rfl (fun h74 => ?_) (fun h74 => ?_)
          ·
            refine T_region ?_
            refine L_y (y_move rfl) rfl ?_
            refine L_y (y_add rfl rfl (i64w (by omega))) rfl ?_
            refine L_y (y_assign rfl) rfl ?_
            refine L_nil ?_
            have hm2 : i < la.length ∧ rR la lb (i + 1) k < rR la lb i k := ⟨by omega, by omega⟩
            refine ⟨i + 1, k, A1, c1, ps, by omega, ⟨⟨by omega, by omega, by omega, by rw [← hps, keep_a hno hm2]⟩, S10⟩, ?_⟩
            exact (Sub.cons rfl (by first | rfl | exact congrArg (Value.int _) (by omega)) (Sub.cons rfl (by first | rfl | exact congrArg (Value.int _) (by omega)) (Sub.cons rfl (by first | rfl | exact congrArg (Value.int _) (by omega)) (Sub.cons rfl (by first | rfl | (rw [List.length_append]; rfl)) (Sub.cons rfl (by first | rfl | exact congrArg (Value.int _) (by omega)) (Sub.cons rfl (by first | rfl | exact congrArg (Value.int _) (by omega)) (Sub.cons rfl rfl (Sub.cons rfl rfl (Sub.cons rfl rfl (Sub.nil _))))))))))
          ·
            refine T_region ?_
            refine L_y (y_move rfl) rfl ?_
            refine L_y (y_add rfl rfl (i64w (by omega))) rfl ?_
            refine L_y (y_assign rfl) rfl ?_
            refine L_nil ?_
            have hm2 : ¬ (i < la.length ∧ rR la lb (i + 1) k < rR la lb i k) := fun h => by omega
            have hkl : k < lb.length := by rcases Nat.lt_or_ge k lb.length with q | q; exact q; exact (hm2 ⟨by omega, by rw [rR_endB q, rR_endB q]; omega⟩).elim
            refine ⟨i, k + 1, A1, c1, ps, by omega, ⟨⟨by omega, by omega, by omega, by rw [← hps, keep_b hno hm2 hkl]⟩, S10⟩, ?_⟩
            exact (Sub.cons rfl (by first | rfl | exact congrArg (Value.int _) (by omega)) (Sub.cons rfl (by first | rfl | exact congrArg (Value.int _) (by omega)) (Sub.cons rfl (by first | rfl | exact congrArg (Value.int _) (by omega)) (Sub.cons rfl (by first | rfl | (rw [List.length_append]; rfl)) (Sub.cons rfl (by first | rfl | exact congrArg (Value.int _) (by omega)) (Sub.cons rfl (by first | rfl | exact congrArg (Value.int _) (by omega)) (Sub.cons rfl rfl (Sub.cons rfl rfl (Sub.cons rfl rfl (Sub.nil _))))))))))
        ·
          refine DL_gno rfl rfl rfl rfl ?_
          refine DL_gno rfl rfl rfl rfl ?_
          refine DL_gno rfl rfl rfl rfl ?_
          refine DL_gno rfl rfl rfl rfl ?_
          refine DL_gno rfl rfl rfl rfl ?_
          refine DL_gno rfl rfl rfl rfl ?_
          refine DL_gno rfl rfl rfl rfl ?_
          refine DL_gno rfl rfl rfl rfl ?_
          refine DL_gno rfl rfl rfl rfl ?_
          refine DL_gno rfl rfl rfl rfl ?_
          refine DL_gno rfl rfl rfl rfl ?_
          refine DL_gno rfl rfl rfl rfl ?_
          refine DL_gno rfl rfl rfl rfl ?_
          refine DL_gno rfl rfl rfl rfl ?_
          refine DL_gno rfl rfl rfl rfl ?_
          refine DL_gno rfl rfl rfl rfl ?_
          refine DL_y rfl ((by first | exact y_pickT rfl rfl | exact y_pickF rfl rfl)) rfl ?_
          refine DL_nil ?_
          refine hK15 _ _ ?_
          refine T_false rfl ?_
          refine T_region ?_
          refine L_y (y_move rfl) rfl ?_
          refine L_y (y_add rfl rfl (i64w (by omega))) rfl ?_
          refine L_y (y_assign rfl) rfl ?_
          refine L_nil ?_
          have hm2 : ¬ (i < la.length ∧ rR la lb (i + 1) k < rR la lb i k) := fun h => by omega
          have hkl : k < lb.length := by rcases Nat.lt_or_ge k lb.length with q | q; exact q; exact (hm2 ⟨by omega, by rw [rR_endB q, rR_endB q]; omega⟩).elim
          refine ⟨i, k + 1, A1, c1, ps, by omega, ⟨⟨by omega, by omega, by omega, by rw [← hps, keep_b hno hm2 hkl]⟩, S10⟩, ?_⟩
          exact (Sub.cons rfl (by first | rfl | exact congrArg (Value.int _) (by omega)) (Sub.cons rfl (by first | rfl | exact congrArg (Value.int _) (by omega)) (Sub.cons rfl (by first | rfl | exact congrArg (Value.int _) (by omega)) (Sub.cons rfl (by first | rfl | (rw [List.length_append]; rfl)) (Sub.cons rfl (by first | rfl | exact congrArg (Value.int _) (by omega)) (Sub.cons rfl (by first | rfl | exact congrArg (Value.int _) (by omega)) (Sub.cons rfl rfl (Sub.cons rfl rfl (Sub.cons rfl rfl (Sub.nil _))))))))))
    ·
      refine L_gyes rfl rfl ?_
      refine L_y (y_move rfl) rfl ?_
      refine L_gyes rfl rfl ?_
      refine L_y (y_move rfl) rfl ?_
      refine L_gyes rfl rfl ?_
      refine L_y (y_len Try.underlying22 rfl) rfl ?_
      refine L_gyes rfl rfl ?_
      refine L_y (y_lss rfl rfl) rfl ?_
      refine L_y ((by first | exact y_pickT rfl rfl | exact y_pickF rfl rfl)) rfl ?_
      refine L_nil ?_
      refine hK7 _ _ ?_
      refine T_cond rfl (fun h21 => ?_) (fun h21 => ?_)
      ·
        refine T_skip ?_
        refine hK6 _ _ ?_
        refine T_block ?_
        refine T_seq fun K16 hK16 => ?_
        refine T_seq fun K17 hK17 => ?_
        refine T_drawnL [(0, true), (1, true), (2, true), (3, true), (4, true), (5, true), (6, true), (7, true), (8, true), (9, true), (10, true), (11, true), (12, true), (13, true), (14, true), (15, true), (16, true), (17, true), (18, true), (19, true), (20, true)] hmix (by kernel_rfl) fun w11 l11 => ?_
        have S11 := S3.like l11
        refine DL_y rfl (y_move rfl) rfl ?_
        refine DL_y rfl (y_move rfl) rfl ?_
        refine DL_y rfl (y_len Try.underlying22 rfl) rfl ?_
        refine DL_y rfl (y_lss rfl rfl) rfl ?_
        refine DL_y rfl (y_move rfl) rfl ?_
        refine DL_split 26 rfl (fun h26 => ?_) (fun h26 => ?_)
        ·
          refine DL_gyes rfl rfl rfl (y_move rfl) rfl ?_
          refine DL_gyes rfl rfl rfl (y_move rfl) rfl ?_
          refine DL_gyes rfl rfl rfl (y_len Try.underlying22 rfl) rfl ?_
          refine DL_gyes rfl rfl rfl (y_lss rfl rfl) rfl ?_
          refine DL_y rfl ((by first | exact y_pickT rfl rfl | exact y_pickF rfl rfl)) rfl ?_
          refine DL_y rfl (y_move rfl) rfl ?_
          refine DL_split 32 rfl (fun h32 => ?_) (fun h32 => ?_)
          ·
            obtain ⟨x, hx⟩ : ∃ x, la[i]? = some x := ⟨_, List.getElem?_eq_getElem (by omega)⟩
            obtain ⟨y, hy⟩ : ∃ y, lb[k]? = some y := ⟨_, List.getElem?_eq_getElem (by omega)⟩
            refine DL_gyes rfl rfl rfl (y_move rfl) rfl ?_
            refine DL_gyes rfl rfl rfl (y_move rfl) rfl ?_
            refine DL_gyes rfl rfl rfl (y_idx Try.underlying22 sz3 rfl rfl (S11.rd ha2) inferInstance (by omega)) rfl ?_
            refine DL_gyes rfl rfl rfl (y_ldr Try.underlying3 rfl rfl (S11.rd ha2) (iL_get _ _ _ hx)) rfl ?_
            refine DL_gyes rfl rfl rfl (y_move rfl) rfl ?_
            refine DL_gyes rfl rfl rfl (y_move rfl) rfl ?_
            refine DL_gyes rfl rfl rfl (y_idx Try.underlying22 sz3 rfl rfl (S11.rd hb2) inferInstance (by omega)) rfl ?_
            refine DL_gyes rfl rfl rfl (y_ldr Try.underlying3 rfl rfl (S11.rd hb2) (iL_get _ _ _ hy)) rfl ?_
            refine DL_gyes rfl rfl rfl (y_eql rfl rfl) rfl ?_
            refine DL_y rfl ((by first | exact y_pickT rfl rfl | exact y_pickF rfl rfl)) rfl ?_
            refine DL_nil ?_
            refine hK17 _ _ ?_
            refine T_cond rfl (fun h42 => ?_) (fun h42 => ?_)
            ·
              refine T_seq fun K18 hK18 => ?_
              refine T_region ?_
              refine L_y (y_move rfl) rfl ?_
              refine L_y (y_move rfl) rfl ?_
              refine L_y (y_move rfl) rfl ?_
              refine L_y (y_build rfl (show _ = some #[Value.int .i64 (i : Int), Value.int .i64 (k : Int)] by kernel_rfl)) rfl ?_
              refine L_o (o_bsl [_, _] te25 zz36 S11 rfl rfl rfl rfl rfl rfl rfl rfl fun b12 w12 S12 => ?_)
              refine L_o (o_app te25 S12 0 rfl rfl rfl (by first | exact S12.row 0 rfl | exact S12.row 1 rfl) (fun u hu => pf_one [(i, k)] u hu) rfl (by omega) (by omega) fun A13 c13 w13 S13 => ?_)
              have S13d := S13.drop (rs' := [_]) (.cons_cons _ (.cons _ (.refl _)))
              refine L_y (y_assign rfl) rfl ?_
              refine L_nil ?_
              refine hK18 _ _ ?_
              refine T_seq fun K19 hK19 => ?_
              refine T_region ?_
              refine L_y (y_move rfl) rfl ?_
              refine L_y (y_add rfl rfl (i64w (by omega))) rfl ?_
              refine L_y (y_assign rfl) rfl ?_
              refine L_nil ?_
              refine hK19 _ _ ?_
              refine T_seq fun K20 hK20 => ?_
              refine T_region ?_
              refine L_y (y_move rfl) rfl ?_
              refine L_y (y_add rfl rfl (i64w (by omega))) rfl ?_
              refine L_y (y_assign rfl) rfl ?_
              refine L_nil ?_
              refine hK20 _ _ ?_
              refine T_exit ?_
              have hh : i < la.length ∧ k < lb.length ∧ la[i]? = lb[k]? := ⟨by omega, by omega, by rw [hx, hy, h42]⟩
              have S91 := S13d.rowc 0 rfl (n' := (ps ++ [(i, k)]).length) (xs' := (ps ++ [(i, k)]).flatMap pf) (by simp) (by rw [List.flatMap_append])
              refine ⟨i + 1, k + 1, _, _, ps ++ [(i, k)], by omega, ⟨⟨by omega, by omega, by rw [List.length_append]; simp only [List.length_cons, List.length_nil]; omega, by rw [← hps, keep_hit hh, List.append_assoc]; rfl⟩, S91⟩, ?_⟩
              exact (Sub.cons rfl (by first | rfl | exact congrArg (Value.int _) (by omega)) (Sub.cons rfl (by first | rfl | exact congrArg (Value.int _) (by omega)) (Sub.cons rfl (by first | rfl | exact congrArg (Value.int _) (by omega)) (Sub.cons rfl (by first | rfl | (rw [List.length_append]; rfl)) (Sub.cons rfl (by first | rfl | exact congrArg (Value.int _) (by omega)) (Sub.cons rfl (by first | rfl | exact congrArg (Value.int _) (by omega)) (Sub.cons rfl rfl (Sub.cons rfl rfl (Sub.cons rfl rfl (Sub.nil _))))))))))
            ·
              refine T_skip ?_
              refine hK16 _ _ ?_
              refine T_seq fun K21 hK21 => ?_
              have hno : ¬ (i < la.length ∧ k < lb.length ∧ la[i]? = lb[k]?) := (fun h => by have h9 := h.2.2; rw [hx, hy] at h9; exact h42 (Option.some.inj h9))
              refine T_drawnL [(0, true), (1, true), (2, true), (3, true), (4, true), (5, true), (6, true), (7, true), (8, true), (9, true), (10, true), (11, true), (12, true), (13, true), (14, true), (15, true), (16, true), (17, true), (18, true), (19, true), (20, true), (21, true)] hmix (by kernel_rfl) fun w14 l14 => ?_
              have S14 := S11.like l14
              refine DL_y rfl (y_move rfl) rfl ?_
              refine DL_y rfl (y_move rfl) rfl ?_
              refine DL_y rfl (y_len Try.underlying22 rfl) rfl ?_
              refine DL_y rfl (y_lss rfl rfl) rfl ?_
              refine DL_y rfl (y_move rfl) rfl ?_
              refine DL_split 57 rfl (fun h57 => ?_) (fun h57 => ?_)
              ·
                obtain ⟨ad1, hu1, hu2⟩ := hR2 (i + 1) (by omega)
                obtain ⟨ad2, hu3, hu4⟩ := hR2 i (by omega)
                refine DL_gyes rfl rfl rfl (y_move rfl) rfl ?_
                refine DL_gyes rfl rfl rfl (y_move rfl) rfl ?_
                refine DL_gyes rfl rfl rfl (y_add rfl rfl (i64w (by omega))) rfl ?_
                refine DL_gyes rfl rfl rfl (y_idx Try.underlying48 sz22 rfl rfl (S14.rd hR1) (Nt.mk (by omega) : Nt _ (i + 1)) (by omega)) rfl ?_
                refine DL_gyes rfl rfl rfl (y_ldr Try.underlying22 rfl rfl (S14.rd hR1) hu1) rfl ?_
                refine DL_gyes rfl rfl rfl (y_move rfl) rfl ?_
                refine DL_gyes rfl rfl rfl (y_idx Try.underlying22 sz3 rfl rfl (S14.rd hu2) inferInstance (by omega)) rfl ?_
                refine DL_gyes rfl rfl rfl (y_ldr Try.underlying3 rfl rfl (S14.rd hu2) (rowV_get _ _ _ _ (by omega))) rfl ?_
                refine DL_gyes rfl rfl rfl (y_move rfl) rfl ?_
                refine DL_gyes rfl rfl rfl (y_move rfl) rfl ?_
                refine DL_gyes rfl rfl rfl (y_idx Try.underlying48 sz22 rfl rfl (S14.rd hR1) inferInstance (by omega)) rfl ?_
                refine DL_gyes rfl rfl rfl (y_ldr Try.underlying22 rfl rfl (S14.rd hR1) hu3) rfl ?_
                refine DL_gyes rfl rfl rfl (y_move rfl) rfl ?_
                refine DL_gyes rfl rfl rfl (y_idx Try.underlying22 sz3 rfl rfl (S14.rd hu4) inferInstance (by omega)) rfl ?_
                refine DL_gyes rfl rfl rfl (y_ldr Try.underlying3 rfl rfl (S14.rd hu4) (rowV_get _ _ _ _ (by omega))) rfl ?_
                refine DL_gyes rfl rfl rfl (y_lss rfl rfl) rfl ?_
                refine DL_y rfl ((by first | exact y_pickT rfl rfl | exact y_pickF rfl rfl)) rfl ?_
                refine DL_nil ?_
                refine hK21 _ _ ?_
                refine T_cond rfl (fun h74 => ?_) (fun h74 => ?_)
                ·
                  refine T_region ?_
                  refine L_y (y_move rfl) rfl ?_
                  refine L_y (y_add rfl rfl (i64w (by omega))) rfl ?_
                  refine L_y (y_assign rfl) rfl ?_
                  refine L_nil ?_
                  have hm2 : i < la.length ∧ rR la lb (i + 1) k < rR la lb i k := ⟨by omega, by omega⟩
                  refine ⟨i + 1, k, A1, c1, ps, by omega, ⟨⟨by omega, by omega, by omega, by rw [← hps, keep_a hno hm2]⟩, S14⟩, ?_⟩
                  exact (Sub.cons rfl (by first | rfl | exact congrArg (Value.int _) (by omega)) (Sub.cons rfl (by first | rfl | exact congrArg (Value.int _) (by omega)) (Sub.cons rfl (by first | rfl | exact congrArg (Value.int _) (by omega)) (Sub.cons rfl (by first | rfl | (rw [List.length_append]; rfl)) (Sub.cons rfl (by first | rfl | exact congrArg (Value.int _) (by omega)) (Sub.cons rfl (by first | rfl | exact congrArg (Value.int _) (by omega)) (Sub.cons rfl rfl (Sub.cons rfl rfl (Sub.cons rfl rfl (Sub.nil _))))))))))
                ·
                  refine T_region ?_
                  refine L_y (y_move rfl) rfl ?_
                  refine L_y (y_add rfl rfl (i64w (by omega))) rfl ?_
                  refine L_y (y_assign rfl) rfl ?_
                  refine L_nil ?_
                  have hm2 : ¬ (i < la.length ∧ rR la lb (i + 1) k < rR la lb i k) := fun h => by omega
                  have hkl : k < lb.length := by rcases Nat.lt_or_ge k lb.length with q | q; exact q; exact (hm2 ⟨by omega, by rw [rR_endB q, rR_endB q]; omega⟩).elim
                  refine ⟨i, k + 1, A1, c1, ps, by omega, ⟨⟨by omega, by omega, by omega, by rw [← hps, keep_b hno hm2 hkl]⟩, S14⟩, ?_⟩
                  exact (Sub.cons rfl (by first | rfl | exact congrArg (Value.int _) (by omega)) (Sub.cons rfl (by first | rfl | exact congrArg (Value.int _) (by omega)) (Sub.cons rfl (by first | rfl | exact congrArg (Value.int _) (by omega)) (Sub.cons rfl (by first | rfl | (rw [List.length_append]; rfl)) (Sub.cons rfl (by first | rfl | exact congrArg (Value.int _) (by omega)) (Sub.cons rfl (by first | rfl | exact congrArg (Value.int _) (by omega)) (Sub.cons rfl rfl (Sub.cons rfl rfl (Sub.cons rfl rfl (Sub.nil _))))))))))
              ·
                refine DL_gno rfl rfl rfl rfl ?_
                refine DL_gno rfl rfl rfl rfl ?_
                refine DL_gno rfl rfl rfl rfl ?_
                refine DL_gno rfl rfl rfl rfl ?_
                refine DL_gno rfl rfl rfl rfl ?_
                refine DL_gno rfl rfl rfl rfl ?_
                refine DL_gno rfl rfl rfl rfl ?_
                refine DL_gno rfl rfl rfl rfl ?_
                refine DL_gno rfl rfl rfl rfl ?_
                refine DL_gno rfl rfl rfl rfl ?_
                refine DL_gno rfl rfl rfl rfl ?_
                refine DL_gno rfl rfl rfl rfl ?_
                refine DL_gno rfl rfl rfl rfl ?_
                refine DL_gno rfl rfl rfl rfl ?_
                refine DL_gno rfl rfl rfl rfl ?_
                refine DL_gno rfl rfl rfl rfl ?_
                refine DL_y rfl ((by first | exact y_pickT rfl rfl | exact y_pickF rfl rfl)) rfl ?_
                refine DL_nil ?_
                refine hK21 _ _ ?_
                refine T_false rfl ?_
                refine T_region ?_
                refine L_y (y_move rfl) rfl ?_
                refine L_y (y_add rfl rfl (i64w (by omega))) rfl ?_
                refine L_y (y_assign rfl) rfl ?_
                refine L_nil ?_
                have hm2 : ¬ (i < la.length ∧ rR la lb (i + 1) k < rR la lb i k) := fun h => by omega
                have hkl : k < lb.length := by rcases Nat.lt_or_ge k lb.length with q | q; exact q; exact (hm2 ⟨by omega, by rw [rR_endB q, rR_endB q]; omega⟩).elim
                refine ⟨i, k + 1, A1, c1, ps, by omega, ⟨⟨by omega, by omega, by omega, by rw [← hps, keep_b hno hm2 hkl]⟩, S14⟩, ?_⟩
                exact (Sub.cons rfl (by first | rfl | exact congrArg (Value.int _) (by omega)) (Sub.cons rfl (by first | rfl | exact congrArg (Value.int _) (by omega)) (Sub.cons rfl (by first | rfl | exact congrArg (Value.int _) (by omega)) (Sub.cons rfl (by first | rfl | (rw [List.length_append]; rfl)) (Sub.cons rfl (by first | rfl | exact congrArg (Value.int _) (by omega)) (Sub.cons rfl (by first | rfl | exact congrArg (Value.int _) (by omega)) (Sub.cons rfl rfl (Sub.cons rfl rfl (Sub.cons rfl rfl (Sub.nil _))))))))))
          ·
            refine DL_gno rfl rfl rfl rfl ?_
            refine DL_gno rfl rfl rfl rfl ?_
            refine DL_gno rfl rfl rfl rfl ?_
            refine DL_gno rfl rfl rfl rfl ?_
            refine DL_gno rfl rfl rfl rfl ?_
            refine DL_gno rfl rfl rfl rfl ?_
            refine DL_gno rfl rfl rfl rfl ?_
            refine DL_gno rfl rfl rfl rfl ?_
            refine DL_gno rfl rfl rfl rfl ?_
            refine DL_y rfl ((by first | exact y_pickT rfl rfl | exact y_pickF rfl rfl)) rfl ?_
            refine DL_nil ?_
            refine hK17 _ _ ?_
            refine T_false rfl ?_
            refine T_skip ?_
            refine hK16 _ _ ?_
            refine T_seq fun K22 hK22 => ?_
            have hno : ¬ (i < la.length ∧ k < lb.length ∧ la[i]? = lb[k]?) := (fun h => by omega)
            refine T_drawnL [(0, true), (1, true), (2, true), (3, true), (4, true), (5, true), (6, true), (7, true), (8, true), (9, true), (10, true), (11, true), (12, true), (13, true), (14, true), (15, true), (16, true), (17, true), (18, true), (19, true), (20, true), (21, true)] hmix (by kernel_rfl) fun w15 l15 => ?_
            have S15 := S11.like l15
            refine DL_y rfl (y_move rfl) rfl ?_
            refine DL_y rfl (y_move rfl) rfl ?_
            refine DL_y rfl (y_len Try.underlying22 rfl) rfl ?_
            refine DL_y rfl (y_lss rfl rfl) rfl ?_
            refine DL_y rfl (y_move rfl) rfl ?_
            refine DL_split 57 rfl (fun h57 => ?_) (fun h57 => ?_)
            ·
              obtain ⟨ad1, hu1, hu2⟩ := hR2 (i + 1) (by omega)
              obtain ⟨ad2, hu3, hu4⟩ := hR2 i (by omega)
              refine DL_gyes rfl rfl rfl (y_move rfl) rfl ?_
              refine DL_gyes rfl rfl rfl (y_move rfl) rfl ?_
              refine DL_gyes rfl rfl rfl (y_add rfl rfl (i64w (by omega))) rfl ?_
              refine DL_gyes rfl rfl rfl (y_idx Try.underlying48 sz22 rfl rfl (S15.rd hR1) (Nt.mk (by omega) : Nt _ (i + 1)) (by omega)) rfl ?_
              refine DL_gyes rfl rfl rfl (y_ldr Try.underlying22 rfl rfl (S15.rd hR1) hu1) rfl ?_
              refine DL_gyes rfl rfl rfl (y_move rfl) rfl ?_
              refine DL_gyes rfl rfl rfl (y_idx Try.underlying22 sz3 rfl rfl (S15.rd hu2) inferInstance (by omega)) rfl ?_
              refine DL_gyes rfl rfl rfl (y_ldr Try.underlying3 rfl rfl (S15.rd hu2) (rowV_get _ _ _ _ (by omega))) rfl ?_
              refine DL_gyes rfl rfl rfl (y_move rfl) rfl ?_
              refine DL_gyes rfl rfl rfl (y_move rfl) rfl ?_
              refine DL_gyes rfl rfl rfl (y_idx Try.underlying48 sz22 rfl rfl (S15.rd hR1) inferInstance (by omega)) rfl ?_
              refine DL_gyes rfl rfl rfl (y_ldr Try.underlying22 rfl rfl (S15.rd hR1) hu3) rfl ?_
              refine DL_gyes rfl rfl rfl (y_move rfl) rfl ?_
              refine DL_gyes rfl rfl rfl (y_idx Try.underlying22 sz3 rfl rfl (S15.rd hu4) inferInstance (by omega)) rfl ?_
              refine DL_gyes rfl rfl rfl (y_ldr Try.underlying3 rfl rfl (S15.rd hu4) (rowV_get _ _ _ _ (by omega))) rfl ?_
              refine DL_gyes rfl rfl rfl (y_lss rfl rfl) rfl ?_
              refine DL_y rfl ((by first | exact y_pickT rfl rfl | exact y_pickF rfl rfl)) rfl ?_
              refine DL_nil ?_
              refine hK22 _ _ ?_
              refine T_cond rfl (fun h74 => ?_) (fun h74 => ?_)
              ·
                refine T_region ?_
                refine L_y (y_move rfl) rfl ?_
                refine L_y (y_add rfl rfl (i64w (by omega))) rfl ?_
                refine L_y (y_assign rfl) rfl ?_
                refine L_nil ?_
                have hm2 : i < la.length ∧ rR la lb (i + 1) k < rR la lb i k := ⟨by omega, by omega⟩
                refine ⟨i + 1, k, A1, c1, ps, by omega, ⟨⟨by omega, by omega, by omega, by rw [← hps, keep_a hno hm2]⟩, S15⟩, ?_⟩
                exact (Sub.cons rfl (by first | rfl | exact congrArg (Value.int _) (by omega)) (Sub.cons rfl (by first | rfl | exact congrArg (Value.int _) (by omega)) (Sub.cons rfl (by first | rfl | exact congrArg (Value.int _) (by omega)) (Sub.cons rfl (by first | rfl | (rw [List.length_append]; rfl)) (Sub.cons rfl (by first | rfl | exact congrArg (Value.int _) (by omega)) (Sub.cons rfl (by first | rfl | exact congrArg (Value.int _) (by omega)) (Sub.cons rfl rfl (Sub.cons rfl rfl (Sub.cons rfl rfl (Sub.nil _))))))))))
              ·
                refine T_region ?_
                refine L_y (y_move rfl) rfl ?_
                refine L_y (y_add rfl rfl (i64w (by omega))) rfl ?_
                refine L_y (y_assign rfl) rfl ?_
                refine L_nil ?_
                have hm2 : ¬ (i < la.length ∧ rR la lb (i + 1) k < rR la lb i k) := fun h => by omega
                have hkl : k < lb.length := by rcases Nat.lt_or_ge k lb.length with q | q; exact q; exact (hm2 ⟨by omega, by rw [rR_endB q, rR_endB q]; omega⟩).elim
                refine ⟨i, k + 1, A1, c1, ps, by omega, ⟨⟨by omega, by omega, by omega, by rw [← hps, keep_b hno hm2 hkl]⟩, S15⟩, ?_⟩
                exact (Sub.cons rfl (by first | rfl | exact congrArg (Value.int _) (by omega)) (Sub.cons rfl (by first | rfl | exact congrArg (Value.int _) (by omega)) (Sub.cons rfl (by first | rfl | exact congrArg (Value.int _) (by omega)) (Sub.cons rfl (by first | rfl | (rw [List.length_append]; rfl)) (Sub.cons rfl (by first | rfl | exact congrArg (Value.int _) (by omega)) (Sub.cons rfl (by first | rfl | exact congrArg (Value.int _) (by omega)) (Sub.cons rfl rfl (Sub.cons rfl rfl (Sub.cons rfl rfl (Sub.nil _))))))))))
            ·
              refine DL_gno rfl rfl rfl rfl ?_
              refine DL_gno rfl rfl rfl rfl ?_
              refine DL_gno rfl rfl rfl rfl ?_
              refine DL_gno rfl rfl rfl rfl ?_
              refine DL_gno rfl rfl rfl rfl ?_
              refine DL_gno rfl rfl rfl rfl ?_
              refine DL_gno rfl rfl rfl rfl ?_
              refine DL_gno rfl rfl rfl rfl ?_
              refine DL_gno rfl rfl rfl rfl ?_
              refine DL_gno rfl rfl rfl rfl ?_
              refine DL_gno rfl rfl rfl rfl ?_
              refine DL_gno rfl rfl rfl rfl ?_
              refine DL_gno rfl rfl rfl rfl ?_
              refine DL_gno rfl rfl rfl rfl ?_
              refine DL_gno rfl rfl rfl rfl ?_
              refine DL_gno rfl rfl rfl rfl ?_
              refine DL_y rfl ((by first | exact y_pickT rfl rfl | exact y_pickF rfl rfl)) rfl ?_
              refine DL_nil ?_
              refine hK22 _ _ ?_
              refine T_false rfl ?_
              refine T_region ?_
              refine L_y (y_move rfl) rfl ?_
              refine L_y (y_add rfl rfl (i64w (by omega))) rfl ?_
              refine L_y (y_assign rfl) rfl ?_
              refine L_nil ?_
              have hm2 : ¬ (i < la.length ∧ rR la lb (i + 1) k < rR la lb i k) := fun h => by omega
              have hkl : k < lb.length := by rcases Nat.lt_or_ge k lb.length with q | q; exact q; exact (hm2 ⟨by omega, by rw [rR_endB q, rR_endB q]; omega⟩).elim
              refine ⟨i, k + 1, A1, c1, ps, by omega, ⟨⟨by omega, by omega, by omega, by rw [← hps, keep_b hno hm2 hkl]⟩, S15⟩, ?_⟩
              exact (Sub.cons rfl (by first | rfl | exact congrArg (Value.int _) (by omega)) (Sub.cons rfl (by first | rfl | exact congrArg (Value.int _) (by omega)) (Sub.cons rfl (by first | rfl | exact congrArg (Value.int _) (by omega)) (Sub.cons rfl (by first | rfl | (rw [List.length_append]; rfl)) (Sub.cons rfl (by first | rfl | exact congrArg (Value.int _) (by omega)) (Sub.cons rfl (by first | rfl | exact congrArg (Value.int _) (by omega)) (Sub.cons rfl rfl (Sub.cons rfl rfl (Sub.cons rfl rfl (Sub.nil _))))))))))
        ·
          refine DL_gno rfl rfl rfl rfl ?_
          refine DL_gno rfl rfl rfl rfl ?_
          refine DL_gno rfl rfl rfl rfl ?_
          refine DL_gno rfl rfl rfl rfl ?_
          refine DL_y rfl ((by first | exact y_pickT rfl rfl | exact y_pickF rfl rfl)) rfl ?_
          refine DL_y rfl (y_move rfl) rfl ?_
          refine DL_gno rfl rfl rfl rfl ?_
          refine DL_gno rfl rfl rfl rfl ?_
          refine DL_gno rfl rfl rfl rfl ?_
          refine DL_gno rfl rfl rfl rfl ?_
          refine DL_gno rfl rfl rfl rfl ?_
          refine DL_gno rfl rfl rfl rfl ?_
          refine DL_gno rfl rfl rfl rfl ?_
          refine DL_gno rfl rfl rfl rfl ?_
          refine DL_gno rfl rfl rfl rfl ?_
          refine DL_y rfl ((by first | exact y_pickT rfl rfl | exact y_pickF rfl rfl)) rfl ?_
          refine DL_nil ?_
          refine hK17 _ _ ?_
          refine T_false rfl ?_
          refine T_skip ?_
          refine hK16 _ _ ?_
          refine T_seq fun K23 hK23 => ?_
          have hno : ¬ (i < la.length ∧ k < lb.length ∧ la[i]? = lb[k]?) := (fun h => by omega)
          refine T_drawnL [(0, true), (1, true), (2, true), (3, true), (4, true), (5, true), (6, true), (7, true), (8, true), (9, true), (10, true), (11, true), (12, true), (13, true), (14, true), (15, true), (16, true), (17, true), (18, true), (19, true), (20, true), (21, true)] hmix (by kernel_rfl) fun w16 l16 => ?_
          have S16 := S11.like l16
          refine DL_y rfl (y_move rfl) rfl ?_
          refine DL_y rfl (y_move rfl) rfl ?_
          refine DL_y rfl (y_len Try.underlying22 rfl) rfl ?_
          refine DL_y rfl (y_lss rfl rfl) rfl ?_
          refine DL_y rfl (y_move rfl) rfl ?_
          refine DL_split 57 rfl (fun h57 => ?_) (fun h57 => ?_)
          ·
            obtain ⟨ad1, hu1, hu2⟩ := hR2 (i + 1) (by omega)
            obtain ⟨ad2, hu3, hu4⟩ := hR2 i (by omega)
            refine DL_gyes rfl rfl rfl (y_move rfl) rfl ?_
            refine DL_gyes rfl rfl rfl (y_move rfl) rfl ?_
            refine DL_gyes rfl rfl rfl (y_add rfl rfl (i64w (by omega))) rfl ?_
            refine DL_gyes rfl rfl rfl (y_idx Try.underlying48 sz22 rfl rfl (S16.rd hR1) (Nt.mk (by omega) : Nt _ (i + 1)) (by omega)) rfl ?_
            refine DL_gyes rfl rfl rfl (y_ldr Try.underlying22 rfl rfl (S16.rd hR1) hu1) rfl ?_
            refine DL_gyes rfl rfl rfl (y_move rfl) rfl ?_
            refine DL_gyes rfl rfl rfl (y_idx Try.underlying22 sz3 rfl rfl (S16.rd hu2) inferInstance (by omega)) rfl ?_
            refine DL_gyes rfl rfl rfl (y_ldr Try.underlying3 rfl rfl (S16.rd hu2) (rowV_get _ _ _ _ (by omega))) rfl ?_
            refine DL_gyes rfl rfl rfl (y_move rfl) rfl ?_
            refine DL_gyes rfl rfl rfl (y_move rfl) rfl ?_
            refine DL_gyes rfl rfl rfl (y_idx Try.underlying48 sz22 rfl rfl (S16.rd hR1) inferInstance (by omega)) rfl ?_
            refine DL_gyes rfl rfl rfl (y_ldr Try.underlying22 rfl rfl (S16.rd hR1) hu3) rfl ?_
            refine DL_gyes rfl rfl rfl (y_move rfl) rfl ?_
            refine DL_gyes rfl rfl rfl (y_idx Try.underlying22 sz3 rfl rfl (S16.rd hu4) inferInstance (by omega)) rfl ?_
            refine DL_gyes rfl rfl rfl (y_ldr Try.underlying3 rfl rfl (S16.rd hu4) (rowV_get _ _ _ _ (by omega))) rfl ?_
            refine DL_gyes rfl rfl rfl (y_lss rfl rfl) rfl ?_
            refine DL_y rfl ((by first | exact y_pickT rfl rfl | exact y_pickF rfl rfl)) rfl ?_
            refine DL_nil ?_
            refine hK23 _ _ ?_
            refine T_cond rfl (fun h74 => ?_) (fun h74 => ?_)
            ·
              refine T_region ?_
              refine L_y (y_move rfl) rfl ?_
              refine L_y (y_add rfl rfl (i64w (by omega))) rfl ?_
              refine L_y (y_assign rfl) rfl ?_
              refine L_nil ?_
              have hm2 : i < la.length ∧ rR la lb (i + 1) k < rR la lb i k := ⟨by omega, by omega⟩
              refine ⟨i + 1, k, A1, c1, ps, by omega, ⟨⟨by omega, by omega, by omega, by rw [← hps, keep_a hno hm2]⟩, S16⟩, ?_⟩
              exact (Sub.cons rfl (by first | rfl | exact congrArg (Value.int _) (by omega)) (Sub.cons rfl (by first | rfl | exact congrArg (Value.int _) (by omega)) (Sub.cons rfl (by first | rfl | exact congrArg (Value.int _) (by omega)) (Sub.cons rfl (by first | rfl | (rw [List.length_append]; rfl)) (Sub.cons rfl (by first | rfl | exact congrArg (Value.int _) (by omega)) (Sub.cons rfl (by first | rfl | exact congrArg (Value.int _) (by omega)) (Sub.cons rfl rfl (Sub.cons rfl rfl (Sub.cons rfl rfl (Sub.nil _))))))))))
            ·
              refine T_region ?_
              refine L_y (y_move rfl) rfl ?_
              refine L_y (y_add rfl rfl (i64w (by omega))) rfl ?_
              refine L_y (y_assign rfl) rfl ?_
              refine L_nil ?_
              have hm2 : ¬ (i < la.length ∧ rR la lb (i + 1) k < rR la lb i k) := fun h => by omega
              have hkl : k < lb.length := by rcases Nat.lt_or_ge k lb.length with q | q; exact q; exact (hm2 ⟨by omega, by rw [rR_endB q, rR_endB q]; omega⟩).elim
              refine ⟨i, k + 1, A1, c1, ps, by omega, ⟨⟨by omega, by omega, by omega, by rw [← hps, keep_b hno hm2 hkl]⟩, S16⟩, ?_⟩
              exact (Sub.cons rfl (by first | rfl | exact congrArg (Value.int _) (by omega)) (Sub.cons rfl (by first | rfl | exact congrArg (Value.int _) (by omega)) (Sub.cons rfl (by first | rfl | exact congrArg (Value.int _) (by omega)) (Sub.cons rfl (by first | rfl | (rw [List.length_append]; rfl)) (Sub.cons rfl (by first | rfl | exact congrArg (Value.int _) (by omega)) (Sub.cons rfl (by first | rfl | exact congrArg (Value.int _) (by omega)) (Sub.cons rfl rfl (Sub.cons rfl rfl (Sub.cons rfl rfl (Sub.nil _))))))))))
          ·
            refine DL_gno rfl rfl rfl rfl ?_
            refine DL_gno rfl rfl rfl rfl ?_
            refine DL_gno rfl rfl rfl rfl ?_
            refine DL_gno rfl rfl rfl rfl ?_
            refine DL_gno rfl rfl rfl rfl ?_
            refine DL_gno rfl rfl rfl rfl ?_
            refine DL_gno rfl rfl rfl rfl ?_
            refine DL_gno rfl rfl rfl rfl ?_
            refine DL_gno rfl rfl rfl rfl ?_
            refine DL_gno rfl rfl rfl rfl ?_
            refine DL_gno rfl rfl rfl rfl ?_
            refine DL_gno rfl rfl rfl rfl ?_
            refine DL_gno rfl rfl rfl rfl ?_
            refine DL_gno rfl rfl rfl rfl ?_
            refine DL_gno rfl rfl rfl rfl ?_
            refine DL_gno rfl rfl rfl rfl ?_
            refine DL_y rfl ((by first | exact y_pickT rfl rfl | exact y_pickF rfl rfl)) rfl ?_
            refine DL_nil ?_
            refine hK23 _ _ ?_
            refine T_false rfl ?_
            refine T_region ?_
            refine L_y (y_move rfl) rfl ?_
            refine L_y (y_add rfl rfl (i64w (by omega))) rfl ?_
            refine L_y (y_assign rfl) rfl ?_
            refine L_nil ?_
            have hm2 : ¬ (i < la.length ∧ rR la lb (i + 1) k < rR la lb i k) := fun h => by omega
            have hkl : k < lb.length := by rcases Nat.lt_or_ge k lb.length with q | q; exact q; exact (hm2 ⟨by omega, by rw [rR_endB q, rR_endB q]; omega⟩).elim
            refine ⟨i, k + 1, A1, c1, ps, by omega, ⟨⟨by omega, by omega, by omega, by rw [← hps, keep_b hno hm2 hkl]⟩, S16⟩, ?_⟩
            exact (Sub.cons rfl (by first | rfl | exact congrArg (Value.int _) (by omega)) (Sub.cons rfl (by first | rfl | exact congrArg (Value.int _) (by omega)) (Sub.cons rfl (by first | rfl | exact congrArg (Value.int _) (by omega)) (Sub.cons rfl (by first | rfl | (rw [List.length_append]; rfl)) (Sub.cons rfl (by first | rfl | exact congrArg (Value.int _) (by omega)) (Sub.cons rfl (by first | rfl | exact congrArg (Value.int _) (by omega)) (Sub.cons rfl rfl (Sub.cons rfl rfl (Sub.cons rfl rfl (Sub.nil _))))))))))
      ·
        refine T_exit ?_
        refine hK5 _ _ ?_
        refine T_seq fun K24 hK24 => ?_
        refine T_region ?_
        refine L_y (y_move rfl) rfl ?_
        refine L_y (y_assign rfl) rfl ?_
        refine L_nil ?_
        refine hK24 _ _ ?_
        refine T_ret ?_
        repeat (first | with_reducible refine up_then ?_ | with_reducible refine up_in ?_)
        refine ret1 rfl rfl ?_
        have he : ps = keepT la lb 0 0 := by rw [← hps, keep_end (by omega) (by omega), List.append_nil]
        exact ⟨_, rfl, Like.trans hl2 S3.like0, _, _, _, rfl, by rw [← he]; exact own_mono (S3.own 0 rfl) hsz⟩
end Go.Proofs.Ytgapdndbelnknaa
