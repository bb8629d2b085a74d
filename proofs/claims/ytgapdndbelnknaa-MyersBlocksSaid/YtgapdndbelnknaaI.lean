/-
  The field: way.
-/
import Derived.Test.YtgapdndbelnknaaH
namespace Go.Proofs.Ytgapdndbelnknaa
open Go.RowKit Zk Zx
set_option linter.unusedVariables false
set_option linter.unusedSimpArgs false

set_option maxRecDepth 100000 in
theorem fway (g : Nat) (A : Option Addr) (n ca : Nat) (B : Option Addr) (m cb : Nat) (la lb : List Int) (D : List (List Int)) (r0 : Nat) (w0 : World) (hf : FR w0 g A n ca B m cb la lb D) (hn : n ≤ 1048576) (hm : m ≤ 1048576) (hD : D.length ≤ 1048576) (hr0 : r0 = rR la lb 0 0) (hrD : D.length = r0 + 1) (ht : Tab la lb D) :
    Calls Try.prog 20 #[.pointer (some ⟨g, 0, none⟩), .int .i64 (r0 : Int)] w0 fun e w' => ∃ u, e = .returned u ∧ Like w0 w' ∧ ∃ A m c, u = .slice A m c ∧ w'.ownsRow w0.heap.size 36 2 (.slice A m c) m ((keepT la lb 0 0).flatMap pf) := by
  refine enter1 (env := [(0, .pointer (some ⟨g, 0, none⟩)), (1, .int .i64 (r0 : Int))]) [.pointer (some ⟨g, 0, none⟩), .int .i64 (r0 : Int)] Try.func20 rfl Try.ntmps20 rfl rfl ?_
  have hf0 := hf; obtain ⟨R, nr, cr, SS, vs, hB, hA1, hB1, hR1, hnr, hrows⟩ := hf; have hla := lenI hA1; have hlb := lenI hB1; have S0 := St.start w0 noM
  refine T_seq fun K1 hK1 => ?_
  refine T_region ?_
  refine L_y (y_assign rfl) rfl ?_
  refine L_nil ?_
  refine hK1 _ _ ?_
  refine T_scope (fun _ _ _ h => h) ?_
  refine T_seq fun K2 hK2 => ?_
  refine T_region ?_
  have S1 := S0.nilrow 36 2
  refine L_y (y_assign rfl) rfl ?_
  refine L_nil ?_
  refine hK2 _ _ ?_
  refine T_seq fun K3 hK3 => ?_
  refine T_region ?_
  refine L_y (y_assign rfl) rfl ?_
  refine L_y (y_assign rfl) rfl ?_
  refine L_nil ?_
  refine hK3 _ _ ?_
  refine T_seq fun K4 hK4 => ?_
  refine T_label ?_
  refine hK4 _ _ ?_
  refine T_block ?_
  refine T_loop6 [(0, _)] (fun (i : Nat) (k : Nat) (r : Nat) (A1 : Option Addr) (c1 : Nat) (ps : List (Nat × Nat)) => [(1, .int .i64 (r : Int)), (5, .slice A1 ps.length c1), (6, .int .i64 (i : Int)), (7, .int .i64 (k : Int))]) (fun (i : Nat) (k : Nat) (r : Nat) (A1 : Option Addr) (c1 : Nat) (ps : List (Nat × Nat)) => (n - i) + (m - k)) (fun (i : Nat) (k : Nat) (r : Nat) (A1 : Option Addr) (c1 : Nat) (ps : List (Nat × Nat)) (w : World) => (i ≤ n ∧ k ≤ m ∧ r = rR la lb i k ∧ (k : Int) - i ≤ (rR la lb 0 0 : Int) - rR la lb i k ∧ rR la lb i k ≤ rR la lb 0 0 ∧ ps.length ≤ i ∧ ps ++ keepT la lb i k = keepT la lb 0 0) ∧ St w0 noM [row 36 2 A1 ps.length c1 (ps.flatMap pf)] w) 0 0 r0 none 0 [] (Sub.cons rfl (by first | rfl | exact congrArg (Value.int _) (by omega)) (Sub.cons rfl (by first | rfl | exact congrArg (Value.int _) (by omega)) (Sub.cons rfl (by first | rfl | exact congrArg (Value.int _) (by omega)) (Sub.cons rfl (by first | rfl | exact congrArg (Value.int _) (by omega)) (Sub.nil _))))) (Sub.cons rfl rfl (Sub.nil _)) ?_ ?_
  ·
    exact ⟨⟨Nat.zero_le _, Nat.zero_le _, hr0, by omega, by omega, Nat.le_refl _, rfl⟩, S1⟩
  ·
    intro i k r A1 c1 ps w2 hrel
    obtain ⟨⟨hi, hk, hr, hway, hrl, hpl, hps⟩, S2⟩ := hrel
    refine T_block ?_
    refine T_seq fun K5 hK5 => ?_
    refine T_seq fun K6 hK6 => ?_
    refine T_drawnL [(0, true), (1, true), (2, true), (3, true), (4, true), (5, true), (6, true), (7, true), (8, true), (9, true), (10, true), (11, true), (12, true), (13, true), (14, true), (15, true), (16, true), (17, true), (18, true), (19, true), (20, true), (21, true), (22, true), (23, true), (24, true), (25, true), (26, true), (27, true), (28, true), (29, true), (30, true), (31, true), (32, true)] hmix (by kernel_rfl) fun w3 l3 => ?_
    have S3 := S2.like l3
    refine DL_y rfl (y_move rfl) rfl ?_
    refine DL_y rfl (y_move rfl) rfl ?_
    refine DL_y rfl (y_nilp rfl) rfl ?_
    refine DL_y rfl (y_fieldA 0 Try.underlying54 rfl sz22 rfl rfl rfl) rfl ?_
    refine DL_y rfl (y_ldc Try.underlying22 rfl rfl (((S3.rdB hB).cell _).trans (show (#[Value.slice A n ca, .slice B m cb, .slice R nr cr, SS] : Array Value)[0]? = some (Value.slice A n ca) from rfl))) rfl ?_
    refine DL_y rfl (y_len Try.underlying22 rfl) rfl ?_
    refine DL_y rfl (y_lss rfl rfl) rfl ?_
    refine DL_y rfl (y_move rfl) rfl ?_
    refine DL_split 15 rfl (fun h15 => ?_) (fun h15 => ?_)
    ·
      refine DL_gyes rfl rfl rfl (y_move rfl) rfl ?_
      refine DL_gyes rfl rfl rfl (y_move rfl) rfl ?_
      refine DL_gyes rfl rfl rfl (y_nilp rfl) rfl ?_
      refine DL_gyes rfl rfl rfl (y_fieldA 1 Try.underlying54 rfl sz22 rfl rfl rfl) rfl ?_
      refine DL_gyes rfl rfl rfl (y_ldc Try.underlying22 rfl rfl (((S3.rdB hB).cell _).trans (show (#[Value.slice A n ca, .slice B m cb, .slice R nr cr, SS] : Array Value)[1]? = some (Value.slice B m cb) from rfl))) rfl ?_
      refine DL_gyes rfl rfl rfl (y_len Try.underlying22 rfl) rfl ?_
      refine DL_gyes rfl rfl rfl (y_lss rfl rfl) rfl ?_
      refine DL_y rfl ((by first | exact y_pickT rfl rfl | exact y_pickF rfl rfl)) rfl ?_
      refine DL_y rfl (y_move rfl) rfl ?_
      refine DL_split 24 rfl (fun h24 => ?_) (fun h24 => ?_)
      ·
        obtain ⟨x, hx⟩ : ∃ x, la[i]? = some x := ⟨_, List.getElem?_eq_getElem (by omega)⟩
        obtain ⟨y, hy⟩ : ∃ y, lb[k]? = some y := ⟨_, List.getElem?_eq_getElem (by omega)⟩
        refine DL_gyes rfl rfl rfl (y_move rfl) rfl ?_
        refine DL_gyes rfl rfl rfl (y_nilp rfl) rfl ?_
        refine DL_gyes rfl rfl rfl (y_fieldA 0 Try.underlying54 rfl sz22 rfl rfl rfl) rfl ?_
        refine DL_gyes rfl rfl rfl (y_ldc Try.underlying22 rfl rfl (((S3.rdB hB).cell _).trans (show (#[Value.slice A n ca, .slice B m cb, .slice R nr cr, SS] : Array Value)[0]? = some (Value.slice A n ca) from rfl))) rfl ?_
        refine DL_gyes rfl rfl rfl (y_move rfl) rfl ?_
        refine DL_gyes rfl rfl rfl (y_idx Try.underlying22 sz3 rfl rfl (S3.rd hA1) inferInstance (by omega)) rfl ?_
        refine DL_gyes rfl rfl rfl (y_ldr Try.underlying3 rfl rfl (S3.rd hA1) (iL_get _ _ _ hx)) rfl ?_
        refine DL_gyes rfl rfl rfl (y_move rfl) rfl ?_
        refine DL_gyes rfl rfl rfl (y_nilp rfl) rfl ?_
        refine DL_gyes rfl rfl rfl (y_fieldA 1 Try.underlying54 rfl sz22 rfl rfl rfl) rfl ?_
        refine DL_gyes rfl rfl rfl (y_ldc Try.underlying22 rfl rfl (((S3.rdB hB).cell _).trans (show (#[Value.slice A n ca, .slice B m cb, .slice R nr cr, SS] : Array Value)[1]? = some (Value.slice B m cb) from rfl))) rfl ?_
        refine DL_gyes rfl rfl rfl (y_move rfl) rfl ?_
        refine DL_gyes rfl rfl rfl (y_idx Try.underlying22 sz3 rfl rfl (S3.rd hB1) inferInstance (by omega)) rfl ?_
        refine DL_gyes rfl rfl rfl (y_ldr Try.underlying3 rfl rfl (S3.rd hB1) (iL_get _ _ _ hy)) rfl ?_
        refine DL_gyes rfl rfl rfl (y_eql rfl rfl) rfl ?_
        refine DL_y rfl ((by first | exact y_pickT rfl rfl | exact y_pickF rfl rfl)) rfl ?_
        refine DL_nil ?_
        refine hK6 _ _ ?_
        refine T_cond rfl (fun h40 => ?_) (fun h40 => ?_)
        ·
          refine T_seq fun K7 hK7 => ?_
          refine T_region ?_
          refine L_y (y_move rfl) rfl ?_
          refine L_y (y_move rfl) rfl ?_
          refine L_y (y_move rfl) rfl ?_
          refine L_y (y_build rfl (show _ = some #[Value.int .i64 (i : Int), Value.int .i64 (k : Int)] by kernel_rfl)) rfl ?_
          refine L_o (o_bsl [_, _] te25 zz36 S3 rfl rfl rfl rfl rfl rfl rfl rfl fun b4 w4 S4 => ?_)
          refine L_o (o_app te25 S4 0 rfl rfl rfl (by first | exact S4.row 0 rfl | exact S4.row 1 rfl) (fun u hu => pf_one [(i, k)] u hu) rfl (by omega) (by omega) fun A5 c5 w5 S5 => ?_)
          have S5d := S5.drop (rs' := [_]) (.cons_cons _ (.cons _ (.refl _)))
          refine L_y (y_assign rfl) rfl ?_
          refine L_nil ?_
          refine hK7 _ _ ?_
          refine T_seq fun K8 hK8 => ?_
          refine T_region ?_
          refine L_y (y_move rfl) rfl ?_
          refine L_y (y_add rfl rfl (i64w (by omega))) rfl ?_
          refine L_y (y_assign rfl) rfl ?_
          refine L_nil ?_
          refine hK8 _ _ ?_
          refine T_seq fun K9 hK9 => ?_
          refine T_region ?_
          refine L_y (y_move rfl) rfl ?_
          refine L_y (y_add rfl rfl (i64w (by omega))) rfl ?_
          refine L_y (y_assign rfl) rfl ?_
          refine L_nil ?_
          refine hK9 _ _ ?_
          refine T_exit ?_
          have hh : i < la.length ∧ k < lb.length ∧ la[i]? = lb[k]? := ⟨by omega, by omega, by rw [hx, hy, h40]⟩
          have hrh := rR_hit hh
          have S90 := S5d.rowc 0 rfl (n' := (ps ++ [(i, k)]).length) (xs' := (ps ++ [(i, k)]).flatMap pf) (by simp) (by rw [List.flatMap_append])
          refine ⟨i + 1, k + 1, r, _, _, ps ++ [(i, k)], by omega, ⟨⟨by omega, by omega, by omega, by omega, by omega, by rw [List.length_append]; simp only [List.length_cons, List.length_nil]; omega, by rw [← hps, keep_hit hh, List.append_assoc]; rfl⟩, S90⟩, ?_⟩
          exact (Sub.cons rfl (by first | rfl | exact congrArg (Value.int _) (by omega)) (Sub.cons rfl (by first | rfl | (rw [List.length_append]; rfl)) (Sub.cons rfl (by first | rfl | exact congrArg (Value.int _) (by omega)) (Sub.cons rfl (by first | rfl | exact congrArg (Value.int _) (by omega)) (Sub.cons rfl rfl (Sub.nil _))))))
        ·
          refine T_skip ?_
          refine hK5 _ _ ?_
          refine T_seq fun K10 hK10 => ?_
          refine T_seq fun K11 hK11 => ?_
          have hno : ¬ (i < la.length ∧ k < lb.length ∧ la[i]? = lb[k]?) := (fun h => by have h9 := h.2.2; rw [hx, hy] at h9; exact h40 (Option.some.inj h9))
          refine T_region ?_
          refine L_y (y_move rfl) rfl ?_
          refine L_y (y_eql rfl rfl) rfl ?_
          refine L_nil ?_
          refine hK11 _ _ ?_
          refine T_cond rfl (fun h52 => ?_) (fun h52 => ?_)
          ·
            refine T_seq fun K12 hK12 => ?_
            refine T_region ?_
            refine L_y (y_move rfl) rfl ?_
            refine L_y (y_assign rfl) rfl ?_
            refine L_nil ?_
            refine hK12 _ _ ?_
            refine T_ret ?_
            repeat (first | with_reducible refine up_then ?_ | with_reducible refine up_in ?_)
            refine ret1 rfl rfl ?_
            have hz := rR_zero (by omega) (by omega) (by omega) (no_hit hno)
            have he : ps = keepT la lb 0 0 := by rw [← hps, keep_end (by omega) (by omega), List.append_nil]
            exact ⟨_, rfl, S3.like0, _, _, _, rfl, by rw [← he]; exact S3.own 0 rfl⟩
          ·
            refine T_skip ?_
            refine hK10 _ _ ?_
            refine T_seq fun K13 hK13 => ?_
            refine T_region ?_
            refine L_y (y_move rfl) rfl ?_
            refine L_y (y_sub rfl rfl (i64w (by omega))) rfl ?_
            refine L_y (y_assign rfl) rfl ?_
            refine L_nil ?_
            refine hK13 _ _ ?_
            refine T_seq fun K14 hK14 => ?_
            refine T_region ?_
            refine L_y (y_move rfl) rfl ?_
            refine L_y (y_move rfl) rfl ?_
            refine L_y (y_nilp rfl) rfl ?_
            refine L_y (y_fieldA 0 Try.underlying54 rfl sz22 rfl rfl rfl) rfl ?_
            refine L_y (y_ldc Try.underlying22 rfl rfl (((S3.rdB hB).cell _).trans (show (#[Value.slice A n ca, .slice B m cb, .slice R nr cr, SS] : Array Value)[0]? = some (Value.slice A n ca) from rfl))) rfl ?_
            refine L_y (y_len Try.underlying22 rfl) rfl ?_
            refine L_y (y_lss rfl rfl) rfl ?_
            refine L_y (y_move rfl) rfl ?_
            refine L_split 63 rfl (fun h63 => ?_) (fun h63 => ?_)
            ·
              refine L_gyes rfl rfl ?_
              refine L_y (y_move rfl) rfl ?_
              refine L_gyes rfl rfl ?_
              refine L_y (y_move rfl) rfl ?_
              refine L_gyes rfl rfl ?_
              refine L_y (y_add rfl rfl (i64w (by omega))) rfl ?_
              refine L_gyes rfl rfl ?_
              refine L_y (y_move rfl) rfl ?_
              refine L_gyes rfl rfl ?_
              refine L_y (y_move rfl) rfl ?_
              refine L_gyes rfl rfl ?_
              refine L_o (o_call Try.func24 rfl rfl (fnear g A n ca B m cb la lb D i k (r - 1) ((r : Int) - 1) w3 (hf0.like S3.like0) (by omega) (by omega) (by omega) (by omega) (by omega) (by omega) hway (by omega) (by omega) ht) rfl rfl ?_)
              rintro e7 w7 ⟨v7, rfl, l7, rfl⟩
              refine ⟨_, rfl, ?_⟩
              have S7 := S3.like l7
              refine L_y ((by first | exact y_pickT rfl rfl | exact y_pickF rfl rfl)) rfl ?_
              refine L_nil ?_
              refine hK14 _ _ ?_
              refine T_condB rfl (fun h70 => ?_) (fun h70 => ?_)
              ·
                refine T_region ?_
                refine L_y (y_move rfl) rfl ?_
                refine L_y (y_add rfl rfl (i64w (by omega))) rfl ?_
                refine L_y (y_assign rfl) rfl ?_
                refine L_nil ?_
                have hm := of_decide_eq_true h70
                have hra := rR_a (la := la) (lb := lb) (by omega) hm
                refine ⟨i + 1, k, r - 1, A1, c1, ps, by omega, ⟨⟨by omega, by omega, by omega, by omega, by omega, by omega, by rw [← hps, keep_a hno ⟨by omega, hm⟩]⟩, S7⟩, ?_⟩
                exact (Sub.cons rfl (by first | rfl | exact congrArg (Value.int _) (by omega)) (Sub.cons rfl (by first | rfl | (rw [List.length_append]; rfl)) (Sub.cons rfl (by first | rfl | exact congrArg (Value.int _) (by omega)) (Sub.cons rfl (by first | rfl | exact congrArg (Value.int _) (by omega)) (Sub.cons rfl rfl (Sub.nil _))))))
              ·
                refine T_region ?_
                refine L_y (y_move rfl) rfl ?_
                refine L_y (y_add rfl rfl (i64w (by omega))) rfl ?_
                refine L_y (y_assign rfl) rfl ?_
                refine L_nil ?_
                have hm : ¬ (i < la.length ∧ rR la lb (i + 1) k < rR la lb i k) := fun h => of_decide_eq_false h70 h.2
                have hkl := k_lt hm (by omega) (by omega) (by omega)
                have hrb := rR_b hno hm hkl
                refine ⟨i, k + 1, r - 1, A1, c1, ps, by omega, ⟨⟨by omega, by omega, by omega, by omega, by omega, by omega, by rw [← hps, keep_b hno hm hkl]⟩, S7⟩, ?_⟩
                exact (Sub.cons rfl (by first | rfl | exact congrArg (Value.int _) (by omega)) (Sub.cons rfl (by first | rfl | (rw [List.length_append]; rfl)) (Sub.cons rfl (by first | rfl | exact congrArg (Value.int _) (by omega)) (Sub.cons rfl (by first | rfl | exact congrArg (Value.int _) (by omega)) (Sub.cons rfl rfl (Sub.nil _))))))
            ·
              refine L_gno rfl rfl rfl ?_
              refine L_gno rfl rfl rfl ?_
              refine L_gno rfl rfl rfl ?_
              refine L_gno rfl rfl rfl ?_
              refine L_gno rfl rfl rfl ?_
              refine L_gno rfl rfl rfl ?_
              refine L_y ((by first | exact y_pickT rfl rfl | exact y_pickF rfl rfl)) rfl ?_
              refine L_nil ?_
              refine hK14 _ _ ?_
              refine T_false rfl ?_
              refine T_region ?_
              refine L_y (y_move rfl) rfl ?_
              refine L_y (y_add rfl rfl (i64w (by omega))) rfl ?_
              refine L_y (y_assign rfl) rfl ?_
              refine L_nil ?_
              have hm : ¬ (i < la.length ∧ rR la lb (i + 1) k < rR la lb i k) := fun h => by omega
              have hkl := k_lt hm (by omega) (by omega) (by omega)
              have hrb := rR_b hno hm hkl
              refine ⟨i, k + 1, r - 1, A1, c1, ps, by omega, ⟨⟨by omega, by omega, by omega, by omega, by omega, by omega, by rw [← hps, keep_b hno hm hkl]⟩, S3⟩, ?_⟩
              exact (Sub.cons rfl (by first | rfl | exact congrArg (Value.int _) (by omega)) (Sub.cons rfl (by first | rfl | (rw [List.length_append]; rfl)) (Sub.cons rfl (by first | rfl | exact congrArg (Value.int _) (by omega)) (Sub.cons rfl (by first | rfl | exact congrArg (Value.int _) (by omega)) (Sub.cons rfl rfl (Sub.nil _))))))
      ·
        refine DL_gno rfl rfl rfl rfl ?_
        refine DL_gno rfl rfl rfl rfl ?_
        refine DL_gno rfl rfl rfl rfl ?_
        refine DL_gno rfl rfl rfl rfl ?_
        refine DL_gno rfl rfl rfl rfl ?_
        refine DL_gno rfl rfl rfl rfl ?_
        refine DL_gno rfl rfl rfl rfl ?_
        refine DL_gno rfl rfl rfl rfl ?_
        refine DL_gno rfl rfl rfl rfl ?_
        refine DL_gno rfl rfl rfl rfl ?_
        refine DL_gno rfl rfl rfl rfl ?_
        refine DL_gno rfl rfl rfl rfl ?_
        refine DL_gno rfl rfl rfl rfl ?_
        refine DL_gno rfl rfl rfl rfl ?_
        refine DL_gno rfl rfl rfl rfl ?_
        refine DL_y rfl ((by first | exact y_pickT rfl rfl | exact y_pickF rfl rfl)) rfl ?_
        refine DL_nil ?_
        refine hK6 _ _ ?_
        refine T_false rfl ?_
        refine T_skip ?_
        refine hK5 _ _ ?_
        refine T_seq fun K15 hK15 => ?_
        refine T_seq fun K16 hK16 => ?_
        have hno : ¬ (i < la.length ∧ k < lb.length ∧ la[i]? = lb[k]?) := (fun h => by omega)
        refine T_region ?_
        refine L_y (y_move rfl) rfl ?_
        refine L_y (y_eql rfl rfl) rfl ?_
        refine L_nil ?_
        refine hK16 _ _ ?_
        refine T_cond rfl (fun h52 => ?_) (fun h52 => ?_)
        ·
          refine T_seq fun K17 hK17 => ?_
          refine T_region ?_
          refine L_y (y_move rfl) rfl ?_
          refine L_y (y_assign rfl) rfl ?_
          refine L_nil ?_
          refine hK17 _ _ ?_
          refine T_ret ?_
          repeat (first | with_reducible refine up_then ?_ | with_reducible refine up_in ?_)
          refine ret1 rfl rfl ?_
          have hz := rR_zero (by omega) (by omega) (by omega) (no_hit hno)
          have he : ps = keepT la lb 0 0 := by rw [← hps, keep_end (by omega) (by omega), List.append_nil]
          exact ⟨_, rfl, S3.like0, _, _, _, rfl, by rw [← he]; exact S3.own 0 rfl⟩
        ·
          refine T_skip ?_
          refine hK15 _ _ ?_
          refine T_seq fun K18 hK18 => ?_
          refine T_region ?_
          refine L_y (y_move rfl) rfl ?_
          refine L_y (y_sub rfl rfl (i64w (by omega))) rfl ?_
          refine L_y (y_assign rfl) rfl ?_
          refine L_nil ?_
          refine hK18 _ _ ?_
          refine T_seq fun K19 hK19 => ?_
          refine T_region ?_
          refine L_y (y_move rfl) rfl ?_
          refine L_y (y_move rfl) rfl ?_
          refine L_y (y_nilp rfl) rfl ?_
          refine L_y (y_fieldA 0 Try.underlying54 rfl sz22 rfl rfl rfl) rfl ?_
          refine L_y (y_ldc Try.underlying22 rfl rfl (((S3.rdB hB).cell _).trans (show (#[Value.slice A n ca, .slice B m cb, .slice R nr cr, SS] : Array Value)[0]? = some (Value.slice A n ca) from rfl))) rfl ?_
          refine L_y (y_len Try.underlying22 rfl) rfl ?_
          refine L_y (y_lss rfl rfl) rfl ?_
          refine L_y (y_move rfl) rfl ?_
          refine L_split 63 rfl (fun h63 => ?_) (fun h63 => ?_)
          ·
            refine L_gyes rfl rfl ?_
            refine L_y (y_move rfl) rfl ?_
            refine L_gyes rfl rfl ?_
            refine L_y (y_move rfl) rfl ?_
            refine L_gyes rfl rfl ?_
            refine L_y (y_add rfl rfl (i64w (by omega))) rfl ?_
            refine L_gyes rfl rfl ?_
            refine L_y (y_move rfl) rfl ?_
            refine L_gyes rfl rfl ?_
            refine L_y (y_move rfl) rfl ?_
            refine L_gyes rfl rfl ?_
            refine L_o (o_call Try.func24 rfl rfl (fnear g A n ca B m cb la lb D i k (r - 1) ((r : Int) - 1) w3 (hf0.like S3.like0) (by omega) (by omega) (by omega) (by omega) (by omega) (by omega) hway (by omega) (by omega) ht) rfl rfl ?_)
            rintro e9 w9 ⟨v9, rfl, l9, rfl⟩
            refine ⟨_, rfl, ?_⟩
            have S9 := S3.like l9
            refine L_y ((by first | exact y_pickT rfl rfl | exact y_pickF rfl rfl)) rfl ?_
            refine L_nil ?_
            refine hK19 _ _ ?_
            refine T_condB rfl (fun h70 => ?_) (fun h70 => ?_)
            ·
              refine T_region ?_
              refine L_y (y_move rfl) rfl ?_
              refine L_y (y_add rfl rfl (i64w (by omega))) rfl ?_
              refine L_y (y_assign rfl) rfl ?_
              refine L_nil ?_
              have hm := of_decide_eq_true h70
              have hra := rR_a (la := la) (lb := lb) (by omega) hm
              refine ⟨i + 1, k, r - 1, A1, c1, ps, by omega, ⟨⟨by omega, by omega, by omega, by omega, by omega, by omega, by rw [← hps, keep_a hno ⟨by omega, hm⟩]⟩, S9⟩, ?_⟩
              exact (Sub.cons rfl (by first | rfl | exact congrArg (Value.int _) (by omega)) (Sub.cons rfl (by first | rfl | (rw [List.length_append]; rfl)) (Sub.cons rfl (by first | rfl | exact congrArg (Value.int _) (by omega)) (Sub.cons rfl (by first | rfl | exact congrArg (Value.int _) (by omega)) (Sub.cons rfl rfl (Sub.nil _))))))
            ·
              refine T_region ?_
              refine L_y (y_move rfl) rfl ?_
              refine L_y (y_add rfl rfl (i64w (by omega))) rfl ?_
              refine L_y (y_assign rfl) rfl ?_
              refine L_nil ?_
              have hm : ¬ (i < la.length ∧ rR la lb (i + 1) k < rR la lb i k) := fun h => of_decide_eq_false h70 h.2
              have hkl := k_lt hm (by omega) (by omega) (by omega)
              have hrb := rR_b hno hm hkl
              refine ⟨i, k + 1, r - 1, A1, c1, ps, by omega, ⟨⟨by omega, by omega, by omega, by omega, by omega, by omega, by rw [← hps, keep_b hno hm hkl]⟩, S9⟩, ?_⟩
              exact (Sub.cons rfl (by first | rfl | exact congrArg (Value.int _) (by omega)) (Sub.cons rfl (by first | rfl | (rw [List.length_append]; rfl)) (Sub.cons rfl (by first | rfl | exact congrArg (Value.int _) (by omega)) (Sub.cons rfl (by first | rfl | exact congrArg (Value.int _) (by omega)) (Sub.cons rfl rfl (Sub.nil _))))))
          ·
            refine L_gno rfl rfl rfl ?_
            refine L_gno rfl rfl rfl ?_
            refine L_gno rfl rfl rfl ?_
            refine L_gno rfl rfl rfl ?_
            refine L_gno rfl rfl rfl ?_
            refine L_gno rfl rfl rfl ?_
            refine L_y ((by first | exact y_pickT rfl rfl | exact y_pickF rfl rfl)) rfl ?_
            refine L_nil ?_
            refine hK19 _ _ ?_
            refine T_false rfl ?_
            refine T_region ?_
            refine L_y (y_move rfl) rfl ?_
            refine L_y (y_add rfl rfl (i64w (by omega))) rfl ?_
            refine L_y (y_assign rfl) rfl ?_
            refine L_nil ?_
            have hm : ¬ (i < la.length ∧ rR la lb (i + 1) k < rR la lb i k) := fun h => by omega
            have hkl := k_lt hm (by omega) (by omega) (by omega)
            have hrb := rR_b hno hm hkl
            refine ⟨i, k + 1, r - 1, A1, c1, ps, by omega, ⟨⟨by omega, by omega, by omega, by omega, by omega, by omega, by rw [← hps, keep_b hno hm hkl]⟩, S3⟩, ?_⟩
            exact (Sub.cons rfl (by first | rfl | exact congrArg (Value.int _) (by omega)) (Sub.cons rfl (by first | rfl | (rw [List.length_append]; rfl)) (Sub.cons rfl (by first | rfl | exact congrArg (Value.int _) (by omega)) (Sub.cons rfl (by first | rfl | exact congrArg (Value.int _) (by omega)) (Sub.cons rfl rfl (Sub.nil _))))))
    ·
      refine DL_gno rfl rfl rfl rfl ?_
      refine DL_gno rfl rfl rfl rfl ?_
      refine DL_gno rfl rfl rfl rfl ?_
      refine DL_gno rfl rfl rfl rfl ?_
      refine DL_gno rfl rfl rfl rfl ?_
      refine DL_gno rfl rfl rfl rfl ?_
      refine DL_gno rfl rfl rfl rfl ?_
      refine DL_y rfl ((by first | exact y_pickT rfl rfl | exact y_pickF rfl rfl)) rfl ?_
      refine DL_y rfl (y_move rfl) rfl ?_
      refine DL_gno rfl rfl rfl rfl ?_
      refine DL_gno rfl rfl rfl rfl ?_
      refine DL_gno rfl rfl rfl rfl ?_
      refine DL_gno rfl rfl rfl rfl ?_
      refine DL_gno rfl rfl rfl rfl ?_
      refine DL_gno rfl rfl rfl rfl ?_
      refine DL_gno rfl rfl rfl rfl ?_
      refine DL_gno rfl rfl rfl rfl ?_
      refine DL_gno rfl rfl rfl rfl ?_
      refine DL_gno rfl rfl rfl rfl ?_
      refine DL_gno rfl rfl rfl rfl ?_
      refine DL_gno rfl rfl rfl rfl ?_
      refine DL_gno rfl rfl rfl rfl ?_
      refine DL_gno rfl rfl rfl rfl ?_
      refine DL_gno rfl rfl rfl rfl ?_
      refine DL_y rfl ((by first | exact y_pickT rfl rfl | exact y_pickF rfl rfl)) rfl ?_
      refine DL_nil ?_
      refine hK6 _ _ ?_
      refine T_false rfl ?_
      refine T_skip ?_
      refine hK5 _ _ ?_
      refine T_seq fun K20 hK20 => ?_
      refine T_seq fun K21 hK21 => ?_
      have hno : ¬ (i < la.length ∧ k < lb.length ∧ la[i]? = lb[k]?) := (fun h => by omega)
      refine T_region ?_
      refine L_y (y_move rfl) rfl ?_
      refine L_y (y_eql rfl rfl) rfl ?_
      refine L_nil ?_
      refine hK21 _ _ ?_
      refine T_cond rfl (fun h52 => ?_) (fun h52 => ?_)
      ·
        refine T_seq fun K22 hK22 => ?_
        refine T_region ?_
        refine L_y (y_move rfl) rfl ?_
        refine L_y (y_assign rfl) rfl ?_
        refine L_nil ?_
        refine hK22 _ _ ?_
        refine T_ret ?_
        repeat (first | with_reducible refine up_then ?_ | with_reducible refine up_in ?_)
        refine ret1 rfl rfl ?_
        have hz := rR_zero (by omega) (by omega) (by omega) (no_hit hno)
        have he : ps = keepT la lb 0 0 := by rw [← hps, keep_end (by omega) (by omega), List.append_nil]
        exact ⟨_, rfl, S3.like0, _, _, _, rfl, by rw [← he]; exact S3.own 0 rfl⟩
      ·
        refine T_skip ?_
        refine hK20 _ _ ?_
        refine T_seq fun K23 hK23 => ?_
        refine T_region ?_
        refine L_y (y_move rfl) rfl ?_
        refine L_y (y_sub rfl rfl (i64w (by omega))) rfl ?_
        refine L_y (y_assign rfl) rfl ?_
        refine L_nil ?_
        refine hK23 _ _ ?_
        refine T_seq fun K24 hK24 => ?_
        refine T_region ?_
        refine L_y (y_move rfl) rfl ?_
        refine L_y (y_move rfl) rfl ?_
        refine L_y (y_nilp rfl) rfl ?_
        refine L_y (y_fieldA 0 Try.underlying54 rfl sz22 rfl rfl rfl) rfl ?_
        refine L_y (y_ldc Try.underlying22 rfl rfl (((S3.rdB hB).cell _).trans (show (#[Value.slice A n ca, .slice B m cb, .slice R nr cr, SS] : Array Value)[0]? = some (Value.slice A n ca) from rfl))) rfl ?_
        refine L_y (y_len Try.underlying22 rfl) rfl ?_
        refine L_y (y_lss rfl rfl) rfl ?_
        refine L_y (y_move rfl) rfl ?_
        refine L_split 63 rfl (fun h63 => ?_) (fun h63 => ?_)
        ·
          refine L_gyes rfl rfl ?_
          refine L_y (y_move rfl) rfl ?_
          refine L_gyes rfl rfl ?_
          refine L_y (y_move rfl) rfl ?_
          refine L_gyes rfl rfl ?_
          refine L_y (y_add rfl rfl (i64w (by omega))) rfl ?_
          refine L_gyes rfl rfl ?_
          refine L_y (y_move rfl) rfl ?_
          refine L_gyes rfl rfl ?_
          refine L_y (y_move rfl) rfl ?_
          refine L_gyes rfl rfl ?_
          refine L_o (o_call Try.func24 rfl rfl (fnear g A n ca B m cb la lb D i k (r - 1) ((r : Int) - 1) w3 (hf0.like S3.like0) (by omega) (by omega) (by omega) (by omega) (by omega) (by omega) hway (by omega) (by omega) ht) rfl rfl ?_)
          rintro e11 w11 ⟨v11, rfl, l11, rfl⟩
          refine ⟨_, rfl, ?_⟩
          have S11 := S3.like l11
          refine L_y ((by first | exact y_pickT rfl rfl | exact y_pickF rfl rfl)) rfl ?_
          refine L_nil ?_
          refine hK24 _ _ ?_
          refine T_condB rfl (fun h70 => ?_) (fun h70 => ?_)
          ·
            refine T_region ?_
            refine L_y (y_move rfl) rfl ?_
            refine L_y (y_add rfl rfl (i64w (by omega))) rfl ?_
            refine L_y (y_assign rfl) rfl ?_
            refine L_nil ?_
            have hm := of_decide_eq_true h70
            have hra := rR_a (la := la) (lb := lb) (by omega) hm
            refine ⟨i + 1, k, r - 1, A1, c1, ps, by omega, ⟨⟨by omega, by omega, by omega, by omega, by omega, by omega, by rw [← hps, keep_a hno ⟨by omega, hm⟩]⟩, S11⟩, ?_⟩
            exact (Sub.cons rfl (by first | rfl | exact congrArg (Value.int _) (by omega)) (Sub.cons rfl (by first | rfl | (rw [List.length_append]; rfl)) (Sub.cons rfl (by first | rfl | exact congrArg (Value.int _) (by omega)) (Sub.cons rfl (by first | rfl | exact congrArg (Value.int _) (by omega)) (Sub.cons rfl rfl (Sub.nil _))))))
          ·
            refine T_region ?_
            refine L_y (y_move rfl) rfl ?_
            refine L_y (y_add rfl rfl (i64w (by omega))) rfl ?_
            refine L_y (y_assign rfl) rfl ?_
            refine L_nil ?_
            have hm : ¬ (i < la.length ∧ rR la lb (i + 1) k < rR la lb i k) := fun h => of_decide_eq_false h70 h.2
            have hkl := k_lt hm (by omega) (by omega) (by omega)
            have hrb := rR_b hno hm hkl
            refine ⟨i, k + 1, r - 1, A1, c1, ps, by omega, ⟨⟨by omega, by omega, by omega, by omega, by omega, by omega, by rw [← hps, keep_b hno hm hkl]⟩, S11⟩, ?_⟩
            exact (Sub.cons rfl (by first | rfl | exact congrArg (Value.int _) (by omega)) (Sub.cons rfl (by first | rfl | (rw [List.length_append]; rfl)) (Sub.cons rfl (by first | rfl | exact congrArg (Value.int _) (by omega)) (Sub.cons rfl (by first | rfl | exact congrArg (Value.int _) (by omega)) (Sub.cons rfl rfl (Sub.nil _))))))
        ·
          refine L_gno rfl rfl rfl ?_
          refine L_gno rfl rfl rfl ?_
          refine L_gno rfl rfl rfl ?_
          refine L_gno rfl rfl rfl ?_
          refine L_gno rfl rfl rfl ?_
          refine L_gno rfl rfl rfl ?_
          refine L_y ((by first | exact y_pickT rfl rfl | exact y_pickF rfl rfl)) rfl ?_
          refine L_nil ?_
          refine hK24 _ _ ?_
          refine T_false rfl ?_
          refine T_region ?_
          refine L_y (y_move rfl) rfl ?_
          refine L_y (y_add rfl rfl (i64w (by omega))) rfl ?_
          refine L_y (y_assign rfl) rfl ?_
          refine L_nil ?_
          have hm : ¬ (i < la.length ∧ rR la lb (i + 1) k < rR la lb i k) := fun h => by omega
          have hkl := k_lt hm (by omega) (by omega) (by omega)
          have hrb := rR_b hno hm hkl
          refine ⟨i, k + 1, r - 1, A1, c1, ps, by omega, ⟨⟨by omega, by omega, by omega, by omega, by omega, by omega, by rw [← hps, keep_b hno hm hkl]⟩, S3⟩, ?_⟩
          exact (Sub.cons rfl (by first | rfl | exact congrArg (Value.int _) (by omega)) (Sub.cons rfl (by first | rfl | (rw [List.length_append]; rfl)) (Sub.cons rfl (by first | rfl | exact congrArg (Value.int _) (by omega)) (Sub.cons rfl (by first | rfl | exact congrArg (Value.int _) (by omega)) (Sub.cons rfl rfl (Sub.nil _))))))
end Go.Proofs.Ytgapdndbelnknaa
