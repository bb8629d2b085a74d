import Derived.Test.YtbbmkgpgiacdeaaMgKeeps4
import Derived.Test.YtbbmkgpgiacdeaaMgKeeps3
/-
  The document: Diff, by the patience way.
-/
namespace Go.Proofs.Ytbbmkgpgiacdeaa
open Go.RowKit Zk Zx
set_option linter.unusedVariables false
set_option linter.unusedSimpArgs false

theorem rchainN (A : Option Addr) (n ca : Nat) (l : List (Nat × Nat)) (w0 : World) (hl : Rs w0 2 A n ca (l.flatMap pf)) (hn9 : n ≤ 1048576) :
    Calls Try.prog 28 #[.slice A n ca] w0 fun e w' => ∃ u, e = .returned u ∧ Like w0 w' ∧ ∃ A m c, u = .slice A m c ∧ w'.ownsRow w0.heap.size 34 2 (.slice A m c) m ((chainN l).flatMap pf) := by
  have h := rchain A n ca (l.map cI) w0 (pf_pI l ▸ hl) hn9
  rw [← chainN_I, ← pf_pI] at h
  exact h
theorem mv_snoc2 {l : List (Nat × Nat)} {j : Nat} {p : Nat × Nat} (h : l[j]? = some p) (i k : Nat) : (mv i k (l.take j)).flatMap pf ++ [Value.int .i64 ((p.1 + i : Nat) : Int), Value.int .i64 ((p.2 + k : Nat) : Int)] = (mv i k (l.take (j + 1))).flatMap pf := by
  rw [tk h, mv_app, List.flatMap_append]
  rfl
theorem dg_snoc2 (os : List (Nat × Nat)) (i k j : Nat) : (os ++ dg i k j).flatMap pf ++ [Value.int .i64 ((i + j : Nat) : Int), Value.int .i64 ((k + j : Nat) : Int)] = (os ++ dg i k (j + 1)).flatMap pf := by
  rw [dg_snoc, ← List.append_assoc, List.flatMap_append (xs := os ++ dg i k j)]
  rfl
theorem dg_snoc3 (j : Nat) : (dg 0 0 j).flatMap pf ++ [Value.int .i64 (j : Int), Value.int .i64 (j : Int)] = (dg 0 0 (j + 1)).flatMap pf := by
  have h := dg_snoc2 [] 0 0 j
  rw [Nat.zero_add, List.nil_append, List.nil_append] at h
  exact h
theorem out_link (f i k : Nat) (o D : List (Nat × Nat)) (p : Nat × Nat) : (dg 0 0 f ++ mv f f o).flatMap pf ++ (mv (f + i) (f + k) D).flatMap pf ++ [Value.int .i64 ((f + p.1 : Nat) : Int), Value.int .i64 ((f + p.2 : Nat) : Int)] = (dg 0 0 f ++ mv f f (o ++ (mv i k D ++ [p]))).flatMap pf := by
  rw [mv_app, mv_app, mv_mv, List.flatMap_append, List.flatMap_append, List.flatMap_append, List.flatMap_append, List.append_assoc, List.append_assoc]
  show _ = _ ++ (_ ++ (_ ++ [Value.int .i64 ((p.1 + f : Nat) : Int), Value.int .i64 ((p.2 + f : Nat) : Int)]))
  rw [Nat.add_comm p.1, Nat.add_comm p.2]
theorem out_last (f i k : Nat) (o D : List (Nat × Nat)) : (dg 0 0 f ++ mv f f o).flatMap pf ++ (mv (f + i) (f + k) D).flatMap pf = (dg 0 0 f ++ mv f f (o ++ mv i k D)).flatMap pf := by
  rw [mv_app, mv_mv, List.flatMap_append, List.flatMap_append, List.flatMap_append, List.append_assoc]
/-- The document's Diff, of lists that have less than N things. -/
def RD (N : Nat) : Prop := ∀ (A B : Option Addr) (n ca m cb : Nat) (la lb : List Int) (w0 : World), Rs w0 1 A n ca (iL la) → Rs w0 1 B m cb (iL lb) → n ≤ 4096 → m ≤ 4096 → n + m < N →
    Calls Try.prog 30 #[.slice A n ca, .slice B m cb] w0 fun e w' => ∃ u, e = .returned u ∧ Like w0 w' ∧ ∃ A m c, u = .slice A m c ∧ w'.ownsRow w0.heap.size 34 2 (.slice A m c) m ((DP KM la lb).flatMap pf)


set_option maxRecDepth 100000 in
theorem rmoved (A : Option Addr) (n ca : Nat) (l : List (Nat × Nat)) (i k : Nat) (w0 : World) (hl : Rs w0 2 A n ca (l.flatMap pf)) (hn9 : n ≤ 1048576) (hi9 : i ≤ 1048576) (hk9 : k ≤ 1048576) (hb : ∀ p ∈ l, p.1 ≤ 1048576 ∧ p.2 ≤ 1048576) :
    Calls Try.prog 50 #[.slice A n ca, .int .i64 (i : Int), .int .i64 (k : Int)] w0 fun e w' => ∃ u, e = .returned u ∧ Like w0 w' ∧ ∃ A m c, u = .slice A m c ∧ w'.ownsRow w0.heap.size 34 2 (.slice A m c) m ((mv i k l).flatMap pf) := by
  refine enter1 (env := [(0, .slice A n ca), (1, .int .i64 (i : Int)), (2, .int .i64 (k : Int))]) [.slice A n ca, .int .i64 (i : Int), .int .i64 (k : Int)] Try.func50 rfl Try.ntmps50 rfl rfl ?_
  have hln := pf_n hl; have S0 := St.start w0 noM
  refine T_seq fun K1 hK1 => ?_
  refine T_region ?_
  refine L_y (y_assign rfl) rfl ?_
  refine L_nil ?_
  refine hK1 _ _ ?_
  refine T_seq fun K2 hK2 => ?_
  refine T_region ?_
  have S1 := S0.nilrow 34 2
  refine L_y (y_assign rfl) rfl ?_
  refine L_nil ?_
  refine hK2 _ _ ?_
  refine T_seq fun K3 hK3 => ?_
  refine T_seq fun K4 hK4 => ?_
  refine T_region ?_
  refine L_y (y_assign rfl) rfl ?_
  refine L_nil ?_
  refine hK4 _ _ ?_
  refine T_block ?_
  refine T_loop3 [(0, _), (1, _), (2, _)] (fun (j : Nat) (A1 : Option Addr) (c1 : Nat) => [(8, .int .i64 (j : Int)), (7, .slice A1 (mv i k (l.take j)).length c1)]) (fun (j : Nat) (A1 : Option Addr) (c1 : Nat) => n - j) (fun (j : Nat) (A1 : Option Addr) (c1 : Nat) (w : World) => j ≤ n ∧ St w0 noM [row 34 2 A1 (mv i k (l.take j)).length c1 ((mv i k (l.take j)).flatMap pf)] w) 0 none 0 (Sub.cons rfl (by first | rfl | exact congrArg (Value.int _) (by omega)) (Sub.cons rfl (by first | rfl | exact congrArg (Value.int _) (by omega)) (Sub.nil _))) (Sub.cons rfl rfl (Sub.cons rfl rfl (Sub.cons rfl rfl (Sub.nil _)))) ?_ ?_
  ·
    exact ⟨Nat.zero_le _, S1⟩
  ·
    intro j A1 c1 w2 hrel
    obtain ⟨hj, S2⟩ := hrel
    have hml : (mv i k (l.take j)).length = j := by rw [mv_len, List.length_take]; omega
    refine T_seq fun K5 hK5 => ?_
    refine T_seq fun K6 hK6 => ?_
    refine T_region ?_
    refine L_y (y_move rfl) rfl ?_
    refine L_y (y_move rfl) rfl ?_
    refine L_y (y_len Try.underlying25 rfl) rfl ?_
    refine L_y (y_lss rfl rfl) rfl ?_
    refine L_nil ?_
    refine hK6 _ _ ?_
    refine T_cond rfl (fun h12 => ?_) (fun h12 => ?_)
    ·
      obtain ⟨p, hp⟩ : ∃ p, l[j]? = some p := ⟨_, List.getElem?_eq_getElem (by omega)⟩
      have hpb := hb p (List.mem_of_getElem? hp)
      refine T_skip ?_
      refine hK5 _ _ ?_
      refine T_seq fun K7 hK7 => ?_
      refine T_block ?_
      refine T_zed [0, 1, 2, 3, 4, 5, 6, 7, 8, 9, 10, 11, 12, 13, 14, 15, 16] 17 [(0, 1), (1, 1), (2, 1), (3, 1), (4, 1), (5, 1), (6, 1), (7, 1), (8, 1), (9, 1), (10, 1), (11, 1), (12, 1), (13, 1), (14, 1), (15, 1), (16, 2), (17, 3), (18, 3)] hmix (by kernel_rfl) fun w3 l3 => ?_
      have S3 := S2.like l3
      refine ZA_B (Like w3) (Like.refl _) ?_
      refine ZB_y rfl (y_move rfl) rfl ?_
      refine ZB_y rfl (y_move rfl) rfl ?_
      refine ZB_y rfl (y_move rfl) rfl ?_
      refine ZB_y rfl (y_idx Try.underlying25 sz34 rfl rfl (S3.rd hl) (Nt.mk (by omega) : Nt _ (j)) (by omega)) rfl ?_
      refine ZB_y rfl (y_fieldR 0 Try.underlying34 rfl sz3 rfl rfl (S3.rd hl) (by omega) rfl) rfl ?_
      refine ZB_y rfl (y_ldf Try.underlying3 rfl rfl (S3.rd hl) (by omega) (pf_get _ _ _ hp).1) rfl ?_
      refine ZB_y rfl (y_move rfl) rfl ?_
      refine ZB_y rfl (y_add rfl rfl (i64e (k := p.1 + i) (by omega))) rfl ?_
      refine ZB_y rfl (y_move rfl) rfl ?_
      refine ZB_y rfl (y_move rfl) rfl ?_
      refine ZB_y rfl (y_idx Try.underlying25 sz34 rfl rfl (S3.rd hl) (Nt.mk (by omega) : Nt _ (j)) (by omega)) rfl ?_
      refine ZB_y rfl (y_fieldR 1 Try.underlying34 rfl sz3 rfl rfl (S3.rd hl) (by omega) rfl) rfl ?_
      refine ZB_y rfl (y_ldf Try.underlying3 rfl rfl (S3.rd hl) (by omega) (pf_get _ _ _ hp).2) rfl ?_
      refine ZB_y rfl (y_move rfl) rfl ?_
      refine ZB_y rfl (y_add rfl rfl (i64e (k := p.2 + k) (by omega))) rfl ?_
      refine ZB_y rfl (y_build rfl (show _ = some #[Value.int .i64 ((p.1 + i : Nat) : Int), Value.int .i64 ((p.2 + k : Nat) : Int)] by kernel_rfl)) rfl ?_
      refine ZB_o rfl (o_bslL [_, _] te25 zz34 S3 rfl rfl rfl rfl rfl rfl rfl rfl fun b4 w4 l4 S4 => ?_)
      have q4 := l4
      refine ⟨q4, ?_⟩
      refine ZB_c rfl (o_app te25 S4 0 rfl rfl rfl (by first | exact S4.row 0 rfl | exact S4.row 1 rfl) (by intro u hu; simp at hu; rcases hu with rfl | rfl <;> rfl) rfl (by omega) (by omega) fun A5 c5 w5 S5 => ?_)
      have S5d := S5.drop (rs' := [_]) (.cons_cons _ (.cons _ (.refl _)))
      refine ZA_oy rfl (y_assign rfl) rfl ?_
      refine ZA_nil ?_
      refine hK7 _ _ ?_
      refine T_region ?_
      refine L_y (y_move rfl) rfl ?_
      refine L_y (y_add rfl rfl (i64w (by omega))) rfl ?_
      refine L_y (y_assign rfl) rfl ?_
      refine L_nil ?_
      have hml2 : (mv i k (l.take (j + 1))).length = j + 1 := by rw [mv_len, List.length_take]; omega
      have S6 := S5d.rowc 0 rfl (n' := (mv i k (l.take (j + 1))).length) (xs' := (mv i k (l.take (j + 1))).flatMap pf) (by rw [hml, hml2]) (mv_snoc2 hp i k)
      refine ⟨j + 1, _, _, by omega, ⟨by omega, S6⟩, ?_⟩
      exact (Sub.cons rfl (by first | rfl | exact congrArg (Value.int _) (by omega)) (Sub.cons rfl (by rw [hml2, hml]) (Sub.cons rfl rfl (Sub.cons rfl rfl (Sub.cons rfl rfl (Sub.nil _))))))
    ·
      refine T_exit ?_
      refine hK3 _ _ ?_
      refine T_seq fun K8 hK8 => ?_
      refine T_region ?_
      refine L_y (y_move rfl) rfl ?_
      refine L_y (y_assign rfl) rfl ?_
      refine L_nil ?_
      refine hK8 _ _ ?_
      refine T_ret ?_
      repeat (first | with_reducible refine up_then ?_ | with_reducible refine up_in ?_)
      refine ret1 rfl rfl ?_
      have hje : j = l.length := by omega
      subst hje
      refine ⟨_, rfl, S2.like0, _, _, _, rfl, ?_⟩
      have hown := S2.own 0 rfl
      rw [List.take_length] at hown ⊢
      exact hown


set_option maxRecDepth 100000 in
set_option maxHeartbeats 2000000 in
theorem rpd_step {N : Nat} (ih : RD N) (A B : Option Addr) (n ca m cb : Nat) (la lb : List Int) (w0 : World) (ha : Rs w0 1 A n ca (iL la)) (hb : Rs w0 1 B m cb (iL lb)) (hn9 : n ≤ 4096) (hm9 : m ≤ 4096) (hN : n + m < N + 1) :
    Calls Try.prog 30 #[.slice A n ca, .slice B m cb] w0 fun e w' => ∃ u, e = .returned u ∧ Like w0 w' ∧ ∃ A m c, u = .slice A m c ∧ w'.ownsRow w0.heap.size 34 2 (.slice A m c) m ((DP KM la lb).flatMap pf) := by
  refine enter1 (env := [(0, .slice A n ca), (1, .slice B m cb)]) [.slice A n ca, .slice B m cb] Try.func30 rfl Try.ntmps30 rfl rfl ?_
  have hla := lenI ha; have hlb := lenI hb; have hcap := ha.cap; have hmax := ha.max; have hcap2 := hb.cap; have hmax2 := hb.max; have S0 := St.start w0 noM
  refine T_seq fun K1 hK1 => ?_
  refine T_region ?_
  refine L_y (y_assign rfl) rfl ?_
  refine L_nil ?_
  refine hK1 _ _ ?_
  refine T_seq fun K2 hK2 => ?_
  refine T_region ?_
  refine L_y (y_move rfl) rfl ?_
  refine L_y (y_move rfl) rfl ?_
  refine L_o (o_call Try.func31 rfl rfl (rends A B n ca m cb la lb w0 (S0.rd ha) (S0.rd hb)) rfl rfl ?_)
  rintro e1 w1 ⟨v1, rfl, l1, rfl⟩
  refine ⟨_, rfl, ?_⟩
  have S1 := S0.like l1
  have hpl := pre_le la lb
  have hsl := suf_le la lb
  have hDE := DP_eq KM la lb
  generalize hf : pre la lb = f at hpl hsl hDE
  generalize ht : suf la lb = t at hsl hDE
  rw [hla, hlb] at hDE
  rw [show mid la f t = (sub la f (n - t)) by rw [← hla]; rfl, show mid lb f t = (sub lb f (m - t)) by rw [← hlb]; rfl] at hDE
  have hXl : (sub la f (n - t)).length = n - t - f := sub_len (by omega)
  have hYl : (sub lb f (m - t)).length = m - t - f := sub_len (by omega)
  have hcore : (core KM (DP KM) (sub la f (n - t)) (sub lb f (m - t))).length ≤ (sub la f (n - t)).length := by have := (core_ok KM_ok (DP_ok KM_ok) (sub la f (n - t)) (sub lb f (m - t))).len; omega
  refine L_y (y_move rfl) rfl ?_
  refine L_y (y_extract rfl rfl) rfl ?_
  refine L_y (y_extract rfl rfl) rfl ?_
  refine L_y (y_assign rfl) rfl ?_
  refine L_y (y_assign rfl) rfl ?_
  refine L_nil ?_
  refine hK2 _ _ ?_
  refine T_seq fun K3 hK3 => ?_
  refine T_region ?_
  have S2 := S1.nilrow 34 2
  refine L_y (y_assign rfl) rfl ?_
  refine L_nil ?_
  refine hK3 _ _ ?_
  refine T_seq fun K4 hK4 => ?_
  refine T_seq fun K5 hK5 => ?_
  refine T_region ?_
  refine L_y (y_assign rfl) rfl ?_
  refine L_nil ?_
  refine hK5 _ _ ?_
  refine T_block ?_
  refine T_loop3 [(0, _), (1, _), (5, _), (6, _)] (fun (j : Nat) (A1 : Option Addr) (c1 : Nat) => [(8, .int .i64 (j : Int)), (7, .slice A1 (dg 0 0 j).length c1)]) (fun (j : Nat) (A1 : Option Addr) (c1 : Nat) => f - j) (fun (j : Nat) (A1 : Option Addr) (c1 : Nat) (w : World) => j ≤ f ∧ St w0 noM [row 34 2 A1 (dg 0 0 j).length c1 ((dg 0 0 j).flatMap pf)] w) 0 none 0 (Sub.cons rfl (by first | rfl | exact congrArg (Value.int _) (by omega)) (Sub.cons rfl (by first | rfl | exact congrArg (Value.int _) (by omega)) (Sub.nil _))) (Sub.cons rfl rfl (Sub.cons rfl rfl (Sub.cons rfl rfl (Sub.cons rfl rfl (Sub.nil _))))) ?_ ?_
  ·
    exact ⟨Nat.zero_le _, S2⟩
  ·
    intro j A1 c1 w3 hrel
    obtain ⟨hj, S3⟩ := hrel
    have hdl := dg_len 0 0 j
    refine T_seq fun K6 hK6 => ?_
    refine T_seq fun K7 hK7 => ?_
    refine T_region ?_
    refine L_y (y_move rfl) rfl ?_
    refine L_y (y_move rfl) rfl ?_
    refine L_y (y_lss rfl rfl) rfl ?_
    refine L_nil ?_
    refine hK7 _ _ ?_
    refine T_cond rfl (fun h25 => ?_) (fun h25 => ?_)
    ·
      refine T_skip ?_
      refine hK6 _ _ ?_
      refine T_seq fun K8 hK8 => ?_
      refine T_block ?_
      refine T_region ?_
      refine L_y (y_move rfl) rfl ?_
      refine L_y (y_move rfl) rfl ?_
      refine L_y (y_move rfl) rfl ?_
      refine L_y (y_build rfl (show _ = some #[Value.int .i64 (j : Int), Value.int .i64 (j : Int)] by kernel_rfl)) rfl ?_
      refine L_o (o_bsl [_, _] te25 zz34 S3 rfl rfl rfl rfl rfl rfl rfl rfl fun b4 w4 S4 => ?_)
      refine L_o (o_app te25 S4 0 rfl rfl rfl (by first | exact S4.row 0 rfl | exact S4.row 1 rfl) (by intro u hu; simp at hu; rcases hu with rfl | rfl <;> rfl) rfl (by omega) (by omega) fun A5 c5 w5 S5 => ?_)
      have S5d := S5.drop (rs' := [_]) (.cons_cons _ (.cons _ (.refl _)))
      refine L_y (y_assign rfl) rfl ?_
      refine L_nil ?_
      refine hK8 _ _ ?_
      refine T_region ?_
      refine L_y (y_move rfl) rfl ?_
      refine L_y (y_add rfl rfl (i64w (by omega))) rfl ?_
      refine L_y (y_assign rfl) rfl ?_
      refine L_nil ?_
      have S6 := S5d.rowc 0 rfl (n' := (dg 0 0 (j + 1)).length) (xs' := (dg 0 0 (j + 1)).flatMap pf) (by rw [dg_len, dg_len]) (dg_snoc3 j)
      refine ⟨j + 1, _, _, by omega, ⟨by omega, S6⟩, ?_⟩
      exact (Sub.cons rfl (by first | rfl | exact congrArg (Value.int _) (by omega)) (Sub.cons rfl (by rw [dg_len, dg_len]) (Sub.cons rfl rfl (Sub.cons rfl rfl (Sub.cons rfl rfl (Sub.cons rfl rfl (Sub.nil _)))))))
    ·
      refine T_exit ?_
      refine hK4 _ _ ?_
      refine T_seq fun K9 hK9 => ?_
      obtain rfl : f = j := by omega
      refine T_drawnL [(0, true), (1, true), (2, true), (3, true), (4, true), (5, true), (6, true), (7, true), (8, true), (9, true), (10, true), (11, true), (12, true), (13, true), (14, true), (15, true)] hmix (by kernel_rfl) fun w7 l7 => ?_
      have S7 := S3.like l7
      refine DL_y rfl (y_move rfl) rfl ?_
      refine DL_y rfl (y_move rfl) rfl ?_
      refine DL_y rfl (y_move rfl) rfl ?_
      refine DL_y rfl (y_len Try.underlying22 rfl) rfl ?_
      refine DL_y rfl (y_move rfl) rfl ?_
      refine DL_y rfl (y_sub rfl rfl (i64e (k := n - t) (by omega))) rfl ?_
      refine DL_y rfl (y_slice Try.underlying22 sz3 rfl rfl rfl inferInstance inferInstance (by omega) (by omega)) rfl ?_
      refine DL_y rfl (y_move rfl) rfl ?_
      refine DL_y rfl (y_move rfl) rfl ?_
      refine DL_y rfl (y_move rfl) rfl ?_
      refine DL_y rfl (y_len Try.underlying22 rfl) rfl ?_
      refine DL_y rfl (y_move rfl) rfl ?_
      refine DL_y rfl (y_sub rfl rfl (i64e (k := m - t) (by omega))) rfl ?_
      refine DL_y rfl (y_slice Try.underlying22 sz3 rfl rfl rfl inferInstance inferInstance (by omega) (by omega)) rfl ?_
      refine DL_y rfl (y_assign rfl) rfl ?_
      refine DL_y rfl (y_assign rfl) rfl ?_
      refine DL_nil ?_
      refine hK9 _ _ ?_
      refine T_seq fun K10 hK10 => ?_
      refine T_region ?_
      refine L_y (y_move rfl) rfl ?_
      refine L_y (y_move rfl) rfl ?_
      refine L_o (o_call Try.func26 rfl rfl (ronce _ _ _ _ _ _ (sub la f (n - t)) (sub lb f (m - t)) w7 (cutI (S7.rd ha) (i := f) (u := n - t) (by omega) (by omega)) (cutI (S7.rd hb) (i := f) (u := m - t) (by omega) (by omega)) (by omega) (by omega)) rfl rfl ?_)
      rintro e8 w8 ⟨v8, rfl, l8, A8, n8, c8, rfl, O8⟩
      refine ⟨_, rfl, ?_⟩
      have S8 := S7.adopt l8 O8
      have hol := once_len (sub la f (n - t)) (sub lb f (m - t)) (sub la f (n - t)).length; have hon : n8 = (once (sub la f (n - t)) (sub lb f (m - t))).length := pf_n (S8.row 1 rfl); unfold once at hon
      refine L_o (o_call Try.func28 rfl rfl (rchainN _ _ _ _ w8 (S8.row 1 rfl) (by omega)) rfl rfl ?_)
      rintro e9 w9 ⟨v9, rfl, l9, A9, n9, c9, rfl, O9⟩
      refine ⟨_, rfl, ?_⟩
      have S9 := S8.adopt l9 O9
      have hcn : n9 = (chainN (once (sub la f (n - t)) (sub lb f (m - t)))).length := pf_n (S9.row 2 rfl); have hcl := chain_len (sub la f (n - t)) (sub lb f (m - t)); have hCC := CH_chain (sub la f (n - t)) (sub lb f (m - t))
      refine L_y (y_assign rfl) rfl ?_
      refine L_nil ?_
      refine hK10 _ _ ?_
      refine T_seq fun K11 hK11 => ?_
      refine T_block ?_
      refine T_seq fun K12 hK12 => ?_
      refine T_region ?_
      refine L_y (y_move rfl) rfl ?_
      refine L_y (y_len Try.underlying22 rfl) rfl ?_
      refine L_y (y_eql rfl rfl) rfl ?_
      refine L_y (y_move rfl) rfl ?_
      refine L_split 120 rfl (fun h120 => ?_) (fun h120 => ?_)
      ·
        have hemp : (sub la f (n - t)) = [] ∨ (sub lb f (m - t)) = [] := .inl (List.eq_nil_of_length_eq_zero (by omega))
        refine L_gno rfl rfl rfl ?_
        refine L_gno rfl rfl rfl ?_
        refine L_gno rfl rfl rfl ?_
        refine L_y ((by first | exact y_pickT rfl rfl | exact y_pickF rfl rfl)) rfl ?_
        refine L_y (y_assign rfl) rfl ?_
        refine L_nil ?_
        refine hK12 _ _ ?_
        refine T_true rfl ?_
        refine T_skip ?_
        refine hK11 _ _ ?_
        refine T_seq fun K13 hK13 => ?_
        refine T_seq fun K14 hK14 => ?_
        have S11 := S9.rowc 0 rfl (n' := (dg 0 0 f ++ mv f f (core KM (DP KM) (sub la f (n - t)) (sub lb f (m - t)))).length) (xs' := (dg 0 0 f ++ mv f f (core KM (DP KM) (sub la f (n - t)) (sub lb f (m - t)))).flatMap pf) (by unfold core; rw [if_pos hemp, mv_nil, List.append_nil]) (by unfold core; rw [if_pos hemp, mv_nil, List.append_nil])
        have S12 : St w0 _ [_] w9 := S11.sel [0] (by decide)
        refine T_region ?_
        refine L_y (y_move rfl) rfl ?_
        refine L_y (y_assign rfl) rfl ?_
        refine L_nil ?_
        refine hK14 _ _ ?_
        refine T_block ?_
        refine T_loop3 [(0, _), (1, _)] (fun (j : Nat) (A1 : Option Addr) (c1 : Nat) => [(16, .int .i64 ((t : Int) - (j : Int))), (7, .slice A1 ((dg 0 0 f ++ mv f f (core KM (DP KM) (sub la f (n - t)) (sub lb f (m - t)))) ++ dg (n - t) (m - t) j).length c1)]) (fun (j : Nat) (A1 : Option Addr) (c1 : Nat) => t - j) (fun (j : Nat) (A1 : Option Addr) (c1 : Nat) (w : World) => j ≤ t ∧ St w0 noM [row 34 2 A1 ((dg 0 0 f ++ mv f f (core KM (DP KM) (sub la f (n - t)) (sub lb f (m - t)))) ++ dg (n - t) (m - t) j).length c1 (((dg 0 0 f ++ mv f f (core KM (DP KM) (sub la f (n - t)) (sub lb f (m - t)))) ++ dg (n - t) (m - t) j).flatMap pf)] w) 0 _ _ (Sub.cons rfl (by first | rfl | exact congrArg (Value.int _) (by omega) | (refine congrArg (Value.slice _ · _) ?_; simp only [List.length_append, mv_len, dg_len]; first | omega | (unfold core; rw [if_pos hemp]; simp) | (rw [hce]; omega) | (rw [hce, ← hlk]; simp only [List.length_append, mv_len]; omega))) (Sub.cons rfl (by first | rfl | exact congrArg (Value.int _) (by omega) | (refine congrArg (Value.slice _ · _) ?_; simp only [List.length_append, mv_len, dg_len]; first | omega | (unfold core; rw [if_pos hemp]; simp) | (rw [hce]; omega) | (rw [hce, ← hlk]; simp only [List.length_append, mv_len]; omega))) (Sub.nil _))) (Sub.cons rfl rfl (Sub.cons rfl rfl (Sub.nil _))) ?_ ?_
        ·
          exact ⟨Nat.zero_le _, by rw [show dg (n - t) (m - t) 0 = [] from rfl, List.append_nil]; exact S12⟩
        ·
          intro j A1 c1 w13 hrel
          obtain ⟨hj, S13⟩ := hrel
          have hdl := dg_len (n - t) (m - t) j
          have hol3 : ((dg 0 0 f ++ mv f f (core KM (DP KM) (sub la f (n - t)) (sub lb f (m - t)))) ++ dg (n - t) (m - t) j).length = f + (core KM (DP KM) (sub la f (n - t)) (sub lb f (m - t))).length + j := by simp only [List.length_append, mv_len, dg_len]
          refine T_seq fun K15 hK15 => ?_
          refine T_seq fun K16 hK16 => ?_
          refine T_region ?_
          refine L_y (y_move rfl) rfl ?_
          refine L_y (y_gtr rfl rfl) rfl ?_
          refine L_nil ?_
          refine hK16 _ _ ?_
          refine T_cond rfl (fun h139 => ?_) (fun h139 => ?_)
          ·
            refine T_skip ?_
            refine hK15 _ _ ?_
            refine T_seq fun K17 hK17 => ?_
            refine T_block ?_
            refine T_region ?_
            refine L_y (y_move rfl) rfl ?_
            refine L_y (y_move rfl) rfl ?_
            refine L_y (y_len Try.underlying22 rfl) rfl ?_
            refine L_y (y_move rfl) rfl ?_
            refine L_y (y_sub rfl rfl (i64e (k := n - t + j) (by omega))) rfl ?_
            refine L_y (y_move rfl) rfl ?_
            refine L_y (y_len Try.underlying22 rfl) rfl ?_
            refine L_y (y_move rfl) rfl ?_
            refine L_y (y_sub rfl rfl (i64e (k := m - t + j) (by omega))) rfl ?_
            refine L_y (y_build rfl (show _ = some #[Value.int .i64 ((n - t + j : Nat) : Int), Value.int .i64 ((m - t + j : Nat) : Int)] by kernel_rfl)) rfl ?_
            refine L_o (o_bsl [_, _] te25 zz34 S13 rfl rfl rfl rfl rfl rfl rfl rfl fun b14 w14 S14 => ?_)
            refine L_o (o_app te25 S14 0 rfl rfl rfl (by first | exact S14.row 0 rfl | exact S14.row 1 rfl) (by intro u hu; simp at hu; rcases hu with rfl | rfl <;> rfl) rfl (by omega) (by omega) fun A15 c15 w15 S15 => ?_)
            have S15d := S15.drop (rs' := [_]) (.cons_cons _ (.cons _ (.refl _)))
            refine L_y (y_assign rfl) rfl ?_
            refine L_nil ?_
            refine hK17 _ _ ?_
            refine T_region ?_
            refine L_y (y_move rfl) rfl ?_
            refine L_y (y_sub rfl rfl (i64w (by omega))) rfl ?_
            refine L_y (y_assign rfl) rfl ?_
            refine L_nil ?_
            have S16 := S15d.rowc 0 rfl (n' := ((dg 0 0 f ++ mv f f (core KM (DP KM) (sub la f (n - t)) (sub lb f (m - t)))) ++ dg (n - t) (m - t) (j + 1)).length) (xs' := ((dg 0 0 f ++ mv f f (core KM (DP KM) (sub la f (n - t)) (sub lb f (m - t)))) ++ dg (n - t) (m - t) (j + 1)).flatMap pf) (by rw [List.length_append, dg_len, List.length_append (bs := dg _ _ (j + 1)), dg_len]; omega) (dg_snoc2 _ _ _ _)
            refine ⟨j + 1, _, _, by omega, ⟨by omega, S16⟩, ?_⟩
            exact (Sub.cons rfl (by first | rfl | exact congrArg (Value.int _) (by omega)) (Sub.cons rfl (by simp only [List.length_append, mv_len, dg_len]; rfl) (Sub.cons rfl rfl (Sub.cons rfl rfl (Sub.nil _)))))
          ·
            refine T_exit ?_
            refine hK13 _ _ ?_
            refine T_seq fun K18 hK18 => ?_
            refine T_region ?_
            refine L_y (y_move rfl) rfl ?_
            refine L_y (y_assign rfl) rfl ?_
            refine L_nil ?_
            refine hK18 _ _ ?_
            refine T_ret ?_
            repeat (first | with_reducible refine up_then ?_ | with_reducible refine up_in ?_)
            refine ret1 rfl rfl ?_
            have hje : j = t := by omega
            subst hje
            refine ⟨_, rfl, S13.like0, _, _, _, rfl, ?_⟩
            have hown := S13.own 0 rfl
            rw [← hDE] at hown ⊢
            exact hown
      ·
        refine L_gyes rfl rfl ?_
        refine L_y (y_move rfl) rfl ?_
        refine L_gyes rfl rfl ?_
        refine L_y (y_len Try.underlying22 rfl) rfl ?_
        refine L_gyes rfl rfl ?_
        refine L_y (y_eql rfl rfl) rfl ?_
        refine L_y ((by first | exact y_pickT rfl rfl | exact y_pickF rfl rfl)) rfl ?_
        refine L_y (y_assign rfl) rfl ?_
        refine L_nil ?_
        refine hK12 _ _ ?_
        refine T_cond rfl (fun h116 => ?_) (fun h116 => ?_)
        ·
          have hemp : (sub la f (n - t)) = [] ∨ (sub lb f (m - t)) = [] := by first | assumption | exact .inr (List.eq_nil_of_length_eq_zero (by omega))
          refine T_skip ?_
          refine hK11 _ _ ?_
          refine T_seq fun K19 hK19 => ?_
          refine T_seq fun K20 hK20 => ?_
          have S17 := S9.rowc 0 rfl (n' := (dg 0 0 f ++ mv f f (core KM (DP KM) (sub la f (n - t)) (sub lb f (m - t)))).length) (xs' := (dg 0 0 f ++ mv f f (core KM (DP KM) (sub la f (n - t)) (sub lb f (m - t)))).flatMap pf) (by unfold core; rw [if_pos hemp, mv_nil, List.append_nil]) (by unfold core; rw [if_pos hemp, mv_nil, List.append_nil])
          have S18 : St w0 _ [_] w9 := S17.sel [0] (by decide)
          refine T_region ?_
          refine L_y (y_move rfl) rfl ?_
          refine L_y (y_assign rfl) rfl ?_
          refine L_nil ?_
          refine hK20 _ _ ?_
          refine T_block ?_
          refine T_loop3 [(0, _), (1, _)] (fun (j : Nat) (A1 : Option Addr) (c1 : Nat) => [(16, .int .i64 ((t : Int) - (j : Int))), (7, .slice A1 ((dg 0 0 f ++ mv f f (core KM (DP KM) (sub la f (n - t)) (sub lb f (m - t)))) ++ dg (n - t) (m - t) j).length c1)]) (fun (j : Nat) (A1 : Option Addr) (c1 : Nat) => t - j) (fun (j : Nat) (A1 : Option Addr) (c1 : Nat) (w : World) => j ≤ t ∧ St w0 noM [row 34 2 A1 ((dg 0 0 f ++ mv f f (core KM (DP KM) (sub la f (n - t)) (sub lb f (m - t)))) ++ dg (n - t) (m - t) j).length c1 (((dg 0 0 f ++ mv f f (core KM (DP KM) (sub la f (n - t)) (sub lb f (m - t)))) ++ dg (n - t) (m - t) j).flatMap pf)] w) 0 _ _ (Sub.cons rfl (by first | rfl | exact congrArg (Value.int _) (by omega) | (refine congrArg (Value.slice _ · _) ?_; simp only [List.length_append, mv_len, dg_len]; first | omega | (unfold core; rw [if_pos hemp]; simp) | (rw [hce]; omega) | (rw [hce, ← hlk]; simp only [List.length_append, mv_len]; omega))) (Sub.cons rfl (by first | rfl | exact congrArg (Value.int _) (by omega) | (refine congrArg (Value.slice _ · _) ?_; simp only [List.length_append, mv_len, dg_len]; first | omega | (unfold core; rw [if_pos hemp]; simp) | (rw [hce]; omega) | (rw [hce, ← hlk]; simp only [List.length_append, mv_len]; omega))) (Sub.nil _))) (Sub.cons rfl rfl (Sub.cons rfl rfl (Sub.nil _))) ?_ ?_
          ·
            exact ⟨Nat.zero_le _, by rw [show dg (n - t) (m - t) 0 = [] from rfl, List.append_nil]; exact S18⟩
          ·
            intro j A1 c1 w19 hrel
            obtain ⟨hj, S19⟩ := hrel
            have hdl := dg_len (n - t) (m - t) j
            have hol3 : ((dg 0 0 f ++ mv f f (core KM (DP KM) (sub la f (n - t)) (sub lb f (m - t)))) ++ dg (n - t) (m - t) j).length = f + (core KM (DP KM) (sub la f (n - t)) (sub lb f (m - t))).length + j := by simp only [List.length_append, mv_len, dg_len]
            refine T_seq fun K21 hK21 => ?_
            refine T_seq fun K22 hK22 => ?_
            refine T_region ?_
            refine L_y (y_move rfl) rfl ?_
            refine L_y (y_gtr rfl rfl) rfl ?_
            refine L_nil ?_
            refine hK22 _ _ ?_
            refine T_cond rfl (fun h139 => ?_) (fun h139 => ?_)
            ·
              refine T_skip ?_
              refine hK21 _ _ ?_
              refine T_seq fun K23 hK23 => ?_
              refine T_block ?_
              refine T_region ?_
              refine L_y (y_move rfl) rfl ?_
              refine L_y (y_move rfl) rfl ?_
              refine L_y (y_len Try.underlying22 rfl) rfl ?_
              refine L_y (y_move rfl) rfl ?_
              refine L_y (y_sub rfl rfl (i64e (k := n - t + j) (by omega))) rfl ?_
              refine L_y (y_move rfl) rfl ?_
              refine L_y (y_len Try.underlying22 rfl) rfl ?_
              refine L_y (y_move rfl) rfl ?_
              refine L_y (y_sub rfl rfl (i64e (k := m - t + j) (by omega))) rfl ?_
              refine L_y (y_build rfl (show _ = some #[Value.int .i64 ((n - t + j : Nat) : Int), Value.int .i64 ((m - t + j : Nat) : Int)] by kernel_rfl)) rfl ?_
              refine L_o (o_bsl [_, _] te25 zz34 S19 rfl rfl rfl rfl rfl rfl rfl rfl fun b20 w20 S20 => ?_)
              refine L_o (o_app te25 S20 0 rfl rfl rfl (by first | exact S20.row 0 rfl | exact S20.row 1 rfl) (by intro u hu; simp at hu; rcases hu with rfl | rfl <;> rfl) rfl (by omega) (by omega) fun A21 c21 w21 S21 => ?_)
              have S21d := S21.drop (rs' := [_]) (.cons_cons _ (.cons _ (.refl _)))
              refine L_y (y_assign rfl) rfl ?_
              refine L_nil ?_
              refine hK23 _ _ ?_
              refine T_region ?_
              refine L_y (y_move rfl) rfl ?_
              refine L_y (y_sub rfl rfl (i64w (by omega))) rfl ?_
              refine L_y (y_assign rfl) rfl ?_
              refine L_nil ?_
              have S22 := S21d.rowc 0 rfl (n' := ((dg 0 0 f ++ mv f f (core KM (DP KM) (sub la f (n - t)) (sub lb f (m - t)))) ++ dg (n - t) (m - t) (j + 1)).length) (xs' := ((dg 0 0 f ++ mv f f (core KM (DP KM) (sub la f (n - t)) (sub lb f (m - t)))) ++ dg (n - t) (m - t) (j + 1)).flatMap pf) (by rw [List.length_append, dg_len, List.length_append (bs := dg _ _ (j + 1)), dg_len]; omega) (dg_snoc2 _ _ _ _)
              refine ⟨j + 1, _, _, by omega, ⟨by omega, S22⟩, ?_⟩
              exact (Sub.cons rfl (by first | rfl | exact congrArg (Value.int _) (by omega)) (Sub.cons rfl (by simp only [List.length_append, mv_len, dg_len]; rfl) (Sub.cons rfl rfl (Sub.cons rfl rfl (Sub.nil _)))))
            ·
              refine T_exit ?_
              refine hK19 _ _ ?_
              refine T_seq fun K24 hK24 => ?_
              refine T_region ?_
              refine L_y (y_move rfl) rfl ?_
              refine L_y (y_assign rfl) rfl ?_
              refine L_nil ?_
              refine hK24 _ _ ?_
              refine T_ret ?_
              repeat (first | with_reducible refine up_then ?_ | with_reducible refine up_in ?_)
              refine ret1 rfl rfl ?_
              have hje : j = t := by omega
              subst hje
              refine ⟨_, rfl, S19.like0, _, _, _, rfl, ?_⟩
              have hown := S19.own 0 rfl
              rw [← hDE] at hown ⊢
              exact hown
        ·
          have hne : ¬ ((sub la f (n - t)) = [] ∨ (sub lb f (m - t)) = []) := fun h => by rcases h with h | h <;> (have h9 := congrArg List.length h; rw [List.length_nil] at h9; omega)
          refine T_seq fun K25 hK25 => ?_
          refine T_region ?_
          refine L_y (y_move rfl) rfl ?_
          refine L_y (y_len Try.underlying25 rfl) rfl ?_
          refine L_y (y_eql rfl rfl) rfl ?_
          refine L_y (y_assign rfl) rfl ?_
          refine L_nil ?_
          refine hK25 _ _ ?_
          refine T_cond rfl (fun h125 => ?_) (fun h125 => ?_)
          ·
            have hc0 : (chainN (once (sub la f (n - t)) (sub lb f (m - t)))) = [] := List.eq_nil_of_length_eq_zero (by omega)
            refine T_region ?_
            refine L_y (y_move rfl) rfl ?_
            refine L_y (y_move rfl) rfl ?_
            refine L_y (y_move rfl) rfl ?_
            refine L_o (o_call Try.func37 rfl rfl (rdiff _ _ _ _ _ _ (sub la f (n - t)) (sub lb f (m - t)) w9 (cutI (S9.rd ha) (i := f) (u := n - t) (by omega) (by omega)) (cutI (S9.rd hb) (i := f) (u := m - t) (by omega) (by omega)) (by omega) (by omega)) rfl rfl ?_)
            rintro e23 w23 ⟨v23, rfl, l23, A23, n23, c23, rfl, O23⟩
            refine ⟨_, rfl, ?_⟩
            have S23 := S9.adopt l23 O23
            have hdn : n23 = (KM (sub la f (n - t)) (sub lb f (m - t))).length := pf_n (S23.row 3 rfl)
            have hKl : (KM (sub la f (n - t)) (sub lb f (m - t))).length ≤ (sub la f (n - t)).length := by have := (KM_ok (sub la f (n - t)) (sub lb f (m - t))).len; omega
            refine L_y (y_move rfl) rfl ?_
            refine L_y (y_move rfl) rfl ?_
            refine L_o (o_call Try.func50 rfl rfl (rmoved _ _ _ (KM (sub la f (n - t)) (sub lb f (m - t))) f f w23 (S23.row 3 rfl) (by omega) (by omega) (by omega) (fun p hp => by have := (KM_ok (sub la f (n - t)) (sub lb f (m - t))).1 p hp; omega)) rfl rfl ?_)
            rintro e24 w24 ⟨v24, rfl, l24, A24, n24, c24, rfl, O24⟩
            refine ⟨_, rfl, ?_⟩
            have S24 := S23.adopt l24 O24
            have hmn : n24 = (mv f f (KM (sub la f (n - t)) (sub lb f (m - t)))).length := pf_n (S24.row 4 rfl)
            have hmn2 := hmn
            rw [mv_len] at hmn2
            refine L_o (o_app te25 S24 0 rfl rfl rfl (S24.row 4 rfl) (fun u hu => pf_one _ u hu) rfl (by omega) (by omega) fun A25 c25 w25 S25 => ?_)
            refine L_y (y_assign rfl) rfl ?_
            refine L_nil ?_
            refine hK11 _ _ ?_
            refine T_seq fun K26 hK26 => ?_
            refine T_seq fun K27 hK27 => ?_
            have hce : core KM (DP KM) (sub la f (n - t)) (sub lb f (m - t)) = KM (sub la f (n - t)) (sub lb f (m - t)) := by unfold core; rw [if_neg hne, if_pos hc0]
            have S26 := S25.rowc 0 rfl (n' := (dg 0 0 f ++ mv f f (core KM (DP KM) (sub la f (n - t)) (sub lb f (m - t)))).length) (xs' := (dg 0 0 f ++ mv f f (core KM (DP KM) (sub la f (n - t)) (sub lb f (m - t)))).flatMap pf) (by rw [hce]; simp only [List.length_append, mv_len, dg_len] at hmn ⊢; omega) (by rw [hce, List.flatMap_append])
            have S27 : St w0 _ [_] w25 := S26.sel [0] (by decide)
            refine T_region ?_
            refine L_y (y_move rfl) rfl ?_
            refine L_y (y_assign rfl) rfl ?_
            refine L_nil ?_
            refine hK27 _ _ ?_
            refine T_block ?_
            refine T_loop3 [(0, _), (1, _)] (fun (j : Nat) (A1 : Option Addr) (c1 : Nat) => [(16, .int .i64 ((t : Int) - (j : Int))), (7, .slice A1 ((dg 0 0 f ++ mv f f (core KM (DP KM) (sub la f (n - t)) (sub lb f (m - t)))) ++ dg (n - t) (m - t) j).length c1)]) (fun (j : Nat) (A1 : Option Addr) (c1 : Nat) => t - j) (fun (j : Nat) (A1 : Option Addr) (c1 : Nat) (w : World) => j ≤ t ∧ St w0 noM [row 34 2 A1 ((dg 0 0 f ++ mv f f (core KM (DP KM) (sub la f (n - t)) (sub lb f (m - t)))) ++ dg (n - t) (m - t) j).length c1 (((dg 0 0 f ++ mv f f (core KM (DP KM) (sub la f (n - t)) (sub lb f (m - t)))) ++ dg (n - t) (m - t) j).flatMap pf)] w) 0 _ _ (Sub.cons rfl (by first | rfl | exact congrArg (Value.int _) (by omega) | (refine congrArg (Value.slice _ · _) ?_; simp only [List.length_append, mv_len, dg_len]; first | omega | (unfold core; rw [if_pos hemp]; simp) | (rw [hce]; omega) | (rw [hce, ← hlk]; simp only [List.length_append, mv_len]; omega))) (Sub.cons rfl (by first | rfl | exact congrArg (Value.int _) (by omega) | (refine congrArg (Value.slice _ · _) ?_; simp only [List.length_append, mv_len, dg_len]; first | omega | (unfold core; rw [if_pos hemp]; simp) | (rw [hce]; omega) | (rw [hce, ← hlk]; simp only [List.length_append, mv_len]; omega))) (Sub.nil _))) (Sub.cons rfl rfl (Sub.cons rfl rfl (Sub.nil _))) ?_ ?_
            ·
              exact ⟨Nat.zero_le _, by rw [show dg (n - t) (m - t) 0 = [] from rfl, List.append_nil]; exact S27⟩
            ·
              intro j A1 c1 w28 hrel
              obtain ⟨hj, S28⟩ := hrel
              have hdl := dg_len (n - t) (m - t) j
              have hol3 : ((dg 0 0 f ++ mv f f (core KM (DP KM) (sub la f (n - t)) (sub lb f (m - t)))) ++ dg (n - t) (m - t) j).length = f + (core KM (DP KM) (sub la f (n - t)) (sub lb f (m - t))).length + j := by simp only [List.length_append, mv_len, dg_len]
              refine T_seq fun K28 hK28 => ?_
              refine T_seq fun K29 hK29 => ?_
              refine T_region ?_
              refine L_y (y_move rfl) rfl ?_
              refine L_y (y_gtr rfl rfl) rfl ?_
              refine L_nil ?_
              refine hK29 _ _ ?_
              refine T_cond rfl (fun h139 => ?_) (fun h139 => ?_)
              ·
                refine T_skip ?_
                refine hK28 _ _ ?_
                refine T_seq fun K30 hK30 => ?_
                refine T_block ?_
                refine T_region ?_
                refine L_y (y_move rfl) rfl ?_
                refine L_y (y_move rfl) rfl ?_
                refine L_y (y_len Try.underlying22 rfl) rfl ?_
                refine L_y (y_move rfl) rfl ?_
                refine L_y (y_sub rfl rfl (i64e (k := n - t + j) (by omega))) rfl ?_
                refine L_y (y_move rfl) rfl ?_
                refine L_y (y_len Try.underlying22 rfl) rfl ?_
                refine L_y (y_move rfl) rfl ?_
                refine L_y (y_sub rfl rfl (i64e (k := m - t + j) (by omega))) rfl ?_
                refine L_y (y_build rfl (show _ = some #[Value.int .i64 ((n - t + j : Nat) : Int), Value.int .i64 ((m - t + j : Nat) : Int)] by kernel_rfl)) rfl ?_
                refine L_o (o_bsl [_, _] te25 zz34 S28 rfl rfl rfl rfl rfl rfl rfl rfl fun b29 w29 S29 => ?_)
                refine L_o (o_app te25 S29 0 rfl rfl rfl (by first | exact S29.row 0 rfl | exact S29.row 1 rfl) (by intro u hu; simp at hu; rcases hu with rfl | rfl <;> rfl) rfl (by omega) (by omega) fun A30 c30 w30 S30 => ?_)
                have S30d := S30.drop (rs' := [_]) (.cons_cons _ (.cons _ (.refl _)))
                refine L_y (y_assign rfl) rfl ?_
                refine L_nil ?_
                refine hK30 _ _ ?_
                refine T_region ?_
                refine L_y (y_move rfl) rfl ?_
                refine L_y (y_sub rfl rfl (i64w (by omega))) rfl ?_
                refine L_y (y_assign rfl) rfl ?_
                refine L_nil ?_
                have S31 := S30d.rowc 0 rfl (n' := ((dg 0 0 f ++ mv f f (core KM (DP KM) (sub la f (n - t)) (sub lb f (m - t)))) ++ dg (n - t) (m - t) (j + 1)).length) (xs' := ((dg 0 0 f ++ mv f f (core KM (DP KM) (sub la f (n - t)) (sub lb f (m - t)))) ++ dg (n - t) (m - t) (j + 1)).flatMap pf) (by rw [List.length_append, dg_len, List.length_append (bs := dg _ _ (j + 1)), dg_len]; omega) (dg_snoc2 _ _ _ _)
                refine ⟨j + 1, _, _, by omega, ⟨by omega, S31⟩, ?_⟩
                exact (Sub.cons rfl (by first | rfl | exact congrArg (Value.int _) (by omega)) (Sub.cons rfl (by simp only [List.length_append, mv_len, dg_len]; rfl) (Sub.cons rfl rfl (Sub.cons rfl rfl (Sub.nil _)))))
              ·
                refine T_exit ?_
                refine hK26 _ _ ?_
                refine T_seq fun K31 hK31 => ?_
                refine T_region ?_
                refine L_y (y_move rfl) rfl ?_
                refine L_y (y_assign rfl) rfl ?_
                refine L_nil ?_
                refine hK31 _ _ ?_
                refine T_ret ?_
                repeat (first | with_reducible refine up_then ?_ | with_reducible refine up_in ?_)
                refine ret1 rfl rfl ?_
                have hje : j = t := by omega
                subst hje
                refine ⟨_, rfl, S28.like0, _, _, _, rfl, ?_⟩
                have hown := S28.own 0 rfl
                rw [← hDE] at hown ⊢
                exact hown
          ·
            have hc0 : ¬ (chainN (once (sub la f (n - t)) (sub lb f (m - t)))) = [] := fun h => by have h9 := congrArg List.length h; rw [List.length_nil] at h9; omega
            refine T_seq fun K32 hK32 => ?_
            refine T_region ?_
            refine L_y (y_assign rfl) rfl ?_
            refine L_y (y_assign rfl) rfl ?_
            refine L_nil ?_
            refine hK32 _ _ ?_
            refine T_seq fun K33 hK33 => ?_
            refine T_seq fun K34 hK34 => ?_
            have hsg : (segs (DP KM) (sub la f (n - t)) (sub lb f (m - t)) 0 0 (chainN (once (sub la f (n - t)) (sub lb f (m - t))))).length ≤ (sub la f (n - t)).length := by have := (segs_ok (DP_ok KM_ok) (chainN (once (sub la f (n - t)) (sub lb f (m - t)))) 0 0 hCC (fun p hp => (once_mem (sub la f (n - t)) (sub lb f (m - t)) _ p ((chainN_sub _).subset hp)).2.2.2)).len; omega
            have S32 : St w0 _ [_, _] w9 := S9.sel [2, 0] (by decide)
            refine T_region ?_
            refine L_y (y_assign rfl) rfl ?_
            refine L_nil ?_
            refine hK34 _ _ ?_
            refine T_block ?_
            refine T_loop6 [(0, _), (1, _), (5, _), (6, _), (9, _), (10, _), (11, _)] (fun (j : Nat) (A1 : Option Addr) (c1 : Nat) (o : List (Nat × Nat)) (i : Nat) (k : Nat) => [(14, .int .i64 (j : Int)), (12, .int .i64 (i : Int)), (13, .int .i64 (k : Int)), (7, .slice A1 (dg 0 0 f ++ mv f f o).length c1)]) (fun (j : Nat) (A1 : Option Addr) (c1 : Nat) (o : List (Nat × Nat)) (i : Nat) (k : Nat) => (chainN (once (sub la f (n - t)) (sub lb f (m - t)))).length - j) (fun (j : Nat) (A1 : Option Addr) (c1 : Nat) (o : List (Nat × Nat)) (i : Nat) (k : Nat) (w : World) => (j ≤ (chainN (once (sub la f (n - t)) (sub lb f (m - t)))).length ∧ o ++ segs (DP KM) (sub la f (n - t)) (sub lb f (m - t)) i k ((chainN (once (sub la f (n - t)) (sub lb f (m - t)))).drop j) = segs (DP KM) (sub la f (n - t)) (sub lb f (m - t)) 0 0 (chainN (once (sub la f (n - t)) (sub lb f (m - t)))) ∧ CH (sub la f (n - t)).length (sub lb f (m - t)).length i k ((chainN (once (sub la f (n - t)) (sub lb f (m - t)))).drop j) ∧ (0 < j → 0 < i)) ∧ St w0 noM [row 34 2 A9 n9 c9 ((chainN (once (sub la f (n - t)) (sub lb f (m - t)))).flatMap pf), row 34 2 A1 (dg 0 0 f ++ mv f f o).length c1 ((dg 0 0 f ++ mv f f o).flatMap pf)] w) 0 _ _ [] 0 0 (Sub.cons rfl (by first | rfl | (rw [mv_nil, List.append_nil])) (Sub.cons rfl (by first | rfl | (rw [mv_nil, List.append_nil])) (Sub.cons rfl (by first | rfl | (rw [mv_nil, List.append_nil])) (Sub.cons rfl (by first | rfl | (rw [mv_nil, List.append_nil])) (Sub.nil _))))) (Sub.cons rfl rfl (Sub.cons rfl rfl (Sub.cons rfl rfl (Sub.cons rfl rfl (Sub.cons rfl rfl (Sub.cons rfl rfl (Sub.cons rfl rfl (Sub.nil _)))))))) ?_ ?_
            ·
              exact ⟨⟨Nat.zero_le _, rfl, hCC, fun h => absurd h (by decide)⟩, by rw [mv_nil, List.append_nil]; exact S32⟩
            ·
              intro j A1 c1 o i k w33 hrel
              obtain ⟨⟨hj, hinv, hch, hji⟩, S33⟩ := hrel
              have hil := congrArg List.length hinv
              rw [List.length_append] at hil
              have hdl := dg_len 0 0 f
              have hol2 : (dg 0 0 f ++ mv f f o).length = f + o.length := by rw [List.length_append, dg_len, mv_len]
              refine T_seq fun K35 hK35 => ?_
              refine T_seq fun K36 hK36 => ?_
              refine T_region ?_
              refine L_y (y_move rfl) rfl ?_
              refine L_y (y_move rfl) rfl ?_
              refine L_y (y_len Try.underlying25 rfl) rfl ?_
              refine L_y (y_lss rfl rfl) rfl ?_
              refine L_nil ?_
              refine hK36 _ _ ?_
              refine T_cond rfl (fun h55 => ?_) (fun h55 => ?_)
              ·
                obtain ⟨p, hp⟩ : ∃ p, (chainN (once (sub la f (n - t)) (sub lb f (m - t))))[j]? = some p := ⟨_, List.getElem?_eq_getElem (by omega)⟩
                have hdrop := drop_cons hp
                rw [hdrop] at hch
                obtain ⟨hpi, hch2⟩ := hch
                have hil2 := hil
                rw [hdrop, segs, List.length_append, mv_len] at hil2
                have hsa : (sub (sub la f (n - t)) i p.1).length = p.1 - i := sub_len (by omega)
                have hsb : (sub (sub lb f (m - t)) k p.2).length = p.2 - k := sub_len (by omega)
                refine T_skip ?_
                refine hK35 _ _ ?_
                refine T_seq fun K37 hK37 => ?_
                refine T_block ?_
                refine T_seq fun K38 hK38 => ?_
                refine T_region ?_
                refine L_y (y_move rfl) rfl ?_
                refine L_y (y_move rfl) rfl ?_
                refine L_y (y_idx Try.underlying25 sz34 rfl rfl (S33.row 0 rfl) (Nt.mk rfl : Nt _ (j)) (by omega)) rfl ?_
                refine L_y (y_ldp (f := pf) pf_len1 Try.underlying34 rfl sz34 rfl (S33.row 0 rfl) (by omega) hp) rfl ?_
                refine L_o (o_alloc zz34 S33 rfl fun b34 w34 hb34 S34 => ?_)
                refine L_o (o_stW S34 2 rfl rfl rfl sz34 (by rfl) (pf_one1 p) fun w35 S35 => ?_)
                refine L_nil ?_
                refine hK38 _ _ ?_
                refine T_seq fun K39 hK39 => ?_
                refine T_zed [0, 1, 2, 3, 4, 5, 6, 7, 8, 9, 10, 12, 13, 14, 15, 16, 17, 11, 18] 19 [(0, 1), (1, 1), (2, 1), (3, 1), (4, 1), (5, 1), (6, 1), (7, 1), (8, 1), (9, 1), (10, 1), (12, 1), (13, 1), (14, 1), (15, 1), (16, 1), (17, 1), (11, 2), (18, 2), (19, 3), (20, 3)] hmix (by kernel_rfl) fun w36 l36 => ?_
                have S36 := S35.like l36
                refine ZA_B (Like w36) (Like.refl _) ?_
                refine ZB_y rfl (y_move rfl) rfl ?_
                refine ZB_y rfl (y_move rfl) rfl ?_
                refine ZB_y rfl (y_move rfl) rfl ?_
                refine ZB_y rfl (y_fieldA 0 Try.underlying34 rfl sz3 rfl rfl rfl) rfl ?_
                refine ZB_y rfl (y_ldc Try.underlying3 rfl rfl (((S36.blk 2 rfl).cell _).trans (by rfl))) rfl ?_
                refine ZB_y rfl (y_slice Try.underlying22 sz3 rfl rfl rfl inferInstance inferInstance (by omega) (by omega)) rfl ?_
                refine ZB_y rfl (y_move rfl) rfl ?_
                refine ZB_y rfl (y_move rfl) rfl ?_
                refine ZB_y rfl (y_fieldA 1 Try.underlying34 rfl sz3 rfl rfl rfl) rfl ?_
                refine ZB_y rfl (y_ldc Try.underlying3 rfl rfl (((S36.blk 2 rfl).cell _).trans (by rfl))) rfl ?_
                refine ZB_y rfl (y_slice Try.underlying22 sz3 rfl rfl rfl inferInstance inferInstance (by omega) (by omega)) rfl ?_
                refine ZB_y rfl (y_move rfl) rfl ?_
                refine ZB_y rfl (y_move rfl) rfl ?_
                refine ZB_y rfl (y_add rfl rfl (i64e (k := f + i) (by omega))) rfl ?_
                refine ZB_y rfl (y_move rfl) rfl ?_
                refine ZB_y rfl (y_move rfl) rfl ?_
                refine ZB_y rfl (y_add rfl rfl (i64e (k := f + k) (by omega))) rfl ?_
                refine ZB_o rfl (o_call Try.func30 rfl rfl (ih _ _ _ _ _ _ (sub (sub la f (n - t)) i p.1) (sub (sub lb f (m - t)) k p.2) w36 (cutI (cutI (S36.rd ha) (i := f) (u := n - t) (by omega) (by omega)) (by omega) (by omega)) (cutI (cutI (S36.rd hb) (i := f) (u := m - t) (by omega) (by omega)) (by omega) (by omega)) (by omega) (by omega) (by omega)) rfl rfl ?_)
                rintro e37 w37 ⟨v37, rfl, l37, A37, n37, c37, rfl, O37⟩
                refine ⟨_, rfl, l37, ?_⟩
                have S37 := S36.adopt l37 O37
                have hdn : n37 = (DP KM (sub (sub la f (n - t)) i p.1) (sub (sub lb f (m - t)) k p.2)).length := pf_n (S37.row 3 rfl); have hdk := DPK_len (sub (sub la f (n - t)) i p.1) (sub (sub lb f (m - t)) k p.2)
                have q37 := l37
                refine ZB_o rfl (o_call Try.func50 rfl rfl (rmoved _ _ _ (DP KM (sub (sub la f (n - t)) i p.1) (sub (sub lb f (m - t)) k p.2)) (f + i) (f + k) w37 (S37.row 3 rfl) (by omega) (by omega) (by omega) (fun q hq => by have := (DP_ok KM_ok (sub (sub la f (n - t)) i p.1) (sub (sub lb f (m - t)) k p.2)).1 q hq; omega)) rfl rfl ?_)
                rintro e38 w38 ⟨v38, rfl, l38, A38, n38, c38, rfl, O38⟩
                refine ⟨_, rfl, (Like.trans q37 l38), ?_⟩
                have S38 := S37.adopt l38 O38
                have hmn : n38 = (mv (f + i) (f + k) (DP KM (sub (sub la f (n - t)) i p.1) (sub (sub lb f (m - t)) k p.2))).length := pf_n (S38.row 4 rfl)
                have hmn2 := hmn
                rw [mv_len] at hmn2
                have q38 := (Like.trans q37 l38)
                refine ZB_c rfl (o_app te25 S38 1 rfl rfl rfl (S38.row 4 rfl) (fun u hu => pf_one _ u hu) rfl (by omega) (by omega) fun A39 c39 w39 S39 => ?_)
                refine ZA_oy rfl (y_assign rfl) rfl ?_
                refine ZA_nil ?_
                refine hK39 _ _ ?_
                refine T_seq fun K40 hK40 => ?_
                refine T_region ?_
                refine L_y (y_move rfl) rfl ?_
                refine L_y (y_move rfl) rfl ?_
                refine L_y (y_fieldA 0 Try.underlying34 rfl sz3 rfl rfl rfl) rfl ?_
                refine L_y (y_ldc Try.underlying3 rfl rfl (((S39.blk 2 rfl).cell _).trans (by rfl))) rfl ?_
                refine L_y (y_add rfl rfl (i64e (k := f + p.1) (by omega))) rfl ?_
                refine L_y (y_move rfl) rfl ?_
                refine L_y (y_fieldA 1 Try.underlying34 rfl sz3 rfl rfl rfl) rfl ?_
                refine L_y (y_ldc Try.underlying3 rfl rfl (((S39.blk 2 rfl).cell _).trans (by rfl))) rfl ?_
                refine L_y (y_add rfl rfl (i64e (k := f + p.2) (by omega))) rfl ?_
                refine L_y (y_build rfl (show _ = some #[Value.int .i64 ((f + p.1 : Nat) : Int), Value.int .i64 ((f + p.2 : Nat) : Int)] by kernel_rfl)) rfl ?_
                refine L_o (o_bsl [_, _] te25 zz34 S39 rfl rfl rfl rfl rfl rfl rfl rfl fun b40 w40 S40 => ?_)
                refine L_o (o_app te25 S40 1 rfl rfl rfl (by first | exact S40.row 0 rfl | exact S40.row 1 rfl | exact S40.row 3 rfl | exact S40.row 4 rfl | exact S40.row 5 rfl) (by intro u hu; simp at hu; rcases hu with rfl | rfl <;> rfl) rfl (by omega) (by omega) fun A41 c41 w41 S41 => ?_)
                have S41d := S41.drop (rs' := [_, _, _, _, _]) (.cons_cons _ (.cons_cons _ (.cons_cons _ (.cons_cons _ (.cons_cons _ (.cons _ (.refl _)))))))
                refine L_y (y_assign rfl) rfl ?_
                refine L_nil ?_
                refine hK40 _ _ ?_
                refine T_seq fun K41 hK41 => ?_
                refine T_region ?_
                refine L_y (y_fieldA 0 Try.underlying34 rfl sz3 rfl rfl rfl) rfl ?_
                refine L_y (y_ldc Try.underlying3 rfl rfl (((S41d.blk 2 rfl).cell _).trans (by rfl))) rfl ?_
                refine L_y (y_add rfl rfl (i64e (k := p.1 + 1) (by omega))) rfl ?_
                refine L_y (y_assign rfl) rfl ?_
                refine L_nil ?_
                refine hK41 _ _ ?_
                refine T_region ?_
                refine L_y (y_fieldA 1 Try.underlying34 rfl sz3 rfl rfl rfl) rfl ?_
                refine L_y (y_ldc Try.underlying3 rfl rfl (((S41d.blk 2 rfl).cell _).trans (by rfl))) rfl ?_
                refine L_y (y_add rfl rfl (i64e (k := p.2 + 1) (by omega))) rfl ?_
                refine L_y (y_assign rfl) rfl ?_
                refine L_nil ?_
                refine hK37 _ _ ?_
                refine T_region ?_
                refine L_y (y_move rfl) rfl ?_
                refine L_y (y_add rfl rfl (i64w (by omega))) rfl ?_
                refine L_y (y_assign rfl) rfl ?_
                refine L_nil ?_
                have hlk : (o ++ (mv i k (DP KM (sub (sub la f (n - t)) i p.1) (sub (sub lb f (m - t)) k p.2)) ++ [p])) ++ segs (DP KM) (sub la f (n - t)) (sub lb f (m - t)) (p.1 + 1) (p.2 + 1) ((chainN (once (sub la f (n - t)) (sub lb f (m - t)))).drop (j + 1)) = segs (DP KM) (sub la f (n - t)) (sub lb f (m - t)) 0 0 (chainN (once (sub la f (n - t)) (sub lb f (m - t)))) := by
                  rw [← hinv, hdrop, segs, List.append_assoc, List.append_assoc, List.singleton_append]
                  rfl
                have S42 := S41d.rowc 1 rfl (n' := (dg 0 0 f ++ mv f f (o ++ (mv i k (DP KM (sub (sub la f (n - t)) i p.1) (sub (sub lb f (m - t)) k p.2)) ++ [p]))).length) (xs' := (dg 0 0 f ++ mv f f (o ++ (mv i k (DP KM (sub (sub la f (n - t)) i p.1) (sub (sub lb f (m - t)) k p.2)) ++ [p]))).flatMap pf) (by simp only [List.length_append, mv_len, dg_len, List.length_singleton] at hmn ⊢; omega) (out_link f i k o _ p)
                have S43 : St w0 _ [_, _] w41 := S42.sel [0, 1] (by decide)
                refine ⟨j + 1, _, _, _, p.1 + 1, p.2 + 1, by omega, ⟨⟨by omega, hlk, hch2, fun _ => by omega⟩, S43⟩, ?_⟩
                exact (Sub.cons rfl (by first | rfl | exact congrArg (Value.int _) (by omega)) (Sub.cons rfl (by first | rfl | exact congrArg (Value.int _) (by omega)) (Sub.cons rfl (by first | rfl | exact congrArg (Value.int _) (by omega)) (Sub.cons rfl (by simp only [List.length_append, mv_len, dg_len, List.length_singleton] at hmn ⊢; exact congrArg (Value.slice _ · _) (by omega)) (Sub.cons rfl rfl (Sub.cons rfl rfl (Sub.cons rfl rfl (Sub.cons rfl rfl (Sub.cons rfl rfl (Sub.cons rfl rfl (Sub.cons rfl rfl (Sub.nil _))))))))))))
              ·
                refine T_exit ?_
                refine hK33 _ _ ?_
                have hjc : j = (chainN (once (sub la f (n - t)) (sub lb f (m - t)))).length := by omega
                have hj0 : 0 < j := by have := List.length_pos_iff.2 hc0; omega
                have hi0 := hji hj0
                rw [show (chainN (once (sub la f (n - t)) (sub lb f (m - t)))).drop j = [] from List.drop_of_length_le (by omega)] at hch
                have hch3 : i ≤ (sub la f (n - t)).length ∧ k ≤ (sub lb f (m - t)).length := hch
                obtain ⟨hi3, hk3⟩ := hch3
                clear hch
                have hsa : (sub (sub la f (n - t)) i (n - t - f)).length = n - t - f - i := sub_len (by omega)
                have hsb : (sub (sub lb f (m - t)) k (m - t - f)).length = m - t - f - k := sub_len (by omega)
                refine T_zed [0, 1, 2, 3, 4, 5, 6, 8, 9, 10, 11, 12, 13, 7, 14] 15 [(0, 1), (1, 1), (2, 1), (3, 1), (4, 1), (5, 1), (6, 1), (8, 1), (9, 1), (10, 1), (11, 1), (12, 1), (13, 1), (7, 2), (14, 2), (15, 3), (16, 3)] hmix (by kernel_rfl) fun w44 l44 => ?_
                have S44 := S33.like l44
                refine ZA_B (Like w44) (Like.refl _) ?_
                refine ZB_y rfl (y_move rfl) rfl ?_
                refine ZB_y rfl (y_move rfl) rfl ?_
                refine ZB_y rfl (y_move rfl) rfl ?_
                refine ZB_y rfl (y_sliceL Try.underlying22 sz3 rfl rfl inferInstance (by omega)) rfl ?_
                refine ZB_y rfl (y_move rfl) rfl ?_
                refine ZB_y rfl (y_move rfl) rfl ?_
                refine ZB_y rfl (y_sliceL Try.underlying22 sz3 rfl rfl inferInstance (by omega)) rfl ?_
                refine ZB_y rfl (y_move rfl) rfl ?_
                refine ZB_y rfl (y_move rfl) rfl ?_
                refine ZB_y rfl (y_add rfl rfl (i64e (k := f + i) (by omega))) rfl ?_
                refine ZB_y rfl (y_move rfl) rfl ?_
                refine ZB_y rfl (y_move rfl) rfl ?_
                refine ZB_y rfl (y_add rfl rfl (i64e (k := f + k) (by omega))) rfl ?_
                refine ZB_o rfl (o_call Try.func30 rfl rfl (ih _ _ _ _ _ _ (sub (sub la f (n - t)) i (n - t - f)) (sub (sub lb f (m - t)) k (m - t - f)) w44 (cutI (cutI (S44.rd ha) (i := f) (u := n - t) (by omega) (by omega)) (by omega) (by omega)) (cutI (cutI (S44.rd hb) (i := f) (u := m - t) (by omega) (by omega)) (by omega) (by omega)) (by omega) (by omega) (by omega)) rfl rfl ?_)
                rintro e45 w45 ⟨v45, rfl, l45, A45, n45, c45, rfl, O45⟩
                refine ⟨_, rfl, l45, ?_⟩
                have S45 := S44.adopt l45 O45
                have hdn : n45 = (DP KM (sub (sub la f (n - t)) i (n - t - f)) (sub (sub lb f (m - t)) k (m - t - f))).length := pf_n (S45.row 2 rfl); have hdk := DPK_len (sub (sub la f (n - t)) i (n - t - f)) (sub (sub lb f (m - t)) k (m - t - f))
                have q45 := l45
                refine ZB_o rfl (o_call Try.func50 rfl rfl (rmoved _ _ _ (DP KM (sub (sub la f (n - t)) i (n - t - f)) (sub (sub lb f (m - t)) k (m - t - f))) (f + i) (f + k) w45 (S45.row 2 rfl) (by omega) (by omega) (by omega) (fun q hq => by have := (DP_ok KM_ok (sub (sub la f (n - t)) i (n - t - f)) (sub (sub lb f (m - t)) k (m - t - f))).1 q hq; omega)) rfl rfl ?_)
                rintro e46 w46 ⟨v46, rfl, l46, A46, n46, c46, rfl, O46⟩
                refine ⟨_, rfl, (Like.trans q45 l46), ?_⟩
                have S46 := S45.adopt l46 O46
                have hmn : n46 = (mv (f + i) (f + k) (DP KM (sub (sub la f (n - t)) i (n - t - f)) (sub (sub lb f (m - t)) k (m - t - f)))).length := pf_n (S46.row 3 rfl)
                have hmn2 := hmn
                rw [mv_len] at hmn2
                have q46 := (Like.trans q45 l46)
                refine ZB_c rfl (o_app te25 S46 1 rfl rfl rfl (S46.row 3 rfl) (fun u hu => pf_one _ u hu) rfl (by omega) (by omega) fun A47 c47 w47 S47 => ?_)
                refine ZA_oy rfl (y_assign rfl) rfl ?_
                refine ZA_nil ?_
                refine hK11 _ _ ?_
                refine T_seq fun K42 hK42 => ?_
                refine T_seq fun K43 hK43 => ?_
                have hce : core KM (DP KM) (sub la f (n - t)) (sub lb f (m - t)) = segs (DP KM) (sub la f (n - t)) (sub lb f (m - t)) 0 0 (chainN (once (sub la f (n - t)) (sub lb f (m - t)))) := by unfold core; rw [if_neg hne, if_neg hc0]
                have hlk : o ++ mv i k (DP KM (sub (sub la f (n - t)) i (n - t - f)) (sub (sub lb f (m - t)) k (m - t - f))) = segs (DP KM) (sub la f (n - t)) (sub lb f (m - t)) 0 0 (chainN (once (sub la f (n - t)) (sub lb f (m - t)))) := by
                  rw [← hinv, show (chainN (once (sub la f (n - t)) (sub lb f (m - t)))).drop j = [] from List.drop_of_length_le (by omega), segs, ← sub_drop, ← sub_drop, hXl, hYl]
                have S48 := S47.rowc 1 rfl (n' := (dg 0 0 f ++ mv f f (core KM (DP KM) (sub la f (n - t)) (sub lb f (m - t)))).length) (xs' := (dg 0 0 f ++ mv f f (core KM (DP KM) (sub la f (n - t)) (sub lb f (m - t)))).flatMap pf) (by rw [hce, ← hlk]; simp only [List.length_append, mv_len, dg_len] at hmn ⊢; omega) (by rw [hce, ← hlk, out_last])
                have S49 : St w0 _ [_] w47 := S48.sel [1] (by decide)
                refine T_region ?_
                refine L_y (y_move rfl) rfl ?_
                refine L_y (y_assign rfl) rfl ?_
                refine L_nil ?_
                refine hK43 _ _ ?_
                refine T_block ?_
                refine T_loop3 [(0, _), (1, _)] (fun (j : Nat) (A1 : Option Addr) (c1 : Nat) => [(16, .int .i64 ((t : Int) - (j : Int))), (7, .slice A1 ((dg 0 0 f ++ mv f f (core KM (DP KM) (sub la f (n - t)) (sub lb f (m - t)))) ++ dg (n - t) (m - t) j).length c1)]) (fun (j : Nat) (A1 : Option Addr) (c1 : Nat) => t - j) (fun (j : Nat) (A1 : Option Addr) (c1 : Nat) (w : World) => j ≤ t ∧ St w0 noM [row 34 2 A1 ((dg 0 0 f ++ mv f f (core KM (DP KM) (sub la f (n - t)) (sub lb f (m - t)))) ++ dg (n - t) (m - t) j).length c1 (((dg 0 0 f ++ mv f f (core KM (DP KM) (sub la f (n - t)) (sub lb f (m - t)))) ++ dg (n - t) (m - t) j).flatMap pf)] w) 0 _ _ (Sub.cons rfl (by first | rfl | exact congrArg (Value.int _) (by omega) | (refine congrArg (Value.slice _ · _) ?_; simp only [List.length_append, mv_len, dg_len]; first | omega | (unfold core; rw [if_pos hemp]; simp) | (rw [hce]; omega) | (rw [hce, ← hlk]; simp only [List.length_append, mv_len]; omega))) (Sub.cons rfl (by first | rfl | exact congrArg (Value.int _) (by omega) | (refine congrArg (Value.slice _ · _) ?_; simp only [List.length_append, mv_len, dg_len]; first | omega | (unfold core; rw [if_pos hemp]; simp) | (rw [hce]; omega) | (rw [hce, ← hlk]; simp only [List.length_append, mv_len]; omega))) (Sub.nil _))) (Sub.cons rfl rfl (Sub.cons rfl rfl (Sub.nil _))) ?_ ?_
                ·
                  exact ⟨Nat.zero_le _, by rw [show dg (n - t) (m - t) 0 = [] from rfl, List.append_nil]; exact S49⟩
                ·
                  intro j A1 c1 w50 hrel
                  obtain ⟨hj, S50⟩ := hrel
                  have hdl := dg_len (n - t) (m - t) j
                  have hol3 : ((dg 0 0 f ++ mv f f (core KM (DP KM) (sub la f (n - t)) (sub lb f (m - t)))) ++ dg (n - t) (m - t) j).length = f + (core KM (DP KM) (sub la f (n - t)) (sub lb f (m - t))).length + j := by simp only [List.length_append, mv_len, dg_len]
                  refine T_seq fun K44 hK44 => ?_
                  refine T_seq fun K45 hK45 => ?_
                  refine T_region ?_
                  refine L_y (y_move rfl) rfl ?_
                  refine L_y (y_gtr rfl rfl) rfl ?_
                  refine L_nil ?_
                  refine hK45 _ _ ?_
                  refine T_cond rfl (fun h139 => ?_) (fun h139 => ?_)
                  ·
                    refine T_skip ?_
                    refine hK44 _ _ ?_
                    refine T_seq fun K46 hK46 => ?_
                    refine T_block ?_
                    refine T_region ?_
                    refine L_y (y_move rfl) rfl ?_
                    refine L_y (y_move rfl) rfl ?_
                    refine L_y (y_len Try.underlying22 rfl) rfl ?_
                    refine L_y (y_move rfl) rfl ?_
                    refine L_y (y_sub rfl rfl (i64e (k := n - t + j) (by omega))) rfl ?_
                    refine L_y (y_move rfl) rfl ?_
                    refine L_y (y_len Try.underlying22 rfl) rfl ?_
                    refine L_y (y_move rfl) rfl ?_
                    refine L_y (y_sub rfl rfl (i64e (k := m - t + j) (by omega))) rfl ?_
                    refine L_y (y_build rfl (show _ = some #[Value.int .i64 ((n - t + j : Nat) : Int), Value.int .i64 ((m - t + j : Nat) : Int)] by kernel_rfl)) rfl ?_
                    refine L_o (o_bsl [_, _] te25 zz34 S50 rfl rfl rfl rfl rfl rfl rfl rfl fun b51 w51 S51 => ?_)
                    refine L_o (o_app te25 S51 0 rfl rfl rfl (by first | exact S51.row 0 rfl | exact S51.row 1 rfl) (by intro u hu; simp at hu; rcases hu with rfl | rfl <;> rfl) rfl (by omega) (by omega) fun A52 c52 w52 S52 => ?_)
                    have S52d := S52.drop (rs' := [_]) (.cons_cons _ (.cons _ (.refl _)))
                    refine L_y (y_assign rfl) rfl ?_
                    refine L_nil ?_
                    refine hK46 _ _ ?_
                    refine T_region ?_
                    refine L_y (y_move rfl) rfl ?_
                    refine L_y (y_sub rfl rfl (i64w (by omega))) rfl ?_
                    refine L_y (y_assign rfl) rfl ?_
                    refine L_nil ?_
                    have S53 := S52d.rowc 0 rfl (n' := ((dg 0 0 f ++ mv f f (core KM (DP KM) (sub la f (n - t)) (sub lb f (m - t)))) ++ dg (n - t) (m - t) (j + 1)).length) (xs' := ((dg 0 0 f ++ mv f f (core KM (DP KM) (sub la f (n - t)) (sub lb f (m - t)))) ++ dg (n - t) (m - t) (j + 1)).flatMap pf) (by rw [List.length_append, dg_len, List.length_append (bs := dg _ _ (j + 1)), dg_len]; omega) (dg_snoc2 _ _ _ _)
                    refine ⟨j + 1, _, _, by omega, ⟨by omega, S53⟩, ?_⟩
                    exact (Sub.cons rfl (by first | rfl | exact congrArg (Value.int _) (by omega)) (Sub.cons rfl (by simp only [List.length_append, mv_len, dg_len]; rfl) (Sub.cons rfl rfl (Sub.cons rfl rfl (Sub.nil _)))))
                  ·
                    refine T_exit ?_
                    refine hK42 _ _ ?_
                    refine T_seq fun K47 hK47 => ?_
                    refine T_region ?_
                    refine L_y (y_move rfl) rfl ?_
                    refine L_y (y_assign rfl) rfl ?_
                    refine L_nil ?_
                    refine hK47 _ _ ?_
                    refine T_ret ?_
                    repeat (first | with_reducible refine up_then ?_ | with_reducible refine up_in ?_)
                    refine ret1 rfl rfl ?_
                    have hje : j = t := by omega
                    subst hje
                    refine ⟨_, rfl, S50.like0, _, _, _, rfl, ?_⟩
                    have hown := S50.own 0 rfl
                    rw [← hDE] at hown ⊢
                    exact hown


theorem rpd : ∀ N, RD N
  | 0 => fun _ _ _ _ _ _ _ _ _ _ _ _ _ h => absurd h (Nat.not_lt_zero _)
  | N + 1 => fun A B n ca m cb la lb w0 ha hb hn9 hm9 hN => rpd_step (rpd N) A B n ca m cb la lb w0 ha hb hn9 hm9 hN
end Go.Proofs.Ytbbmkgpgiacdeaa

/-
  The laws PatienceOnce, PatienceChains.
-/
namespace Go.Proofs.Ytbbmkgpgiacdeaa
open Go.RowKit Zk Zx
set_option linter.unusedVariables false
set_option linter.unusedSimpArgs false

theorem once_works : once [1, 2, 1] [1, 1, 2] = [(1, 2)] := by decide +kernel
theorem DP_works : DP KM [1, 2, 1] [1, 1, 2] = [(0, 0), (1, 2)] := by decide +kernel
theorem wfa : ∀ x ∈ ([1, 2, 1] : List Int), I64 x := fun x hx => by
  simp only [List.mem_cons, List.not_mem_nil, or_false] at hx
  rcases hx with rfl | rfl | rfl <;> rfl
theorem wfb : ∀ x ∈ ([1, 1, 2] : List Int), I64 x := fun x hx => by
  simp only [List.mem_cons, List.not_mem_nil, or_false] at hx
  rcases hx with rfl | rfl | rfl <;> rfl


set_option maxRecDepth 100000 in
theorem works23  (w0 : World)  :
    Calls Try.prog 24 #[] w0 fun e w' => ∃ u, e = .returned u ∧ Like w0 w' ∧ u = .bool true := by
  refine enter1 (env := []) [] Try.func24 rfl Try.ntmps24 rfl rfl ?_
  have S0 := St.start w0 noM
  refine T_seq fun K1 hK1 => ?_
  refine T_region ?_
  refine L_y (y_assign rfl) rfl ?_
  refine L_nil ?_
  refine hK1 _ _ ?_
  refine T_seq fun K2 hK2 => ?_
  refine T_region ?_
  refine L_o (o_bsl [_, _, _] te22 zz3 S0 rfl rfl rfl rfl rfl rfl rfl rfl fun b1 w1 S1 => ?_)
  refine L_o (o_bsl [_, _, _] te22 zz3 S1 rfl rfl rfl rfl rfl rfl rfl rfl fun b2 w2 S2 => ?_)
  refine L_o (o_call Try.func25 rfl rfl (ponce _ _ _ _ _ _ [1, 2, 1] [1, 1, 2] w2 (S2.row 0 rfl) (S2.row 1 rfl) wfa wfb (by omega)) rfl rfl ?_)
  rintro e3 w3 ⟨v3, rfl, l3, AR, mR, cR, rfl, O3⟩
  refine ⟨_, rfl, ?_⟩
  have S3 := S2.adopt l3 O3
  have hmR := pf_n (S3.row 2 rfl)
  rw [once_works] at hmR
  have hmR2 : mR = 1 := hmR
  subst hmR2
  refine L_y (y_assign rfl) rfl ?_
  refine L_nil ?_
  refine hK2 _ _ ?_
  refine T_seq fun K3 hK3 => ?_
  refine T_region ?_
  refine L_o (o_bsl [_, _, _] te22 zz3 S3 rfl rfl rfl rfl rfl rfl rfl rfl fun b4 w4 S4 => ?_)
  refine L_o (o_bsl [_, _, _] te22 zz3 S4 rfl rfl rfl rfl rfl rfl rfl rfl fun b5 w5 S5 => ?_)
  refine L_o (o_call Try.func29 rfl rfl (pdiff _ _ _ _ _ _ [1, 2, 1] [1, 1, 2] w5 (S5.row 3 rfl) (S5.row 4 rfl) wfa wfb (by omega) (by omega)) rfl rfl ?_)
  rintro e6 w6 ⟨v6, rfl, l6, AQ, mQ, cQ, rfl, O6⟩
  refine ⟨_, rfl, ?_⟩
  have S6 := S5.adopt l6 O6
  have hmQ := pf_n (S6.row 5 rfl)
  rw [DP_works] at hmQ
  have hmQ2 : mQ = 2 := hmQ
  subst hmQ2
  refine L_y (y_move rfl) rfl ?_
  refine L_y (y_extract rfl rfl) rfl ?_
  refine L_y (y_extract rfl rfl) rfl ?_
  refine L_y (y_assign rfl) rfl ?_
  refine L_y (y_assign rfl) rfl ?_
  refine L_nil ?_
  refine hK3 _ _ ?_
  refine T_seq fun K4 hK4 => ?_
  refine T_region ?_
  refine L_y (y_move rfl) rfl ?_
  refine L_y (y_len Try.underlying25 rfl) rfl ?_
  refine L_y (y_eql rfl rfl) rfl ?_
  refine L_y (y_move rfl) rfl ?_
  refine L_split 16 rfl (fun h16 => ?_) (fun h16 => ?_)
  ·
    refine L_gyes rfl rfl ?_
    refine L_y (y_move rfl) rfl ?_
    refine L_gyes rfl rfl ?_
    refine L_y (y_idx Try.underlying25 sz34 rfl rfl (S6.row 2 rfl) inferInstance (by omega)) rfl ?_
    refine L_gyes rfl rfl ?_
    refine L_y (y_ldp (f := pf) (fun _ => rfl) Try.underlying34 rfl sz34 rfl (S6.row 2 rfl) (by omega) (by rw [once_works]; rfl : _ = some (1, 2))) rfl ?_
    refine L_gyes rfl rfl ?_
    refine L_y (y_build rfl (show _ = some #[Value.int .i64 1, Value.int .i64 2] by kernel_rfl)) rfl ?_
    refine L_gyes rfl rfl ?_
    refine L_y (y_eqI (xs := [1, 2]) (ys := [1, 2]) Try.underlying34 (by kernel_rfl) (by kernel_rfl) fieldsPair rfl rfl rfl rfl) rfl ?_
    refine L_y ((by first | exact y_pickT rfl rfl | exact y_pickF rfl rfl)) rfl ?_
    refine L_y (y_move rfl) rfl ?_
    refine L_split 23 rfl (fun h23 => ?_) (fun h23 => ?_)
    ·
      refine L_gyes rfl rfl ?_
      refine L_y (y_move rfl) rfl ?_
      refine L_gyes rfl rfl ?_
      refine L_y (y_eql rfl rfl) rfl ?_
      refine L_y ((by first | exact y_pickT rfl rfl | exact y_pickF rfl rfl)) rfl ?_
      refine L_y (y_move rfl) rfl ?_
      refine L_split 27 rfl (fun h27 => ?_) (fun h27 => ?_)
      ·
        refine L_gyes rfl rfl ?_
        refine L_y (y_move rfl) rfl ?_
        refine L_gyes rfl rfl ?_
        refine L_y (y_len Try.underlying25 rfl) rfl ?_
        refine L_gyes rfl rfl ?_
        refine L_y (y_eql rfl rfl) rfl ?_
        refine L_y ((by first | exact y_pickT rfl rfl | exact y_pickF rfl rfl)) rfl ?_
        refine L_y (y_move rfl) rfl ?_
        refine L_split 32 rfl (fun h32 => ?_) (fun h32 => ?_)
        ·
          refine L_gyes rfl rfl ?_
          refine L_y (y_move rfl) rfl ?_
          refine L_gyes rfl rfl ?_
          refine L_y (y_idx Try.underlying25 sz34 rfl rfl (S6.row 5 rfl) inferInstance (by omega)) rfl ?_
          refine L_gyes rfl rfl ?_
          refine L_y (y_ldp (f := pf) (fun _ => rfl) Try.underlying34 rfl sz34 rfl (S6.row 5 rfl) (by omega) (by rw [DP_works]; rfl : _ = some (0, 0))) rfl ?_
          refine L_gyes rfl rfl ?_
          refine L_y (y_build rfl (show _ = some #[Value.int .i64 0, Value.int .i64 0] by kernel_rfl)) rfl ?_
          refine L_gyes rfl rfl ?_
          refine L_y (y_eqI (xs := [0, 0]) (ys := [0, 0]) Try.underlying34 (by kernel_rfl) (by kernel_rfl) fieldsPair rfl rfl rfl rfl) rfl ?_
          refine L_y ((by first | exact y_pickT rfl rfl | exact y_pickF rfl rfl)) rfl ?_
          refine L_y (y_assign rfl) rfl ?_
          refine L_nil ?_
          refine hK4 _ _ ?_
          refine T_ret ?_
          repeat (first | with_reducible refine up_then ?_ | with_reducible refine up_in ?_)
          refine ret1 rfl rfl ?_
          exact ⟨_, rfl, S6.like0, rfl⟩
        ·
          exact absurd rfl h32
      ·
        exact absurd rfl h27
    ·
      exact absurd rfl h23
  ·
    exact absurd rfl h16


set_option maxRecDepth 100000 in
theorem long23 (A B : Option Addr) (n ca m cb : Nat) (w0 : World)  :
    Calls Try.prog 23 #[.slice A n ca, .slice B m cb] w0 fun e w' => ∃ u, e = .returned u ∧ Like w0 w' ∧ u = .bool (decide (120 < n ∨ 120 < m)) := by
  refine enter1 (env := [(0, .slice A n ca), (1, .slice B m cb)]) [.slice A n ca, .slice B m cb] Try.func23 rfl Try.ntmps23 rfl rfl ?_
  have S0 := St.start w0 noM
  refine T_seq fun K1 hK1 => ?_
  refine T_region ?_
  refine L_y (y_assign rfl) rfl ?_
  refine L_nil ?_
  refine hK1 _ _ ?_
  refine T_seq fun K2 hK2 => ?_
  refine T_region ?_
  refine L_y (y_move rfl) rfl ?_
  refine L_y (y_len Try.underlying22 rfl) rfl ?_
  refine L_y (y_gtr rfl rfl) rfl ?_
  refine L_y (y_move rfl) rfl ?_
  refine L_split 8 rfl (fun h8 => ?_) (fun h8 => ?_)
  ·
    refine L_gno rfl rfl rfl ?_
    refine L_gno rfl rfl rfl ?_
    refine L_gno rfl rfl rfl ?_
    refine L_y ((by first | exact y_pickT rfl rfl | exact y_pickF rfl rfl)) rfl ?_
    refine L_y (y_assign rfl) rfl ?_
    refine L_nil ?_
    refine hK2 _ _ ?_
    refine T_ret ?_
    repeat (first | with_reducible refine up_then ?_ | with_reducible refine up_in ?_)
    refine ret1 rfl rfl ?_
    exact ⟨_, rfl, S0.like0, congrArg Value.bool (by first | exact (decide_eq_true (by omega)).symm | exact decide_eq_decide.2 (by omega))⟩
  ·
    refine L_gyes rfl rfl ?_
    refine L_y (y_move rfl) rfl ?_
    refine L_gyes rfl rfl ?_
    refine L_y (y_len Try.underlying22 rfl) rfl ?_
    refine L_gyes rfl rfl ?_
    refine L_y (y_gtr rfl rfl) rfl ?_
    refine L_y ((by first | exact y_pickT rfl rfl | exact y_pickF rfl rfl)) rfl ?_
    refine L_y (y_assign rfl) rfl ?_
    refine L_nil ?_
    refine hK2 _ _ ?_
    refine T_ret ?_
    repeat (first | with_reducible refine up_then ?_ | with_reducible refine up_in ?_)
    refine ret1 rfl rfl ?_
    exact ⟨_, rfl, S0.like0, congrArg Value.bool (by first | exact (decide_eq_true (by omega)).symm | exact decide_eq_decide.2 (by omega))⟩


set_option maxRecDepth 100000 in
theorem ponces (A B : Option Addr) (n ca m cb : Nat) (la lb : List Int) (w0 : World) (ha : Rs w0 1 A n ca (iL la)) (hb : Rs w0 1 B m cb (iL lb)) (hwa : ∀ x ∈ la, I64 x) (hwb : ∀ x ∈ lb, I64 x) :
    Calls Try.prog 7 #[.slice A n ca, .slice B m cb] w0 fun e w' => ∃ u, e = .returned u ∧ Like w0 w' ∧ u = .bool true := by
  refine enter1 (env := [(0, .slice A n ca), (1, .slice B m cb)]) [.slice A n ca, .slice B m cb] Try.func7 rfl Try.ntmps7 rfl rfl ?_
  have hla := lenI ha; have hlb := lenI hb; have hcap := ha.cap; have hmax := ha.max; have hcap2 := hb.cap; have hmax2 := hb.max; have S0 := St.start w0 noM
  refine T_seq fun K1 hK1 => ?_
  refine T_region ?_
  refine L_y (y_assign rfl) rfl ?_
  refine L_nil ?_
  refine hK1 _ _ ?_
  refine T_seq fun K2 hK2 => ?_
  refine T_seq fun K3 hK3 => ?_
  refine T_region ?_
  refine L_y (y_move rfl) rfl ?_
  refine L_y (y_move rfl) rfl ?_
  refine L_o (o_call Try.func23 rfl rfl (long23 A B n ca m cb w0) rfl rfl ?_)
  rintro e1 w1 ⟨v1, rfl, l1, rfl⟩
  refine ⟨_, rfl, ?_⟩
  have S1 := S0.like l1
  refine L_nil ?_
  refine hK3 _ _ ?_
  refine T_condB rfl (fun h7 => ?_) (fun h7 => ?_)
  ·
    refine T_seq fun K4 hK4 => ?_
    refine T_region ?_
    refine L_o (o_call Try.func24 rfl rfl (works23 w1) rfl rfl ?_)
    rintro e2 w2 ⟨v2, rfl, l2, rfl⟩
    refine ⟨_, rfl, ?_⟩
    have S2 := S1.like l2
    refine L_y (y_assign rfl) rfl ?_
    refine L_nil ?_
    refine hK4 _ _ ?_
    refine T_ret ?_
    repeat (first | with_reducible refine up_then ?_ | with_reducible refine up_in ?_)
    refine ret1 rfl rfl ?_
    exact ⟨_, rfl, S2.like0, rfl⟩
  ·
    have hl9 := of_decide_eq_false h7
    refine T_skip ?_
    refine hK2 _ _ ?_
    refine T_seq fun K5 hK5 => ?_
    refine T_region ?_
    refine L_y (y_move rfl) rfl ?_
    refine L_y (y_move rfl) rfl ?_
    refine L_o (o_call Try.func25 rfl rfl (ponce A B n ca m cb la lb w1 (S1.rd ha) (S1.rd hb) hwa hwb (by omega)) rfl rfl ?_)
    rintro e3 w3 ⟨v3, rfl, l3, AR, mR, cR, rfl, O3⟩
    refine ⟨_, rfl, ?_⟩
    have S3 := S1.adopt l3 O3
    refine L_y (y_move rfl) rfl ?_
    refine L_y (y_move rfl) rfl ?_
    refine L_o (o_call Try.func26 rfl rfl (ronce A B n ca m cb la lb w3 (S3.rd ha) (S3.rd hb) (by omega) (by omega)) rfl rfl ?_)
    rintro e4 w4 ⟨v4, rfl, l4, AQ, mQ, cQ, rfl, O4⟩
    refine ⟨_, rfl, ?_⟩
    have S4 := S3.adopt l4 O4
    refine L_o (o_call Try.func14 rfl rfl (rsame AR AQ mR cR mQ cQ (once la lb) w4 (S4.row 0 rfl) (S4.row 1 rfl)) rfl rfl ?_)
    rintro e5 w5 ⟨v5, rfl, l5, rfl⟩
    refine ⟨_, rfl, ?_⟩
    have S5 := S4.like l5
    refine L_y (y_move rfl) rfl ?_
    refine L_gyes rfl rfl ?_
    refine L_o (o_call Try.func24 rfl rfl (works23 w5) rfl rfl ?_)
    rintro e6 w6 ⟨v6, rfl, l6, rfl⟩
    refine ⟨_, rfl, ?_⟩
    have S6 := S5.like l6
    refine L_y ((by first | exact y_pickT rfl rfl | exact y_pickF rfl rfl)) rfl ?_
    refine L_y (y_assign rfl) rfl ?_
    refine L_nil ?_
    refine hK5 _ _ ?_
    refine T_ret ?_
    repeat (first | with_reducible refine up_then ?_ | with_reducible refine up_in ?_)
    refine ret1 rfl rfl ?_
    exact ⟨_, rfl, S6.like0, rfl⟩


theorem ponces_law (A B : Option Addr) (n ca m cb : Nat) (la lb : List Int) (w0 : World) (ha : Rs w0 1 A n ca (iL la)) (hb : Rs w0 1 B m cb (iL lb)) (hwa : ∀ x ∈ la, I64 x) (hwb : ∀ x ∈ lb, I64 x) :
    Calls Try.prog 7 #[.slice A n ca, .slice B m cb] w0 fun e w' => e = .returned (.bool true) ∧ Below w0.heap.size w0 w' :=
  (ponces A B n ca m cb la lb w0 ha hb hwa hwb).mono fun e w' ⟨u, h1, h2, h3⟩ => by subst h3; exact ⟨h1, h2⟩


set_option maxRecDepth 100000 in
theorem rsameI (A B : Option Addr) (n c m d : Nat) (xs : List PI) (w0 : World) (hx : Rs w0 2 A n c (xs.flatMap pI)) (hy : Rs w0 2 B m d (xs.flatMap pI)) :
    Calls Try.prog 14 #[.slice A n c, .slice B m d] w0 fun e w' => ∃ u, e = .returned u ∧ Like w0 w' ∧ u = .bool true := by
  refine enter1 (env := [(0, .slice A n c), (1, .slice B m d)]) [.slice A n c, .slice B m d] Try.func14 rfl Try.ntmps14 rfl rfl ?_
  have hn := pI_n hx; have hm := pI_n hy; have hcap := hx.cap; have hmax := hx.max; have S0 := St.start w0 noM
  refine T_seq fun K1 hK1 => ?_
  refine T_region ?_
  refine L_y (y_assign rfl) rfl ?_
  refine L_nil ?_
  refine hK1 _ _ ?_
  refine T_seq fun K2 hK2 => ?_
  refine T_seq fun K3 hK3 => ?_
  refine T_region ?_
  refine L_y (y_move rfl) rfl ?_
  refine L_y (y_len Try.underlying25 rfl) rfl ?_
  refine L_y (y_move rfl) rfl ?_
  refine L_y (y_len Try.underlying25 rfl) rfl ?_
  refine L_y (y_neq rfl rfl) rfl ?_
  refine L_nil ?_
  refine hK3 _ _ ?_
  refine T_cond rfl (fun h10 => ?_) (fun h10 => ?_)
  ·
    exact absurd h10 (by omega)
  ·
    refine T_skip ?_
    refine hK2 _ _ ?_
    refine T_seq fun K4 hK4 => ?_
    refine T_seq fun K5 hK5 => ?_
    refine T_region ?_
    refine L_y (y_assign rfl) rfl ?_
    refine L_nil ?_
    refine hK5 _ _ ?_
    refine T_block ?_
    refine T_loop1 [(0, _), (1, _)] (fun (k : Nat) => [(5, .int .i64 (k : Int))]) (fun (k : Nat) => n - k) (fun (k : Nat) (w : World) => k ≤ n ∧ St w0 noM [] w) 0 (Sub.cons rfl (by first | rfl | exact congrArg (Value.int _) (by omega)) (Sub.nil _)) (Sub.cons rfl rfl (Sub.cons rfl rfl (Sub.nil _))) ?_ ?_
    ·
      exact ⟨Nat.zero_le _, S0⟩
    ·
      intro k w1 hrel
      obtain ⟨hk, S1⟩ := hrel
      refine T_seq fun K6 hK6 => ?_
      refine T_seq fun K7 hK7 => ?_
      refine T_region ?_
      refine L_y (y_move rfl) rfl ?_
      refine L_y (y_move rfl) rfl ?_
      refine L_y (y_len Try.underlying25 rfl) rfl ?_
      refine L_y (y_lss rfl rfl) rfl ?_
      refine L_nil ?_
      refine hK7 _ _ ?_
      refine T_cond rfl (fun h14 => ?_) (fun h14 => ?_)
      ·
        obtain ⟨p, hp⟩ : ∃ p, xs[k]? = some p := ⟨_, List.getElem?_eq_getElem (by omega)⟩
        refine T_skip ?_
        refine hK6 _ _ ?_
        refine T_seq fun K8 hK8 => ?_
        refine T_block ?_
        refine T_seq fun K9 hK9 => ?_
        refine T_drawnL [(0, true), (1, true), (2, true), (3, true), (4, true), (5, true), (6, true), (7, true), (8, true)] hmix (by kernel_rfl) fun w2 l2 => ?_
        have S2 := S1.like l2
        refine DL_y rfl (y_move rfl) rfl ?_
        refine DL_y rfl (y_move rfl) rfl ?_
        refine DL_y rfl (y_idx Try.underlying25 sz34 rfl rfl (S2.rd hx) inferInstance (by omega)) rfl ?_
        refine DL_y rfl (y_ldp (f := pI) pI_len Try.underlying34 rfl sz34 rfl (S2.rd hx) (by omega) hp) rfl ?_
        refine DL_y rfl (y_move rfl) rfl ?_
        refine DL_y rfl (y_move rfl) rfl ?_
        refine DL_y rfl (y_idx Try.underlying25 sz34 rfl rfl (S2.rd hy) inferInstance (by omega)) rfl ?_
        refine DL_y rfl (y_ldp (f := pI) pI_len Try.underlying34 rfl sz34 rfl (S2.rd hy) (by omega) hp) rfl ?_
        refine DL_y rfl (y_neI (xs := [p.1, p.2]) (ys := [p.1, p.2]) Try.underlying34 (by kernel_rfl) (by kernel_rfl) fieldsPair rfl rfl rfl rfl) rfl ?_
        refine DL_nil ?_
        refine hK9 _ _ ?_
        refine T_cond rfl (fun h25 => ?_) (fun h25 => ?_)
        ·
          exact absurd rfl h25
        ·
          refine T_skip ?_
          refine hK8 _ _ ?_
          refine T_region ?_
          refine L_y (y_move rfl) rfl ?_
          refine L_y (y_add rfl rfl (i64w (by omega))) rfl ?_
          refine L_y (y_assign rfl) rfl ?_
          refine L_nil ?_
          refine ⟨k + 1, by omega, ⟨by omega, S2⟩, ?_⟩
          exact (Sub.cons rfl (by first | rfl | exact congrArg (Value.int _) (by omega)) (Sub.cons rfl rfl (Sub.cons rfl rfl (Sub.nil _))))
      ·
        refine T_exit ?_
        refine hK4 _ _ ?_
        refine T_seq fun K10 hK10 => ?_
        refine T_region ?_
        refine L_y (y_assign rfl) rfl ?_
        refine L_nil ?_
        refine hK10 _ _ ?_
        refine T_ret ?_
        repeat (first | with_reducible refine up_then ?_ | with_reducible refine up_in ?_)
        refine ret1 rfl rfl ?_
        exact ⟨_, rfl, S1.like0, rfl⟩


set_option maxRecDepth 100000 in
theorem pchains (A : Option Addr) (n ca : Nat) (l : List PI) (w0 : World) (hl : Rs w0 2 A n ca (l.flatMap pI)) :
    Calls Try.prog 8 #[.slice A n ca] w0 fun e w' => ∃ u, e = .returned u ∧ Like w0 w' ∧ u = .bool true := by
  refine enter1 (env := [(0, .slice A n ca)]) [.slice A n ca] Try.func8 rfl Try.ntmps8 rfl rfl ?_
  have hln := pI_n hl; have hcap := hl.cap; have hmax := hl.max; have S0 := St.start w0 noM
  refine T_seq fun K1 hK1 => ?_
  refine T_region ?_
  refine L_y (y_assign rfl) rfl ?_
  refine L_nil ?_
  refine hK1 _ _ ?_
  refine T_seq fun K2 hK2 => ?_
  refine T_seq fun K3 hK3 => ?_
  refine T_region ?_
  refine L_y (y_move rfl) rfl ?_
  refine L_y (y_len Try.underlying25 rfl) rfl ?_
  refine L_y (y_gtr rfl rfl) rfl ?_
  refine L_nil ?_
  refine hK3 _ _ ?_
  refine T_cond rfl (fun h6 => ?_) (fun h6 => ?_)
  ·
    refine T_seq fun K4 hK4 => ?_
    refine T_region ?_
    refine L_o (o_call Try.func24 rfl rfl (works23 w0) rfl rfl ?_)
    rintro e1 w1 ⟨v1, rfl, l1, rfl⟩
    refine ⟨_, rfl, ?_⟩
    have S1 := S0.like l1
    refine L_y (y_assign rfl) rfl ?_
    refine L_nil ?_
    refine hK4 _ _ ?_
    refine T_ret ?_
    repeat (first | with_reducible refine up_then ?_ | with_reducible refine up_in ?_)
    refine ret1 rfl rfl ?_
    exact ⟨_, rfl, S1.like0, rfl⟩
  ·
    refine T_skip ?_
    refine hK2 _ _ ?_
    refine T_seq fun K5 hK5 => ?_
    refine T_region ?_
    refine L_o (o_bsl0 te25 S0 rfl fun b2 w2 l2 S2 => ?_)
    refine L_y (y_move rfl) rfl ?_
    refine L_o (o_app te25 S2 0 rfl rfl rfl (S2.rd hl) (pI_one l) rfl (by omega) (by omega) fun A3 c3 w3 S3 => ?_)
    refine L_y (y_assign rfl) rfl ?_
    refine L_nil ?_
    refine hK5 _ _ ?_
    refine T_seq fun K6 hK6 => ?_
    refine T_region ?_
    refine L_y (y_move rfl) rfl ?_
    refine L_o (o_call Try.func27 rfl rfl (pchain _ _ _ l w3 (S3.row 0 rfl) (by omega)) rfl rfl ?_)
    rintro e4 w4 ⟨v4, rfl, l4, AR, mR, cR, rfl, O4⟩
    refine ⟨_, rfl, ?_⟩
    have S4 := S3.adopt l4 O4
    refine L_y (y_move rfl) rfl ?_
    refine L_o (o_call Try.func28 rfl rfl (rchain A n ca l w4 (S4.rd hl) (by omega)) rfl rfl ?_)
    rintro e5 w5 ⟨v5, rfl, l5, AQ, mQ, cQ, rfl, O5⟩
    refine ⟨_, rfl, ?_⟩
    have S5 := S4.adopt l5 O5
    refine L_o (o_call Try.func14 rfl rfl (rsameI AR AQ mR cR mQ cQ (chain l) w5 (S5.row 1 rfl) (S5.row 2 rfl)) rfl rfl ?_)
    rintro e6 w6 ⟨v6, rfl, l6, rfl⟩
    refine ⟨_, rfl, ?_⟩
    have S6 := S5.like l6
    refine L_y (y_move rfl) rfl ?_
    refine L_gyes rfl rfl ?_
    refine L_y (y_move rfl) rfl ?_
    refine L_gyes rfl rfl ?_
    refine L_y (y_move rfl) rfl ?_
    refine L_gyes rfl rfl ?_
    refine L_o (o_call Try.func14 rfl rfl (rsameI _ _ _ _ _ _ l w6 (S6.row 0 rfl) (S6.rd hl)) rfl rfl ?_)
    rintro e7 w7 ⟨v7, rfl, l7, rfl⟩
    refine ⟨_, rfl, ?_⟩
    have S7 := S6.like l7
    refine L_y ((by first | exact y_pickT rfl rfl | exact y_pickF rfl rfl)) rfl ?_
    refine L_y (y_move rfl) rfl ?_
    refine L_gyes rfl rfl ?_
    refine L_o (o_call Try.func24 rfl rfl (works23 w7) rfl rfl ?_)
    rintro e8 w8 ⟨v8, rfl, l8, rfl⟩
    refine ⟨_, rfl, ?_⟩
    have S8 := S7.like l8
    refine L_y ((by first | exact y_pickT rfl rfl | exact y_pickF rfl rfl)) rfl ?_
    refine L_y (y_assign rfl) rfl ?_
    refine L_nil ?_
    refine hK6 _ _ ?_
    refine T_ret ?_
    repeat (first | with_reducible refine up_then ?_ | with_reducible refine up_in ?_)
    refine ret1 rfl rfl ?_
    exact ⟨_, rfl, S8.like0, rfl⟩


theorem pchains_law (A : Option Addr) (n ca : Nat) (l : List PI) (w0 : World) (hl : Rs w0 2 A n ca (l.flatMap pI)) :
    Calls Try.prog 8 #[.slice A n ca] w0 fun e w' => e = .returned (.bool true) ∧ Below w0.heap.size w0 w' :=
  (pchains A n ca l w0 hl).mono fun e w' ⟨u, h1, h2, h3⟩ => by subst h3; exact ⟨h1, h2⟩
section
open Go.ChangeShapes Go.WideShapes Go.ChangeAt Go.Deep
variable {H : Type} {enc : TypeId × Value → H} {w : World} {base : Nat} {spare : Nat → Bool} {held : Bool}
set_option maxRecDepth 100000 in
theorem read_pair {fuel : Nat} {cs : List Value} {x : DataW H × List MemPlace} (hlen : cs.length = 2) (h : DataW.trod enc Try.prog w base spare held fuel 34 cs = some x) : ∃ p : PI, cs = pI p ∧ True := by
  obtain ⟨xs, n, _, hx, hl, hlen2, hg⟩ := DataW.trod_struct Try.underlying34 h
  have e0 := hg 0 _ rfl
  have e1 := hg 1 _ rfl
  change DataW.trod enc Try.prog w base spare held n 3 ((cs.drop 0).take (Try.prog.cellsOf 3)) = _ at e0
  change DataW.trod enc Try.prog w base spare held n 3 ((cs.drop 1).take (Try.prog.cellsOf 3)) = _ at e1
  have c3 : Try.prog.cellsOf 3 = 1 := by kernel_rfl
  rw [c3] at e0 e1
  have hxl : xs.length = 2 := hlen2
  match cs, hlen, xs, hxl with
  | [v0, v1], _, [y0, y1], _ =>
    have e0 : DataW.trod enc Try.prog w base spare held n 3 [v0] = some y0 := e0
    have e1 : DataW.trod enc Try.prog w base spare held n 3 [v1] = some y1 := e1
    obtain ⟨i0, hi0, _, _⟩ := DataW.trod_int Try.underlying3 e0
    obtain ⟨i1, hi1, _, _⟩ := DataW.trod_int Try.underlying3 e1
    cases hi0
    cases hi1
    exact ⟨(i0, i1), rfl, trivial⟩
set_option maxRecDepth 100000 in
theorem open_pairs {r : Reach} {b0 : Nat} {v : Value} {d : DataW H} {p : List MemPlace} (hv : Value.okWide Try.prog w r b0 25 v) (h : DataW.Trod enc Try.prog w base spare held 25 v d p) : ∃ A n c, ∃ l : List PI, v = .slice A n c ∧ Rs w 2 A n c (l.flatMap pI) := by
  obtain ⟨fuel, hf⟩ := h
  obtain ⟨A, n, c, l, h1, h2, _⟩ := read_rowN pI (fun _ => True) 2 Try.underlying25 (by kernel_rfl) (by decide) pI_len (fun k cs x hl hx => read_pair hl hx) hf
  exact ⟨A, n, c, l, slice_of_cells Try.underlying25 hv h1, h2⟩
end
end Go.Proofs.Ytbbmkgpgiacdeaa

/-
  The laws PatienceDiffs, PatienceKeeps.
-/
namespace Go.Proofs.Ytbbmkgpgiacdeaa
open Go.RowKit Zk Zx
set_option linter.unusedVariables false
set_option linter.unusedSimpArgs false

theorem remq (q : Nat) : (q : Int).tmod 1000 = ((q % 1000 : Nat) : Int) := by
  rw [Int.tmod_eq_emod_of_nonneg (by omega)]
  omega
theorem iL_app (l m : List Int) : iL l ++ iL m = iL (l ++ m) := by simp [iL]
theorem iL_zer (n : Nat) : List.replicate n (Value.int .i64 0) = iL (List.replicate n 0) := by simp [iL]
theorem I64_zer {n : Nat} {la : List Int} (h : ∀ x ∈ la, I64 x) : ∀ x ∈ List.replicate n (0 : Int) ++ la, I64 x := fun x hx => by
  rcases List.mem_append.1 hx with hx | hx
  · rw [(List.mem_replicate.1 hx).2]
    rfl
  · exact h x hx
theorem DP_pre_len (K : List Int → List Int → List (Nat × Nat)) (a b : List Int) : pre a b ≤ (DP K a b).length := by
  rw [DP_eq, List.length_append, List.length_append, dg_len]
  omega
theorem DP_zer (s : Nat) (la lb : List Int) : s ≤ (DP KM (List.replicate s 0 ++ la) (List.replicate s 0 ++ lb)).length := by
  refine Nat.le_trans (le_pre _ _ s fun k hk => ⟨0, ?_, ?_⟩) (DP_pre_len KM _ _)
  · rw [List.getElem?_append_left (by simpa using hk), List.getElem?_replicate_of_lt hk]
  · rw [List.getElem?_append_left (by simpa using hk), List.getElem?_replicate_of_lt hk]
theorem pdiffU (A B : Option Addr) (n ca m cb : Nat) (la lb : List Int) (w0 : World) (ha : Rs w0 1 A n ca (iL la)) (hb : Rs w0 1 B m cb (iL lb)) (hwa : ∀ x ∈ la, I64 x) (hwb : ∀ x ∈ lb, I64 x) :
    Calls Try.prog 29 #[.slice A n ca, .slice B m cb] w0 fun e w' => ∃ u, e = .returned u ∧ Like w0 w' ∧ ∃ (A : Option Addr) (k c : Nat) (x : Int), u = .tuple #[.slice A k c, .int .i64 x] ∧ ((800 < n ∨ 800 < m) ∧ x = 3 ∧ k = 0 ∨ ¬ (800 < n ∨ 800 < m) ∧ x = 0 ∧ k = (DP KM la lb).length) := by
  by_cases h : 800 < n ∨ 800 < m
  · exact (pdiffL A B n ca m cb la lb w0 ha hb h).mono fun e w' ⟨u, h1, h2, h3⟩ => ⟨u, h1, h2, _, _, _, _, h3, .inl ⟨h, rfl, rfl⟩⟩
  · refine (pdiff A B n ca m cb la lb w0 ha hb hwa hwb (by omega) (by omega)).mono fun e w' ⟨u, h1, h2, A1, k, c, h3, h4⟩ => ⟨u, h1, h2, _, _, _, _, h3, .inr ⟨h, rfl, ?_⟩⟩
    have h5 := h4.1
    rw [pf_len] at h5
    omega
theorem segs_mem (D : List Int → List Int → List (Nat × Nat)) (x y : List Int) : ∀ (c : List (Nat × Nat)) (i k : Nat), ∀ p ∈ c, p ∈ segs D x y i k c
  | [], i, k, p, h => by cases h
  | q :: c, i, k, p, h => by
    rw [segs]
    rcases List.mem_cons.1 h with h | h
    · subst h
      exact List.mem_append_right _ List.mem_cons_self
    · exact List.mem_append_right _ (List.mem_cons_of_mem _ (segs_mem D x y c _ _ p h))
theorem DP_mem {K : List Int → List Int → List (Nat × Nat)} {a b : List Int} {f t : Nat} (hf : pre a b = f) (ht : suf a b = t) :
    (∀ k, k < f → (k, k) ∈ DP K a b) ∧ (∀ k, 1 ≤ k → k ≤ t → (a.length - k, b.length - k) ∈ DP K a b) ∧ ∀ p ∈ chainN (once (mid a f t) (mid b f t)), (f + p.1, f + p.2) ∈ DP K a b := by
  have hp := pre_le a b
  have hs := suf_le a b
  rw [DP_eq, hf, ht]
  rw [hf] at hp hs
  rw [ht] at hs
  refine ⟨fun k hk => List.mem_append_left _ (List.mem_append_left _ ?_), fun k h1 h2 => List.mem_append_right _ ?_, fun p hp2 => List.mem_append_left _ (List.mem_append_right _ ?_)⟩
  · exact List.mem_map.2 ⟨k, List.mem_range.2 hk, by rw [Nat.zero_add]⟩
  · exact List.mem_map.2 ⟨t - k, List.mem_range.2 (by omega), by congr 1 <;> omega⟩
  · refine List.mem_map.2 ⟨p, ?_, by rw [Nat.add_comm p.1, Nat.add_comm p.2]⟩
    have hm := once_mem _ _ _ p ((chainN_sub _).subset hp2)
    unfold core
    rw [if_neg (fun h => by
      rcases h with h | h
      · have h9 := hm.2.1
        rw [h] at h9
        cases h9
      · have h9 := hm.2.2.1
        rw [h] at h9
        cases h9), if_neg (fun h => by rw [h] at hp2; cases hp2)]
    exact segs_mem _ _ _ _ _ _ p hp2
/-- Each place's partner. -/
def Par (l : List (Nat × Nat)) (vs : List Int) (k : Nat) : Prop := ∀ (t : Nat) (p : Nat × Nat), t < k → l[t]? = some p → vs[p.1]? = some (p.2 : Int)
theorem Par.step {l : List (Nat × Nat)} {vs : List Int} {k : Nat} {p : Nat × Nat} (h : Par l vs k) (hp : l[k]? = some p) (ha : l.Pairwise fun p q => p.1 < q.1 ∧ p.2 < q.2) (hl : p.1 < vs.length) : Par l (vs.set p.1 (p.2 : Int)) (k + 1) := fun t q ht hq => by
  rcases Nat.lt_or_ge t k with h1 | h1
  · have h2 : q.1 < p.1 := by
      obtain ⟨h3, h4⟩ := List.getElem?_eq_some_iff.1 hp
      obtain ⟨h5, h6⟩ := List.getElem?_eq_some_iff.1 hq
      have := List.pairwise_iff_getElem.1 ha t k h5 h3 h1
      rw [h4, h6] at this
      exact this.1
    rw [List.getElem?_set_ne (by omega)]
    exact h t q h1 hq
  · obtain rfl : t = k := by omega
    rw [hp] at hq
    cases hq
    exact List.getElem?_set_self hl
theorem Par.at {l : List (Nat × Nat)} {vs : List Int} (h : Par l vs l.length) {i k : Nat} (hm : (i, k) ∈ l) : vs[i]? = some (k : Int) := by
  obtain ⟨t, ht⟩ := List.getElem?_of_mem hm
  exact h t (i, k) (List.getElem?_eq_some_iff.1 ht).1 ht


set_option maxRecDepth 100000 in
theorem pdiffs (A B : Option Addr) (n ca m cb : Nat) (la lb : List Int) (q : Nat) (w0 : World) (ha : Rs w0 1 A n ca (iL la)) (hb : Rs w0 1 B m cb (iL lb)) (hwa : ∀ x ∈ la, I64 x) (hwb : ∀ x ∈ lb, I64 x) (hq : q < 65536) :
    Calls Try.prog 9 #[.slice A n ca, .slice B m cb, .int .u16 (q : Int)] w0 fun e w' => ∃ u, e = .returned u ∧ Like w0 w' ∧ u = .bool true := by
  refine enter1 (env := [(0, .slice A n ca), (1, .slice B m cb), (2, .int .u16 (q : Int))]) [.slice A n ca, .slice B m cb, .int .u16 (q : Int)] Try.func9 rfl Try.ntmps9 rfl rfl ?_
  have hla := lenI ha; have hlb := lenI hb; have hcap := ha.cap; have hmax := ha.max; have hcap2 := hb.cap; have hmax2 := hb.max; have S0 := St.start w0 noM
  refine T_seq fun K1 hK1 => ?_
  refine T_region ?_
  refine L_y (y_assign rfl) rfl ?_
  refine L_nil ?_
  refine hK1 _ _ ?_
  refine T_seq fun K2 hK2 => ?_
  refine T_seq fun K3 hK3 => ?_
  refine T_region ?_
  refine L_y (y_move rfl) rfl ?_
  refine L_y (y_move rfl) rfl ?_
  refine L_o (o_call Try.func23 rfl rfl (long23 A B n ca m cb w0) rfl rfl ?_)
  rintro e1 w1 ⟨v1, rfl, l1, rfl⟩
  refine ⟨_, rfl, ?_⟩
  have S1 := S0.like l1
  refine L_nil ?_
  refine hK3 _ _ ?_
  refine T_condB rfl (fun h14 => ?_) (fun h14 => ?_)
  ·
    refine T_seq fun K4 hK4 => ?_
    refine T_region ?_
    refine L_o (o_call Try.func24 rfl rfl (works23 w1) rfl rfl ?_)
    rintro e2 w2 ⟨v2, rfl, l2, rfl⟩
    refine ⟨_, rfl, ?_⟩
    have S2 := S1.like l2
    refine L_y (y_assign rfl) rfl ?_
    refine L_nil ?_
    refine hK4 _ _ ?_
    refine T_ret ?_
    repeat (first | with_reducible refine up_then ?_ | with_reducible refine up_in ?_)
    refine ret1 rfl rfl ?_
    exact ⟨_, rfl, S2.like0, rfl⟩
  ·
    have hl9 := of_decide_eq_false h14
    refine T_skip ?_
    refine hK2 _ _ ?_
    refine T_seq fun K5 hK5 => ?_
    refine T_region ?_
    refine L_y (y_move rfl) rfl ?_
    refine L_y (y_move rfl) rfl ?_
    refine L_o (o_call Try.func29 rfl rfl (pdiff A B n ca m cb la lb w1 (S1.rd ha) (S1.rd hb) hwa hwb (by omega) (by omega)) rfl rfl ?_)
    rintro e3 w3 ⟨v3, rfl, l3, AR, mR, cR, rfl, O3⟩
    refine ⟨_, rfl, ?_⟩
    have S3 := S1.adopt l3 O3
    refine L_y (y_move rfl) rfl ?_
    refine L_y (y_extract rfl rfl) rfl ?_
    refine L_y (y_extract rfl rfl) rfl ?_
    refine L_y (y_assign rfl) rfl ?_
    refine L_y (y_assign rfl) rfl ?_
    refine L_nil ?_
    refine hK5 _ _ ?_
    refine T_seq fun K6 hK6 => ?_
    refine T_seq fun K7 hK7 => ?_
    refine T_region ?_
    refine L_y (y_move rfl) rfl ?_
    refine L_y (y_neq rfl rfl) rfl ?_
    refine L_y (y_move rfl) rfl ?_
    refine L_split 24 rfl (fun h24 => ?_) (fun h24 => ?_)
    ·
      exact absurd rfl h24
    ·
      refine L_gyes rfl rfl ?_
      refine L_y (y_move rfl) rfl ?_
      refine L_gyes rfl rfl ?_
      refine L_y (y_move rfl) rfl ?_
      refine L_gyes rfl rfl ?_
      refine L_y (y_move rfl) rfl ?_
      refine L_gyes rfl rfl ?_
      refine L_o (o_call Try.func30 rfl rfl (rpd (n + m + 1) A B n ca m cb la lb w3 (S3.rd ha) (S3.rd hb) (by omega) (by omega) (by omega)) rfl rfl ?_)
      rintro e5 w5 ⟨v5, rfl, l5, AQ, mQ, cQ, rfl, O5⟩
      refine ⟨_, rfl, ?_⟩
      have S5 := S3.adopt l5 O5
      refine L_gyes rfl rfl ?_
      refine L_o (o_call Try.func14 rfl rfl (rsame AR AQ mR cR mQ cQ (DP KM la lb) w5 (S5.row 0 rfl) (S5.row 1 rfl)) rfl rfl ?_)
      rintro e6 w6 ⟨v6, rfl, l6, rfl⟩
      refine ⟨_, rfl, ?_⟩
      have S6 := S5.like l6
      refine L_gyes rfl rfl ?_
      refine L_y ((by first | exact y_notD rfl | exact y_not rfl)) rfl ?_
      refine L_y ((by first | exact y_pickT rfl rfl | exact y_pickF rfl rfl)) rfl ?_
      refine L_nil ?_
      refine hK7 _ _ ?_
      refine T_false rfl ?_
      refine T_skip ?_
      refine hK6 _ _ ?_
      refine T_seq fun K8 hK8 => ?_
      refine T_region ?_
      refine L_y (y_move rfl) rfl ?_
      refine L_y (y_conv is48 Try.underlying3 rfl (i64w (by omega))) rfl ?_
      refine L_y (y_rem rfl rfl (by omega) (remq q)) rfl ?_
      refine L_o (o_make te22 rfl S6 rfl rfl inferInstance inferInstance rfl (by omega) (by omega) (by omega) fun b7 w7 S7 => ?_)
      refine L_y (y_assign rfl) rfl ?_
      refine L_nil ?_
      refine hK8 _ _ ?_
      refine T_seq fun K9 hK9 => ?_
      refine T_region ?_
      refine L_o (o_bsl0 te22 S7 rfl fun b8 w8 l8 S8 => ?_)
      refine L_y (y_move rfl) rfl ?_
      refine L_o (o_app te22 S8 3 rfl rfl rfl (S8.row 2 rfl) (by rw [iL_zer]; exact iL_one _) rfl (by omega) (by omega) fun A9 c9 w9 S9 => ?_)
      refine L_y (y_move rfl) rfl ?_
      refine L_o (o_app te22 S9 3 rfl rfl rfl (S9.rd ha) (iL_one _) rfl (by omega) (by omega) fun A10 c10 w10 S10 => ?_)
      refine L_o (o_bsl0 te22 S10 rfl fun b11 w11 l11 S11 => ?_)
      refine L_y (y_move rfl) rfl ?_
      refine L_o (o_app te22 S11 4 rfl rfl rfl (S11.row 2 rfl) (by rw [iL_zer]; exact iL_one _) rfl (by omega) (by omega) fun A12 c12 w12 S12 => ?_)
      refine L_y (y_move rfl) rfl ?_
      refine L_o (o_app te22 S12 4 rfl rfl rfl (S12.rd hb) (iL_one _) rfl (by omega) (by omega) fun A13 c13 w13 S13 => ?_)
      refine L_o (o_call Try.func29 rfl rfl (pdiffU _ _ _ _ _ _ (List.replicate (q % 1000) 0 ++ la) (List.replicate (q % 1000) 0 ++ lb) w13 (by rw [← iL_app, ← iL_zer]; exact S13.row 3 rfl) (by rw [← iL_app, ← iL_zer]; exact S13.row 4 rfl) (I64_zer hwa) (I64_zer hwb)) rfl rfl ?_)
      rintro e14 w14 ⟨v14, rfl, l14, A14, kR, c14, xR, rfl, hU⟩
      refine ⟨_, rfl, ?_⟩
      have S14 := S13.like l14
      have hz := DP_zer (q % 1000) la lb
      refine L_y (y_move rfl) rfl ?_
      refine L_y (y_extract rfl rfl) rfl ?_
      refine L_y (y_extract rfl rfl) rfl ?_
      refine L_y (y_assign rfl) rfl ?_
      refine L_y (y_assign rfl) rfl ?_
      refine L_nil ?_
      refine hK9 _ _ ?_
      refine T_seq fun K10 hK10 => ?_
      refine T_seq fun K11 hK11 => ?_
      refine T_region ?_
      refine L_y (y_move rfl) rfl ?_
      refine L_y (y_len Try.underlying22 rfl) rfl ?_
      refine L_y (y_move rfl) rfl ?_
      refine L_y (y_len Try.underlying22 rfl) rfl ?_
      refine L_y (y_add rfl rfl (i64w (by omega))) rfl ?_
      refine L_y (y_gtr rfl rfl) rfl ?_
      refine L_y (y_move rfl) rfl ?_
      refine L_split 56 rfl (fun h56 => ?_) (fun h56 => ?_)
      ·
        refine L_gno rfl rfl rfl ?_
        refine L_gno rfl rfl rfl ?_
        refine L_gno rfl rfl rfl ?_
        refine L_gno rfl rfl rfl ?_
        refine L_gno rfl rfl rfl ?_
        refine L_gno rfl rfl rfl ?_
        refine L_y ((by first | exact y_pickT rfl rfl | exact y_pickF rfl rfl)) rfl ?_
        refine L_nil ?_
        refine hK11 _ _ ?_
        refine T_true rfl ?_
        refine T_seq fun K12 hK12 => ?_
        refine T_region ?_
        refine L_y (y_move rfl) rfl ?_
        refine L_y (y_eql rfl rfl) rfl ?_
        refine L_y (y_move rfl) rfl ?_
        refine L_split 66 rfl (fun h66 => ?_) (fun h66 => ?_)
        ·
          refine L_gyes rfl rfl ?_
          refine L_y (y_move rfl) rfl ?_
          refine L_gyes rfl rfl ?_
          refine L_y (y_len Try.underlying25 rfl) rfl ?_
          refine L_gyes rfl rfl ?_
          refine L_y (y_eql rfl rfl) rfl ?_
          refine L_y ((by first | exact y_pickT rfl rfl | exact y_pickF rfl rfl)) rfl ?_
          refine L_y (y_move rfl) rfl ?_
          refine L_split 71 rfl (fun h71 => ?_) (fun h71 => ?_)
          ·
            refine L_gyes rfl rfl ?_
            refine L_o (o_call Try.func24 rfl rfl (works23 w14) rfl rfl ?_)
            rintro e18 w18 ⟨v18, rfl, l18, rfl⟩
            refine ⟨_, rfl, ?_⟩
            have S18 := S14.like l18
            refine L_y ((by first | exact y_pickT rfl rfl | exact y_pickF rfl rfl)) rfl ?_
            refine L_y (y_assign rfl) rfl ?_
            refine L_nil ?_
            refine hK12 _ _ ?_
            refine T_ret ?_
            repeat (first | with_reducible refine up_then ?_ | with_reducible refine up_in ?_)
            refine ret1 rfl rfl ?_
            exact ⟨_, rfl, S18.like0, rfl⟩
          ·
            exact absurd (by omega) h71
        ·
          exact absurd (by omega) h66
      ·
        refine L_gyes rfl rfl ?_
        refine L_y (y_move rfl) rfl ?_
        refine L_gyes rfl rfl ?_
        refine L_y (y_len Try.underlying22 rfl) rfl ?_
        refine L_gyes rfl rfl ?_
        refine L_y (y_move rfl) rfl ?_
        refine L_gyes rfl rfl ?_
        refine L_y (y_len Try.underlying22 rfl) rfl ?_
        refine L_gyes rfl rfl ?_
        refine L_y (y_add rfl rfl (i64w (by omega))) rfl ?_
        refine L_gyes rfl rfl ?_
        refine L_y (y_gtr rfl rfl) rfl ?_
        refine L_y ((by first | exact y_pickT rfl rfl | exact y_pickF rfl rfl)) rfl ?_
        refine L_nil ?_
        refine hK11 _ _ ?_
        refine T_cond rfl (fun h63 => ?_) (fun h63 => ?_)
        ·
          refine T_seq fun K13 hK13 => ?_
          refine T_region ?_
          refine L_y (y_move rfl) rfl ?_
          refine L_y (y_eql rfl rfl) rfl ?_
          refine L_y (y_move rfl) rfl ?_
          refine L_split 66 rfl (fun h66 => ?_) (fun h66 => ?_)
          ·
            refine L_gyes rfl rfl ?_
            refine L_y (y_move rfl) rfl ?_
            refine L_gyes rfl rfl ?_
            refine L_y (y_len Try.underlying25 rfl) rfl ?_
            refine L_gyes rfl rfl ?_
            refine L_y (y_eql rfl rfl) rfl ?_
            refine L_y ((by first | exact y_pickT rfl rfl | exact y_pickF rfl rfl)) rfl ?_
            refine L_y (y_move rfl) rfl ?_
            refine L_split 71 rfl (fun h71 => ?_) (fun h71 => ?_)
            ·
              refine L_gyes rfl rfl ?_
              refine L_o (o_call Try.func24 rfl rfl (works23 w14) rfl rfl ?_)
              rintro e21 w21 ⟨v21, rfl, l21, rfl⟩
              refine ⟨_, rfl, ?_⟩
              have S21 := S14.like l21
              refine L_y ((by first | exact y_pickT rfl rfl | exact y_pickF rfl rfl)) rfl ?_
              refine L_y (y_assign rfl) rfl ?_
              refine L_nil ?_
              refine hK13 _ _ ?_
              refine T_ret ?_
              repeat (first | with_reducible refine up_then ?_ | with_reducible refine up_in ?_)
              refine ret1 rfl rfl ?_
              exact ⟨_, rfl, S21.like0, rfl⟩
            ·
              exact absurd (by omega) h71
          ·
            exact absurd (by omega) h66
        ·
          refine T_skip ?_
          refine hK10 _ _ ?_
          refine T_seq fun K14 hK14 => ?_
          refine T_region ?_
          refine L_y (y_move rfl) rfl ?_
          refine L_y (y_eql rfl rfl) rfl ?_
          refine L_y (y_move rfl) rfl ?_
          refine L_split 76 rfl (fun h76 => ?_) (fun h76 => ?_)
          ·
            refine L_gyes rfl rfl ?_
            refine L_y (y_move rfl) rfl ?_
            refine L_gyes rfl rfl ?_
            refine L_y (y_len Try.underlying25 rfl) rfl ?_
            refine L_gyes rfl rfl ?_
            refine L_y (y_move rfl) rfl ?_
            refine L_gyes rfl rfl ?_
            refine L_y (y_len Try.underlying22 rfl) rfl ?_
            refine L_gyes rfl rfl ?_
            refine L_y (y_geq rfl rfl) rfl ?_
            refine L_y ((by first | exact y_pickT rfl rfl | exact y_pickF rfl rfl)) rfl ?_
            refine L_y (y_move rfl) rfl ?_
            refine L_split 83 rfl (fun h83 => ?_) (fun h83 => ?_)
            ·
              refine L_gyes rfl rfl ?_
              refine L_o (o_call Try.func24 rfl rfl (works23 w14) rfl rfl ?_)
              rintro e24 w24 ⟨v24, rfl, l24, rfl⟩
              refine ⟨_, rfl, ?_⟩
              have S24 := S14.like l24
              refine L_y ((by first | exact y_pickT rfl rfl | exact y_pickF rfl rfl)) rfl ?_
              refine L_y (y_assign rfl) rfl ?_
              refine L_nil ?_
              refine hK14 _ _ ?_
              refine T_ret ?_
              repeat (first | with_reducible refine up_then ?_ | with_reducible refine up_in ?_)
              refine ret1 rfl rfl ?_
              exact ⟨_, rfl, S24.like0, rfl⟩
            ·
              exact absurd (by omega) h83
          ·
            exact absurd (by omega) h76


set_option maxRecDepth 100000 in
set_option maxHeartbeats 1000000 in
theorem pkeeps (A B : Option Addr) (n ca m cb : Nat) (la lb : List Int) (w0 : World) (ha : Rs w0 1 A n ca (iL la)) (hb : Rs w0 1 B m cb (iL lb)) (hwa : ∀ x ∈ la, I64 x) (hwb : ∀ x ∈ lb, I64 x) :
    Calls Try.prog 10 #[.slice A n ca, .slice B m cb] w0 fun e w' => ∃ u, e = .returned u ∧ Like w0 w' ∧ u = .bool true := by
  refine enter1 (env := [(0, .slice A n ca), (1, .slice B m cb)]) [.slice A n ca, .slice B m cb] Try.func10 rfl Try.ntmps10 rfl rfl ?_
  have hla := lenI ha; have hlb := lenI hb; have hcap := ha.cap; have hmax := ha.max; have hcap2 := hb.cap; have hmax2 := hb.max; have S0 := St.start w0 noM
  refine T_seq fun K1 hK1 => ?_
  refine T_region ?_
  refine L_y (y_assign rfl) rfl ?_
  refine L_nil ?_
  refine hK1 _ _ ?_
  refine T_seq fun K2 hK2 => ?_
  refine T_seq fun K3 hK3 => ?_
  refine T_region ?_
  refine L_y (y_move rfl) rfl ?_
  refine L_y (y_move rfl) rfl ?_
  refine L_o (o_call Try.func23 rfl rfl (long23 A B n ca m cb w0) rfl rfl ?_)
  rintro e1 w1 ⟨v1, rfl, l1, rfl⟩
  refine ⟨_, rfl, ?_⟩
  have S1 := S0.like l1
  refine L_nil ?_
  refine hK3 _ _ ?_
  refine T_condB rfl (fun h18 => ?_) (fun h18 => ?_)
  ·
    refine T_seq fun K4 hK4 => ?_
    refine T_region ?_
    refine L_o (o_call Try.func24 rfl rfl (works23 w1) rfl rfl ?_)
    rintro e2 w2 ⟨v2, rfl, l2, rfl⟩
    refine ⟨_, rfl, ?_⟩
    have S2 := S1.like l2
    refine L_y (y_assign rfl) rfl ?_
    refine L_nil ?_
    refine hK4 _ _ ?_
    refine T_ret ?_
    repeat (first | with_reducible refine up_then ?_ | with_reducible refine up_in ?_)
    refine ret1 rfl rfl ?_
    exact ⟨_, rfl, S2.like0, rfl⟩
  ·
    have hl9 := of_decide_eq_false h18
    refine T_skip ?_
    refine hK2 _ _ ?_
    refine T_seq fun K5 hK5 => ?_
    refine T_region ?_
    refine L_y (y_move rfl) rfl ?_
    refine L_y (y_move rfl) rfl ?_
    refine L_o (o_call Try.func29 rfl rfl (pdiff A B n ca m cb la lb w1 (S1.rd ha) (S1.rd hb) hwa hwb (by omega) (by omega)) rfl rfl ?_)
    rintro e3 w3 ⟨v3, rfl, l3, AR, mR, cR, rfl, O3⟩
    refine ⟨_, rfl, ?_⟩
    have S3 := S1.adopt l3 O3
    have hmR := pf_n (S3.row 0 rfl)
    have hok := DP_ok KM_ok la lb
    have hDl := DPK_len la lb
    refine L_y (y_move rfl) rfl ?_
    refine L_y (y_extract rfl rfl) rfl ?_
    refine L_y (y_extract rfl rfl) rfl ?_
    refine L_y (y_assign rfl) rfl ?_
    refine L_y (y_assign rfl) rfl ?_
    refine L_nil ?_
    refine hK5 _ _ ?_
    refine T_seq fun K6 hK6 => ?_
    refine T_seq fun K7 hK7 => ?_
    refine T_region ?_
    refine L_y (y_move rfl) rfl ?_
    refine L_y (y_neq rfl rfl) rfl ?_
    refine L_y (y_move rfl) rfl ?_
    refine L_split 28 rfl (fun h28 => ?_) (fun h28 => ?_)
    ·
      exact absurd rfl h28
    ·
      refine L_gyes rfl rfl ?_
      refine L_y (y_move rfl) rfl ?_
      refine L_gyes rfl rfl ?_
      refine L_y (y_len Try.underlying22 rfl) rfl ?_
      refine L_gyes rfl rfl ?_
      refine L_y (y_move rfl) rfl ?_
      refine L_gyes rfl rfl ?_
      refine L_y (y_len Try.underlying22 rfl) rfl ?_
      refine L_gyes rfl rfl ?_
      refine L_y (y_move rfl) rfl ?_
      refine L_gyes rfl rfl ?_
      refine L_o (o_call Try.func16 rfl rfl (rcheck n m AR mR cR (DP KM la lb) w3 (S3.row 0 rfl) (by omega) (by omega) (fun p hp => by have := hok.1 p hp; omega) (fun i j p q hij hp hq => by have h5 := (List.getElem?_eq_some_iff.1 hp); have h6 := (List.getElem?_eq_some_iff.1 hq); obtain ⟨h7, rfl⟩ := h5; obtain ⟨h8, rfl⟩ := h6; exact List.pairwise_iff_getElem.1 hok.2 i j h7 h8 hij)) rfl rfl ?_)
      rintro e5 w5 ⟨v5, rfl, l5, rfl⟩
      refine ⟨_, rfl, ?_⟩
      have S5 := S3.like l5
      refine L_gyes rfl rfl ?_
      refine L_y (y_neq rfl rfl) rfl ?_
      refine L_y ((by first | exact y_pickT rfl rfl | exact y_pickF rfl rfl)) rfl ?_
      refine L_nil ?_
      refine hK7 _ _ ?_
      refine T_cond rfl (fun h36 => ?_) (fun h36 => ?_)
      ·
        exact absurd rfl h36
      ·
        refine T_skip ?_
        refine hK6 _ _ ?_
        refine T_seq fun K8 hK8 => ?_
        refine T_region ?_
        refine L_y (y_move rfl) rfl ?_
        refine L_y (y_len Try.underlying22 rfl) rfl ?_
        refine L_o (o_make te22 rfl S5 rfl rfl inferInstance inferInstance rfl (by omega) (by omega) (by omega) fun b6 w6 S6 => ?_)
        generalize b6 = b39 at *
        refine L_y (y_assign rfl) rfl ?_
        refine L_nil ?_
        refine hK8 _ _ ?_
        refine T_seq fun K9 hK9 => ?_
        refine T_seq fun K10 hK10 => ?_
        refine T_region ?_
        refine L_y (y_assign rfl) rfl ?_
        refine L_nil ?_
        refine hK10 _ _ ?_
        refine T_block ?_
        refine T_loop2 [(0, _), (1, _), (5, _), (7, _)] (fun (k : Nat) (vs : List Int) => [(8, .int .i64 (k : Int))]) (fun (k : Nat) (vs : List Int) => n - k) (fun (k : Nat) (vs : List Int) (w : World) => (k ≤ n ∧ vs.length = n) ∧ St w0 noM [row 34 2 AR mR cR ((DP KM la lb).flatMap pf), row 3 1 (some ⟨b39, 0, none⟩) n n (iL vs)] w) 0 (List.replicate n 0) (Sub.cons rfl (by first | rfl | exact congrArg (Value.int _) (by omega)) (Sub.nil _)) (Sub.cons rfl rfl (Sub.cons rfl rfl (Sub.cons rfl rfl (Sub.cons rfl rfl (Sub.nil _))))) ?_ ?_
        ·
          exact ⟨⟨Nat.zero_le _, List.length_replicate⟩, by rw [← iL_zer]; exact S6⟩
        ·
          intro k vs w7 hrel
          obtain ⟨⟨hk, hvl⟩, S7⟩ := hrel
          refine T_seq fun K11 hK11 => ?_
          refine T_seq fun K12 hK12 => ?_
          refine T_region ?_
          refine L_y (y_move rfl) rfl ?_
          refine L_y (y_move rfl) rfl ?_
          refine L_y (y_len Try.underlying22 rfl) rfl ?_
          refine L_y (y_lss rfl rfl) rfl ?_
          refine L_nil ?_
          refine hK12 _ _ ?_
          refine T_cond rfl (fun h43 => ?_) (fun h43 => ?_)
          ·
            refine T_skip ?_
            refine hK11 _ _ ?_
            refine T_seq fun K13 hK13 => ?_
            refine T_block ?_
            refine T_region ?_
            refine L_y (y_move rfl) rfl ?_
            refine L_y (y_move rfl) rfl ?_
            refine L_y (y_idx Try.underlying22 sz3 rfl rfl (S7.row 1 rfl) (Nt.mk (by omega) : Nt _ (k)) (by omega)) rfl ?_
            refine L_o (o_strow S7 1 rfl rfl rfl rfl sz3 (by omega) fun w8 S8 => ?_)
            refine L_nil ?_
            refine hK13 _ _ ?_
            refine T_region ?_
            refine L_y (y_move rfl) rfl ?_
            refine L_y (y_add rfl rfl (i64w (by omega))) rfl ?_
            refine L_y (y_assign rfl) rfl ?_
            refine L_nil ?_
            refine ⟨k + 1, vs.set k (-1), by omega, ⟨⟨by omega, by rw [List.length_set]; exact hvl⟩, by rw [← iL_set]; exact S8⟩, ?_⟩
            exact (Sub.cons rfl (by first | rfl | exact congrArg (Value.int _) (by omega)) (Sub.cons rfl rfl (Sub.cons rfl rfl (Sub.cons rfl rfl (Sub.cons rfl rfl (Sub.nil _))))))
          ·
            refine T_exit ?_
            refine hK9 _ _ ?_
            refine T_seq fun K14 hK14 => ?_
            refine T_seq fun K15 hK15 => ?_
            refine T_region ?_
            refine L_y (y_assign rfl) rfl ?_
            refine L_nil ?_
            refine hK15 _ _ ?_
            refine T_block ?_
            refine T_loop2 [(0, _), (1, _), (5, _), (7, _)] (fun (k : Nat) (vs : List Int) => [(9, .int .i64 (k : Int))]) (fun (k : Nat) (vs : List Int) => mR - k) (fun (k : Nat) (vs : List Int) (w : World) => (k ≤ mR ∧ vs.length = n ∧ Par (DP KM la lb) vs k) ∧ St w0 noM [row 34 2 AR mR cR ((DP KM la lb).flatMap pf), row 3 1 (some ⟨b39, 0, none⟩) n n (iL vs)] w) 0 vs (Sub.cons rfl (by first | rfl | exact congrArg (Value.int _) (by omega)) (Sub.nil _)) (Sub.cons rfl rfl (Sub.cons rfl rfl (Sub.cons rfl rfl (Sub.cons rfl rfl (Sub.nil _))))) ?_ ?_
            ·
              exact ⟨⟨Nat.zero_le _, hvl, fun t p h => absurd h (Nat.not_lt_zero _)⟩, S7⟩
            ·
              intro k vs w9 hrel
              obtain ⟨⟨hk, hvl, hpar⟩, S9⟩ := hrel
              refine T_seq fun K16 hK16 => ?_
              refine T_seq fun K17 hK17 => ?_
              refine T_region ?_
              refine L_y (y_move rfl) rfl ?_
              refine L_y (y_move rfl) rfl ?_
              refine L_y (y_len Try.underlying25 rfl) rfl ?_
              refine L_y (y_lss rfl rfl) rfl ?_
              refine L_nil ?_
              refine hK17 _ _ ?_
              refine T_cond rfl (fun h52 => ?_) (fun h52 => ?_)
              ·
                obtain ⟨p, hp⟩ : ∃ p, (DP KM la lb)[k]? = some p := ⟨_, List.getElem?_eq_getElem (by omega)⟩
                have hpb := hok.1 p (List.mem_of_getElem? hp)
                obtain ⟨x, hx⟩ : ∃ x, la[p.1]? = some x := ⟨_, List.getElem?_eq_getElem (by omega)⟩
                have hy : lb[p.2]? = some x := by rw [← hpb.2.2.2.2]; exact hx
                refine T_skip ?_
                refine hK16 _ _ ?_
                refine T_seq fun K18 hK18 => ?_
                refine T_block ?_
                refine T_seq fun K19 hK19 => ?_
                refine T_seq fun K20 hK20 => ?_
                refine T_drawnL [(0, true), (1, true), (2, true), (3, true), (4, true), (5, true), (6, true), (7, true), (8, true), (9, true), (10, true), (11, true), (12, true), (13, true), (14, true), (15, true), (16, true)] hmix (by kernel_rfl) fun w10 l10 => ?_
                have S10 := S9.like l10
                refine DL_y rfl (y_move rfl) rfl ?_
                refine DL_y rfl (y_move rfl) rfl ?_
                refine DL_y rfl (y_move rfl) rfl ?_
                refine DL_y rfl (y_idx Try.underlying25 sz34 rfl rfl (S10.row 0 rfl) (Nt.mk rfl : Nt _ (k)) (by omega)) rfl ?_
                refine DL_y rfl (y_fieldR 0 Try.underlying34 rfl sz3 rfl rfl (S10.row 0 rfl) (by omega) rfl) rfl ?_
                refine DL_y rfl (y_ldf Try.underlying3 rfl rfl (S10.row 0 rfl) (by omega) (pf_get _ _ _ hp).1) rfl ?_
                refine DL_y rfl (y_idx Try.underlying22 sz3 rfl rfl (S10.rd ha) (Nt.mk rfl : Nt _ (p.1)) (by omega)) rfl ?_
                refine DL_y rfl (y_ldr Try.underlying3 rfl rfl (S10.rd ha) (iL_get _ _ _ hx)) rfl ?_
                refine DL_y rfl (y_move rfl) rfl ?_
                refine DL_y rfl (y_move rfl) rfl ?_
                refine DL_y rfl (y_move rfl) rfl ?_
                refine DL_y rfl (y_idx Try.underlying25 sz34 rfl rfl (S10.row 0 rfl) (Nt.mk rfl : Nt _ (k)) (by omega)) rfl ?_
                refine DL_y rfl (y_fieldR 1 Try.underlying34 rfl sz3 rfl rfl (S10.row 0 rfl) (by omega) rfl) rfl ?_
                refine DL_y rfl (y_ldf Try.underlying3 rfl rfl (S10.row 0 rfl) (by omega) (pf_get _ _ _ hp).2) rfl ?_
                refine DL_y rfl (y_idx Try.underlying22 sz3 rfl rfl (S10.rd hb) (Nt.mk rfl : Nt _ (p.2)) (by omega)) rfl ?_
                refine DL_y rfl (y_ldr Try.underlying3 rfl rfl (S10.rd hb) (iL_get _ _ _ hy)) rfl ?_
                refine DL_y rfl (y_neq rfl rfl) rfl ?_
                refine DL_nil ?_
                refine hK20 _ _ ?_
                refine T_cond rfl (fun h71 => ?_) (fun h71 => ?_)
                ·
                  exact absurd rfl h71
                ·
                  refine T_skip ?_
                  refine hK19 _ _ ?_
                  refine T_tail 12 hmix (by kernel_rfl) fun w11 l11 K21 hK21 => ?_
                  have S11 := S10.like l11
                  refine HL_y (y_move rfl) rfl ?_
                  refine HL_y (y_move rfl) rfl ?_
                  refine HL_y (y_move rfl) rfl ?_
                  refine HL_y (y_idx Try.underlying25 sz34 rfl rfl (S11.row 0 rfl) (Nt.mk rfl : Nt _ (k)) (by omega)) rfl ?_
                  refine HL_y (y_fieldR 0 Try.underlying34 rfl sz3 rfl rfl (S11.row 0 rfl) (by omega) rfl) rfl ?_
                  refine HL_y (y_ldf Try.underlying3 rfl rfl (S11.row 0 rfl) (by omega) (pf_get _ _ _ hp).1) rfl ?_
                  refine HL_y (y_move rfl) rfl ?_
                  refine HL_y (y_move rfl) rfl ?_
                  refine HL_y (y_idx Try.underlying25 sz34 rfl rfl (S11.row 0 rfl) (Nt.mk rfl : Nt _ (k)) (by omega)) rfl ?_
                  refine HL_y (y_fieldR 1 Try.underlying34 rfl sz3 rfl rfl (S11.row 0 rfl) (by omega) rfl) rfl ?_
                  refine HL_y (y_ldf Try.underlying3 rfl rfl (S11.row 0 rfl) (by omega) (pf_get _ _ _ hp).2) rfl ?_
                  refine HL_y (y_idx Try.underlying22 sz3 rfl rfl (S11.row 1 rfl) (Nt.mk rfl : Nt _ (p.1)) (by omega)) rfl ?_
                  refine HL_nil ?_
                  refine hK21 _ ?_
                  refine L_o (o_strow S11 1 rfl rfl rfl rfl sz3 (by omega) fun w12 S12 => ?_)
                  refine L_nil ?_
                  refine hK18 _ _ ?_
                  refine T_region ?_
                  refine L_y (y_move rfl) rfl ?_
                  refine L_y (y_add rfl rfl (i64w (by omega))) rfl ?_
                  refine L_y (y_assign rfl) rfl ?_
                  refine L_nil ?_
                  refine ⟨k + 1, vs.set p.1 (p.2 : Int), by omega, ⟨⟨by omega, by rw [List.length_set]; exact hvl, hpar.step hp hok.2 (by omega)⟩, by rw [← iL_set]; exact S12⟩, ?_⟩
                  exact (Sub.cons rfl (by first | rfl | exact congrArg (Value.int _) (by omega)) (Sub.cons rfl rfl (Sub.cons rfl rfl (Sub.cons rfl rfl (Sub.cons rfl rfl (Sub.nil _))))))
              ·
                refine T_exit ?_
                refine hK14 _ _ ?_
                refine T_seq fun K22 hK22 => ?_
                refine T_region ?_
                refine L_y (y_move rfl) rfl ?_
                refine L_y (y_move rfl) rfl ?_
                refine L_o (o_call Try.func31 rfl rfl (rends A B n ca m cb la lb w9 (S9.rd ha) (S9.rd hb)) rfl rfl ?_)
                rintro e13 w13 ⟨v13, rfl, l13, rfl⟩
                refine ⟨_, rfl, ?_⟩
                have S13 := S9.like l13
                have hpl := pre_le la lb
                have hsl := suf_le la lb
                have hkm : k = (DP KM la lb).length := by omega
                subst hkm
                have hmm : ∀ f t, pre la lb = f → suf la lb = t → _ := fun f t hf ht => DP_mem (K := KM) hf ht
                generalize hf : pre la lb = f at hpl hsl
                generalize ht : suf la lb = t at hsl
                obtain ⟨hm1, hm2, hm3⟩ := hmm f t hf ht
                clear hmm
                rw [hla, hlb] at hm2
                rw [show mid la f t = (sub la f (n - t)) by rw [← hla]; rfl, show mid lb f t = (sub lb f (m - t)) by rw [← hlb]; rfl] at hm3
                refine L_y (y_move rfl) rfl ?_
                refine L_y (y_extract rfl rfl) rfl ?_
                refine L_y (y_extract rfl rfl) rfl ?_
                refine L_y (y_assign rfl) rfl ?_
                refine L_y (y_assign rfl) rfl ?_
                refine L_nil ?_
                refine hK22 _ _ ?_
                refine T_seq fun K23 hK23 => ?_
                refine T_seq fun K24 hK24 => ?_
                refine T_region ?_
                refine L_y (y_assign rfl) rfl ?_
                refine L_nil ?_
                refine hK24 _ _ ?_
                refine T_block ?_
                refine T_loop1 [(0, _), (1, _), (7, _), (10, _), (11, _)] (fun (k : Nat) => [(12, .int .i64 (k : Int))]) (fun (k : Nat) => f - k) (fun (k : Nat) (w : World) => k ≤ f ∧ St w0 noM [row 34 2 AR mR cR ((DP KM la lb).flatMap pf), row 3 1 (some ⟨b39, 0, none⟩) n n (iL vs)] w) 0 (Sub.cons rfl (by first | rfl | exact congrArg (Value.int _) (by omega)) (Sub.nil _)) (Sub.cons rfl rfl (Sub.cons rfl rfl (Sub.cons rfl rfl (Sub.cons rfl rfl (Sub.cons rfl rfl (Sub.nil _)))))) ?_ ?_
                ·
                  exact ⟨Nat.zero_le _, S13⟩
                ·
                  intro k w14 hrel
                  obtain ⟨hk, S14⟩ := hrel
                  refine T_seq fun K25 hK25 => ?_
                  refine T_seq fun K26 hK26 => ?_
                  refine T_region ?_
                  refine L_y (y_move rfl) rfl ?_
                  refine L_y (y_move rfl) rfl ?_
                  refine L_y (y_lss rfl rfl) rfl ?_
                  refine L_nil ?_
                  refine hK26 _ _ ?_
                  refine T_cond rfl (fun h92 => ?_) (fun h92 => ?_)
                  ·
                    have hv := hpar.at (hm1 k (by omega))
                    refine T_skip ?_
                    refine hK25 _ _ ?_
                    refine T_seq fun K27 hK27 => ?_
                    refine T_block ?_
                    refine T_seq fun K28 hK28 => ?_
                    refine T_region ?_
                    refine L_y (y_move rfl) rfl ?_
                    refine L_y (y_move rfl) rfl ?_
                    refine L_y (y_idx Try.underlying22 sz3 rfl rfl (S14.row 1 rfl) (Nt.mk rfl : Nt _ (k)) (by omega)) rfl ?_
                    refine L_y (y_ldr Try.underlying3 rfl rfl (S14.row 1 rfl) (iL_get _ _ _ hv)) rfl ?_
                    refine L_y (y_move rfl) rfl ?_
                    refine L_y (y_neq rfl rfl) rfl ?_
                    refine L_nil ?_
                    refine hK28 _ _ ?_
                    refine T_cond rfl (fun h100 => ?_) (fun h100 => ?_)
                    ·
                      exact absurd rfl h100
                    ·
                      refine T_skip ?_
                      refine hK27 _ _ ?_
                      refine T_region ?_
                      refine L_y (y_move rfl) rfl ?_
                      refine L_y (y_add rfl rfl (i64w (by omega))) rfl ?_
                      refine L_y (y_assign rfl) rfl ?_
                      refine L_nil ?_
                      refine ⟨k + 1, by omega, ⟨by omega, S14⟩, ?_⟩
                      exact (Sub.cons rfl (by first | rfl | exact congrArg (Value.int _) (by omega)) (Sub.cons rfl rfl (Sub.cons rfl rfl (Sub.cons rfl rfl (Sub.cons rfl rfl (Sub.cons rfl rfl (Sub.nil _)))))))
                  ·
                    refine T_exit ?_
                    refine hK23 _ _ ?_
                    refine T_seq fun K29 hK29 => ?_
                    refine T_seq fun K30 hK30 => ?_
                    refine T_region ?_
                    refine L_y (y_assign rfl) rfl ?_
                    refine L_nil ?_
                    refine hK30 _ _ ?_
                    refine T_block ?_
                    refine T_loop1 [(0, _), (1, _), (7, _), (10, _), (11, _)] (fun (k : Nat) => [(13, .int .i64 (k : Int))]) (fun (k : Nat) => t + 1 - k) (fun (k : Nat) (w : World) => (1 ≤ k ∧ k ≤ t + 1) ∧ St w0 noM [row 34 2 AR mR cR ((DP KM la lb).flatMap pf), row 3 1 (some ⟨b39, 0, none⟩) n n (iL vs)] w) 1 (Sub.cons rfl (by first | rfl | exact congrArg (Value.int _) (by omega)) (Sub.nil _)) (Sub.cons rfl rfl (Sub.cons rfl rfl (Sub.cons rfl rfl (Sub.cons rfl rfl (Sub.cons rfl rfl (Sub.nil _)))))) ?_ ?_
                    ·
                      exact ⟨⟨Nat.le_refl _, Nat.le_add_left _ _⟩, S14⟩
                    ·
                      intro k w15 hrel
                      obtain ⟨⟨hk1, hk⟩, S15⟩ := hrel
                      refine T_seq fun K31 hK31 => ?_
                      refine T_seq fun K32 hK32 => ?_
                      refine T_region ?_
                      refine L_y (y_move rfl) rfl ?_
                      refine L_y (y_move rfl) rfl ?_
                      refine L_y (y_leq rfl rfl) rfl ?_
                      refine L_nil ?_
                      refine hK32 _ _ ?_
                      refine T_cond rfl (fun h103 => ?_) (fun h103 => ?_)
                      ·
                        have hv := hpar.at (hm2 k (by omega) (by omega))
                        refine T_skip ?_
                        refine hK31 _ _ ?_
                        refine T_seq fun K33 hK33 => ?_
                        refine T_block ?_
                        refine T_seq fun K34 hK34 => ?_
                        refine T_region ?_
                        refine L_y (y_move rfl) rfl ?_
                        refine L_y (y_move rfl) rfl ?_
                        refine L_y (y_len Try.underlying22 rfl) rfl ?_
                        refine L_y (y_move rfl) rfl ?_
                        refine L_y (y_sub rfl rfl (i64e (k := n - k) (by omega))) rfl ?_
                        refine L_y (y_idx Try.underlying22 sz3 rfl rfl (S15.row 1 rfl) (Nt.mk rfl : Nt _ (n - k)) (by omega)) rfl ?_
                        refine L_y (y_ldr Try.underlying3 rfl rfl (S15.row 1 rfl) (iL_get _ _ _ hv)) rfl ?_
                        refine L_y (y_move rfl) rfl ?_
                        refine L_y (y_len Try.underlying22 rfl) rfl ?_
                        refine L_y (y_move rfl) rfl ?_
                        refine L_y (y_sub rfl rfl (i64e (k := m - k) (by omega))) rfl ?_
                        refine L_y (y_neq rfl rfl) rfl ?_
                        refine L_nil ?_
                        refine hK34 _ _ ?_
                        refine T_cond rfl (fun h117 => ?_) (fun h117 => ?_)
                        ·
                          exact absurd rfl h117
                        ·
                          refine T_skip ?_
                          refine hK33 _ _ ?_
                          refine T_region ?_
                          refine L_y (y_move rfl) rfl ?_
                          refine L_y (y_add rfl rfl (i64w (by omega))) rfl ?_
                          refine L_y (y_assign rfl) rfl ?_
                          refine L_nil ?_
                          refine ⟨k + 1, by omega, ⟨⟨by omega, by omega⟩, S15⟩, ?_⟩
                          exact (Sub.cons rfl (by first | rfl | exact congrArg (Value.int _) (by omega)) (Sub.cons rfl rfl (Sub.cons rfl rfl (Sub.cons rfl rfl (Sub.cons rfl rfl (Sub.cons rfl rfl (Sub.nil _)))))))
                      ·
                        refine T_exit ?_
                        refine hK29 _ _ ?_
                        refine T_seq fun K35 hK35 => ?_
                        refine T_tail 14 hmix (by kernel_rfl) fun w16 l16 K36 hK36 => ?_
                        have S16 := S15.like l16
                        refine HL_y (y_move rfl) rfl ?_
                        refine HL_y (y_move rfl) rfl ?_
                        refine HL_y (y_move rfl) rfl ?_
                        refine HL_y (y_len Try.underlying22 rfl) rfl ?_
                        refine HL_y (y_move rfl) rfl ?_
                        refine HL_y (y_sub rfl rfl (i64e (k := n - t) (by omega))) rfl ?_
                        refine HL_y (y_slice Try.underlying22 sz3 rfl rfl rfl inferInstance inferInstance (by omega) (by omega)) rfl ?_
                        refine HL_y (y_move rfl) rfl ?_
                        refine HL_y (y_move rfl) rfl ?_
                        refine HL_y (y_move rfl) rfl ?_
                        refine HL_y (y_len Try.underlying22 rfl) rfl ?_
                        refine HL_y (y_move rfl) rfl ?_
                        refine HL_y (y_sub rfl rfl (i64e (k := m - t) (by omega))) rfl ?_
                        refine HL_y (y_slice Try.underlying22 sz3 rfl rfl rfl inferInstance inferInstance (by omega) (by omega)) rfl ?_
                        refine HL_nil ?_
                        refine hK36 _ ?_
                        refine L_o (o_call Try.func26 rfl rfl (ronce _ _ _ _ _ _ (sub la f (n - t)) (sub lb f (m - t)) w16 (cutI (S16.rd ha) (by omega) (by omega)) (cutI (S16.rd hb) (by omega) (by omega)) (by omega) (by omega)) rfl rfl ?_)
                        rintro e17 w17 ⟨v17, rfl, l17, A17, n17, c17, rfl, O17⟩
                        refine ⟨_, rfl, ?_⟩
                        have S17 := S16.adopt l17 O17
                        have hXl : (sub la f (n - t)).length = n - t - f := sub_len (by omega)
                        have hol := once_len (sub la f (n - t)) (sub lb f (m - t)) (sub la f (n - t)).length; have hon : n17 = (once (sub la f (n - t)) (sub lb f (m - t))).length := pf_n (S17.row 2 rfl); unfold once at hon
                        refine L_o (o_call Try.func28 rfl rfl (rchainN _ _ _ _ w17 (S17.row 2 rfl) (by omega)) rfl rfl ?_)
                        rintro e18 w18 ⟨v18, rfl, l18, AC, nC, cC, rfl, O18⟩
                        refine ⟨_, rfl, ?_⟩
                        have S18 := S17.adopt l18 O18
                        have hcn : nC = (chainN (once (sub la f (n - t)) (sub lb f (m - t)))).length := pf_n (S18.row 3 rfl); have hcl := chain_len (sub la f (n - t)) (sub lb f (m - t))
                        refine L_y (y_assign rfl) rfl ?_
                        refine L_nil ?_
                        refine hK35 _ _ ?_
                        refine T_seq fun K37 hK37 => ?_
                        refine T_seq fun K38 hK38 => ?_
                        have S19 : St w0 _ [_, _, _] w18 := S18.sel [0, 1, 3] (by decide)
                        refine T_region ?_
                        refine L_y (y_assign rfl) rfl ?_
                        refine L_nil ?_
                        refine hK38 _ _ ?_
                        refine T_block ?_
                        refine T_loop1 [(7, _), (10, _), (14, _)] (fun (k : Nat) => [(15, .int .i64 (k : Int))]) (fun (k : Nat) => nC - k) (fun (k : Nat) (w : World) => k ≤ nC ∧ St w0 noM [row 34 2 AR mR cR ((DP KM la lb).flatMap pf), row 3 1 (some ⟨b39, 0, none⟩) n n (iL vs), row 34 2 AC nC cC ((chainN (once (sub la f (n - t)) (sub lb f (m - t)))).flatMap pf)] w) 0 (Sub.cons rfl (by first | rfl | exact congrArg (Value.int _) (by omega)) (Sub.nil _)) (Sub.cons rfl rfl (Sub.cons rfl rfl (Sub.cons rfl rfl (Sub.nil _)))) ?_ ?_
                        ·
                          exact ⟨Nat.zero_le _, S19⟩
                        ·
                          intro k w20 hrel
                          obtain ⟨hk, S20⟩ := hrel
                          refine T_seq fun K39 hK39 => ?_
                          refine T_seq fun K40 hK40 => ?_
                          refine T_region ?_
                          refine L_y (y_move rfl) rfl ?_
                          refine L_y (y_move rfl) rfl ?_
                          refine L_y (y_len Try.underlying25 rfl) rfl ?_
                          refine L_y (y_lss rfl rfl) rfl ?_
                          refine L_nil ?_
                          refine hK40 _ _ ?_
                          refine T_cond rfl (fun h137 => ?_) (fun h137 => ?_)
                          ·
                            obtain ⟨p, hp⟩ : ∃ p, (chainN (once (sub la f (n - t)) (sub lb f (m - t))))[k]? = some p := ⟨_, List.getElem?_eq_getElem (by omega)⟩
                            have hv := hpar.at (hm3 p (List.mem_of_getElem? hp))
                            have hvb := (List.getElem?_eq_some_iff.1 hv).1
                            have hpb := once_mem _ _ _ p ((chainN_sub _).subset (List.mem_of_getElem? hp))
                            have hYl : (sub lb f (m - t)).length = m - t - f := sub_len (by omega)
                            refine T_skip ?_
                            refine hK39 _ _ ?_
                            refine T_seq fun K41 hK41 => ?_
                            refine T_block ?_
                            refine T_seq fun K42 hK42 => ?_
                            refine T_drawnL [(0, true), (1, true), (2, true), (3, true), (4, true), (5, true), (6, true), (7, true), (8, true), (9, true), (10, true), (11, true), (12, true), (13, true), (14, true), (15, true), (16, true), (17, true)] hmix (by kernel_rfl) fun w21 l21 => ?_
                            have S21 := S20.like l21
                            refine DL_y rfl (y_move rfl) rfl ?_
                            refine DL_y rfl (y_move rfl) rfl ?_
                            refine DL_y rfl (y_move rfl) rfl ?_
                            refine DL_y rfl (y_move rfl) rfl ?_
                            refine DL_y rfl (y_idx Try.underlying25 sz34 rfl rfl (S21.row 2 rfl) (Nt.mk rfl : Nt _ (k)) (by omega)) rfl ?_
                            refine DL_y rfl (y_fieldR 0 Try.underlying34 rfl sz3 rfl rfl (S21.row 2 rfl) (by omega) rfl) rfl ?_
                            refine DL_y rfl (y_ldf Try.underlying3 rfl rfl (S21.row 2 rfl) (by omega) (pf_get _ _ _ hp).1) rfl ?_
                            refine DL_y rfl (y_add rfl rfl (i64e (k := f + p.1) (by omega))) rfl ?_
                            refine DL_y rfl (y_idx Try.underlying22 sz3 rfl rfl (S21.row 1 rfl) (Nt.mk rfl : Nt _ (f + p.1)) (by omega)) rfl ?_
                            refine DL_y rfl (y_ldr Try.underlying3 rfl rfl (S21.row 1 rfl) (iL_get _ _ _ hv)) rfl ?_
                            refine DL_y rfl (y_move rfl) rfl ?_
                            refine DL_y rfl (y_move rfl) rfl ?_
                            refine DL_y rfl (y_move rfl) rfl ?_
                            refine DL_y rfl (y_idx Try.underlying25 sz34 rfl rfl (S21.row 2 rfl) (Nt.mk rfl : Nt _ (k)) (by omega)) rfl ?_
                            refine DL_y rfl (y_fieldR 1 Try.underlying34 rfl sz3 rfl rfl (S21.row 2 rfl) (by omega) rfl) rfl ?_
                            refine DL_y rfl (y_ldf Try.underlying3 rfl rfl (S21.row 2 rfl) (by omega) (pf_get _ _ _ hp).2) rfl ?_
                            refine DL_y rfl (y_add rfl rfl (i64e (k := f + p.2) (by omega))) rfl ?_
                            refine DL_y rfl (y_neq rfl rfl) rfl ?_
                            refine DL_nil ?_
                            refine hK42 _ _ ?_
                            refine T_cond rfl (fun h157 => ?_) (fun h157 => ?_)
                            ·
                              exact absurd rfl h157
                            ·
                              refine T_skip ?_
                              refine hK41 _ _ ?_
                              refine T_region ?_
                              refine L_y (y_move rfl) rfl ?_
                              refine L_y (y_add rfl rfl (i64w (by omega))) rfl ?_
                              refine L_y (y_assign rfl) rfl ?_
                              refine L_nil ?_
                              refine ⟨k + 1, by omega, ⟨by omega, S21⟩, ?_⟩
                              exact (Sub.cons rfl (by first | rfl | exact congrArg (Value.int _) (by omega)) (Sub.cons rfl rfl (Sub.cons rfl rfl (Sub.cons rfl rfl (Sub.nil _)))))
                          ·
                            refine T_exit ?_
                            refine hK37 _ _ ?_
                            refine T_seq fun K43 hK43 => ?_
                            refine T_region ?_
                            refine L_o (o_call Try.func24 rfl rfl (works23 w20) rfl rfl ?_)
                            rintro e22 w22 ⟨v22, rfl, l22, rfl⟩
                            refine ⟨_, rfl, ?_⟩
                            have S22 := S20.like l22
                            refine L_y (y_assign rfl) rfl ?_
                            refine L_nil ?_
                            refine hK43 _ _ ?_
                            refine T_ret ?_
                            repeat (first | with_reducible refine up_then ?_ | with_reducible refine up_in ?_)
                            refine ret1 rfl rfl ?_
                            exact ⟨_, rfl, S22.like0, rfl⟩


theorem pkeeps_law (A B : Option Addr) (n ca m cb : Nat) (la lb : List Int) (w0 : World) (ha : Rs w0 1 A n ca (iL la)) (hb : Rs w0 1 B m cb (iL lb)) (hwa : ∀ x ∈ la, I64 x) (hwb : ∀ x ∈ lb, I64 x) :
    Calls Try.prog 10 #[.slice A n ca, .slice B m cb] w0 fun e w' => e = .returned (.bool true) ∧ Below w0.heap.size w0 w' :=
  (pkeeps A B n ca m cb la lb w0 ha hb hwa hwb).mono fun e w' ⟨u, h1, h2, h3⟩ => by subst h3; exact ⟨h1, h2⟩


theorem pdiffs_law (A B : Option Addr) (n ca m cb : Nat) (la lb : List Int) (x : Int) (w0 : World) (ha : Rs w0 1 A n ca (iL la)) (hb : Rs w0 1 B m cb (iL lb)) (hwa : ∀ x ∈ la, I64 x) (hwb : ∀ x ∈ lb, I64 x) (hx : (Lit.int .u16 x).wf = true) :
    Calls Try.prog 9 #[.slice A n ca, .slice B m cb, .int .u16 x] w0 fun e w' => e = .returned (.bool true) ∧ Below w0.heap.size w0 w' := by
  have h9 : 0 ≤ x ∧ x < 65536 := by
    unfold Lit.wf at hx
    rw [Bool.and_eq_true] at hx
    have h1 : (0 : Int) ≤ x := of_decide_eq_true hx.1
    have h2 : x ≤ 65535 := of_decide_eq_true hx.2
    omega
  obtain ⟨q, rfl⟩ : ∃ q : Nat, x = (q : Int) := ⟨x.toNat, by omega⟩
  exact (pdiffs A B n ca m cb la lb q w0 ha hb hwa hwb (by omega)).mono fun e w' ⟨u, h1, h2, h3⟩ => by subst h3; exact ⟨h1, h2⟩
end Go.Proofs.Ytbbmkgpgiacdeaa
