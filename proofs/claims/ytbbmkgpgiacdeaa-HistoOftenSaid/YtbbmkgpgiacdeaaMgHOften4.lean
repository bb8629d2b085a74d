import Derived.Test.YtbbmkgpgiacdeaaMgHOften3
import Derived.Test.YtbbmkgpgiacdeaaMgHOften2

/-
  The document: Diff, by the histogram way.
-/
namespace Go.Proofs.Ytbbmkgpgiacdeaa
open Go.RowKit Zk Zx
set_option linter.unusedVariables false
set_option linter.unusedSimpArgs false

/-- The document's Diff, of lists that have less than N things. -/
def RH (N : Nat) : Prop := ∀ (A B : Option Addr) (n ca m cb : Nat) (la lb : List Int) (w0 : World), Rs w0 1 A n ca (iL la) → Rs w0 1 B m cb (iL lb) → n ≤ 800 → m ≤ 800 → n + m < N →
    Calls Try.prog 15 #[.slice A n ca, .slice B m cb] w0 fun e w' => ∃ u, e = .returned u ∧ Like w0 w' ∧ ∃ A m c, u = .slice A m c ∧ w'.ownsRow w0.heap.size 34 2 (.slice A m c) m ((DH KM la lb).flatMap pf)
theorem app_pf (l m : List (Nat × Nat)) : l.flatMap pf ++ m.flatMap pf = (l ++ m).flatMap pf := List.flatMap_append.symm
theorem splitH_mv (D : List Int → List Int → List (Nat × Nat)) (x y : List Int) (p : PT) (f : Nat) : mv f f (splitH D x y p) = mv f f (D (x.take p.A) (y.take p.B)) ++ (dg (f + p.A) (f + p.B) p.N ++ mv (f + p.A + p.N) (f + p.B + p.N) (D (x.drop (p.A + p.N)) (y.drop (p.B + p.N)))) := by
  unfold splitH
  rw [mv_app, mv_app, mv_mv, mv_dg, Nat.add_assoc f p.A, Nat.add_assoc f p.B]


set_option maxRecDepth 100000 in
theorem rmoved24 (A : Option Addr) (n ca : Nat) (l : List (Nat × Nat)) (i k : Nat) (w0 : World) (hl : Rs w0 2 A n ca (l.flatMap pf)) (hn9 : n ≤ 1048576) (hi9 : i ≤ 1048576) (hk9 : k ≤ 1048576) (hb : ∀ p ∈ l, p.1 ≤ 1048576 ∧ p.2 ≤ 1048576) :
    Calls Try.prog 36 #[.slice A n ca, .int .i64 (i : Int), .int .i64 (k : Int)] w0 fun e w' => ∃ u, e = .returned u ∧ Like w0 w' ∧ ∃ A m c, u = .slice A m c ∧ w'.ownsRow w0.heap.size 34 2 (.slice A m c) m ((mv i k l).flatMap pf) := by
  refine enter1 (env := [(0, .slice A n ca), (1, .int .i64 (i : Int)), (2, .int .i64 (k : Int))]) [.slice A n ca, .int .i64 (i : Int), .int .i64 (k : Int)] Try.func36 rfl Try.ntmps36 rfl rfl ?_
  have hln := pf_n hl; have S0 := St.start w0 noM
  refine T_seq fun K1 hK1 => ?_
  refine T_region ?_
  refine L_y (y_assign rfl) rfl ?_
  refine L_nil ?_
  refine hK1 _ _ ?_
  refine T_seq fun K2 hK2 => ?_
  refine T_region ?_
  have S1 := S0.nilrow 34 2
  refine L_y (y_assign rfl) rfl ?_
  refine L_nil ?_
  refine hK2 _ _ ?_
  refine T_seq fun K3 hK3 => ?_
  refine T_seq fun K4 hK4 => ?_
  refine T_region ?_
  refine L_y (y_assign rfl) rfl ?_
  refine L_nil ?_
  refine hK4 _ _ ?_
  refine T_block ?_
  refine T_loop3 [(0, _), (1, _), (2, _)] (fun (j : Nat) (A1 : Option Addr) (c1 : Nat) => [(8, .int .i64 (j : Int)), (7, .slice A1 (mv i k (l.take j)).length c1)]) (fun (j : Nat) (A1 : Option Addr) (c1 : Nat) => n - j) (fun (j : Nat) (A1 : Option Addr) (c1 : Nat) (w : World) => j ≤ n ∧ St w0 noM [row 34 2 A1 (mv i k (l.take j)).length c1 ((mv i k (l.take j)).flatMap pf)] w) 0 none 0 (Sub.cons rfl (by first | rfl | exact congrArg (Value.int _) (by omega)) (Sub.cons rfl (by first | rfl | exact congrArg (Value.int _) (by omega)) (Sub.nil _))) (Sub.cons rfl rfl (Sub.cons rfl rfl (Sub.cons rfl rfl (Sub.nil _)))) ?_ ?_
  ·
    exact ⟨Nat.zero_le _, S1⟩
  ·
    intro j A1 c1 w2 hrel
    obtain ⟨hj, S2⟩ := hrel
    have hml : (mv i k (l.take j)).length = j := by rw [mv_len, List.length_take]; omega
    refine T_seq fun K5 hK5 => ?_
    refine T_seq fun K6 hK6 => ?_
    refine T_region ?_
    refine L_y (y_move rfl) rfl ?_
    refine L_y (y_move rfl) rfl ?_
    refine L_y (y_len Try.underlying25 rfl) rfl ?_
    refine L_y (y_lss rfl rfl) rfl ?_
    refine L_nil ?_
    refine hK6 _ _ ?_
    refine T_cond rfl (fun h12 => ?_) (fun h12 => ?_)
    ·
      obtain ⟨p, hp⟩ : ∃ p, l[j]? = some p := ⟨_, List.getElem?_eq_getElem (by omega)⟩
      have hpb := hb p (List.mem_of_getElem? hp)
      refine T_skip ?_
      refine hK5 _ _ ?_
      refine T_seq fun K7 hK7 => ?_
      refine T_block ?_
      refine T_zed [0, 1, 2, 3, 4, 5, 6, 7, 8, 9, 10, 11, 12, 13, 14, 15, 16] 17 [(0, 1), (1, 1), (2, 1), (3, 1), (4, 1), (5, 1), (6, 1), (7, 1), (8, 1), (9, 1), (10, 1), (11, 1), (12, 1), (13, 1), (14, 1), (15, 1), (16, 2), (17, 3), (18, 3)] hmix (by kernel_rfl) fun w3 l3 => ?_
      have S3 := S2.like l3
      refine ZA_B (Like w3) (Like.refl _) ?_
      refine ZB_y rfl (y_move rfl) rfl ?_
      refine ZB_y rfl (y_move rfl) rfl ?_
      refine ZB_y rfl (y_move rfl) rfl ?_
      refine ZB_y rfl (y_idx Try.underlying25 sz34 rfl rfl (S3.rd hl) (Nt.mk (by omega) : Nt _ (j)) (by omega)) rfl ?_
      refine ZB_y rfl (y_fieldR 0 Try.underlying34 rfl sz3 rfl rfl (S3.rd hl) (by omega) rfl) rfl ?_
      refine ZB_y rfl (y_ldf Try.underlying3 rfl rfl (S3.rd hl) (by omega) (pf_get _ _ _ hp).1) rfl ?_
      refine ZB_y rfl (y_move rfl) rfl ?_
      refine ZB_y rfl (y_add rfl rfl (i64e (k := p.1 + i) (by omega))) rfl ?_
      refine ZB_y rfl (y_move rfl) rfl ?_
      refine ZB_y rfl (y_move rfl) rfl ?_
      refine ZB_y rfl (y_idx Try.underlying25 sz34 rfl rfl (S3.rd hl) (Nt.mk (by omega) : Nt _ (j)) (by omega)) rfl ?_
      refine ZB_y rfl (y_fieldR 1 Try.underlying34 rfl sz3 rfl rfl (S3.rd hl) (by omega) rfl) rfl ?_
      refine ZB_y rfl (y_ldf Try.underlying3 rfl rfl (S3.rd hl) (by omega) (pf_get _ _ _ hp).2) rfl ?_
      refine ZB_y rfl (y_move rfl) rfl ?_
      refine ZB_y rfl (y_add rfl rfl (i64e (k := p.2 + k) (by omega))) rfl ?_
      refine ZB_y rfl (y_build rfl (show _ = some #[Value.int .i64 ((p.1 + i : Nat) : Int), Value.int .i64 ((p.2 + k : Nat) : Int)] by kernel_rfl)) rfl ?_
      refine ZB_o rfl (o_bslL [_, _] te25 zz34 S3 rfl rfl rfl rfl rfl rfl rfl rfl fun b4 w4 l4 S4 => ?_)
      have q4 := l4
      refine ⟨q4, ?_⟩
      refine ZB_c rfl (o_app te25 S4 0 rfl rfl rfl (by first | exact S4.row 0 rfl | exact S4.row 1 rfl) (by intro u hu; simp at hu; rcases hu with rfl | rfl <;> rfl) rfl (by omega) (by omega) fun A5 c5 w5 S5 => ?_)
      have S5d := S5.drop (rs' := [_]) (.cons_cons _ (.cons _ (.refl _)))
      refine ZA_oy rfl (y_assign rfl) rfl ?_
      refine ZA_nil ?_
      refine hK7 _ _ ?_
      refine T_region ?_
      refine L_y (y_move rfl) rfl ?_
      refine L_y (y_add rfl rfl (i64w (by omega))) rfl ?_
      refine L_y (y_assign rfl) rfl ?_
      refine L_nil ?_
      have hml2 : (mv i k (l.take (j + 1))).length = j + 1 := by rw [mv_len, List.length_take]; omega
      have S6 := S5d.rowc 0 rfl (n' := (mv i k (l.take (j + 1))).length) (xs' := (mv i k (l.take (j + 1))).flatMap pf) (by rw [hml, hml2]) (mv_snoc2 hp i k)
      refine ⟨j + 1, _, _, by omega, ⟨by omega, S6⟩, ?_⟩
      exact (Sub.cons rfl (by first | rfl | exact congrArg (Value.int _) (by omega)) (Sub.cons rfl (by rw [hml2, hml]) (Sub.cons rfl rfl (Sub.cons rfl rfl (Sub.cons rfl rfl (Sub.nil _))))))
    ·
      refine T_exit ?_
      refine hK3 _ _ ?_
      refine T_seq fun K8 hK8 => ?_
      refine T_region ?_
      refine L_y (y_move rfl) rfl ?_
      refine L_y (y_assign rfl) rfl ?_
      refine L_nil ?_
      refine hK8 _ _ ?_
      refine T_ret ?_
      repeat (first | with_reducible refine up_then ?_ | with_reducible refine up_in ?_)
      refine ret1 rfl rfl ?_
      have hje : j = l.length := by omega
      subst hje
      refine ⟨_, rfl, S2.like0, _, _, _, rfl, ?_⟩
      have hown := S2.own 0 rfl
      rw [List.take_length] at hown ⊢
      exact hown


set_option maxRecDepth 100000 in
set_option maxHeartbeats 2000000 in
theorem rhd_step {N : Nat} (ih : RH N) (A B : Option Addr) (n ca m cb : Nat) (la lb : List Int) (w0 : World) (ha : Rs w0 1 A n ca (iL la)) (hb : Rs w0 1 B m cb (iL lb)) (hn9 : n ≤ 800) (hm9 : m ≤ 800) (hN : n + m < N + 1) :
    Calls Try.prog 15 #[.slice A n ca, .slice B m cb] w0 fun e w' => ∃ u, e = .returned u ∧ Like w0 w' ∧ ∃ A m c, u = .slice A m c ∧ w'.ownsRow w0.heap.size 34 2 (.slice A m c) m ((DH KM la lb).flatMap pf) := by
  refine enter1 (env := [(0, .slice A n ca), (1, .slice B m cb)]) [.slice A n ca, .slice B m cb] Try.func15 rfl Try.ntmps15 rfl rfl ?_
  have hla := lenI ha; have hlb := lenI hb; have hcap := ha.cap; have hmax := ha.max; have hcap2 := hb.cap; have hmax2 := hb.max; have S0 := St.start w0 noM
  refine T_seq fun K1 hK1 => ?_
  refine T_region ?_
  refine L_y (y_assign rfl) rfl ?_
  refine L_nil ?_
  refine hK1 _ _ ?_
  refine T_seq fun K2 hK2 => ?_
  refine T_region ?_
  refine L_y (y_move rfl) rfl ?_
  refine L_y (y_move rfl) rfl ?_
  refine L_o (o_call Try.func31 rfl rfl (rends A B n ca m cb la lb w0 (S0.rd ha) (S0.rd hb)) rfl rfl ?_)
  rintro e1 w1 ⟨v1, rfl, l1, rfl⟩
  refine ⟨_, rfl, ?_⟩
  have S1 := S0.like l1
  have hpl := pre_le la lb
  have hsl := suf_le la lb
  have hDE := DH_eq KM la lb
  generalize hf : pre la lb = f at hpl hsl hDE
  generalize ht : suf la lb = t at hsl hDE
  rw [hla, hlb] at hDE
  rw [show mid la f t = (sub la f (n - t)) by rw [← hla]; rfl, show mid lb f t = (sub lb f (m - t)) by rw [← hlb]; rfl] at hDE
  have hXl : (sub la f (n - t)).length = n - t - f := sub_len (by omega)
  have hYl : (sub lb f (m - t)).length = m - t - f := sub_len (by omega)
  have hcore : (coreH KM (DH KM) (sub la f (n - t)) (sub lb f (m - t))).length ≤ (sub la f (n - t)).length := by have := (coreH_ok KM_ok (DH_ok KM_ok) (sub la f (n - t)) (sub lb f (m - t))).len; omega
  refine L_y (y_move rfl) rfl ?_
  refine L_y (y_extract rfl rfl) rfl ?_
  refine L_y (y_extract rfl rfl) rfl ?_
  refine L_y (y_assign rfl) rfl ?_
  refine L_y (y_assign rfl) rfl ?_
  refine L_nil ?_
  refine hK2 _ _ ?_
  refine T_seq fun K3 hK3 => ?_
  refine T_region ?_
  have S2 := S1.nilrow 34 2
  refine L_y (y_assign rfl) rfl ?_
  refine L_nil ?_
  refine hK3 _ _ ?_
  refine T_seq fun K4 hK4 => ?_
  refine T_seq fun K5 hK5 => ?_
  refine T_region ?_
  refine L_y (y_assign rfl) rfl ?_
  refine L_nil ?_
  refine hK5 _ _ ?_
  refine T_block ?_
  refine T_loop3 [(0, _), (1, _), (5, _), (6, _)] (fun (j : Nat) (A1 : Option Addr) (c1 : Nat) => [(8, .int .i64 (j : Int)), (7, .slice A1 (dg 0 0 j).length c1)]) (fun (j : Nat) (A1 : Option Addr) (c1 : Nat) => f - j) (fun (j : Nat) (A1 : Option Addr) (c1 : Nat) (w : World) => j ≤ f ∧ St w0 noM [row 34 2 A1 (dg 0 0 j).length c1 ((dg 0 0 j).flatMap pf)] w) 0 none 0 (Sub.cons rfl (by first | rfl | exact congrArg (Value.int _) (by omega)) (Sub.cons rfl (by first | rfl | exact congrArg (Value.int _) (by omega)) (Sub.nil _))) (Sub.cons rfl rfl (Sub.cons rfl rfl (Sub.cons rfl rfl (Sub.cons rfl rfl (Sub.nil _))))) ?_ ?_
  ·
    exact ⟨Nat.zero_le _, S2⟩
  ·
    intro j A1 c1 w3 hrel
    obtain ⟨hj, S3⟩ := hrel
    have hdl := dg_len 0 0 j
    refine T_seq fun K6 hK6 => ?_
    refine T_seq fun K7 hK7 => ?_
    refine T_region ?_
    refine L_y (y_move rfl) rfl ?_
    refine L_y (y_move rfl) rfl ?_
    refine L_y (y_lss rfl rfl) rfl ?_
    refine L_nil ?_
    refine hK7 _ _ ?_
    refine T_cond rfl (fun h22 => ?_) (fun h22 => ?_)
    ·
      refine T_skip ?_
      refine hK6 _ _ ?_
      refine T_seq fun K8 hK8 => ?_
      refine T_block ?_
      refine T_region ?_
      refine L_y (y_move rfl) rfl ?_
      refine L_y (y_move rfl) rfl ?_
      refine L_y (y_move rfl) rfl ?_
      refine L_y (y_build rfl (show _ = some #[Value.int .i64 (j : Int), Value.int .i64 (j : Int)] by kernel_rfl)) rfl ?_
      refine L_o (o_bsl [_, _] te25 zz34 S3 rfl rfl rfl rfl rfl rfl rfl rfl fun b4 w4 S4 => ?_)
      refine L_o (o_app te25 S4 0 rfl rfl rfl (by first | exact S4.row 0 rfl | exact S4.row 1 rfl) (by intro u hu; simp at hu; rcases hu with rfl | rfl <;> rfl) rfl (by omega) (by omega) fun A5 c5 w5 S5 => ?_)
      have S5d := S5.drop (rs' := [_]) (.cons_cons _ (.cons _ (.refl _)))
      refine L_y (y_assign rfl) rfl ?_
      refine L_nil ?_
      refine hK8 _ _ ?_
      refine T_region ?_
      refine L_y (y_move rfl) rfl ?_
      refine L_y (y_add rfl rfl (i64w (by omega))) rfl ?_
      refine L_y (y_assign rfl) rfl ?_
      refine L_nil ?_
      have S6 := S5d.rowc 0 rfl (n' := (dg 0 0 (j + 1)).length) (xs' := (dg 0 0 (j + 1)).flatMap pf) (by rw [dg_len, dg_len]) (dg_snoc3 j)
      refine ⟨j + 1, _, _, by omega, ⟨by omega, S6⟩, ?_⟩
      exact (Sub.cons rfl (by first | rfl | exact congrArg (Value.int _) (by omega)) (Sub.cons rfl (by rw [dg_len, dg_len]) (Sub.cons rfl rfl (Sub.cons rfl rfl (Sub.cons rfl rfl (Sub.cons rfl rfl (Sub.nil _)))))))
    ·
      refine T_exit ?_
      refine hK4 _ _ ?_
      refine T_seq fun K9 hK9 => ?_
      obtain rfl : f = j := by omega
      refine T_drawnL [(0, true), (1, true), (2, true), (3, true), (4, true), (5, true), (6, true), (7, true), (8, true), (9, true), (10, true), (11, true), (12, true), (13, true), (14, true), (15, true)] hmix (by kernel_rfl) fun w7 l7 => ?_
      have S7 := S3.like l7
      refine DL_y rfl (y_move rfl) rfl ?_
      refine DL_y rfl (y_move rfl) rfl ?_
      refine DL_y rfl (y_move rfl) rfl ?_
      refine DL_y rfl (y_len Try.underlying22 rfl) rfl ?_
      refine DL_y rfl (y_move rfl) rfl ?_
      refine DL_y rfl (y_sub rfl rfl (i64e (k := n - t) (by omega))) rfl ?_
      refine DL_y rfl (y_slice Try.underlying22 sz3 rfl rfl rfl inferInstance inferInstance (by omega) (by omega)) rfl ?_
      refine DL_y rfl (y_move rfl) rfl ?_
      refine DL_y rfl (y_move rfl) rfl ?_
      refine DL_y rfl (y_move rfl) rfl ?_
      refine DL_y rfl (y_len Try.underlying22 rfl) rfl ?_
      refine DL_y rfl (y_move rfl) rfl ?_
      refine DL_y rfl (y_sub rfl rfl (i64e (k := m - t) (by omega))) rfl ?_
      refine DL_y rfl (y_slice Try.underlying22 sz3 rfl rfl rfl inferInstance inferInstance (by omega) (by omega)) rfl ?_
      refine DL_y rfl (y_assign rfl) rfl ?_
      refine DL_y rfl (y_assign rfl) rfl ?_
      refine DL_nil ?_
      refine hK9 _ _ ?_
      refine T_seq fun K10 hK10 => ?_
      refine T_region ?_
      refine L_y (y_move rfl) rfl ?_
      refine L_y (y_move rfl) rfl ?_
      refine L_o (o_call Try.func22 rfl rfl (rbest24 _ _ _ _ _ _ (sub la f (n - t)) (sub lb f (m - t)) w7 (cutI (S7.rd ha) (i := f) (u := n - t) (by omega) (by omega)) (cutI (S7.rd hb) (i := f) (u := m - t) (by omega) (by omega)) (by omega) (by omega)) rfl rfl ?_)
      rintro e8 w8 ⟨v8, rfl, l8, rfl⟩
      refine ⟨_, rfl, ?_⟩
      have S8 := S7.like l8
      have hbo := bst_ok (sub la f (n - t)) (sub lb f (m - t))
      refine L_o (o_alloc zz44 S8 rfl fun b9 w9 hb9 S9 => ?_)
      refine L_o (o_stW S9 1 rfl rfl rfl sz44 (by rfl) (ptf_one1 _) fun w10 S10 => ?_)
      refine L_nil ?_
      refine hK10 _ _ ?_
      refine T_seq fun K11 hK11 => ?_
      refine T_block ?_
      refine T_seq fun K12 hK12 => ?_
      refine T_region ?_
      refine L_y (y_fieldA 2 Try.underlying44 rfl sz3 rfl rfl rfl) rfl ?_
      refine L_y (y_ldc Try.underlying3 rfl rfl (((S10.blk 1 rfl).cell _).trans (by rfl))) rfl ?_
      refine L_y (y_eql rfl rfl) rfl ?_
      refine L_y (y_assign rfl) rfl ?_
      refine L_nil ?_
      refine hK12 _ _ ?_
      refine T_cond rfl (fun h116 => ?_) (fun h116 => ?_)
      ·
        have hN0 : (bst (sub la f (n - t)) (sub lb f (m - t))).N = 0 := by omega
        refine T_skip ?_
        refine hK11 _ _ ?_
        refine T_seq fun K13 hK13 => ?_
        refine T_seq fun K14 hK14 => ?_
        have hce : coreH KM (DH KM) (sub la f (n - t)) (sub lb f (m - t)) = [] := by unfold coreH; rw [if_pos hN0]
        have S11 := S10.rowc 0 rfl (n' := (dg 0 0 f ++ mv f f (coreH KM (DH KM) (sub la f (n - t)) (sub lb f (m - t)))).length) (xs' := (dg 0 0 f ++ mv f f (coreH KM (DH KM) (sub la f (n - t)) (sub lb f (m - t)))).flatMap pf) (by rw [hce, mv_nil, List.append_nil]) (by rw [hce, mv_nil, List.append_nil])
        have S12 : St w0 _ [_] w10 := S11.sel [0] (by decide)
        refine T_region ?_
        refine L_y (y_move rfl) rfl ?_
        refine L_y (y_assign rfl) rfl ?_
        refine L_nil ?_
        refine hK14 _ _ ?_
        refine T_block ?_
        refine T_loop3 [(0, _), (1, _)] (fun (j : Nat) (A1 : Option Addr) (c1 : Nat) => [(13, .int .i64 ((t : Int) - (j : Int))), (7, .slice A1 ((dg 0 0 f ++ mv f f (coreH KM (DH KM) (sub la f (n - t)) (sub lb f (m - t)))) ++ dg (n - t) (m - t) j).length c1)]) (fun (j : Nat) (A1 : Option Addr) (c1 : Nat) => t - j) (fun (j : Nat) (A1 : Option Addr) (c1 : Nat) (w : World) => j ≤ t ∧ St w0 noM [row 34 2 A1 ((dg 0 0 f ++ mv f f (coreH KM (DH KM) (sub la f (n - t)) (sub lb f (m - t)))) ++ dg (n - t) (m - t) j).length c1 (((dg 0 0 f ++ mv f f (coreH KM (DH KM) (sub la f (n - t)) (sub lb f (m - t)))) ++ dg (n - t) (m - t) j).flatMap pf)] w) 0 _ _ (Sub.cons rfl (by first | rfl | exact congrArg (Value.int _) (by omega) | (refine congrArg (Value.slice _ · _) ?_; rw [hce]; simp only [List.length_append, mv_len, dg_len, mv_nil, List.length_nil]; first | done | omega)) (Sub.cons rfl (by first | rfl | exact congrArg (Value.int _) (by omega) | (refine congrArg (Value.slice _ · _) ?_; rw [hce]; simp only [List.length_append, mv_len, dg_len, mv_nil, List.length_nil]; first | done | omega)) (Sub.nil _))) (Sub.cons rfl rfl (Sub.cons rfl rfl (Sub.nil _))) ?_ ?_
        ·
          exact ⟨Nat.zero_le _, by rw [show dg (n - t) (m - t) 0 = [] from rfl, List.append_nil]; exact S12⟩
        ·
          intro j A1 c1 w13 hrel
          obtain ⟨hj, S13⟩ := hrel
          have hdl := dg_len (n - t) (m - t) j
          have hol3 : ((dg 0 0 f ++ mv f f (coreH KM (DH KM) (sub la f (n - t)) (sub lb f (m - t)))) ++ dg (n - t) (m - t) j).length = f + (coreH KM (DH KM) (sub la f (n - t)) (sub lb f (m - t))).length + j := by simp only [List.length_append, mv_len, dg_len]
          refine T_seq fun K15 hK15 => ?_
          refine T_seq fun K16 hK16 => ?_
          refine T_region ?_
          refine L_y (y_move rfl) rfl ?_
          refine L_y (y_gtr rfl rfl) rfl ?_
          refine L_nil ?_
          refine hK16 _ _ ?_
          refine T_cond rfl (fun h134 => ?_) (fun h134 => ?_)
          ·
            refine T_skip ?_
            refine hK15 _ _ ?_
            refine T_seq fun K17 hK17 => ?_
            refine T_block ?_
            refine T_region ?_
            refine L_y (y_move rfl) rfl ?_
            refine L_y (y_move rfl) rfl ?_
            refine L_y (y_len Try.underlying22 rfl) rfl ?_
            refine L_y (y_move rfl) rfl ?_
            refine L_y (y_sub rfl rfl (i64e (k := n - t + j) (by omega))) rfl ?_
            refine L_y (y_move rfl) rfl ?_
            refine L_y (y_len Try.underlying22 rfl) rfl ?_
            refine L_y (y_move rfl) rfl ?_
            refine L_y (y_sub rfl rfl (i64e (k := m - t + j) (by omega))) rfl ?_
            refine L_y (y_build rfl (show _ = some #[Value.int .i64 ((n - t + j : Nat) : Int), Value.int .i64 ((m - t + j : Nat) : Int)] by kernel_rfl)) rfl ?_
            refine L_o (o_bsl [_, _] te25 zz34 S13 rfl rfl rfl rfl rfl rfl rfl rfl fun b14 w14 S14 => ?_)
            refine L_o (o_app te25 S14 0 rfl rfl rfl (by first | exact S14.row 0 rfl | exact S14.row 1 rfl) (by intro u hu; simp at hu; rcases hu with rfl | rfl <;> rfl) rfl (by omega) (by omega) fun A15 c15 w15 S15 => ?_)
            have S15d := S15.drop (rs' := [_]) (.cons_cons _ (.cons _ (.refl _)))
            refine L_y (y_assign rfl) rfl ?_
            refine L_nil ?_
            refine hK17 _ _ ?_
            refine T_region ?_
            refine L_y (y_move rfl) rfl ?_
            refine L_y (y_sub rfl rfl (i64w (by omega))) rfl ?_
            refine L_y (y_assign rfl) rfl ?_
            refine L_nil ?_
            have S16 := S15d.rowc 0 rfl (n' := ((dg 0 0 f ++ mv f f (coreH KM (DH KM) (sub la f (n - t)) (sub lb f (m - t)))) ++ dg (n - t) (m - t) (j + 1)).length) (xs' := ((dg 0 0 f ++ mv f f (coreH KM (DH KM) (sub la f (n - t)) (sub lb f (m - t)))) ++ dg (n - t) (m - t) (j + 1)).flatMap pf) (by rw [List.length_append, dg_len, List.length_append (bs := dg _ _ (j + 1)), dg_len]; omega) (dg_snoc2 _ _ _ _)
            refine ⟨j + 1, _, _, by omega, ⟨by omega, S16⟩, ?_⟩
            exact (Sub.cons rfl (by first | rfl | exact congrArg (Value.int _) (by omega)) (Sub.cons rfl (by simp only [List.length_append, mv_len, dg_len]; rfl) (Sub.cons rfl rfl (Sub.cons rfl rfl (Sub.nil _)))))
          ·
            refine T_exit ?_
            refine hK13 _ _ ?_
            refine T_seq fun K18 hK18 => ?_
            refine T_region ?_
            refine L_y (y_move rfl) rfl ?_
            refine L_y (y_assign rfl) rfl ?_
            refine L_nil ?_
            refine hK18 _ _ ?_
            refine T_ret ?_
            repeat (first | with_reducible refine up_then ?_ | with_reducible refine up_in ?_)
            refine ret1 rfl rfl ?_
            have hje : j = t := by omega
            subst hje
            refine ⟨_, rfl, S13.like0, _, _, _, rfl, ?_⟩
            have hown := S13.own 0 rfl
            rw [← hDE] at hown ⊢
            exact hown
      ·
        have hN0 : ¬ (bst (sub la f (n - t)) (sub lb f (m - t))).N = 0 := by omega
        obtain ⟨hbo1, hbo2, _⟩ := hbo hN0
        refine T_seq fun K19 hK19 => ?_
        refine T_region ?_
        refine L_y (y_fieldA 3 Try.underlying44 rfl sz3 rfl rfl rfl) rfl ?_
        refine L_y (y_ldc Try.underlying3 rfl rfl (((S10.blk 1 rfl).cell _).trans (by rfl))) rfl ?_
        refine L_y (y_gtr rfl rfl) rfl ?_
        refine L_y (y_assign rfl) rfl ?_
        refine L_nil ?_
        refine hK19 _ _ ?_
        refine T_cond rfl (fun h120 => ?_) (fun h120 => ?_)
        ·
          refine T_region ?_
          refine L_y (y_move rfl) rfl ?_
          refine L_y (y_move rfl) rfl ?_
          refine L_y (y_move rfl) rfl ?_
          refine L_o (o_call Try.func37 rfl rfl (rdiff _ _ _ _ _ _ (sub la f (n - t)) (sub lb f (m - t)) w10 (cutI (S10.rd ha) (i := f) (u := n - t) (by omega) (by omega)) (cutI (S10.rd hb) (i := f) (u := m - t) (by omega) (by omega)) (by omega) (by omega)) rfl rfl ?_)
          rintro e17 w17 ⟨v17, rfl, l17, A17, n17, c17, rfl, O17⟩
          refine ⟨_, rfl, ?_⟩
          have S17 := S10.adopt l17 O17
          have hdn : n17 = (KM (sub la f (n - t)) (sub lb f (m - t))).length := pf_n (S17.row 2 rfl)
          have hKl : (KM (sub la f (n - t)) (sub lb f (m - t))).length ≤ (sub la f (n - t)).length := by have := (KM_ok (sub la f (n - t)) (sub lb f (m - t))).len; omega
          refine L_y (y_move rfl) rfl ?_
          refine L_y (y_move rfl) rfl ?_
          refine L_o (o_call Try.func36 rfl rfl (rmoved24 _ _ _ (KM (sub la f (n - t)) (sub lb f (m - t))) f f w17 (S17.row 2 rfl) (by omega) (by omega) (by omega) (fun p hp => by have := (KM_ok (sub la f (n - t)) (sub lb f (m - t))).1 p hp; omega)) rfl rfl ?_)
          rintro e18 w18 ⟨v18, rfl, l18, A18, n18, c18, rfl, O18⟩
          refine ⟨_, rfl, ?_⟩
          have S18 := S17.adopt l18 O18
          have hmn : n18 = (mv f f (KM (sub la f (n - t)) (sub lb f (m - t)))).length := pf_n (S18.row 3 rfl)
          have hmn2 := hmn
          rw [mv_len] at hmn2
          refine L_o (o_app te25 S18 0 rfl rfl rfl (S18.row 3 rfl) (fun u hu => pf_one _ u hu) rfl (by omega) (by omega) fun A19 c19 w19 S19 => ?_)
          refine L_y (y_assign rfl) rfl ?_
          refine L_nil ?_
          refine hK11 _ _ ?_
          refine T_seq fun K20 hK20 => ?_
          refine T_seq fun K21 hK21 => ?_
          have hce : coreH KM (DH KM) (sub la f (n - t)) (sub lb f (m - t)) = KM (sub la f (n - t)) (sub lb f (m - t)) := by unfold coreH; rw [if_neg hN0, if_pos (by omega)]
          have S20 := S19.rowc 0 rfl (n' := (dg 0 0 f ++ mv f f (coreH KM (DH KM) (sub la f (n - t)) (sub lb f (m - t)))).length) (xs' := (dg 0 0 f ++ mv f f (coreH KM (DH KM) (sub la f (n - t)) (sub lb f (m - t)))).flatMap pf) (by rw [hce]; simp only [List.length_append, mv_len, dg_len] at hmn ⊢; omega) (by rw [hce, List.flatMap_append])
          have S21 : St w0 _ [_] w19 := S20.sel [0] (by decide)
          refine T_region ?_
          refine L_y (y_move rfl) rfl ?_
          refine L_y (y_assign rfl) rfl ?_
          refine L_nil ?_
          refine hK21 _ _ ?_
          refine T_block ?_
          refine T_loop3 [(0, _), (1, _)] (fun (j : Nat) (A1 : Option Addr) (c1 : Nat) => [(13, .int .i64 ((t : Int) - (j : Int))), (7, .slice A1 ((dg 0 0 f ++ mv f f (coreH KM (DH KM) (sub la f (n - t)) (sub lb f (m - t)))) ++ dg (n - t) (m - t) j).length c1)]) (fun (j : Nat) (A1 : Option Addr) (c1 : Nat) => t - j) (fun (j : Nat) (A1 : Option Addr) (c1 : Nat) (w : World) => j ≤ t ∧ St w0 noM [row 34 2 A1 ((dg 0 0 f ++ mv f f (coreH KM (DH KM) (sub la f (n - t)) (sub lb f (m - t)))) ++ dg (n - t) (m - t) j).length c1 (((dg 0 0 f ++ mv f f (coreH KM (DH KM) (sub la f (n - t)) (sub lb f (m - t)))) ++ dg (n - t) (m - t) j).flatMap pf)] w) 0 _ _ (Sub.cons rfl (by first | rfl | exact congrArg (Value.int _) (by omega) | (refine congrArg (Value.slice _ · _) ?_; rw [hce]; simp only [List.length_append, mv_len, dg_len, mv_nil, List.length_nil]; first | done | omega)) (Sub.cons rfl (by first | rfl | exact congrArg (Value.int _) (by omega) | (refine congrArg (Value.slice _ · _) ?_; rw [hce]; simp only [List.length_append, mv_len, dg_len, mv_nil, List.length_nil]; first | done | omega)) (Sub.nil _))) (Sub.cons rfl rfl (Sub.cons rfl rfl (Sub.nil _))) ?_ ?_
          ·
            exact ⟨Nat.zero_le _, by rw [show dg (n - t) (m - t) 0 = [] from rfl, List.append_nil]; exact S21⟩
          ·
            intro j A1 c1 w22 hrel
            obtain ⟨hj, S22⟩ := hrel
            have hdl := dg_len (n - t) (m - t) j
            have hol3 : ((dg 0 0 f ++ mv f f (coreH KM (DH KM) (sub la f (n - t)) (sub lb f (m - t)))) ++ dg (n - t) (m - t) j).length = f + (coreH KM (DH KM) (sub la f (n - t)) (sub lb f (m - t))).length + j := by simp only [List.length_append, mv_len, dg_len]
            refine T_seq fun K22 hK22 => ?_
            refine T_seq fun K23 hK23 => ?_
            refine T_region ?_
            refine L_y (y_move rfl) rfl ?_
            refine L_y (y_gtr rfl rfl) rfl ?_
            refine L_nil ?_
            refine hK23 _ _ ?_
            refine T_cond rfl (fun h134 => ?_) (fun h134 => ?_)
            ·
              refine T_skip ?_
              refine hK22 _ _ ?_
              refine T_seq fun K24 hK24 => ?_
              refine T_block ?_
              refine T_region ?_
              refine L_y (y_move rfl) rfl ?_
              refine L_y (y_move rfl) rfl ?_
              refine L_y (y_len Try.underlying22 rfl) rfl ?_
              refine L_y (y_move rfl) rfl ?_
              refine L_y (y_sub rfl rfl (i64e (k := n - t + j) (by omega))) rfl ?_
              refine L_y (y_move rfl) rfl ?_
              refine L_y (y_len Try.underlying22 rfl) rfl ?_
              refine L_y (y_move rfl) rfl ?_
              refine L_y (y_sub rfl rfl (i64e (k := m - t + j) (by omega))) rfl ?_
              refine L_y (y_build rfl (show _ = some #[Value.int .i64 ((n - t + j : Nat) : Int), Value.int .i64 ((m - t + j : Nat) : Int)] by kernel_rfl)) rfl ?_
              refine L_o (o_bsl [_, _] te25 zz34 S22 rfl rfl rfl rfl rfl rfl rfl rfl fun b23 w23 S23 => ?_)
              refine L_o (o_app te25 S23 0 rfl rfl rfl (by first | exact S23.row 0 rfl | exact S23.row 1 rfl) (by intro u hu; simp at hu; rcases hu with rfl | rfl <;> rfl) rfl (by omega) (by omega) fun A24 c24 w24 S24 => ?_)
              have S24d := S24.drop (rs' := [_]) (.cons_cons _ (.cons _ (.refl _)))
              refine L_y (y_assign rfl) rfl ?_
              refine L_nil ?_
              refine hK24 _ _ ?_
              refine T_region ?_
              refine L_y (y_move rfl) rfl ?_
              refine L_y (y_sub rfl rfl (i64w (by omega))) rfl ?_
              refine L_y (y_assign rfl) rfl ?_
              refine L_nil ?_
              have S25 := S24d.rowc 0 rfl (n' := ((dg 0 0 f ++ mv f f (coreH KM (DH KM) (sub la f (n - t)) (sub lb f (m - t)))) ++ dg (n - t) (m - t) (j + 1)).length) (xs' := ((dg 0 0 f ++ mv f f (coreH KM (DH KM) (sub la f (n - t)) (sub lb f (m - t)))) ++ dg (n - t) (m - t) (j + 1)).flatMap pf) (by rw [List.length_append, dg_len, List.length_append (bs := dg _ _ (j + 1)), dg_len]; omega) (dg_snoc2 _ _ _ _)
              refine ⟨j + 1, _, _, by omega, ⟨by omega, S25⟩, ?_⟩
              exact (Sub.cons rfl (by first | rfl | exact congrArg (Value.int _) (by omega)) (Sub.cons rfl (by simp only [List.length_append, mv_len, dg_len]; rfl) (Sub.cons rfl rfl (Sub.cons rfl rfl (Sub.nil _)))))
            ·
              refine T_exit ?_
              refine hK20 _ _ ?_
              refine T_seq fun K25 hK25 => ?_
              refine T_region ?_
              refine L_y (y_move rfl) rfl ?_
              refine L_y (y_assign rfl) rfl ?_
              refine L_nil ?_
              refine hK25 _ _ ?_
              refine T_ret ?_
              repeat (first | with_reducible refine up_then ?_ | with_reducible refine up_in ?_)
              refine ret1 rfl rfl ?_
              have hje : j = t := by omega
              subst hje
              refine ⟨_, rfl, S22.like0, _, _, _, rfl, ?_⟩
              have hown := S22.own 0 rfl
              rw [← hDE] at hown ⊢
              exact hown
        ·
          have hsa : (sub (sub la f (n - t)) 0 (bst (sub la f (n - t)) (sub lb f (m - t))).A).length = (bst (sub la f (n - t)) (sub lb f (m - t))).A - 0 := sub_len (by omega)
          have hsb : (sub (sub lb f (m - t)) 0 (bst (sub la f (n - t)) (sub lb f (m - t))).B).length = (bst (sub la f (n - t)) (sub lb f (m - t))).B - 0 := sub_len (by omega)
          have hsc : (sub (sub la f (n - t)) ((bst (sub la f (n - t)) (sub lb f (m - t))).A + (bst (sub la f (n - t)) (sub lb f (m - t))).N) (n - t - f)).length = n - t - f - ((bst (sub la f (n - t)) (sub lb f (m - t))).A + (bst (sub la f (n - t)) (sub lb f (m - t))).N) := sub_len (by omega)
          have hsd : (sub (sub lb f (m - t)) ((bst (sub la f (n - t)) (sub lb f (m - t))).B + (bst (sub la f (n - t)) (sub lb f (m - t))).N) (m - t - f)).length = m - t - f - ((bst (sub la f (n - t)) (sub lb f (m - t))).B + (bst (sub la f (n - t)) (sub lb f (m - t))).N) := sub_len (by omega)
          refine T_seq fun K26 hK26 => ?_
          refine T_zed [0, 1, 2, 3, 4, 5, 6, 7, 8, 10, 11, 9, 12] 13 [(0, 1), (1, 1), (2, 1), (3, 1), (4, 1), (5, 1), (6, 1), (7, 1), (8, 1), (10, 1), (11, 1), (9, 2), (12, 2), (13, 3), (14, 3)] hmix (by kernel_rfl) fun w26 l26 => ?_
          have S26 := S10.like l26
          refine ZA_B (Like w26) (Like.refl _) ?_
          refine ZB_y rfl (y_move rfl) rfl ?_
          refine ZB_y rfl (y_move rfl) rfl ?_
          refine ZB_y rfl (y_fieldA 0 Try.underlying44 rfl sz3 rfl rfl rfl) rfl ?_
          refine ZB_y rfl (y_ldc Try.underlying3 rfl rfl (((S26.blk 1 rfl).cell _).trans (by rfl))) rfl ?_
          refine ZB_y rfl (y_sliceH Try.underlying22 sz3 rfl rfl inferInstance (by omega)) rfl ?_
          refine ZB_y rfl (y_move rfl) rfl ?_
          refine ZB_y rfl (y_fieldA 1 Try.underlying44 rfl sz3 rfl rfl rfl) rfl ?_
          refine ZB_y rfl (y_ldc Try.underlying3 rfl rfl (((S26.blk 1 rfl).cell _).trans (by rfl))) rfl ?_
          refine ZB_y rfl (y_sliceH Try.underlying22 sz3 rfl rfl inferInstance (by omega)) rfl ?_
          refine ZB_y rfl (y_move rfl) rfl ?_
          refine ZB_y rfl (y_move rfl) rfl ?_
          refine ZB_o rfl (o_call Try.func15 rfl rfl (ih _ _ _ _ _ _ (sub (sub la f (n - t)) 0 (bst (sub la f (n - t)) (sub lb f (m - t))).A) (sub (sub lb f (m - t)) 0 (bst (sub la f (n - t)) (sub lb f (m - t))).B) w26 (cutI (cutI (S26.rd ha) (i := f) (u := n - t) (by omega) (by omega)) (i := 0) (u := (bst (sub la f (n - t)) (sub lb f (m - t))).A) (by omega) (by omega)) (cutI (cutI (S26.rd hb) (i := f) (u := m - t) (by omega) (by omega)) (i := 0) (u := (bst (sub la f (n - t)) (sub lb f (m - t))).B) (by omega) (by omega)) (by omega) (by omega) (by omega)) rfl rfl ?_)
          rintro e27 w27 ⟨v27, rfl, l27, A27, n27, c27, rfl, O27⟩
          refine ⟨_, rfl, l27, ?_⟩
          have S27 := S26.adopt l27 O27
          have hdn : n27 = (DH KM (sub (sub la f (n - t)) 0 (bst (sub la f (n - t)) (sub lb f (m - t))).A) (sub (sub lb f (m - t)) 0 (bst (sub la f (n - t)) (sub lb f (m - t))).B)).length := pf_n (S27.row 2 rfl); have hdk := DHK_len (sub (sub la f (n - t)) 0 (bst (sub la f (n - t)) (sub lb f (m - t))).A) (sub (sub lb f (m - t)) 0 (bst (sub la f (n - t)) (sub lb f (m - t))).B)
          have q27 := l27
          refine ZB_o rfl (o_call Try.func36 rfl rfl (rmoved24 _ _ _ (DH KM (sub (sub la f (n - t)) 0 (bst (sub la f (n - t)) (sub lb f (m - t))).A) (sub (sub lb f (m - t)) 0 (bst (sub la f (n - t)) (sub lb f (m - t))).B)) f f w27 (S27.row 2 rfl) (by omega) (by omega) (by omega) (fun q hq => by have := (DH_ok KM_ok (sub (sub la f (n - t)) 0 (bst (sub la f (n - t)) (sub lb f (m - t))).A) (sub (sub lb f (m - t)) 0 (bst (sub la f (n - t)) (sub lb f (m - t))).B)).1 q hq; omega)) rfl rfl ?_)
          rintro e28 w28 ⟨v28, rfl, l28, A28, n28, c28, rfl, O28⟩
          refine ⟨_, rfl, (Like.trans q27 l28), ?_⟩
          have S28 := S27.adopt l28 O28
          have hmn : n28 = (mv f f (DH KM (sub (sub la f (n - t)) 0 (bst (sub la f (n - t)) (sub lb f (m - t))).A) (sub (sub lb f (m - t)) 0 (bst (sub la f (n - t)) (sub lb f (m - t))).B))).length := pf_n (S28.row 3 rfl)
          have hmn2 := hmn
          rw [mv_len] at hmn2
          have q28 := (Like.trans q27 l28)
          refine ZB_c rfl (o_app te25 S28 0 rfl rfl rfl (S28.row 3 rfl) (fun u hu => pf_one _ u hu) rfl (by omega) (by omega) fun A29 c29 w29 S29 => ?_)
          refine ZA_oy rfl (y_assign rfl) rfl ?_
          refine ZA_nil ?_
          refine hK26 _ _ ?_
          refine T_seq fun K27 hK27 => ?_
          refine T_seq fun K28 hK28 => ?_
          have S30 := S29.rowc 0 rfl (n' := (dg 0 0 f ++ mv f f (DH KM (sub (sub la f (n - t)) 0 (bst (sub la f (n - t)) (sub lb f (m - t))).A) (sub (sub lb f (m - t)) 0 (bst (sub la f (n - t)) (sub lb f (m - t))).B))).length) (xs' := (dg 0 0 f ++ mv f f (DH KM (sub (sub la f (n - t)) 0 (bst (sub la f (n - t)) (sub lb f (m - t))).A) (sub (sub lb f (m - t)) 0 (bst (sub la f (n - t)) (sub lb f (m - t))).B))).flatMap pf) (by rw [hmn]; exact List.length_append.symm) (app_pf _ _)
          have S31 : St w0 _ [_, _] w29 := S30.sel [1, 0] (by decide)
          refine T_region ?_
          refine L_y (y_assign rfl) rfl ?_
          refine L_nil ?_
          refine hK28 _ _ ?_
          refine T_block ?_
          refine T_loop3 [(0, _), (1, _), (5, _), (6, _), (9, _), (10, _), (11, _)] (fun (j : Nat) (A1 : Option Addr) (c1 : Nat) => [(12, .int .i64 (j : Int)), (7, .slice A1 ((dg 0 0 f ++ mv f f (DH KM (sub (sub la f (n - t)) 0 (bst (sub la f (n - t)) (sub lb f (m - t))).A) (sub (sub lb f (m - t)) 0 (bst (sub la f (n - t)) (sub lb f (m - t))).B))) ++ dg (f + (bst (sub la f (n - t)) (sub lb f (m - t))).A) (f + (bst (sub la f (n - t)) (sub lb f (m - t))).B) (j)).length c1)]) (fun (j : Nat) (A1 : Option Addr) (c1 : Nat) => (bst (sub la f (n - t)) (sub lb f (m - t))).N - j) (fun (j : Nat) (A1 : Option Addr) (c1 : Nat) (w : World) => j ≤ (bst (sub la f (n - t)) (sub lb f (m - t))).N ∧ St w0 noM [blk b9 44 (ptf (bst (sub la f (n - t)) (sub lb f (m - t)))).toArray, row 34 2 A1 ((dg 0 0 f ++ mv f f (DH KM (sub (sub la f (n - t)) 0 (bst (sub la f (n - t)) (sub lb f (m - t))).A) (sub (sub lb f (m - t)) 0 (bst (sub la f (n - t)) (sub lb f (m - t))).B))) ++ dg (f + (bst (sub la f (n - t)) (sub lb f (m - t))).A) (f + (bst (sub la f (n - t)) (sub lb f (m - t))).B) (j)).length c1 (((dg 0 0 f ++ mv f f (DH KM (sub (sub la f (n - t)) 0 (bst (sub la f (n - t)) (sub lb f (m - t))).A) (sub (sub lb f (m - t)) 0 (bst (sub la f (n - t)) (sub lb f (m - t))).B))) ++ dg (f + (bst (sub la f (n - t)) (sub lb f (m - t))).A) (f + (bst (sub la f (n - t)) (sub lb f (m - t))).B) (j)).flatMap pf)] w) 0 A29 c29 (Sub.cons rfl (by first | rfl | exact congrArg (Value.int _) (by omega) | (rw [hmn, show dg (f + (bst (sub la f (n - t)) (sub lb f (m - t))).A) (f + (bst (sub la f (n - t)) (sub lb f (m - t))).B) 0 = [] from rfl, List.append_nil]; exact congrArg (Value.slice _ · _) List.length_append.symm)) (Sub.cons rfl (by first | rfl | exact congrArg (Value.int _) (by omega) | (rw [hmn, show dg (f + (bst (sub la f (n - t)) (sub lb f (m - t))).A) (f + (bst (sub la f (n - t)) (sub lb f (m - t))).B) 0 = [] from rfl, List.append_nil]; exact congrArg (Value.slice _ · _) List.length_append.symm)) (Sub.nil _))) (Sub.cons rfl rfl (Sub.cons rfl rfl (Sub.cons rfl rfl (Sub.cons rfl rfl (Sub.cons rfl rfl (Sub.cons rfl rfl (Sub.cons rfl rfl (Sub.nil _)))))))) ?_ ?_
          ·
            exact ⟨Nat.zero_le _, by rw [show dg (f + (bst (sub la f (n - t)) (sub lb f (m - t))).A) (f + (bst (sub la f (n - t)) (sub lb f (m - t))).B) 0 = [] from rfl, List.append_nil]; exact S31⟩
          ·
            intro j A1 c1 w32 hrel
            obtain ⟨hj, S32⟩ := hrel
            have hol3 : ((dg 0 0 f ++ mv f f (DH KM (sub (sub la f (n - t)) 0 (bst (sub la f (n - t)) (sub lb f (m - t))).A) (sub (sub lb f (m - t)) 0 (bst (sub la f (n - t)) (sub lb f (m - t))).B))) ++ dg (f + (bst (sub la f (n - t)) (sub lb f (m - t))).A) (f + (bst (sub la f (n - t)) (sub lb f (m - t))).B) (j)).length = f + (DH KM (sub (sub la f (n - t)) 0 (bst (sub la f (n - t)) (sub lb f (m - t))).A) (sub (sub lb f (m - t)) 0 (bst (sub la f (n - t)) (sub lb f (m - t))).B)).length + j := by simp only [List.length_append, mv_len, dg_len]
            refine T_seq fun K29 hK29 => ?_
            refine T_seq fun K30 hK30 => ?_
            refine T_region ?_
            refine L_y (y_move rfl) rfl ?_
            refine L_y (y_fieldA 2 Try.underlying44 rfl sz3 rfl rfl rfl) rfl ?_
            refine L_y (y_ldc Try.underlying3 rfl rfl (((S32.blk 0 rfl).cell _).trans (by rfl))) rfl ?_
            refine L_y (y_lss rfl rfl) rfl ?_
            refine L_nil ?_
            refine hK30 _ _ ?_
            refine T_cond rfl (fun h65 => ?_) (fun h65 => ?_)
            ·
              refine T_skip ?_
              refine hK29 _ _ ?_
              refine T_seq fun K31 hK31 => ?_
              refine T_block ?_
              refine T_region ?_
              refine L_y (y_move rfl) rfl ?_
              refine L_y (y_move rfl) rfl ?_
              refine L_y (y_fieldA 0 Try.underlying44 rfl sz3 rfl rfl rfl) rfl ?_
              refine L_y (y_ldc Try.underlying3 rfl rfl (((S32.blk 0 rfl).cell _).trans (by rfl))) rfl ?_
              refine L_y (y_add rfl rfl (i64e (k := f + (bst (sub la f (n - t)) (sub lb f (m - t))).A) (by omega))) rfl ?_
              refine L_y (y_move rfl) rfl ?_
              refine L_y (y_add rfl rfl (i64e (k := f + (bst (sub la f (n - t)) (sub lb f (m - t))).A + j) (by omega))) rfl ?_
              refine L_y (y_move rfl) rfl ?_
              refine L_y (y_fieldA 1 Try.underlying44 rfl sz3 rfl rfl rfl) rfl ?_
              refine L_y (y_ldc Try.underlying3 rfl rfl (((S32.blk 0 rfl).cell _).trans (by rfl))) rfl ?_
              refine L_y (y_add rfl rfl (i64e (k := f + (bst (sub la f (n - t)) (sub lb f (m - t))).B) (by omega))) rfl ?_
              refine L_y (y_move rfl) rfl ?_
              refine L_y (y_add rfl rfl (i64e (k := f + (bst (sub la f (n - t)) (sub lb f (m - t))).B + j) (by omega))) rfl ?_
              refine L_y (y_build rfl (show _ = some #[Value.int .i64 ((f + (bst (sub la f (n - t)) (sub lb f (m - t))).A + j : Nat) : Int), Value.int .i64 ((f + (bst (sub la f (n - t)) (sub lb f (m - t))).B + j : Nat) : Int)] by kernel_rfl)) rfl ?_
              refine L_o (o_bsl [_, _] te25 zz34 S32 rfl rfl rfl rfl rfl rfl rfl rfl fun b33 w33 S33 => ?_)
              refine L_o (o_app te25 S33 1 rfl rfl rfl (by first | exact S33.row 1 rfl | exact S33.row 2 rfl) (by intro u hu; simp at hu; rcases hu with rfl | rfl <;> rfl) rfl (by omega) (by omega) fun A34 c34 w34 S34 => ?_)
              have S34d := S34.drop (rs' := [_, _]) (.cons_cons _ (.cons_cons _ (.cons _ (.refl _))))
              refine L_y (y_assign rfl) rfl ?_
              refine L_nil ?_
              refine hK31 _ _ ?_
              refine T_region ?_
              refine L_y (y_move rfl) rfl ?_
              refine L_y (y_add rfl rfl (i64w (by omega))) rfl ?_
              refine L_y (y_assign rfl) rfl ?_
              refine L_nil ?_
              have S35 := S34d.rowc 1 rfl (n' := ((dg 0 0 f ++ mv f f (DH KM (sub (sub la f (n - t)) 0 (bst (sub la f (n - t)) (sub lb f (m - t))).A) (sub (sub lb f (m - t)) 0 (bst (sub la f (n - t)) (sub lb f (m - t))).B))) ++ dg (f + (bst (sub la f (n - t)) (sub lb f (m - t))).A) (f + (bst (sub la f (n - t)) (sub lb f (m - t))).B) (j + 1)).length) (xs' := ((dg 0 0 f ++ mv f f (DH KM (sub (sub la f (n - t)) 0 (bst (sub la f (n - t)) (sub lb f (m - t))).A) (sub (sub lb f (m - t)) 0 (bst (sub la f (n - t)) (sub lb f (m - t))).B))) ++ dg (f + (bst (sub la f (n - t)) (sub lb f (m - t))).A) (f + (bst (sub la f (n - t)) (sub lb f (m - t))).B) (j + 1)).flatMap pf) (by rw [List.length_append, dg_len, List.length_append (bs := dg _ _ (j + 1)), dg_len]; omega) (dg_snoc2 _ _ _ _)
              refine ⟨j + 1, _, _, by omega, ⟨by omega, S35⟩, ?_⟩
              exact (Sub.cons rfl (by first | rfl | exact congrArg (Value.int _) (by omega)) (Sub.cons rfl (by simp only [List.length_append, mv_len, dg_len]; rfl) (Sub.cons rfl rfl (Sub.cons rfl rfl (Sub.cons rfl rfl (Sub.cons rfl rfl (Sub.cons rfl rfl (Sub.cons rfl rfl (Sub.cons rfl rfl (Sub.nil _))))))))))
            ·
              refine T_exit ?_
              refine hK27 _ _ ?_
              have hje : j = (bst (sub la f (n - t)) (sub lb f (m - t))).N := by omega
              subst hje
              refine T_zed [0, 1, 2, 3, 4, 5, 6, 7, 8, 9, 10, 11, 12, 13, 14, 16, 17, 18, 19, 20, 21, 22, 23, 24, 25, 26, 27, 28, 29, 15, 30] 31 [(0, 1), (1, 1), (2, 1), (3, 1), (4, 1), (5, 1), (6, 1), (7, 1), (8, 1), (9, 1), (10, 1), (11, 1), (12, 1), (13, 1), (14, 1), (16, 1), (17, 1), (18, 1), (19, 1), (20, 1), (21, 1), (22, 1), (23, 1), (24, 1), (25, 1), (26, 1), (27, 1), (28, 1), (29, 1), (15, 2), (30, 2), (31, 3), (32, 3)] hmix (by kernel_rfl) fun w36 l36 => ?_
              have S36 := S32.like l36
              refine ZA_B (Like w36) (Like.refl _) ?_
              refine ZB_y rfl (y_move rfl) rfl ?_
              refine ZB_y rfl (y_move rfl) rfl ?_
              refine ZB_y rfl (y_fieldA 0 Try.underlying44 rfl sz3 rfl rfl rfl) rfl ?_
              refine ZB_y rfl (y_ldc Try.underlying3 rfl rfl (((S36.blk 0 rfl).cell _).trans (by rfl))) rfl ?_
              refine ZB_y rfl (y_fieldA 2 Try.underlying44 rfl sz3 rfl rfl rfl) rfl ?_
              refine ZB_y rfl (y_ldc Try.underlying3 rfl rfl (((S36.blk 0 rfl).cell _).trans (by rfl))) rfl ?_
              refine ZB_y rfl (y_add rfl rfl (i64e (k := (bst (sub la f (n - t)) (sub lb f (m - t))).A + (bst (sub la f (n - t)) (sub lb f (m - t))).N) (by omega))) rfl ?_
              refine ZB_y rfl (y_sliceL Try.underlying22 sz3 rfl rfl inferInstance (by omega)) rfl ?_
              refine ZB_y rfl (y_move rfl) rfl ?_
              refine ZB_y rfl (y_fieldA 1 Try.underlying44 rfl sz3 rfl rfl rfl) rfl ?_
              refine ZB_y rfl (y_ldc Try.underlying3 rfl rfl (((S36.blk 0 rfl).cell _).trans (by rfl))) rfl ?_
              refine ZB_y rfl (y_fieldA 2 Try.underlying44 rfl sz3 rfl rfl rfl) rfl ?_
              refine ZB_y rfl (y_ldc Try.underlying3 rfl rfl (((S36.blk 0 rfl).cell _).trans (by rfl))) rfl ?_
              refine ZB_y rfl (y_add rfl rfl (i64e (k := (bst (sub la f (n - t)) (sub lb f (m - t))).B + (bst (sub la f (n - t)) (sub lb f (m - t))).N) (by omega))) rfl ?_
              refine ZB_y rfl (y_sliceL Try.underlying22 sz3 rfl rfl inferInstance (by omega)) rfl ?_
              refine ZB_y rfl (y_move rfl) rfl ?_
              refine ZB_y rfl (y_fieldA 0 Try.underlying44 rfl sz3 rfl rfl rfl) rfl ?_
              refine ZB_y rfl (y_ldc Try.underlying3 rfl rfl (((S36.blk 0 rfl).cell _).trans (by rfl))) rfl ?_
              refine ZB_y rfl (y_add rfl rfl (i64e (k := f + (bst (sub la f (n - t)) (sub lb f (m - t))).A) (by omega))) rfl ?_
              refine ZB_y rfl (y_fieldA 2 Try.underlying44 rfl sz3 rfl rfl rfl) rfl ?_
              refine ZB_y rfl (y_ldc Try.underlying3 rfl rfl (((S36.blk 0 rfl).cell _).trans (by rfl))) rfl ?_
              refine ZB_y rfl (y_add rfl rfl (i64e (k := f + (bst (sub la f (n - t)) (sub lb f (m - t))).A + (bst (sub la f (n - t)) (sub lb f (m - t))).N) (by omega))) rfl ?_
              refine ZB_y rfl (y_move rfl) rfl ?_
              refine ZB_y rfl (y_fieldA 1 Try.underlying44 rfl sz3 rfl rfl rfl) rfl ?_
              refine ZB_y rfl (y_ldc Try.underlying3 rfl rfl (((S36.blk 0 rfl).cell _).trans (by rfl))) rfl ?_
              refine ZB_y rfl (y_add rfl rfl (i64e (k := f + (bst (sub la f (n - t)) (sub lb f (m - t))).B) (by omega))) rfl ?_
              refine ZB_y rfl (y_fieldA 2 Try.underlying44 rfl sz3 rfl rfl rfl) rfl ?_
              refine ZB_y rfl (y_ldc Try.underlying3 rfl rfl (((S36.blk 0 rfl).cell _).trans (by rfl))) rfl ?_
              refine ZB_y rfl (y_add rfl rfl (i64e (k := f + (bst (sub la f (n - t)) (sub lb f (m - t))).B + (bst (sub la f (n - t)) (sub lb f (m - t))).N) (by omega))) rfl ?_
              refine ZB_o rfl (o_call Try.func15 rfl rfl (ih _ _ _ _ _ _ (sub (sub la f (n - t)) ((bst (sub la f (n - t)) (sub lb f (m - t))).A + (bst (sub la f (n - t)) (sub lb f (m - t))).N) (n - t - f)) (sub (sub lb f (m - t)) ((bst (sub la f (n - t)) (sub lb f (m - t))).B + (bst (sub la f (n - t)) (sub lb f (m - t))).N) (m - t - f)) w36 (cutI (cutI (S36.rd ha) (i := f) (u := n - t) (by omega) (by omega)) (by omega) (by omega)) (cutI (cutI (S36.rd hb) (i := f) (u := m - t) (by omega) (by omega)) (by omega) (by omega)) (by omega) (by omega) (by omega)) rfl rfl ?_)
              rintro e37 w37 ⟨v37, rfl, l37, A37, n37, c37, rfl, O37⟩
              refine ⟨_, rfl, l37, ?_⟩
              have S37 := S36.adopt l37 O37
              have hdn : n37 = (DH KM (sub (sub la f (n - t)) ((bst (sub la f (n - t)) (sub lb f (m - t))).A + (bst (sub la f (n - t)) (sub lb f (m - t))).N) (n - t - f)) (sub (sub lb f (m - t)) ((bst (sub la f (n - t)) (sub lb f (m - t))).B + (bst (sub la f (n - t)) (sub lb f (m - t))).N) (m - t - f))).length := pf_n (S37.row 2 rfl); have hdk2 := DHK_len (sub (sub la f (n - t)) ((bst (sub la f (n - t)) (sub lb f (m - t))).A + (bst (sub la f (n - t)) (sub lb f (m - t))).N) (n - t - f)) (sub (sub lb f (m - t)) ((bst (sub la f (n - t)) (sub lb f (m - t))).B + (bst (sub la f (n - t)) (sub lb f (m - t))).N) (m - t - f))
              have q37 := l37
              refine ZB_o rfl (o_call Try.func36 rfl rfl (rmoved24 _ _ _ (DH KM (sub (sub la f (n - t)) ((bst (sub la f (n - t)) (sub lb f (m - t))).A + (bst (sub la f (n - t)) (sub lb f (m - t))).N) (n - t - f)) (sub (sub lb f (m - t)) ((bst (sub la f (n - t)) (sub lb f (m - t))).B + (bst (sub la f (n - t)) (sub lb f (m - t))).N) (m - t - f))) (f + (bst (sub la f (n - t)) (sub lb f (m - t))).A + (bst (sub la f (n - t)) (sub lb f (m - t))).N) (f + (bst (sub la f (n - t)) (sub lb f (m - t))).B + (bst (sub la f (n - t)) (sub lb f (m - t))).N) w37 (S37.row 2 rfl) (by omega) (by omega) (by omega) (fun q hq => by have := (DH_ok KM_ok (sub (sub la f (n - t)) ((bst (sub la f (n - t)) (sub lb f (m - t))).A + (bst (sub la f (n - t)) (sub lb f (m - t))).N) (n - t - f)) (sub (sub lb f (m - t)) ((bst (sub la f (n - t)) (sub lb f (m - t))).B + (bst (sub la f (n - t)) (sub lb f (m - t))).N) (m - t - f))).1 q hq; omega)) rfl rfl ?_)
              rintro e38 w38 ⟨v38, rfl, l38, A38, n38, c38, rfl, O38⟩
              refine ⟨_, rfl, (Like.trans q37 l38), ?_⟩
              have S38 := S37.adopt l38 O38
              have hmn : n38 = (mv (f + (bst (sub la f (n - t)) (sub lb f (m - t))).A + (bst (sub la f (n - t)) (sub lb f (m - t))).N) (f + (bst (sub la f (n - t)) (sub lb f (m - t))).B + (bst (sub la f (n - t)) (sub lb f (m - t))).N) (DH KM (sub (sub la f (n - t)) ((bst (sub la f (n - t)) (sub lb f (m - t))).A + (bst (sub la f (n - t)) (sub lb f (m - t))).N) (n - t - f)) (sub (sub lb f (m - t)) ((bst (sub la f (n - t)) (sub lb f (m - t))).B + (bst (sub la f (n - t)) (sub lb f (m - t))).N) (m - t - f)))).length := pf_n (S38.row 3 rfl)
              have hmn2 := hmn
              rw [mv_len] at hmn2
              have q38 := (Like.trans q37 l38)
              refine ZB_c rfl (o_app te25 S38 1 rfl rfl rfl (S38.row 3 rfl) (fun u hu => pf_one _ u hu) rfl (by omega) (by omega) fun A39 c39 w39 S39 => ?_)
              refine ZA_oy rfl (y_assign rfl) rfl ?_
              refine ZA_nil ?_
              refine hK11 _ _ ?_
              refine T_seq fun K32 hK32 => ?_
              refine T_seq fun K33 hK33 => ?_
              have hce : mv f f (coreH KM (DH KM) (sub la f (n - t)) (sub lb f (m - t))) = mv f f (DH KM (sub (sub la f (n - t)) 0 (bst (sub la f (n - t)) (sub lb f (m - t))).A) (sub (sub lb f (m - t)) 0 (bst (sub la f (n - t)) (sub lb f (m - t))).B)) ++ (dg (f + (bst (sub la f (n - t)) (sub lb f (m - t))).A) (f + (bst (sub la f (n - t)) (sub lb f (m - t))).B) (bst (sub la f (n - t)) (sub lb f (m - t))).N ++ mv (f + (bst (sub la f (n - t)) (sub lb f (m - t))).A + (bst (sub la f (n - t)) (sub lb f (m - t))).N) (f + (bst (sub la f (n - t)) (sub lb f (m - t))).B + (bst (sub la f (n - t)) (sub lb f (m - t))).N) (DH KM (sub (sub la f (n - t)) ((bst (sub la f (n - t)) (sub lb f (m - t))).A + (bst (sub la f (n - t)) (sub lb f (m - t))).N) (n - t - f)) (sub (sub lb f (m - t)) ((bst (sub la f (n - t)) (sub lb f (m - t))).B + (bst (sub la f (n - t)) (sub lb f (m - t))).N) (m - t - f)))) := by
                unfold coreH
                rw [if_neg hN0, if_neg (by omega), splitH_mv, ← sub_drop, ← sub_drop, hXl, hYl]
                rfl
              have S40 := S39.rowc 1 rfl (n' := (dg 0 0 f ++ mv f f (coreH KM (DH KM) (sub la f (n - t)) (sub lb f (m - t)))).length) (xs' := (dg 0 0 f ++ mv f f (coreH KM (DH KM) (sub la f (n - t)) (sub lb f (m - t)))).flatMap pf) (by rw [hce]; simp only [List.length_append, mv_len, dg_len] at hmn ⊢; omega) (by rw [hce, app_pf, List.append_assoc, List.append_assoc])
              have S41 : St w0 _ [_] w39 := S40.sel [1] (by decide)
              refine T_region ?_
              refine L_y (y_move rfl) rfl ?_
              refine L_y (y_assign rfl) rfl ?_
              refine L_nil ?_
              refine hK33 _ _ ?_
              refine T_block ?_
              refine T_loop3 [(0, _), (1, _)] (fun (j : Nat) (A1 : Option Addr) (c1 : Nat) => [(13, .int .i64 ((t : Int) - (j : Int))), (7, .slice A1 ((dg 0 0 f ++ mv f f (coreH KM (DH KM) (sub la f (n - t)) (sub lb f (m - t)))) ++ dg (n - t) (m - t) j).length c1)]) (fun (j : Nat) (A1 : Option Addr) (c1 : Nat) => t - j) (fun (j : Nat) (A1 : Option Addr) (c1 : Nat) (w : World) => j ≤ t ∧ St w0 noM [row 34 2 A1 ((dg 0 0 f ++ mv f f (coreH KM (DH KM) (sub la f (n - t)) (sub lb f (m - t)))) ++ dg (n - t) (m - t) j).length c1 (((dg 0 0 f ++ mv f f (coreH KM (DH KM) (sub la f (n - t)) (sub lb f (m - t)))) ++ dg (n - t) (m - t) j).flatMap pf)] w) 0 _ _ (Sub.cons rfl (by first | rfl | exact congrArg (Value.int _) (by omega) | (refine congrArg (Value.slice _ · _) ?_; rw [hce]; simp only [List.length_append, mv_len, dg_len, mv_nil, List.length_nil]; first | done | omega)) (Sub.cons rfl (by first | rfl | exact congrArg (Value.int _) (by omega) | (refine congrArg (Value.slice _ · _) ?_; rw [hce]; simp only [List.length_append, mv_len, dg_len, mv_nil, List.length_nil]; first | done | omega)) (Sub.nil _))) (Sub.cons rfl rfl (Sub.cons rfl rfl (Sub.nil _))) ?_ ?_
              ·
                exact ⟨Nat.zero_le _, by rw [show dg (n - t) (m - t) 0 = [] from rfl, List.append_nil]; exact S41⟩
              ·
                intro j A1 c1 w42 hrel
                obtain ⟨hj, S42⟩ := hrel
                have hdl := dg_len (n - t) (m - t) j
                have hol3 : ((dg 0 0 f ++ mv f f (coreH KM (DH KM) (sub la f (n - t)) (sub lb f (m - t)))) ++ dg (n - t) (m - t) j).length = f + (coreH KM (DH KM) (sub la f (n - t)) (sub lb f (m - t))).length + j := by simp only [List.length_append, mv_len, dg_len]
                refine T_seq fun K34 hK34 => ?_
                refine T_seq fun K35 hK35 => ?_
                refine T_region ?_
                refine L_y (y_move rfl) rfl ?_
                refine L_y (y_gtr rfl rfl) rfl ?_
                refine L_nil ?_
                refine hK35 _ _ ?_
                refine T_cond rfl (fun h134 => ?_) (fun h134 => ?_)
                ·
                  refine T_skip ?_
                  refine hK34 _ _ ?_
                  refine T_seq fun K36 hK36 => ?_
                  refine T_block ?_
                  refine T_region ?_
                  refine L_y (y_move rfl) rfl ?_
                  refine L_y (y_move rfl) rfl ?_
                  refine L_y (y_len Try.underlying22 rfl) rfl ?_
                  refine L_y (y_move rfl) rfl ?_
                  refine L_y (y_sub rfl rfl (i64e (k := n - t + j) (by omega))) rfl ?_
                  refine L_y (y_move rfl) rfl ?_
                  refine L_y (y_len Try.underlying22 rfl) rfl ?_
                  refine L_y (y_move rfl) rfl ?_
                  refine L_y (y_sub rfl rfl (i64e (k := m - t + j) (by omega))) rfl ?_
                  refine L_y (y_build rfl (show _ = some #[Value.int .i64 ((n - t + j : Nat) : Int), Value.int .i64 ((m - t + j : Nat) : Int)] by kernel_rfl)) rfl ?_
                  refine L_o (o_bsl [_, _] te25 zz34 S42 rfl rfl rfl rfl rfl rfl rfl rfl fun b43 w43 S43 => ?_)
                  refine L_o (o_app te25 S43 0 rfl rfl rfl (by first | exact S43.row 0 rfl | exact S43.row 1 rfl) (by intro u hu; simp at hu; rcases hu with rfl | rfl <;> rfl) rfl (by omega) (by omega) fun A44 c44 w44 S44 => ?_)
                  have S44d := S44.drop (rs' := [_]) (.cons_cons _ (.cons _ (.refl _)))
                  refine L_y (y_assign rfl) rfl ?_
                  refine L_nil ?_
                  refine hK36 _ _ ?_
                  refine T_region ?_
                  refine L_y (y_move rfl) rfl ?_
                  refine L_y (y_sub rfl rfl (i64w (by omega))) rfl ?_
                  refine L_y (y_assign rfl) rfl ?_
                  refine L_nil ?_
                  have S45 := S44d.rowc 0 rfl (n' := ((dg 0 0 f ++ mv f f (coreH KM (DH KM) (sub la f (n - t)) (sub lb f (m - t)))) ++ dg (n - t) (m - t) (j + 1)).length) (xs' := ((dg 0 0 f ++ mv f f (coreH KM (DH KM) (sub la f (n - t)) (sub lb f (m - t)))) ++ dg (n - t) (m - t) (j + 1)).flatMap pf) (by rw [List.length_append, dg_len, List.length_append (bs := dg _ _ (j + 1)), dg_len]; omega) (dg_snoc2 _ _ _ _)
                  refine ⟨j + 1, _, _, by omega, ⟨by omega, S45⟩, ?_⟩
                  exact (Sub.cons rfl (by first | rfl | exact congrArg (Value.int _) (by omega)) (Sub.cons rfl (by simp only [List.length_append, mv_len, dg_len]; rfl) (Sub.cons rfl rfl (Sub.cons rfl rfl (Sub.nil _)))))
                ·
                  refine T_exit ?_
                  refine hK32 _ _ ?_
                  refine T_seq fun K37 hK37 => ?_
                  refine T_region ?_
                  refine L_y (y_move rfl) rfl ?_
                  refine L_y (y_assign rfl) rfl ?_
                  refine L_nil ?_
                  refine hK37 _ _ ?_
                  refine T_ret ?_
                  repeat (first | with_reducible refine up_then ?_ | with_reducible refine up_in ?_)
                  refine ret1 rfl rfl ?_
                  have hje : j = t := by omega
                  subst hje
                  refine ⟨_, rfl, S42.like0, _, _, _, rfl, ?_⟩
                  have hown := S42.own 0 rfl
                  rw [← hDE] at hown ⊢
                  exact hown


theorem rhd : ∀ N, RH N
  | 0 => fun _ _ _ _ _ _ _ _ _ _ _ _ _ h => absurd h (Nat.not_lt_zero _)
  | N + 1 => fun A B n ca m cb la lb w0 ha hb hn9 hm9 hN => rhd_step (rhd N) A B n ca m cb la lb w0 ha hb hn9 hm9 hN
end Go.Proofs.Ytbbmkgpgiacdeaa


/-
  The laws PatienceOnce, PatienceChains.
-/
namespace Go.Proofs.Ytbbmkgpgiacdeaa
open Go.RowKit Zk Zx
set_option linter.unusedVariables false
set_option linter.unusedSimpArgs false

section
open Go.ChangeShapes Go.WideShapes Go.ChangeAt Go.Deep
variable {H : Type} {enc : TypeId × Value → H} {w : World} {base : Nat} {spare : Nat → Bool} {held : Bool}
end
end Go.Proofs.Ytbbmkgpgiacdeaa


/-
  The laws PatienceDiffs, PatienceKeeps.
-/
namespace Go.Proofs.Ytbbmkgpgiacdeaa
open Go.RowKit Zk Zx
set_option linter.unusedVariables false
set_option linter.unusedSimpArgs false

/-- Each place's partner. -/
def Par (l : List (Nat × Nat)) (vs : List Int) (k : Nat) : Prop := ∀ (t : Nat) (p : Nat × Nat), t < k → l[t]? = some p → vs[p.1]? = some (p.2 : Int)
theorem Par.at {l : List (Nat × Nat)} {vs : List Int} (h : Par l vs l.length) {i k : Nat} (hm : (i, k) ∈ l) : vs[i]? = some (k : Int) := by
  obtain ⟨t, ht⟩ := List.getElem?_of_mem hm
  exact h t (i, k) (List.getElem?_eq_some_iff.1 ht).1 ht


end Go.Proofs.Ytbbmkgpgiacdeaa


/-
  The laws of the histogram way.
-/
namespace Go.Proofs.Ytbbmkgpgiacdeaa
open Go.RowKit Zk Zx
set_option linter.unusedVariables false
set_option linter.unusedSimpArgs false

theorem bst_works : bst [7, 1, 7, 2, 3] [7, 2, 3, 7] = ⟨2, 0, 3, 1⟩ := by
  have h : (fun p : PT => (p.A, p.B, p.N, p.W)) (bst [7, 1, 7, 2, 3] [7, 2, 3, 7]) = (2, 0, 3, 1) := by decide +kernel
  generalize bst [7, 1, 7, 2, 3] [7, 2, 3, 7] = p at h
  obtain ⟨a, b, c, d⟩ := p
  cases h
  rfl
theorem DH_works : (DH KM [1, 2, 3, 1] [1, 3, 1]).length = 3 := by decide +kernel
theorem fieldsPart : FieldsI Try.prog [{ name := "A", type := 3, offset := 0, embedded := false, tag := "", pkgPath := "", byteOffset := 0 }, { name := "B", type := 3, offset := 1, embedded := false, tag := "", pkgPath := "", byteOffset := 8 }, { name := "N", type := 3, offset := 2, embedded := false, tag := "", pkgPath := "", byteOffset := 16 }, { name := "Worth", type := 3, offset := 3, embedded := false, tag := "", pkgPath := "", byteOffset := 24 }] 0 :=
  ⟨by decide, rfl, Try.underlying3, by decide, rfl, Try.underlying3, by decide, rfl, Try.underlying3, by decide, rfl, Try.underlying3, trivial⟩
set_option maxRecDepth 100000 in
theorem works24  (w0 : World)  :
    Calls Try.prog 12 #[] w0 fun e w' => ∃ u, e = .returned u ∧ Like w0 w' ∧ u = .bool true := by
  refine enter1 (env := []) [] Try.func12 rfl Try.ntmps12 rfl rfl ?_
  have S0 := St.start w0 noM
  refine T_seq fun K1 hK1 => ?_
  refine T_region ?_
  refine L_y (y_assign rfl) rfl ?_
  refine L_nil ?_
  refine hK1 _ _ ?_
  refine T_seq fun K2 hK2 => ?_
  refine T_region ?_
  refine L_o (o_bsl [_, _, _, _, _] te22 zz3 S0 rfl rfl rfl rfl rfl rfl rfl rfl fun b1 w1 S1 => ?_)
  refine L_o (o_bsl [_, _, _, _] te22 zz3 S1 rfl rfl rfl rfl rfl rfl rfl rfl fun b2 w2 S2 => ?_)
  refine L_o (o_call Try.func21 rfl rfl (hBest _ _ _ _ _ _ [7, 1, 7, 2, 3] [7, 2, 3, 7] w2 (S2.row 0 rfl) (S2.row 1 rfl) (by omega) (by omega)) rfl rfl ?_)
  rintro e3 w3 ⟨v3, rfl, l3, rfl⟩
  refine ⟨_, rfl, ?_⟩
  have S3 := S2.like l3
  rw [bst_works]
  refine L_y (y_move rfl) rfl ?_
  refine L_y (y_extract rfl rfl) rfl ?_
  refine L_y (y_extract rfl rfl) rfl ?_
  refine L_o (o_alloc zz43 S3 rfl fun b4 w4 hb4 S4 => ?_)
  refine L_o (o_stW S4 2 rfl rfl rfl sz43 (by rfl) (ptf_one1 _) fun w5 S5 => ?_)
  refine L_y (y_assign rfl) rfl ?_
  refine L_nil ?_
  refine hK2 _ _ ?_
  refine T_seq fun K3 hK3 => ?_
  refine T_region ?_
  refine L_o (o_bsl [_, _, _, _] te22 zz3 S5 rfl rfl rfl rfl rfl rfl rfl rfl fun b6 w6 S6 => ?_)
  refine L_o (o_bsl [_, _, _] te22 zz3 S6 rfl rfl rfl rfl rfl rfl rfl rfl fun b7 w7 S7 => ?_)
  refine L_o (o_call Try.func13 rfl rfl (hdiff _ _ _ _ _ _ [1, 2, 3, 1] [1, 3, 1] w7 (S7.row 3 rfl) (S7.row 4 rfl) (by omega) (by omega)) rfl rfl ?_)
  rintro e8 w8 ⟨v8, rfl, l8, AQ, mQ, cQ, rfl, O8⟩
  refine ⟨_, rfl, ?_⟩
  have S8 := S7.adopt l8 O8
  have hmQ := pf_n (S8.row 5 rfl)
  rw [DH_works] at hmQ
  subst hmQ
  refine L_y (y_move rfl) rfl ?_
  refine L_y (y_extract rfl rfl) rfl ?_
  refine L_y (y_extract rfl rfl) rfl ?_
  refine L_y (y_assign rfl) rfl ?_
  refine L_y (y_assign rfl) rfl ?_
  refine L_nil ?_
  refine hK3 _ _ ?_
  refine T_seq fun K4 hK4 => ?_
  refine T_region ?_
  refine L_y (y_move rfl) rfl ?_
  refine L_y (y_move rfl) rfl ?_
  refine L_split 18 rfl (fun h18 => ?_) (fun h18 => ?_)
  ·
    refine L_gyes rfl rfl ?_
    refine L_y (y_ldW Try.underlying43 rfl sz43 rfl (S8.blk 2 rfl) (show _ = ptf (⟨2, 0, 3, 1⟩) ∧ _ from ⟨rfl, rfl⟩)) rfl ?_
    refine L_gyes rfl rfl ?_
    refine L_y (y_build rfl (show _ = some #[Value.int .i64 2, Value.int .i64 0, Value.int .i64 3, Value.int .i64 1] by kernel_rfl)) rfl ?_
    refine L_gyes rfl rfl ?_
    refine L_y (y_eqI (xs := [2, 0, 3, 1]) (ys := [2, 0, 3, 1]) Try.underlying43 (by kernel_rfl) (by kernel_rfl) fieldsPart rfl rfl rfl rfl) rfl ?_
    refine L_y ((by first | exact y_pickT rfl rfl | exact y_pickF rfl rfl)) rfl ?_
    refine L_y (y_move rfl) rfl ?_
    refine L_split 23 rfl (fun h23 => ?_) (fun h23 => ?_)
    ·
      refine L_gyes rfl rfl ?_
      refine L_y (y_move rfl) rfl ?_
      refine L_gyes rfl rfl ?_
      refine L_y (y_eql rfl rfl) rfl ?_
      refine L_y ((by first | exact y_pickT rfl rfl | exact y_pickF rfl rfl)) rfl ?_
      refine L_y (y_move rfl) rfl ?_
      refine L_split 27 rfl (fun h27 => ?_) (fun h27 => ?_)
      ·
        refine L_gyes rfl rfl ?_
        refine L_y (y_move rfl) rfl ?_
        refine L_gyes rfl rfl ?_
        refine L_y (y_len Try.underlying25 rfl) rfl ?_
        refine L_gyes rfl rfl ?_
        refine L_y (y_eql rfl rfl) rfl ?_
        refine L_y ((by first | exact y_pickT rfl rfl | exact y_pickF rfl rfl)) rfl ?_
        refine L_y (y_assign rfl) rfl ?_
        refine L_nil ?_
        refine hK4 _ _ ?_
        refine T_ret ?_
        repeat (first | with_reducible refine up_then ?_ | with_reducible refine up_in ?_)
        refine ret1 rfl rfl ?_
        exact ⟨_, rfl, S8.like0, rfl⟩
      ·
        exact absurd rfl h27
    ·
      exact absurd rfl h23
  ·
    exact absurd (by decide) h18


set_option maxRecDepth 100000 in
theorem long24 (A B : Option Addr) (n ca m cb : Nat) (w0 : World)  :
    Calls Try.prog 11 #[.slice A n ca, .slice B m cb] w0 fun e w' => ∃ u, e = .returned u ∧ Like w0 w' ∧ u = .bool (decide (90 < n ∨ 90 < m)) := by
  refine enter1 (env := [(0, .slice A n ca), (1, .slice B m cb)]) [.slice A n ca, .slice B m cb] Try.func11 rfl Try.ntmps11 rfl rfl ?_
  have S0 := St.start w0 noM
  refine T_seq fun K1 hK1 => ?_
  refine T_region ?_
  refine L_y (y_assign rfl) rfl ?_
  refine L_nil ?_
  refine hK1 _ _ ?_
  refine T_seq fun K2 hK2 => ?_
  refine T_region ?_
  refine L_y (y_move rfl) rfl ?_
  refine L_y (y_len Try.underlying22 rfl) rfl ?_
  refine L_y (y_gtr rfl rfl) rfl ?_
  refine L_y (y_move rfl) rfl ?_
  refine L_split 8 rfl (fun h8 => ?_) (fun h8 => ?_)
  ·
    refine L_gno rfl rfl rfl ?_
    refine L_gno rfl rfl rfl ?_
    refine L_gno rfl rfl rfl ?_
    refine L_y ((by first | exact y_pickT rfl rfl | exact y_pickF rfl rfl)) rfl ?_
    refine L_y (y_assign rfl) rfl ?_
    refine L_nil ?_
    refine hK2 _ _ ?_
    refine T_ret ?_
    repeat (first | with_reducible refine up_then ?_ | with_reducible refine up_in ?_)
    refine ret1 rfl rfl ?_
    exact ⟨_, rfl, S0.like0, congrArg Value.bool (by first | exact (decide_eq_true (by omega)).symm | exact decide_eq_decide.2 (by omega))⟩
  ·
    refine L_gyes rfl rfl ?_
    refine L_y (y_move rfl) rfl ?_
    refine L_gyes rfl rfl ?_
    refine L_y (y_len Try.underlying22 rfl) rfl ?_
    refine L_gyes rfl rfl ?_
    refine L_y (y_gtr rfl rfl) rfl ?_
    refine L_y ((by first | exact y_pickT rfl rfl | exact y_pickF rfl rfl)) rfl ?_
    refine L_y (y_assign rfl) rfl ?_
    refine L_nil ?_
    refine hK2 _ _ ?_
    refine T_ret ?_
    repeat (first | with_reducible refine up_then ?_ | with_reducible refine up_in ?_)
    refine ret1 rfl rfl ?_
    exact ⟨_, rfl, S0.like0, congrArg Value.bool (by first | exact (decide_eq_true (by omega)).symm | exact decide_eq_decide.2 (by omega))⟩


set_option maxRecDepth 100000 in
theorem hoften (A B : Option Addr) (n ca m cb : Nat) (la lb : List Int) (x : Int) (w0 : World) (ha : Rs w0 1 A n ca (iL la)) (hb : Rs w0 1 B m cb (iL lb)) :
    Calls Try.prog 3 #[.slice A n ca, .slice B m cb, .int .i64 x] w0 fun e w' => ∃ u, e = .returned u ∧ Like w0 w' ∧ u = .bool true := by
  refine enter1 (env := [(0, .slice A n ca), (1, .slice B m cb), (2, .int .i64 x)]) [.slice A n ca, .slice B m cb, .int .i64 x] Try.func3 rfl Try.ntmps3 rfl rfl ?_
  have hla := lenI ha; have hlb := lenI hb; have hcap := ha.cap; have hmax := ha.max; have hcap2 := hb.cap; have hmax2 := hb.max; have S0 := St.start w0 noM
  refine T_seq fun K1 hK1 => ?_
  refine T_region ?_
  refine L_y (y_assign rfl) rfl ?_
  refine L_nil ?_
  refine hK1 _ _ ?_
  refine T_seq fun K2 hK2 => ?_
  refine T_seq fun K3 hK3 => ?_
  refine T_region ?_
  refine L_y (y_move rfl) rfl ?_
  refine L_y (y_move rfl) rfl ?_
  refine L_o (o_call Try.func11 rfl rfl (long24 A B n ca m cb w0) rfl rfl ?_)
  rintro e1 w1 ⟨v1, rfl, l1, rfl⟩
  refine ⟨_, rfl, ?_⟩
  have S1 := S0.like l1
  refine L_nil ?_
  refine hK3 _ _ ?_
  refine T_condB rfl (fun h14 => ?_) (fun h14 => ?_)
  ·
    refine T_seq fun K4 hK4 => ?_
    refine T_region ?_
    refine L_o (o_call Try.func12 rfl rfl (works24 w1) rfl rfl ?_)
    rintro e2 w2 ⟨v2, rfl, l2, rfl⟩
    refine ⟨_, rfl, ?_⟩
    have S2 := S1.like l2
    refine L_y (y_assign rfl) rfl ?_
    refine L_nil ?_
    refine hK4 _ _ ?_
    refine T_ret ?_
    repeat (first | with_reducible refine up_then ?_ | with_reducible refine up_in ?_)
    refine ret1 rfl rfl ?_
    exact ⟨_, rfl, S2.like0, rfl⟩
  ·
    have hl9 := of_decide_eq_false h14
    refine T_skip ?_
    refine hK2 _ _ ?_
    refine T_seq fun K5 hK5 => ?_
    refine T_region ?_
    have S3 := S1.nilrow 3 1
    refine L_y (y_assign rfl) rfl ?_
    have S4 := S3.nilrow 3 1
    refine L_y (y_assign rfl) rfl ?_
    refine L_nil ?_
    refine hK5 _ _ ?_
    refine T_seq fun K6 hK6 => ?_
    refine T_seq fun K7 hK7 => ?_
    refine T_region ?_
    refine L_y (y_assign rfl) rfl ?_
    refine L_nil ?_
    refine hK7 _ _ ?_
    refine T_block ?_
    refine T_loop5 [(0, _), (1, _), (2, _)] (fun (k : Nat) (A1 : Option Addr) (c1 : Nat) (A2 : Option Addr) (c2 : Nat) => [(9, .int .i64 (k : Int)), (7, .slice A1 k c1), (8, .slice A2 k c2)]) (fun (k : Nat) (A1 : Option Addr) (c1 : Nat) (A2 : Option Addr) (c2 : Nat) => 35 - k) (fun (k : Nat) (A1 : Option Addr) (c1 : Nat) (A2 : Option Addr) (c2 : Nat) (w : World) => k ≤ 35 ∧ St w0 noM [row 3 1 A1 k c1 (iL (List.replicate k x)), row 3 1 A2 k c2 (iL (List.replicate k x))] w) 0 none 0 none 0 (Sub.cons rfl (by first | rfl | exact congrArg (Value.int _) (by omega)) (Sub.cons rfl (by first | rfl | exact congrArg (Value.int _) (by omega)) (Sub.cons rfl (by first | rfl | exact congrArg (Value.int _) (by omega)) (Sub.nil _)))) (Sub.cons rfl rfl (Sub.cons rfl rfl (Sub.cons rfl rfl (Sub.nil _)))) ?_ ?_
    ·
      exact ⟨Nat.zero_le _, S4⟩
    ·
      intro k A1 c1 A2 c2 w5 hrel
      obtain ⟨hk, S5⟩ := hrel
      refine T_seq fun K8 hK8 => ?_
      refine T_seq fun K9 hK9 => ?_
      refine T_region ?_
      refine L_y (y_move rfl) rfl ?_
      refine L_y (y_lss rfl rfl) rfl ?_
      refine L_nil ?_
      refine hK9 _ _ ?_
      refine T_cond rfl (fun h17 => ?_) (fun h17 => ?_)
      ·
        refine T_skip ?_
        refine hK8 _ _ ?_
        refine T_seq fun K10 hK10 => ?_
        refine T_block ?_
        refine T_seq fun K11 hK11 => ?_
        refine T_region ?_
        refine L_y (y_move rfl) rfl ?_
        refine L_y (y_move rfl) rfl ?_
        refine L_o (o_bsl [_] te22 zz3 S5 rfl rfl rfl rfl rfl rfl rfl rfl fun b6 w6 S6 => ?_)
        refine L_o (o_app te22 S6 0 rfl rfl rfl (by first | exact S6.row 0 rfl | exact S6.row 1 rfl | exact S6.row 2 rfl) (by intro u hu; simp at hu; subst hu; rfl) rfl (by omega) (by omega) fun A7 c7 w7 S7 => ?_)
        have S7d := S7.drop (rs' := [_, _]) (.cons_cons _ (.cons_cons _ (.cons _ (.refl _))))
        refine L_y (y_assign rfl) rfl ?_
        refine L_nil ?_
        refine hK11 _ _ ?_
        refine T_region ?_
        refine L_y (y_move rfl) rfl ?_
        refine L_y (y_move rfl) rfl ?_
        refine L_o (o_bsl [_] te22 zz3 S7d rfl rfl rfl rfl rfl rfl rfl rfl fun b8 w8 S8 => ?_)
        refine L_o (o_app te22 S8 1 rfl rfl rfl (by first | exact S8.row 0 rfl | exact S8.row 1 rfl | exact S8.row 2 rfl) (by intro u hu; simp at hu; subst hu; rfl) rfl (by omega) (by omega) fun A9 c9 w9 S9 => ?_)
        have S9d := S9.drop (rs' := [_, _]) (.cons_cons _ (.cons_cons _ (.cons _ (.refl _))))
        refine L_y (y_assign rfl) rfl ?_
        refine L_nil ?_
        refine hK10 _ _ ?_
        refine T_region ?_
        refine L_y (y_move rfl) rfl ?_
        refine L_y (y_add rfl rfl (i64w (by omega))) rfl ?_
        refine L_y (y_assign rfl) rfl ?_
        refine L_nil ?_
        have S10 := S9d.rowc 0 rfl (n' := k + 1) (xs' := iL (List.replicate (k + 1) x)) rfl (by rw [List.replicate_succ']; simp [iL])
        have S11 := S10.rowc 1 rfl (n' := k + 1) (xs' := iL (List.replicate (k + 1) x)) rfl (by rw [List.replicate_succ']; simp [iL])
        refine ⟨k + 1, _, _, _, _, by omega, ⟨by omega, S11⟩, ?_⟩
        exact (Sub.cons rfl (by first | rfl | exact congrArg (Value.int _) (by omega)) (Sub.cons rfl (by first | rfl | exact congrArg (Value.int _) (by omega)) (Sub.cons rfl (by first | rfl | exact congrArg (Value.int _) (by omega)) (Sub.cons rfl rfl (Sub.cons rfl rfl (Sub.cons rfl rfl (Sub.nil _)))))))
      ·
        refine T_exit ?_
        refine hK6 _ _ ?_
        refine T_seq fun K12 hK12 => ?_
        obtain rfl : k = 35 := by omega
        refine T_region ?_
        refine L_o (o_bsl [_] te22 zz3 S5 rfl rfl rfl rfl rfl rfl rfl rfl fun b12 w12 S12 => ?_)
        refine L_y (y_move rfl) rfl ?_
        refine L_o (o_app te22 S12 2 rfl rfl rfl (S12.row 0 rfl) (iL_one _) rfl (by omega) (by omega) fun A13 c13 w13 S13 => ?_)
        refine L_y (y_move rfl) rfl ?_
        refine L_o (o_app te22 S13 2 rfl rfl rfl (S13.rd ha) (iL_one _) rfl (by omega) (by omega) fun A14 c14 w14 S14 => ?_)
        refine L_y (y_move rfl) rfl ?_
        refine L_o (o_app te22 S14 2 rfl rfl rfl (S14.row 0 rfl) (iL_one _) rfl (by omega) (by omega) fun A15 c15 w15 S15 => ?_)
        refine L_o (o_bsl [_] te22 zz3 S15 rfl rfl rfl rfl rfl rfl rfl rfl fun b16 w16 S16 => ?_)
        refine L_y (y_move rfl) rfl ?_
        refine L_o (o_app te22 S16 3 rfl rfl rfl (S16.row 1 rfl) (iL_one _) rfl (by omega) (by omega) fun A17 c17 w17 S17 => ?_)
        refine L_y (y_move rfl) rfl ?_
        refine L_o (o_app te22 S17 3 rfl rfl rfl (S17.rd hb) (iL_one _) rfl (by omega) (by omega) fun A18 c18 w18 S18 => ?_)
        refine L_y (y_move rfl) rfl ?_
        refine L_o (o_app te22 S18 3 rfl rfl rfl (S18.row 1 rfl) (iL_one _) rfl (by omega) (by omega) fun A19 c19 w19 S19 => ?_)
        refine L_y (y_assign rfl) rfl ?_
        refine L_y (y_assign rfl) rfl ?_
        refine L_nil ?_
        refine hK12 _ _ ?_
        refine T_seq fun K13 hK13 => ?_
        refine T_region ?_
        refine L_y (y_move rfl) rfl ?_
        refine L_o (o_bsl [_] te22 zz3 S19 rfl rfl rfl rfl rfl rfl rfl rfl fun b20 w20 S20 => ?_)
        refine L_o (o_app te22 S20 2 rfl rfl rfl (by first | exact S20.row 0 rfl | exact S20.row 1 rfl | exact S20.row 2 rfl | exact S20.row 3 rfl | exact S20.row 4 rfl) (by intro u hu; simp at hu; subst hu; rfl) rfl (by omega) (by omega) fun A21 c21 w21 S21 => ?_)
        have S21d := S21.drop (rs' := [_, _, _, _]) (.cons_cons _ (.cons_cons _ (.cons_cons _ (.cons_cons _ (.cons _ (.refl _))))))
        refine L_y (y_move rfl) rfl ?_
        refine L_o (o_bsl [_] te22 zz3 S21d rfl rfl rfl rfl rfl rfl rfl rfl fun b22 w22 S22 => ?_)
        refine L_o (o_app te22 S22 3 rfl rfl rfl (by first | exact S22.row 0 rfl | exact S22.row 1 rfl | exact S22.row 2 rfl | exact S22.row 3 rfl | exact S22.row 4 rfl) (by intro u hu; simp at hu; subst hu; rfl) rfl (by omega) (by omega) fun A23 c23 w23 S23 => ?_)
        have S23d := S23.drop (rs' := [_, _, _, _]) (.cons_cons _ (.cons_cons _ (.cons_cons _ (.cons_cons _ (.cons _ (.refl _))))))
        refine L_y (y_assign rfl) rfl ?_
        refine L_y (y_assign rfl) rfl ?_
        refine L_nil ?_
        refine hK13 _ _ ?_
        refine T_seq fun K14 hK14 => ?_
        refine T_region ?_
        refine L_y (y_move rfl) rfl ?_
        refine L_y (y_move rfl) rfl ?_
        refine L_o (o_call Try.func13 rfl rfl (hdiff _ _ _ _ _ _ ([5] ++ (List.replicate 35 x) ++ la ++ (List.replicate 35 x) ++ [7]) ([6] ++ (List.replicate 35 x) ++ lb ++ (List.replicate 35 x) ++ [8]) w23 (by have h9 := S23d.row 2 rfl; simpa [iL] using h9) (by have h9 := S23d.row 3 rfl; simpa [iL] using h9) (by omega) (by omega)) rfl rfl ?_)
        rintro e24 w24 ⟨v24, rfl, l24, AR, mR, cR, rfl, O24⟩
        refine ⟨_, rfl, ?_⟩
        have S24 := S23d.adopt l24 O24
        refine L_y (y_move rfl) rfl ?_
        refine L_y (y_extract rfl rfl) rfl ?_
        refine L_y (y_extract rfl rfl) rfl ?_
        refine L_y (y_assign rfl) rfl ?_
        refine L_y (y_assign rfl) rfl ?_
        refine L_nil ?_
        refine hK14 _ _ ?_
        refine T_seq fun K15 hK15 => ?_
        refine T_region ?_
        refine L_y (y_move rfl) rfl ?_
        refine L_y (y_eql rfl rfl) rfl ?_
        refine L_y (y_move rfl) rfl ?_
        refine L_split 56 rfl (fun h56 => ?_) (fun h56 => ?_)
        ·
          refine L_gyes rfl rfl ?_
          refine L_y (y_move rfl) rfl ?_
          refine L_gyes rfl rfl ?_
          refine L_y (y_move rfl) rfl ?_
          refine L_gyes rfl rfl ?_
          refine L_y (y_move rfl) rfl ?_
          refine L_gyes rfl rfl ?_
          refine L_o (o_call Try.func15 rfl rfl (rhd (n + m + 145) _ _ _ _ _ _ ([5] ++ (List.replicate 35 x) ++ la ++ (List.replicate 35 x) ++ [7]) ([6] ++ (List.replicate 35 x) ++ lb ++ (List.replicate 35 x) ++ [8]) w24 (by have h9 := S24.row 2 rfl; simpa [iL] using h9) (by have h9 := S24.row 3 rfl; simpa [iL] using h9) (by omega) (by omega) (by omega)) rfl rfl ?_)
          rintro e26 w26 ⟨v26, rfl, l26, AQ, mQ, cQ, rfl, O26⟩
          refine ⟨_, rfl, ?_⟩
          have S26 := S24.adopt l26 O26
          refine L_gyes rfl rfl ?_
          refine L_o (o_call Try.func14 rfl rfl (rsame AR AQ mR cR mQ cQ (DH KM ([5] ++ (List.replicate 35 x) ++ la ++ (List.replicate 35 x) ++ [7]) ([6] ++ (List.replicate 35 x) ++ lb ++ (List.replicate 35 x) ++ [8])) w26 (S26.row 4 rfl) (S26.row 5 rfl)) rfl rfl ?_)
          rintro e27 w27 ⟨v27, rfl, l27, rfl⟩
          refine ⟨_, rfl, ?_⟩
          have S27 := S26.like l27
          refine L_y ((by first | exact y_pickT rfl rfl | exact y_pickF rfl rfl)) rfl ?_
          refine L_y (y_move rfl) rfl ?_
          refine L_gyes rfl rfl ?_
          refine L_o (o_call Try.func12 rfl rfl (works24 w27) rfl rfl ?_)
          rintro e28 w28 ⟨v28, rfl, l28, rfl⟩
          refine ⟨_, rfl, ?_⟩
          have S28 := S27.like l28
          refine L_y ((by first | exact y_pickT rfl rfl | exact y_pickF rfl rfl)) rfl ?_
          refine L_y (y_assign rfl) rfl ?_
          refine L_nil ?_
          refine hK15 _ _ ?_
          refine T_ret ?_
          repeat (first | with_reducible refine up_then ?_ | with_reducible refine up_in ?_)
          refine ret1 rfl rfl ?_
          exact ⟨_, rfl, S28.like0, rfl⟩
        ·
          exact absurd rfl h56


theorem hoften_law (A B : Option Addr) (n ca m cb : Nat) (la lb : List Int) (x : Int) (w0 : World) (ha : Rs w0 1 A n ca (iL la)) (hb : Rs w0 1 B m cb (iL lb)) :
    Calls Try.prog 3 #[.slice A n ca, .slice B m cb, .int .i64 x] w0 fun e w' => e = .returned (.bool true) ∧ Below w0.heap.size w0 w' :=
  (hoften A B n ca m cb la lb x w0 ha hb).mono fun e w' ⟨u, h1, h2, h3⟩ => by subst h3; exact ⟨h1, h2⟩


end Go.Proofs.Ytbbmkgpgiacdeaa
