/-
  The document: Pieces.
-/
import Derived.Test.YtaknmlajhedfhaaG
namespace Go.Proofs.Ytaknmlajhedfhaa
open Go.RowKit Zk Zx
set_option linter.unusedVariables false
set_option linter.unusedSimpArgs false

theorem ins_flat (xs : List PC) (i n : Nat) (q : List UInt8) (hi : i ≤ xs.length) (hn : xs.length = n) : [] ++ ((xs.flatMap pcf).drop (0 * 2)).take ((i - 0) * 2) ++ [sV q, Value.int .i64 1] ++ ((xs.flatMap pcf).drop (i * 2)).take ((n - i) * 2) = (xs.take i ++ [(⟨q, 1⟩ : PC)] ++ xs.drop i).flatMap pcf := by
  have e1 : ((xs.flatMap pcf).drop (0 * 2)).take ((i - 0) * 2) = (xs.take i).flatMap pcf := by rw [Nat.zero_mul, List.drop_zero, Nat.sub_zero, pc_take]
  have e2 : ((xs.flatMap pcf).drop (i * 2)).take ((n - i) * 2) = (xs.drop i).flatMap pcf := by rw [pc_drop, pc_take, List.take_of_length_le (by rw [List.length_drop]; omega)]
  rw [e1, e2, List.nil_append, List.flatMap_append, List.flatMap_append]
  rfl
theorem le_sum_mem : ∀ (l : List Nat) (x : Nat), x ∈ l → x ≤ l.sum
  | [], _, h => by cases h
  | y :: l, x, h => by
    rw [List.sum_cons]
    rcases List.mem_cons.1 h with rfl | h
    · omega
    · have := le_sum_mem l x h; omega
theorem str_inj {a b : List UInt8} (h : (⟨a.toArray⟩ : ByteArray) = ⟨b.toArray⟩) : a = b := by simpa using h


set_option maxRecDepth 100000 in
theorem rpieces (A : Option Addr) (n cc : Nat) (l : List UInt8) (w0 : World) (hb : Rs w0 1 A n cc (bL l)) (hn : n ≤ 4398046511104) :
    Calls Try.prog 14 #[.slice A n cc] w0 fun e w' => ∃ u, e = .returned u ∧ Like w0 w' ∧ ∃ A m c xs, u = .slice A m c ∧ w'.ownsRow w0.heap.size 34 2 (.slice A m c) m (xs.flatMap pcf) ∧ PS xs (cuts l) := by
  refine enter1 (env := [(0, .slice A n cc)]) [.slice A n cc] Try.func14 rfl Try.ntmps14 rfl rfl ?_
  have hln := hb.lenb; have hcap := hb.cap; have hmx := hb.max; have S0 := St.start w0 noM
  refine T_seq fun K1 hK1 => ?_
  refine T_region ?_
  refine L_y (y_assign rfl) rfl ?_
  refine L_nil ?_
  refine hK1 _ _ ?_
  refine T_seq fun K2 hK2 => ?_
  refine T_region ?_
  refine L_y (y_move rfl) rfl ?_
  refine L_o (o_call Try.func24 rfl rfl (rcut A n cc l w0 (S0.rd hb) hn) rfl rfl ?_)
  rintro e1 w1 ⟨v1, rfl, l1, A2, m2, c2, rfl, O1⟩
  refine ⟨_, rfl, ?_⟩
  have S1 := S0.adopt l1 O1
  have hm2 : m2 = (cuts l).length := by have := (S1.row 0 rfl).len; simpa using this.symm
  subst hm2
  have hcl : (cuts l).length ≤ n := by have := cutF_len l []; unfold cuts; simp at this; omega
  refine L_y (y_assign rfl) rfl ?_
  refine L_nil ?_
  refine hK2 _ _ ?_
  refine T_seq fun K3 hK3 => ?_
  refine T_region ?_
  refine L_y (y_assign rfl) rfl ?_
  refine L_nil ?_
  refine hK3 _ _ ?_
  refine T_seq fun K4 hK4 => ?_
  refine T_seq fun K5 hK5 => ?_
  refine T_region ?_
  refine L_y (y_assign rfl) rfl ?_
  refine L_nil ?_
  refine hK5 _ _ ?_
  refine T_block ?_
  refine T_loop4 [(3, _)] (fun (k : Nat) (A1 : Option Addr) (c1 : Nat) (xs : List PC) => [(4, .slice A1 xs.length c1), (5, .int .i64 (k : Int))]) (fun (k : Nat) (A1 : Option Addr) (c1 : Nat) (xs : List PC) => (cuts l).length - k) (fun (k : Nat) (A1 : Option Addr) (c1 : Nat) (xs : List PC) (w : World) => ((k ≤ (cuts l).length ∧ xs.length ≤ k) ∧ PS xs ((cuts l).take k)) ∧ St w0 noM [row 9 1 A2 (cuts l).length c2 ((cuts l).map sV), row 34 2 A1 xs.length c1 (xs.flatMap pcf)] w) 0 none 0 [] (Sub.cons rfl (by first | rfl | exact congrArg (Value.int _) (by omega)) (Sub.cons rfl (by first | rfl | exact congrArg (Value.int _) (by omega)) (Sub.nil _))) (Sub.cons rfl rfl (Sub.nil _)) ?_ ?_
  ·
    have S9 := S1.nilrow 34 2
    exact ⟨⟨⟨by omega, by simp⟩, by simpa using PS.nil⟩, S9⟩
  ·
    intro k A1 c1 xs w2 hrel
    obtain ⟨⟨⟨hk, hxk⟩, hps⟩, S2⟩ := hrel
    refine T_seq fun K6 hK6 => ?_
    refine T_seq fun K7 hK7 => ?_
    refine T_region ?_
    refine L_y (y_move rfl) rfl ?_
    refine L_y (y_move rfl) rfl ?_
    refine L_y (y_len Try.underlying53 rfl) rfl ?_
    refine L_y (y_lss rfl rfl) rfl ?_
    refine L_nil ?_
    refine hK7 _ _ ?_
    refine T_cond rfl (fun h13 => ?_) (fun h13 => ?_)
    ·
      obtain ⟨q, hq⟩ : ∃ q, (cuts l)[k]? = some q := ⟨_, List.getElem?_eq_getElem (by omega)⟩
      have hql : q.length ≤ n := by have h1 := cuts_sum l; have h2 := List.mem_of_getElem? hq; have h3 := le_sum_mem _ _ (List.mem_map.2 ⟨q, h2, rfl⟩ : q.length ∈ (cuts l).map List.length); omega
      refine T_skip ?_
      refine hK6 _ _ ?_
      refine T_seq fun K8 hK8 => ?_
      refine T_block ?_
      refine T_seq fun K9 hK9 => ?_
      refine T_region ?_
      refine L_y (y_assign rfl) rfl ?_
      refine L_nil ?_
      refine hK9 _ _ ?_
      refine T_seq fun K10 hK10 => ?_
      refine T_block ?_
      refine T_loop1 [(3, _), (4, _), (5, _)] (fun (j : Nat) => [(6, .int .i64 (j : Int))]) (fun (j : Nat) => xs.length - j) (fun (j : Nat) (w : World) => (j ≤ xs.length ∧ ∀ i y, i < j → xs[i]? = some y → bl y.t q = true) ∧ St w0 noM [row 9 1 A2 (cuts l).length c2 ((cuts l).map sV), row 34 2 A1 xs.length c1 (xs.flatMap pcf)] w) 0 (Sub.cons rfl (by first | rfl | exact congrArg (Value.int _) (by omega)) (Sub.nil _)) (Sub.cons rfl rfl (Sub.cons rfl rfl (Sub.cons rfl rfl (Sub.nil _)))) ?_ ?_
      ·
        exact ⟨⟨by omega, fun i y hi => by omega⟩, S2⟩
      ·
        intro j w3 hrel
        obtain ⟨⟨hj, hlow⟩, S3⟩ := hrel
        refine T_seq fun K11 hK11 => ?_
        refine T_seq fun K12 hK12 => ?_
        refine T_drawnL [(0, true), (1, true), (2, true), (3, true), (4, true), (5, true), (6, true), (7, true), (8, true), (9, true), (10, true), (11, true), (12, true), (13, true), (14, true), (15, true)] hmix (by kernel_rfl) fun w4 l4 => ?_
        have S4 := S3.like l4
        refine DL_y rfl (y_move rfl) rfl ?_
        refine DL_y rfl (y_move rfl) rfl ?_
        refine DL_y rfl (y_len Try.underlying30 rfl) rfl ?_
        refine DL_y rfl (y_lss rfl rfl) rfl ?_
        refine DL_y rfl (y_move rfl) rfl ?_
        refine DL_split 20 rfl (fun h20 => ?_) (fun h20 => ?_)
        ·
          obtain ⟨x, hx⟩ : ∃ x, xs[j]? = some x := ⟨_, List.getElem?_eq_getElem (by omega)⟩
          have hpg := pc_get xs j x hx
          refine DL_gyes rfl rfl rfl (y_move rfl) rfl ?_
          refine DL_gyes rfl rfl rfl (y_move rfl) rfl ?_
          refine DL_gyes rfl rfl rfl (y_idx Try.underlying30 sz34 rfl rfl (S4.row 1 rfl) inferInstance (by omega)) rfl ?_
          refine DL_gyes rfl rfl rfl (y_fieldR 0 Try.underlying34 rfl sz9 rfl rfl (S4.row 1 rfl) (by omega) rfl) rfl ?_
          refine DL_gyes rfl rfl rfl (y_ldf Try.underlying9 rfl rfl (S4.row 1 rfl) (by omega) hpg.1) rfl ?_
          refine DL_gyes rfl rfl rfl (y_move rfl) rfl ?_
          refine DL_gyes rfl rfl rfl (y_move rfl) rfl ?_
          refine DL_gyes rfl rfl rfl (y_idx Try.underlying53 sz9 rfl rfl (S4.row 0 rfl) inferInstance (by omega)) rfl ?_
          refine DL_gyes rfl rfl rfl (y_ldr Try.underlying9 rfl rfl (S4.row 0 rfl) (show ((cuts l).map sV)[k]? = some (sV q) by rw [List.getElem?_map, hq]; rfl)) rfl ?_
          refine DL_gyes rfl rfl rfl (y_slss rfl rfl) rfl ?_
          refine DL_y rfl ((by first | exact y_pickT rfl rfl | exact y_pickF rfl rfl)) rfl ?_
          refine DL_nil ?_
          refine hK12 _ _ ?_
          refine T_condB rfl (fun h31 => ?_) (fun h31 => ?_)
          ·
            refine T_skip ?_
            refine hK11 _ _ ?_
            refine T_block ?_
            refine T_region ?_
            refine L_y (y_move rfl) rfl ?_
            refine L_y (y_add rfl rfl (i64w (by omega))) rfl ?_
            refine L_y (y_assign rfl) rfl ?_
            refine L_nil ?_
            refine ⟨j + 1, by omega, ⟨⟨by omega, fun i y hi hy => by rcases Nat.lt_or_eq_of_le (Nat.le_of_lt_succ hi) with h3 | h3; exact hlow i y h3 hy; subst h3; rw [hx] at hy; cases hy; rw [← sLt_eq]; exact h31⟩, S4⟩, ?_⟩
            exact (Sub.cons rfl (by first | rfl | exact congrArg (Value.int _) (by omega)) (Sub.cons rfl rfl (Sub.cons rfl rfl (Sub.cons rfl rfl (Sub.nil _)))))
          ·
            refine T_exit ?_
            refine hK10 _ _ ?_
            refine T_seq fun K13 hK13 => ?_
            refine T_seq fun K14 hK14 => ?_
            refine T_drawnL [(0, true), (1, true), (2, true), (3, true), (4, true), (5, true), (6, true), (7, true), (8, true), (9, true), (10, true), (11, true), (12, true), (13, true), (14, true), (15, true)] hmix (by kernel_rfl) fun w5 l5 => ?_
            have S5 := S4.like l5
            refine DL_y rfl (y_move rfl) rfl ?_
            refine DL_y rfl (y_move rfl) rfl ?_
            refine DL_y rfl (y_len Try.underlying30 rfl) rfl ?_
            refine DL_y rfl (y_lss rfl rfl) rfl ?_
            refine DL_y rfl (y_move rfl) rfl ?_
            refine DL_split 38 rfl (fun h38 => ?_) (fun h38 => ?_)
            ·
              skip
              refine DL_gyes rfl rfl rfl (y_move rfl) rfl ?_
              refine DL_gyes rfl rfl rfl (y_move rfl) rfl ?_
              refine DL_gyes rfl rfl rfl (y_idx Try.underlying30 sz34 rfl rfl (S5.row 1 rfl) inferInstance (by omega)) rfl ?_
              refine DL_gyes rfl rfl rfl (y_fieldR 0 Try.underlying34 rfl sz9 rfl rfl (S5.row 1 rfl) (by omega) rfl) rfl ?_
              refine DL_gyes rfl rfl rfl (y_ldf Try.underlying9 rfl rfl (S5.row 1 rfl) (by omega) hpg.1) rfl ?_
              refine DL_gyes rfl rfl rfl (y_move rfl) rfl ?_
              refine DL_gyes rfl rfl rfl (y_move rfl) rfl ?_
              refine DL_gyes rfl rfl rfl (y_idx Try.underlying53 sz9 rfl rfl (S5.row 0 rfl) inferInstance (by omega)) rfl ?_
              refine DL_gyes rfl rfl rfl (y_ldr Try.underlying9 rfl rfl (S5.row 0 rfl) (show ((cuts l).map sV)[k]? = some (sV q) by rw [List.getElem?_map, hq]; rfl)) rfl ?_
              refine DL_gyes rfl rfl rfl (y_seql rfl rfl) rfl ?_
              refine DL_y rfl ((by first | exact y_pickT rfl rfl | exact y_pickF rfl rfl)) rfl ?_
              refine DL_nil ?_
              refine hK14 _ _ ?_
              refine T_cond rfl (fun h49 => ?_) (fun h49 => ?_)
              ·
                refine T_seq fun K15 hK15 => ?_
                have hxn : x.n ≤ n := by have h1 := (hps.2.1 x (List.mem_of_getElem? hx)).2; have h2 := List.count_le_length (a := x.t) (l := (cuts l).take k); rw [← h1, List.length_take] at h2; omega
                refine T_region ?_
                refine L_y (y_move rfl) rfl ?_
                refine L_y (y_move rfl) rfl ?_
                refine L_y (y_idx Try.underlying30 sz34 rfl rfl (S5.row 1 rfl) inferInstance (by omega)) rfl ?_
                refine L_y (y_fieldR 1 Try.underlying34 rfl sz3 rfl rfl (S5.row 1 rfl) (by omega) rfl) rfl ?_
                refine L_y (y_ldf Try.underlying3 rfl rfl (S5.row 1 rfl) (by omega) hpg.2) rfl ?_
                refine L_y (y_add rfl rfl (i64w (by omega))) rfl ?_
                refine L_y (y_idx Try.underlying30 sz34 rfl rfl (S5.row 1 rfl) inferInstance (by omega)) rfl ?_
                refine L_y (y_fieldR 1 Try.underlying34 rfl sz3 rfl rfl (S5.row 1 rfl) (by omega) rfl) rfl ?_
                refine L_o (o_strowN S5 1 rfl rfl rfl rfl sz3 (by omega) fun w6 S6 => ?_)
                refine L_nil ?_
                refine hK15 _ _ ?_
                refine T_exit ?_
                refine hK8 _ _ ?_
                refine T_region ?_
                refine L_y (y_move rfl) rfl ?_
                refine L_y (y_add rfl rfl (i64w (by omega))) rfl ?_
                refine L_y (y_assign rfl) rfl ?_
                refine L_nil ?_
                have S9 := S6.rowc 1 rfl (n' := (xs.set j ⟨x.t, x.n + 1⟩).length) (xs' := (xs.set j ⟨x.t, x.n + 1⟩).flatMap pcf) (by simp) (by rw [← pc_set xs j x _ hx]; rfl)
                have hps2 := hps.inc hx
                have hxq : x.t = q := str_inj h49
                rw [hxq] at hps2
                refine ⟨k + 1, A1, c1, xs.set j ⟨x.t, x.n + 1⟩, by omega, ⟨⟨⟨by omega, by rw [List.length_set]; omega⟩, by rw [List.take_add_one, hq, hxq]; exact hps2⟩, S9⟩, ?_⟩
                exact (Sub.cons rfl (by first | rfl | (rw [hlen]; rfl) | (rw [hlen]; congr 1; omega) | (rw [List.length_set])) (Sub.cons rfl (by first | rfl | exact congrArg (Value.int _) (by omega)) (Sub.cons rfl rfl (Sub.nil _))))
              ·
                refine T_skip ?_
                refine hK13 _ _ ?_
                refine T_seq fun K16 hK16 => ?_
                have hcp := (S5.row 1 rfl).cap
                have hno : ∀ y, xs[j]? = some y → bl y.t q = false ∧ y.t ≠ q := fun y hy => by rw [hx] at hy; cases hy; exact ⟨by rw [← sLt_eq]; exact h31, fun e => h49 (by rw [e])⟩
                refine T_region ?_
                have S7 := S5.nilrow 34 2
                refine L_y (y_assign rfl) rfl ?_
                refine L_nil ?_
                refine hK16 _ _ ?_
                refine T_seq fun K17 hK17 => ?_
                refine T_region ?_
                refine L_y (y_move rfl) rfl ?_
                refine L_y (y_move rfl) rfl ?_
                refine L_y (y_move rfl) rfl ?_
                refine L_y (y_sliceH Try.underlying30 sz34 rfl rfl inferInstance (by omega)) rfl ?_
                refine L_o (o_app te30 S7 2 rfl rfl rfl ((S7.row 1 rfl).cut (l := 0) (u := j) (Nat.zero_le _) (by omega)) (fun u hu => pc_one _ _ (List.mem_of_mem_drop (List.mem_of_mem_take hu))) rfl (by omega) (by omega) fun A8 c8 w8 S8 => ?_)
                refine L_y (y_assign rfl) rfl ?_
                refine L_nil ?_
                refine hK17 _ _ ?_
                refine T_seq fun K18 hK18 => ?_
                refine T_region ?_
                refine L_y (y_move rfl) rfl ?_
                refine L_y (y_move rfl) rfl ?_
                refine L_y (y_move rfl) rfl ?_
                refine L_y (y_idx Try.underlying53 sz9 rfl rfl (S8.row 0 rfl) inferInstance (by omega)) rfl ?_
                refine L_y (y_ldr Try.underlying9 rfl rfl (S8.row 0 rfl) (show ((cuts l).map sV)[k]? = some (sV q) by rw [List.getElem?_map, hq]; rfl)) rfl ?_
                refine L_y (y_build rfl (show _ = some #[sV q, Value.int .i64 1] by kernel_rfl)) rfl ?_
                refine L_o (o_bsl [_, _] te30 zz34 S8 rfl rfl rfl rfl rfl rfl rfl rfl fun b9 w9 S9 => ?_)
                refine L_o (o_app te30 S9 2 rfl rfl rfl (by first | exact S9.row 0 rfl | exact S9.row 1 rfl | exact S9.row 2 rfl | exact S9.row 3 rfl) (fun u hu => pc_one [⟨q, 1⟩] u hu) rfl (by omega) (by omega) fun A10 c10 w10 S10 => ?_)
                have S10d := S10.drop (rs' := [_, _, _]) (.cons_cons _ (.cons_cons _ (.cons_cons _ (.cons _ (.refl _)))))
                refine L_y (y_assign rfl) rfl ?_
                refine L_nil ?_
                refine hK18 _ _ ?_
                refine T_region ?_
                refine L_y (y_move rfl) rfl ?_
                refine L_y (y_move rfl) rfl ?_
                refine L_y (y_move rfl) rfl ?_
                refine L_y (y_sliceL Try.underlying30 sz34 rfl rfl inferInstance (by omega)) rfl ?_
                refine L_o (o_app te30 S10d 2 rfl rfl rfl ((S10d.row 1 rfl).cut (l := j) (u := xs.length) (by omega) (Nat.le_refl _)) (fun u hu => pc_one _ _ (List.mem_of_mem_drop (List.mem_of_mem_take hu))) rfl (by omega) (by omega) fun A11 c11 w11 S11 => ?_)
                refine L_y (y_assign rfl) rfl ?_
                refine L_nil ?_
                refine hK8 _ _ ?_
                refine T_region ?_
                refine L_y (y_move rfl) rfl ?_
                refine L_y (y_add rfl rfl (i64w (by omega))) rfl ?_
                refine L_y (y_assign rfl) rfl ?_
                refine L_nil ?_
                have hps2 := hps.ins hlow hno
                have hlen : (xs.take j ++ [(⟨q, 1⟩ : PC)] ++ xs.drop j : List PC).length = xs.length + 1 := by simp; omega
                have S9 := S11.rowc 2 rfl (n' := (xs.take j ++ [(⟨q, 1⟩ : PC)] ++ xs.drop j : List PC).length) (xs' := (xs.take j ++ [(⟨q, 1⟩ : PC)] ++ xs.drop j : List PC).flatMap pcf) (by rw [hlen]; omega) (ins_flat xs j _ q (by omega) rfl)
                have S10 := S9.drop (.cons_cons _ (.cons _ (.refl _)))
                refine ⟨k + 1, _, _, xs.take j ++ [(⟨q, 1⟩ : PC)] ++ xs.drop j, by omega, ⟨⟨⟨by omega, by omega⟩, by rw [List.take_add_one, hq]; exact hps2⟩, S10⟩, ?_⟩
                exact (Sub.cons rfl (by first | rfl | (rw [hlen]; rfl) | (rw [hlen]; congr 1; omega) | (rw [List.length_set])) (Sub.cons rfl (by first | rfl | exact congrArg (Value.int _) (by omega)) (Sub.cons rfl rfl (Sub.nil _))))
            ·
              refine DL_gno rfl rfl rfl rfl ?_
              refine DL_gno rfl rfl rfl rfl ?_
              refine DL_gno rfl rfl rfl rfl ?_
              refine DL_gno rfl rfl rfl rfl ?_
              refine DL_gno rfl rfl rfl rfl ?_
              refine DL_gno rfl rfl rfl rfl ?_
              refine DL_gno rfl rfl rfl rfl ?_
              refine DL_gno rfl rfl rfl rfl ?_
              refine DL_gno rfl rfl rfl rfl ?_
              refine DL_gno rfl rfl rfl rfl ?_
              refine DL_y rfl ((by first | exact y_pickT rfl rfl | exact y_pickF rfl rfl)) rfl ?_
              refine DL_nil ?_
              refine hK14 _ _ ?_
              refine T_false rfl ?_
              refine T_skip ?_
              refine hK13 _ _ ?_
              refine T_seq fun K19 hK19 => ?_
              have hcp := (S5.row 1 rfl).cap
              have hno : ∀ y, xs[j]? = some y → bl y.t q = false ∧ y.t ≠ q := fun y hy => by have := (List.getElem?_eq_some_iff.1 hy).1; omega
              refine T_region ?_
              have S12 := S5.nilrow 34 2
              refine L_y (y_assign rfl) rfl ?_
              refine L_nil ?_
              refine hK19 _ _ ?_
              refine T_seq fun K20 hK20 => ?_
              refine T_region ?_
              refine L_y (y_move rfl) rfl ?_
              refine L_y (y_move rfl) rfl ?_
              refine L_y (y_move rfl) rfl ?_
              refine L_y (y_sliceH Try.underlying30 sz34 rfl rfl inferInstance (by omega)) rfl ?_
              refine L_o (o_app te30 S12 2 rfl rfl rfl ((S12.row 1 rfl).cut (l := 0) (u := j) (Nat.zero_le _) (by omega)) (fun u hu => pc_one _ _ (List.mem_of_mem_drop (List.mem_of_mem_take hu))) rfl (by omega) (by omega) fun A13 c13 w13 S13 => ?_)
              refine L_y (y_assign rfl) rfl ?_
              refine L_nil ?_
              refine hK20 _ _ ?_
              refine T_seq fun K21 hK21 => ?_
              refine T_region ?_
              refine L_y (y_move rfl) rfl ?_
              refine L_y (y_move rfl) rfl ?_
              refine L_y (y_move rfl) rfl ?_
              refine L_y (y_idx Try.underlying53 sz9 rfl rfl (S13.row 0 rfl) inferInstance (by omega)) rfl ?_
              refine L_y (y_ldr Try.underlying9 rfl rfl (S13.row 0 rfl) (show ((cuts l).map sV)[k]? = some (sV q) by rw [List.getElem?_map, hq]; rfl)) rfl ?_
              refine L_y (y_build rfl (show _ = some #[sV q, Value.int .i64 1] by kernel_rfl)) rfl ?_
              refine L_o (o_bsl [_, _] te30 zz34 S13 rfl rfl rfl rfl rfl rfl rfl rfl fun b14 w14 S14 => ?_)
              refine L_o (o_app te30 S14 2 rfl rfl rfl (by first | exact S14.row 0 rfl | exact S14.row 1 rfl | exact S14.row 2 rfl | exact S14.row 3 rfl) (fun u hu => pc_one [⟨q, 1⟩] u hu) rfl (by omega) (by omega) fun A15 c15 w15 S15 => ?_)
              have S15d := S15.drop (rs' := [_, _, _]) (.cons_cons _ (.cons_cons _ (.cons_cons _ (.cons _ (.refl _)))))
              refine L_y (y_assign rfl) rfl ?_
              refine L_nil ?_
              refine hK21 _ _ ?_
              refine T_region ?_
              refine L_y (y_move rfl) rfl ?_
              refine L_y (y_move rfl) rfl ?_
              refine L_y (y_move rfl) rfl ?_
              refine L_y (y_sliceL Try.underlying30 sz34 rfl rfl inferInstance (by omega)) rfl ?_
              refine L_o (o_app te30 S15d 2 rfl rfl rfl ((S15d.row 1 rfl).cut (l := j) (u := xs.length) (by omega) (Nat.le_refl _)) (fun u hu => pc_one _ _ (List.mem_of_mem_drop (List.mem_of_mem_take hu))) rfl (by omega) (by omega) fun A16 c16 w16 S16 => ?_)
              refine L_y (y_assign rfl) rfl ?_
              refine L_nil ?_
              refine hK8 _ _ ?_
              refine T_region ?_
              refine L_y (y_move rfl) rfl ?_
              refine L_y (y_add rfl rfl (i64w (by omega))) rfl ?_
              refine L_y (y_assign rfl) rfl ?_
              refine L_nil ?_
              have hps2 := hps.ins hlow hno
              have hlen : (xs.take j ++ [(⟨q, 1⟩ : PC)] ++ xs.drop j : List PC).length = xs.length + 1 := by simp; omega
              have S9 := S16.rowc 2 rfl (n' := (xs.take j ++ [(⟨q, 1⟩ : PC)] ++ xs.drop j : List PC).length) (xs' := (xs.take j ++ [(⟨q, 1⟩ : PC)] ++ xs.drop j : List PC).flatMap pcf) (by rw [hlen]; omega) (ins_flat xs j _ q (by omega) rfl)
              have S10 := S9.drop (.cons_cons _ (.cons _ (.refl _)))
              refine ⟨k + 1, _, _, xs.take j ++ [(⟨q, 1⟩ : PC)] ++ xs.drop j, by omega, ⟨⟨⟨by omega, by omega⟩, by rw [List.take_add_one, hq]; exact hps2⟩, S10⟩, ?_⟩
              exact (Sub.cons rfl (by first | rfl | (rw [hlen]; rfl) | (rw [hlen]; congr 1; omega) | (rw [List.length_set])) (Sub.cons rfl (by first | rfl | exact congrArg (Value.int _) (by omega)) (Sub.cons rfl rfl (Sub.nil _))))
        ·
          refine DL_gno rfl rfl rfl rfl ?_
          refine DL_gno rfl rfl rfl rfl ?_
          refine DL_gno rfl rfl rfl rfl ?_
          refine DL_gno rfl rfl rfl rfl ?_
          refine DL_gno rfl rfl rfl rfl ?_
          refine DL_gno rfl rfl rfl rfl ?_
          refine DL_gno rfl rfl rfl rfl ?_
          refine DL_gno rfl rfl rfl rfl ?_
          refine DL_gno rfl rfl rfl rfl ?_
          refine DL_gno rfl rfl rfl rfl ?_
          refine DL_y rfl ((by first | exact y_pickT rfl rfl | exact y_pickF rfl rfl)) rfl ?_
          refine DL_nil ?_
          refine hK12 _ _ ?_
          refine T_false rfl ?_
          refine T_exit ?_
          refine hK10 _ _ ?_
          refine T_seq fun K22 hK22 => ?_
          refine T_seq fun K23 hK23 => ?_
          refine T_drawnL [(0, true), (1, true), (2, true), (3, true), (4, true), (5, true), (6, true), (7, true), (8, true), (9, true), (10, true), (11, true), (12, true), (13, true), (14, true), (15, true)] hmix (by kernel_rfl) fun w17 l17 => ?_
          have S17 := S4.like l17
          refine DL_y rfl (y_move rfl) rfl ?_
          refine DL_y rfl (y_move rfl) rfl ?_
          refine DL_y rfl (y_len Try.underlying30 rfl) rfl ?_
          refine DL_y rfl (y_lss rfl rfl) rfl ?_
          refine DL_y rfl (y_move rfl) rfl ?_
          refine DL_split 38 rfl (fun h38 => ?_) (fun h38 => ?_)
          ·
            obtain ⟨x, hx⟩ : ∃ x, xs[j]? = some x := ⟨_, List.getElem?_eq_getElem (by omega)⟩
            have hpg := pc_get xs j x hx
            refine DL_gyes rfl rfl rfl (y_move rfl) rfl ?_
            refine DL_gyes rfl rfl rfl (y_move rfl) rfl ?_
            refine DL_gyes rfl rfl rfl (y_idx Try.underlying30 sz34 rfl rfl (S17.row 1 rfl) inferInstance (by omega)) rfl ?_
            refine DL_gyes rfl rfl rfl (y_fieldR 0 Try.underlying34 rfl sz9 rfl rfl (S17.row 1 rfl) (by omega) rfl) rfl ?_
            refine DL_gyes rfl rfl rfl (y_ldf Try.underlying9 rfl rfl (S17.row 1 rfl) (by omega) hpg.1) rfl ?_
            refine DL_gyes rfl rfl rfl (y_move rfl) rfl ?_
            refine DL_gyes rfl rfl rfl (y_move rfl) rfl ?_
            refine DL_gyes rfl rfl rfl (y_idx Try.underlying53 sz9 rfl rfl (S17.row 0 rfl) inferInstance (by omega)) rfl ?_
            refine DL_gyes rfl rfl rfl (y_ldr Try.underlying9 rfl rfl (S17.row 0 rfl) (show ((cuts l).map sV)[k]? = some (sV q) by rw [List.getElem?_map, hq]; rfl)) rfl ?_
            refine DL_gyes rfl rfl rfl (y_seql rfl rfl) rfl ?_
            refine DL_y rfl ((by first | exact y_pickT rfl rfl | exact y_pickF rfl rfl)) rfl ?_
            refine DL_nil ?_
            refine hK23 _ _ ?_
            refine T_cond rfl (fun h49 => ?_) (fun h49 => ?_)
            ·
              refine T_seq fun K24 hK24 => ?_
              have hxn : x.n ≤ n := by have h1 := (hps.2.1 x (List.mem_of_getElem? hx)).2; have h2 := List.count_le_length (a := x.t) (l := (cuts l).take k); rw [← h1, List.length_take] at h2; omega
              refine T_region ?_
              refine L_y (y_move rfl) rfl ?_
              refine L_y (y_move rfl) rfl ?_
              refine L_y (y_idx Try.underlying30 sz34 rfl rfl (S17.row 1 rfl) inferInstance (by omega)) rfl ?_
              refine L_y (y_fieldR 1 Try.underlying34 rfl sz3 rfl rfl (S17.row 1 rfl) (by omega) rfl) rfl ?_
              refine L_y (y_ldf Try.underlying3 rfl rfl (S17.row 1 rfl) (by omega) hpg.2) rfl ?_
              refine L_y (y_add rfl rfl (i64w (by omega))) rfl ?_
              refine L_y (y_idx Try.underlying30 sz34 rfl rfl (S17.row 1 rfl) inferInstance (by omega)) rfl ?_
              refine L_y (y_fieldR 1 Try.underlying34 rfl sz3 rfl rfl (S17.row 1 rfl) (by omega) rfl) rfl ?_
              refine L_o (o_strowN S17 1 rfl rfl rfl rfl sz3 (by omega) fun w18 S18 => ?_)
              refine L_nil ?_
              refine hK24 _ _ ?_
              refine T_exit ?_
              refine hK8 _ _ ?_
              refine T_region ?_
              refine L_y (y_move rfl) rfl ?_
              refine L_y (y_add rfl rfl (i64w (by omega))) rfl ?_
              refine L_y (y_assign rfl) rfl ?_
              refine L_nil ?_
              have S9 := S18.rowc 1 rfl (n' := (xs.set j ⟨x.t, x.n + 1⟩).length) (xs' := (xs.set j ⟨x.t, x.n + 1⟩).flatMap pcf) (by simp) (by rw [← pc_set xs j x _ hx]; rfl)
              have hps2 := hps.inc hx
              have hxq : x.t = q := str_inj h49
              rw [hxq] at hps2
              refine ⟨k + 1, A1, c1, xs.set j ⟨x.t, x.n + 1⟩, by omega, ⟨⟨⟨by omega, by rw [List.length_set]; omega⟩, by rw [List.take_add_one, hq, hxq]; exact hps2⟩, S9⟩, ?_⟩
              exact (Sub.cons rfl (by first | rfl | (rw [hlen]; rfl) | (rw [hlen]; congr 1; omega) | (rw [List.length_set])) (Sub.cons rfl (by first | rfl | exact congrArg (Value.int _) (by omega)) (Sub.cons rfl rfl (Sub.nil _))))
            ·
              refine T_skip ?_
              refine hK22 _ _ ?_
              refine T_seq fun K25 hK25 => ?_
              have hcp := (S17.row 1 rfl).cap
              have hno : ∀ y, xs[j]? = some y → bl y.t q = false ∧ y.t ≠ q := fun y hy => by have := (List.getElem?_eq_some_iff.1 hy).1; omega
              refine T_region ?_
              have S19 := S17.nilrow 34 2
              refine L_y (y_assign rfl) rfl ?_
              refine L_nil ?_
              refine hK25 _ _ ?_
              refine T_seq fun K26 hK26 => ?_
              refine T_region ?_
              refine L_y (y_move rfl) rfl ?_
              refine L_y (y_move rfl) rfl ?_
              refine L_y (y_move rfl) rfl ?_
              refine L_y (y_sliceH Try.underlying30 sz34 rfl rfl inferInstance (by omega)) rfl ?_
              refine L_o (o_app te30 S19 2 rfl rfl rfl ((S19.row 1 rfl).cut (l := 0) (u := j) (Nat.zero_le _) (by omega)) (fun u hu => pc_one _ _ (List.mem_of_mem_drop (List.mem_of_mem_take hu))) rfl (by omega) (by omega) fun A20 c20 w20 S20 => ?_)
              refine L_y (y_assign rfl) rfl ?_
              refine L_nil ?_
              refine hK26 _ _ ?_
              refine T_seq fun K27 hK27 => ?_
              refine T_region ?_
              refine L_y (y_move rfl) rfl ?_
              refine L_y (y_move rfl) rfl ?_
              refine L_y (y_move rfl) rfl ?_
              refine L_y (y_idx Try.underlying53 sz9 rfl rfl (S20.row 0 rfl) inferInstance (by omega)) rfl ?_
              refine L_y (y_ldr Try.underlying9 rfl rfl (S20.row 0 rfl) (show ((cuts l).map sV)[k]? = some (sV q) by rw [List.getElem?_map, hq]; rfl)) rfl ?_
              refine L_y (y_build rfl (show _ = some #[sV q, Value.int .i64 1] by kernel_rfl)) rfl ?_
              refine L_o (o_bsl [_, _] te30 zz34 S20 rfl rfl rfl rfl rfl rfl rfl rfl fun b21 w21 S21 => ?_)
              refine L_o (o_app te30 S21 2 rfl rfl rfl (by first | exact S21.row 0 rfl | exact S21.row 1 rfl | exact S21.row 2 rfl | exact S21.row 3 rfl) (fun u hu => pc_one [⟨q, 1⟩] u hu) rfl (by omega) (by omega) fun A22 c22 w22 S22 => ?_)
              have S22d := S22.drop (rs' := [_, _, _]) (.cons_cons _ (.cons_cons _ (.cons_cons _ (.cons _ (.refl _)))))
              refine L_y (y_assign rfl) rfl ?_
              refine L_nil ?_
              refine hK27 _ _ ?_
              refine T_region ?_
              refine L_y (y_move rfl) rfl ?_
              refine L_y (y_move rfl) rfl ?_
              refine L_y (y_move rfl) rfl ?_
              refine L_y (y_sliceL Try.underlying30 sz34 rfl rfl inferInstance (by omega)) rfl ?_
              refine L_o (o_app te30 S22d 2 rfl rfl rfl ((S22d.row 1 rfl).cut (l := j) (u := xs.length) (by omega) (Nat.le_refl _)) (fun u hu => pc_one _ _ (List.mem_of_mem_drop (List.mem_of_mem_take hu))) rfl (by omega) (by omega) fun A23 c23 w23 S23 => ?_)
              refine L_y (y_assign rfl) rfl ?_
              refine L_nil ?_
              refine hK8 _ _ ?_
              refine T_region ?_
              refine L_y (y_move rfl) rfl ?_
              refine L_y (y_add rfl rfl (i64w (by omega))) rfl ?_
              refine L_y (y_assign rfl) rfl ?_
              refine L_nil ?_
              have hps2 := hps.ins hlow hno
              have hlen : (xs.take j ++ [(⟨q, 1⟩ : PC)] ++ xs.drop j : List PC).length = xs.length + 1 := by simp; omega
              have S9 := S23.rowc 2 rfl (n' := (xs.take j ++ [(⟨q, 1⟩ : PC)] ++ xs.drop j : List PC).length) (xs' := (xs.take j ++ [(⟨q, 1⟩ : PC)] ++ xs.drop j : List PC).flatMap pcf) (by rw [hlen]; omega) (ins_flat xs j _ q (by omega) rfl)
              have S10 := S9.drop (.cons_cons _ (.cons _ (.refl _)))
              refine ⟨k + 1, _, _, xs.take j ++ [(⟨q, 1⟩ : PC)] ++ xs.drop j, by omega, ⟨⟨⟨by omega, by omega⟩, by rw [List.take_add_one, hq]; exact hps2⟩, S10⟩, ?_⟩
              exact (Sub.cons rfl (by first | rfl | (rw [hlen]; rfl) | (rw [hlen]; congr 1; omega) | (rw [List.length_set])) (Sub.cons rfl (by first | rfl | exact congrArg (Value.int _) (by omega)) (Sub.cons rfl rfl (Sub.nil _))))
          ·
            refine DL_gno rfl rfl rfl rfl ?_
            refine DL_gno rfl rfl rfl rfl ?_
            refine DL_gno rfl rfl rfl rfl ?_
            refine DL_gno rfl rfl rfl rfl ?_
            refine DL_gno rfl rfl rfl rfl ?_
            refine DL_gno rfl rfl rfl rfl ?_
            refine DL_gno rfl rfl rfl rfl ?_
            refine DL_gno rfl rfl rfl rfl ?_
            refine DL_gno rfl rfl rfl rfl ?_
            refine DL_gno rfl rfl rfl rfl ?_
            refine DL_y rfl ((by first | exact y_pickT rfl rfl | exact y_pickF rfl rfl)) rfl ?_
            refine DL_nil ?_
            refine hK23 _ _ ?_
            refine T_false rfl ?_
            refine T_skip ?_
            refine hK22 _ _ ?_
            refine T_seq fun K28 hK28 => ?_
            have hcp := (S17.row 1 rfl).cap
            have hno : ∀ y, xs[j]? = some y → bl y.t q = false ∧ y.t ≠ q := fun y hy => by have := (List.getElem?_eq_some_iff.1 hy).1; omega
            refine T_region ?_
            have S24 := S17.nilrow 34 2
            refine L_y (y_assign rfl) rfl ?_
            refine L_nil ?_
            refine hK28 _ _ ?_
            refine T_seq fun K29 hK29 => ?_
            refine T_region ?_
            refine L_y (y_move rfl) rfl ?_
            refine L_y (y_move rfl) rfl ?_
            refine L_y (y_move rfl) rfl ?_
            refine L_y (y_sliceH Try.underlying30 sz34 rfl rfl inferInstance (by omega)) rfl ?_
            refine L_o (o_app te30 S24 2 rfl rfl rfl ((S24.row 1 rfl).cut (l := 0) (u := j) (Nat.zero_le _) (by omega)) (fun u hu => pc_one _ _ (List.mem_of_mem_drop (List.mem_of_mem_take hu))) rfl (by omega) (by omega) fun A25 c25 w25 S25 => ?_)
            refine L_y (y_assign rfl) rfl ?_
            refine L_nil ?_
            refine hK29 _ _ ?_
            refine T_seq fun K30 hK30 => ?_
            refine T_region ?_
            refine L_y (y_move rfl) rfl ?_
            refine L_y (y_move rfl) rfl ?_
            refine L_y (y_move rfl) rfl ?_
            refine L_y (y_idx Try.underlying53 sz9 rfl rfl (S25.row 0 rfl) inferInstance (by omega)) rfl ?_
            refine L_y (y_ldr Try.underlying9 rfl rfl (S25.row 0 rfl) (show ((cuts l).map sV)[k]? = some (sV q) by rw [List.getElem?_map, hq]; rfl)) rfl ?_
            refine L_y (y_build rfl (show _ = some #[sV q, Value.int .i64 1] by kernel_rfl)) rfl ?_
            refine L_o (o_bsl [_, _] te30 zz34 S25 rfl rfl rfl rfl rfl rfl rfl rfl fun b26 w26 S26 => ?_)
            refine L_o (o_app te30 S26 2 rfl rfl rfl (by first | exact S26.row 0 rfl | exact S26.row 1 rfl | exact S26.row 2 rfl | exact S26.row 3 rfl) (fun u hu => pc_one [⟨q, 1⟩] u hu) rfl (by omega) (by omega) fun A27 c27 w27 S27 => ?_)
            have S27d := S27.drop (rs' := [_, _, _]) (.cons_cons _ (.cons_cons _ (.cons_cons _ (.cons _ (.refl _)))))
            refine L_y (y_assign rfl) rfl ?_
            refine L_nil ?_
            refine hK30 _ _ ?_
            refine T_region ?_
            refine L_y (y_move rfl) rfl ?_
            refine L_y (y_move rfl) rfl ?_
            refine L_y (y_move rfl) rfl ?_
            refine L_y (y_sliceL Try.underlying30 sz34 rfl rfl inferInstance (by omega)) rfl ?_
            refine L_o (o_app te30 S27d 2 rfl rfl rfl ((S27d.row 1 rfl).cut (l := j) (u := xs.length) (by omega) (Nat.le_refl _)) (fun u hu => pc_one _ _ (List.mem_of_mem_drop (List.mem_of_mem_take hu))) rfl (by omega) (by omega) fun A28 c28 w28 S28 => ?_)
            refine L_y (y_assign rfl) rfl ?_
            refine L_nil ?_
            refine hK8 _ _ ?_
            refine T_region ?_
            refine L_y (y_move rfl) rfl ?_
            refine L_y (y_add rfl rfl (i64w (by omega))) rfl ?_
            refine L_y (y_assign rfl) rfl ?_
            refine L_nil ?_
            have hps2 := hps.ins hlow hno
            have hlen : (xs.take j ++ [(⟨q, 1⟩ : PC)] ++ xs.drop j : List PC).length = xs.length + 1 := by simp; omega
            have S9 := S28.rowc 2 rfl (n' := (xs.take j ++ [(⟨q, 1⟩ : PC)] ++ xs.drop j : List PC).length) (xs' := (xs.take j ++ [(⟨q, 1⟩ : PC)] ++ xs.drop j : List PC).flatMap pcf) (by rw [hlen]; omega) (ins_flat xs j _ q (by omega) rfl)
            have S10 := S9.drop (.cons_cons _ (.cons _ (.refl _)))
            refine ⟨k + 1, _, _, xs.take j ++ [(⟨q, 1⟩ : PC)] ++ xs.drop j, by omega, ⟨⟨⟨by omega, by omega⟩, by rw [List.take_add_one, hq]; exact hps2⟩, S10⟩, ?_⟩
            exact (Sub.cons rfl (by first | rfl | (rw [hlen]; rfl) | (rw [hlen]; congr 1; omega) | (rw [List.length_set])) (Sub.cons rfl (by first | rfl | exact congrArg (Value.int _) (by omega)) (Sub.cons rfl rfl (Sub.nil _))))
    ·
      have hke : k = (cuts l).length := by omega
      rw [hke, List.take_length] at hps
      refine T_exit ?_
      refine hK4 _ _ ?_
      refine T_seq fun K31 hK31 => ?_
      refine T_region ?_
      refine L_y (y_move rfl) rfl ?_
      refine L_y (y_assign rfl) rfl ?_
      refine L_nil ?_
      refine hK31 _ _ ?_
      refine T_ret ?_
      repeat (first | with_reducible refine up_then ?_ | with_reducible refine up_in ?_)
      refine ret1 rfl rfl ?_
      exact ⟨_, rfl, S2.like0, _, _, _, _, rfl, S2.own 1 rfl, hps⟩
end Go.Proofs.Ytaknmlajhedfhaa
