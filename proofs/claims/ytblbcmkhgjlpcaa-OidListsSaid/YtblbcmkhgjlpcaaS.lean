/-
  Sorted of the document.
-/
import Derived.Test.YtblbcmkhgjlpcaaR
namespace Go.Proofs.Ytblbcmkhgjlpcaa
open Go.RowKit Zk Zx
set_option linter.unusedVariables false
set_option linter.unusedSimpArgs false

theorem ins_ris {xs : List Id} (h : ris xs = true) {j : Nat} {x : Id} (hlow : ∀ i y, i < j → xs[i]? = some y → lt y x = true) (hat : ∀ y, xs[j]? = some y → lt y x = false ∧ y ≠ x) : ris (xs.take j ++ [x] ++ xs.drop j) = true := by
  have hS := ris_pair xs h
  have hsp : xs.take j ++ xs.drop j = xs := List.take_append_drop j xs
  rw [← hsp, List.pairwise_append] at hS
  obtain ⟨s1, s2, s3⟩ := hS
  have hA : ∀ a ∈ xs.take j, lt a x = true := fun a ha => by
    obtain ⟨i, hi, rfl⟩ := List.getElem_of_mem ha
    have h2 : i < j := by rw [List.length_take] at hi; omega
    have h3 : i < xs.length := by rw [List.length_take] at hi; omega
    rw [List.getElem_take]
    exact hlow i _ h2 (List.getElem?_eq_getElem h3)
  have hB : ∀ b ∈ xs.drop j, lt x b = true := by
    cases hd : xs.drop j with
    | nil => intro b hb; cases hb
    | cons y ys =>
      have hy : xs[j]? = some y := by
        have := List.getElem?_drop (xs := xs) (i := j) (j := 0)
        rw [hd] at this
        simpa using this.symm
      obtain ⟨h1, h2⟩ := hat y hy
      have hxy := lt_total _ _ h1 h2
      intro b hb
      rcases List.mem_cons.1 hb with rfl | hb
      · exact hxy
      · rw [hd, List.pairwise_cons] at s2
        exact lt_trans _ _ _ hxy (s2.1 b hb)
  apply pair_ris
  rw [List.append_assoc, List.pairwise_append]
  refine ⟨s1, List.pairwise_cons.2 ⟨hB, s2⟩, fun a ha b hb => ?_⟩
  rcases List.mem_cons.1 hb with rfl | hb
  · exact hA a ha
  · exact s3 a ha b hb
theorem idf_take : ∀ (xs : List Id) (i : Nat), (xs.flatMap idf).take (i * 32) = (xs.take i).flatMap idf
  | _, 0 => by simp
  | [], i + 1 => by simp
  | y :: xs, i + 1 => by
    rw [List.flatMap_cons, List.take_succ_cons, List.flatMap_cons, ← idf_take xs i, show (i + 1) * 32 = (idf y).length + i * 32 by rw [idf_len]; omega, List.take_length_add_append]
theorem idf_drop : ∀ (xs : List Id) (i : Nat), (xs.flatMap idf).drop (i * 32) = (xs.drop i).flatMap idf
  | _, 0 => by simp
  | [], i + 1 => by simp
  | y :: xs, i + 1 => by
    rw [List.flatMap_cons, List.drop_succ_cons, ← idf_drop xs i, show (i + 1) * 32 = (idf y).length + i * 32 by rw [idf_len]; omega, List.drop_length_add_append]
theorem ins_flatI (xs : List Id) (i n : Nat) (q : Id) (hi : i ≤ xs.length) (hn : xs.length = n) : [] ++ ((xs.flatMap idf).drop (0 * 32)).take ((i - 0) * 32) ++ bL q.l ++ ((xs.flatMap idf).drop (i * 32)).take ((n - i) * 32) = (xs.take i ++ [q] ++ xs.drop i).flatMap idf := by
  have e1 : ((xs.flatMap idf).drop (0 * 32)).take ((i - 0) * 32) = (xs.take i).flatMap idf := by rw [Nat.zero_mul, List.drop_zero, Nat.sub_zero, idf_take]
  have e2 : ((xs.flatMap idf).drop (i * 32)).take ((n - i) * 32) = (xs.drop i).flatMap idf := by rw [idf_drop, idf_take, List.take_of_length_le (by rw [List.length_drop]; omega)]
  rw [e1, e2, List.nil_append, List.flatMap_append, List.flatMap_append]
  simp [idf]


set_option maxRecDepth 100000 in
theorem rsorted (A : Option Addr) (n c : Nat) (l : List Id) (w0 : World) (hl : Rs w0 32 A n c (l.flatMap idf)) (h60 : n ≤ 4096) :
    Calls Try.prog 24 #[.slice A n c] w0 fun e w' => ∃ u, e = .returned u ∧ Like w0 w' ∧ ∃ A m c s, u = .slice A m c ∧ w'.ownsRow w0.heap.size 23 32 (.slice A m c) m (s.flatMap idf) ∧ ris s = true ∧ s.length ≤ l.length := by
  refine enter1 (env := [(0, .slice A n c)]) [.slice A n c] Try.func24 rfl Try.ntmps24 rfl rfl ?_
  have hn := ids_n hl; have hcap := hl.cap; have hmax := hl.max; have S0 := St.start w0 noM
  refine T_seq fun K1 hK1 => ?_
  refine T_region ?_
  refine L_y (y_assign rfl) rfl ?_
  refine L_nil ?_
  refine hK1 _ _ ?_
  refine T_seq fun K2 hK2 => ?_
  refine T_region ?_
  refine L_y (y_assign rfl) rfl ?_
  refine L_nil ?_
  refine hK2 _ _ ?_
  refine T_seq fun K3 hK3 => ?_
  refine T_seq fun K4 hK4 => ?_
  refine T_region ?_
  refine L_y (y_assign rfl) rfl ?_
  refine L_nil ?_
  refine hK4 _ _ ?_
  refine T_block ?_
  refine T_loop4 [(0, _)] (fun (k : Nat) (A1 : Option Addr) (c1 : Nat) (xs : List Id) => [(3, .slice A1 xs.length c1), (4, .int .i64 (k : Int))]) (fun (k : Nat) (A1 : Option Addr) (c1 : Nat) (xs : List Id) => n - k) (fun (k : Nat) (A1 : Option Addr) (c1 : Nat) (xs : List Id) (w : World) => (k ≤ n ∧ xs.length ≤ k ∧ ris xs = true) ∧ St w0 noM [row 23 32 A1 xs.length c1 (xs.flatMap idf)] w) 0 none 0 [] (Sub.cons rfl (by first | rfl | exact congrArg (Value.int _) (by omega)) (Sub.cons rfl (by first | rfl | exact congrArg (Value.int _) (by omega)) (Sub.nil _))) (Sub.cons rfl rfl (Sub.nil _)) ?_ ?_
  ·
    have S9 := S0.nilrow 23 32
    exact ⟨⟨Nat.zero_le _, Nat.le_refl _, rfl⟩, S9⟩
  ·
    intro k A1 c1 xs w1 hrel
    obtain ⟨⟨hk, hxk, hris⟩, S1⟩ := hrel
    refine T_seq fun K5 hK5 => ?_
    refine T_seq fun K6 hK6 => ?_
    refine T_region ?_
    refine L_y (y_move rfl) rfl ?_
    refine L_y (y_move rfl) rfl ?_
    refine L_y (y_len Try.underlying44 rfl) rfl ?_
    refine L_y (y_lss rfl rfl) rfl ?_
    refine L_nil ?_
    refine hK6 _ _ ?_
    refine T_cond rfl (fun h10 => ?_) (fun h10 => ?_)
    ·
      obtain ⟨x, hx⟩ : ∃ x, l[k]? = some x := ⟨_, List.getElem?_eq_getElem (by omega)⟩
      refine T_skip ?_
      refine hK5 _ _ ?_
      refine T_seq fun K7 hK7 => ?_
      refine T_block ?_
      refine T_seq fun K8 hK8 => ?_
      refine T_region ?_
      refine L_y (y_assign rfl) rfl ?_
      refine L_nil ?_
      refine hK8 _ _ ?_
      refine T_seq fun K9 hK9 => ?_
      refine T_block ?_
      refine T_loop1 [(0, _), (3, _), (4, _)] (fun (j : Nat) => [(5, .int .i64 (j : Int))]) (fun (j : Nat) => xs.length - j) (fun (j : Nat) (w : World) => (j ≤ xs.length ∧ ∀ i y, i < j → xs[i]? = some y → lt y x = true) ∧ St w0 noM [row 23 32 A1 xs.length c1 (xs.flatMap idf)] w) 0 (Sub.cons rfl (by first | rfl | exact congrArg (Value.int _) (by omega)) (Sub.nil _)) (Sub.cons rfl rfl (Sub.cons rfl rfl (Sub.cons rfl rfl (Sub.nil _)))) ?_ ?_
      ·
        exact ⟨⟨Nat.zero_le _, fun i y h => by omega⟩, S1⟩
      ·
        intro j w2 hrel
        obtain ⟨⟨hj, hlow⟩, S2⟩ := hrel
        refine T_seq fun K10 hK10 => ?_
        refine T_seq fun K11 hK11 => ?_
        refine T_tail 13 hmix (by kernel_rfl) fun w3 l3 K12 hK12 => ?_
        have S3 := S2.like l3
        refine HL_y (y_move rfl) rfl ?_
        refine HL_y (y_move rfl) rfl ?_
        refine HL_y (y_len Try.underlying44 rfl) rfl ?_
        refine HL_y (y_lss rfl rfl) rfl ?_
        refine HL_y (y_move rfl) rfl ?_
        refine HL_split 17 rfl (fun h17 => ?_) (fun h17 => ?_)
        ·
          obtain ⟨y, hy⟩ : ∃ y, xs[j]? = some y := ⟨_, List.getElem?_eq_getElem (by omega)⟩
          refine HL_gyes rfl rfl ?_
          refine HL_y (y_move rfl) rfl ?_
          refine HL_gyes rfl rfl ?_
          refine HL_y (y_move rfl) rfl ?_
          refine HL_gyes rfl rfl ?_
          refine HL_y (y_idx Try.underlying44 sz23 rfl rfl (S3.row 0 rfl) (Nt.mk (by omega) : Nt _ (j)) (by omega)) rfl ?_
          refine HL_gyes rfl rfl ?_
          refine HL_y (y_ldp (f := idf) idf_len Try.underlying23 rfl sz23 rfl (S3.row 0 rfl) (by omega) hy) rfl ?_
          refine HL_gyes rfl rfl ?_
          refine HL_y (y_move rfl) rfl ?_
          refine HL_gyes rfl rfl ?_
          refine HL_y (y_move rfl) rfl ?_
          refine HL_gyes rfl rfl ?_
          refine HL_y (y_idx Try.underlying44 sz23 rfl rfl (S3.rd hl) (Nt.mk (by omega) : Nt _ (k)) (by omega)) rfl ?_
          refine HL_gyes rfl rfl ?_
          refine HL_y (y_ldp (f := idf) idf_len Try.underlying23 rfl sz23 rfl (S3.rd hl) (by omega) hx) rfl ?_
          refine HL_nil ?_
          refine hK12 _ ?_
          refine L_gyes rfl rfl ?_
          refine L_o (o_call Try.func38 rfl rfl (cBelow y x w3) rfl rfl ?_)
          rintro e5 w5 ⟨v5, rfl, l5, rfl⟩
          refine ⟨_, rfl, ?_⟩
          have S5 := S3.like l5
          refine L_y ((by first | exact y_pickT rfl rfl | exact y_pickF rfl rfl)) rfl ?_
          refine L_nil ?_
          refine hK11 _ _ ?_
          refine T_condB rfl (fun h27 => ?_) (fun h27 => ?_)
          ·
            refine T_skip ?_
            refine hK10 _ _ ?_
            refine T_block ?_
            refine T_region ?_
            refine L_y (y_move rfl) rfl ?_
            refine L_y (y_add rfl rfl (i64w (by omega))) rfl ?_
            refine L_y (y_assign rfl) rfl ?_
            refine L_nil ?_
            refine ⟨j + 1, by omega, ⟨⟨by omega, fun i y2 hi hy2 => by rcases Nat.lt_or_ge i j with q9 | q9; exact hlow i y2 q9 hy2; (have e9 : i = j := by omega); subst e9; rw [hy] at hy2; cases hy2; exact h27⟩, S5⟩, ?_⟩
            exact (Sub.cons rfl (by first | rfl | exact congrArg (Value.int _) (by omega)) (Sub.cons rfl rfl (Sub.cons rfl rfl (Sub.cons rfl rfl (Sub.nil _)))))
          ·
            refine T_exit ?_
            refine hK9 _ _ ?_
            refine T_seq fun K13 hK13 => ?_
            refine T_seq fun K14 hK14 => ?_
            refine T_drawnL [(0, true), (1, true), (2, true), (3, true), (4, true), (5, true), (6, true), (7, true), (8, true), (9, true), (10, true), (11, true), (12, true), (13, true), (14, true)] hmix (by kernel_rfl) fun w6 l6 => ?_
            have S6 := S5.like l6
            refine DL_y rfl (y_move rfl) rfl ?_
            refine DL_y rfl (y_move rfl) rfl ?_
            refine DL_y rfl (y_len Try.underlying44 rfl) rfl ?_
            refine DL_y rfl (y_lss rfl rfl) rfl ?_
            refine DL_y rfl (y_move rfl) rfl ?_
            refine DL_split 34 rfl (fun h34 => ?_) (fun h34 => ?_)
            ·
              skip
              refine DL_gyes rfl rfl rfl (y_move rfl) rfl ?_
              refine DL_gyes rfl rfl rfl (y_move rfl) rfl ?_
              refine DL_gyes rfl rfl rfl (y_idx Try.underlying44 sz23 rfl rfl (S6.row 0 rfl) (Nt.mk (by omega) : Nt _ (j)) (by omega)) rfl ?_
              refine DL_gyes rfl rfl rfl (y_ldp (f := idf) idf_len Try.underlying23 rfl sz23 rfl (S6.row 0 rfl) (by omega) hy) rfl ?_
              refine DL_gyes rfl rfl rfl (y_move rfl) rfl ?_
              refine DL_gyes rfl rfl rfl (y_move rfl) rfl ?_
              refine DL_gyes rfl rfl rfl (y_idx Try.underlying44 sz23 rfl rfl (S6.rd hl) (Nt.mk (by omega) : Nt _ (k)) (by omega)) rfl ?_
              refine DL_gyes rfl rfl rfl (y_ldp (f := idf) idf_len Try.underlying23 rfl sz23 rfl (S6.rd hl) (by omega) hx) rfl ?_
              refine DL_gyes rfl rfl rfl (y_eqB Try.underlying23 Try.underlying5 sz5 (by kernel_rfl) rfl rfl y.h x.h) rfl ?_
              refine DL_y rfl ((by first | exact y_pickT rfl rfl | exact y_pickF rfl rfl)) rfl ?_
              refine DL_nil ?_
              refine hK14 _ _ ?_
              refine T_cond rfl (fun h44 => ?_) (fun h44 => ?_)
              ·
                refine T_exit ?_
                refine hK7 _ _ ?_
                refine T_region ?_
                refine L_y (y_move rfl) rfl ?_
                refine L_y (y_add rfl rfl (i64w (by omega))) rfl ?_
                refine L_y (y_assign rfl) rfl ?_
                refine L_nil ?_
                refine ⟨k + 1, A1, c1, xs, by omega, ⟨⟨by omega, by omega, hris⟩, S6⟩, ?_⟩
                exact (Sub.cons rfl (by first | rfl | (rw [hlen]; rfl) | (rw [hlen]; congr 1; omega)) (Sub.cons rfl (by first | rfl | exact congrArg (Value.int _) (by omega)) (Sub.cons rfl rfl (Sub.nil _))))
              ·
                refine T_skip ?_
                refine hK13 _ _ ?_
                refine T_seq fun K15 hK15 => ?_
                have hcp := (S6.row 0 rfl).cap
                have hno : ∀ y, xs[j]? = some y → lt y x = false ∧ y ≠ x := by first | exact (fun y2 hy2 => by have := (List.getElem?_eq_some_iff.1 hy2).1; omega) | exact (fun y2 hy2 => by rw [hy] at hy2; cases hy2; exact ⟨h27, fun e => h44 (by rw [e])⟩)
                refine T_region ?_
                have S7 := S6.nilrow 23 32
                refine L_y (y_assign rfl) rfl ?_
                refine L_nil ?_
                refine hK15 _ _ ?_
                refine T_seq fun K16 hK16 => ?_
                refine T_region ?_
                refine L_y (y_move rfl) rfl ?_
                refine L_y (y_move rfl) rfl ?_
                refine L_y (y_move rfl) rfl ?_
                refine L_y (y_sliceH Try.underlying44 sz23 rfl rfl inferInstance (by omega)) rfl ?_
                refine L_o (o_app te44 S7 1 rfl rfl rfl ((S7.row 0 rfl).cut (l := 0) (u := j) (Nat.zero_le _) (by omega)) (fun u hu => ids_one _ _ (List.mem_of_mem_drop (List.mem_of_mem_take hu))) rfl (by omega) (by omega) fun A8 c8 w8 S8 => ?_)
                refine L_y (y_assign rfl) rfl ?_
                refine L_nil ?_
                refine hK16 _ _ ?_
                refine T_seq fun K17 hK17 => ?_
                refine T_region ?_
                refine L_y (y_move rfl) rfl ?_
                refine L_y (y_move rfl) rfl ?_
                refine L_y (y_move rfl) rfl ?_
                refine L_y (y_idx Try.underlying44 sz23 rfl rfl (S8.rd hl) (Nt.mk (by omega) : Nt _ (k)) (by omega)) rfl ?_
                refine L_y (y_ldp (f := idf) idf_len Try.underlying23 rfl sz23 rfl (S8.rd hl) (by omega) hx) rfl ?_
                refine L_o (o_bsl (bL x.l) te44 zz23 S8 rfl rfl rfl (by simp [Value.cells, idf, x.h]) (by simp [Value.cells, idf]) rfl rfl rfl fun b9 w9 S9 => ?_)
                refine L_o (o_app te44 S9 1 rfl rfl rfl (by first | exact S9.row 0 rfl | exact S9.row 1 rfl | exact S9.row 2 rfl) (bL_one _) rfl (by omega) (by omega) fun A10 c10 w10 S10 => ?_)
                have S10d := S10.drop (rs' := [_, _]) (.cons_cons _ (.cons_cons _ (.cons _ (.refl _))))
                refine L_y (y_assign rfl) rfl ?_
                refine L_nil ?_
                refine hK17 _ _ ?_
                refine T_region ?_
                refine L_y (y_move rfl) rfl ?_
                refine L_y (y_move rfl) rfl ?_
                refine L_y (y_move rfl) rfl ?_
                refine L_y (y_sliceL Try.underlying44 sz23 rfl rfl inferInstance (by omega)) rfl ?_
                refine L_o (o_app te44 S10d 1 rfl rfl rfl ((S10d.row 0 rfl).cut (l := j) (u := xs.length) (by omega) (Nat.le_refl _)) (fun u hu => ids_one _ _ (List.mem_of_mem_drop (List.mem_of_mem_take hu))) rfl (by omega) (by omega) fun A11 c11 w11 S11 => ?_)
                refine L_y (y_assign rfl) rfl ?_
                refine L_nil ?_
                refine hK7 _ _ ?_
                refine T_region ?_
                refine L_y (y_move rfl) rfl ?_
                refine L_y (y_add rfl rfl (i64w (by omega))) rfl ?_
                refine L_y (y_assign rfl) rfl ?_
                refine L_nil ?_
                have hris2 := ins_ris hris hlow hno
                have hlen : (xs.take j ++ [x] ++ xs.drop j).length = xs.length + 1 := by simp; omega
                have S91 := S11.rowc 1 rfl (n' := (xs.take j ++ [x] ++ xs.drop j).length) (xs' := (xs.take j ++ [x] ++ xs.drop j).flatMap idf) (by rw [hlen]; omega) (ins_flatI xs j _ x (by omega) rfl)
                have S92 := S91.drop (.cons _ (.cons_cons _ (.refl _)))
                refine ⟨k + 1, _, _, xs.take j ++ [x] ++ xs.drop j, by omega, ⟨⟨by omega, by omega, hris2⟩, S92⟩, ?_⟩
                exact (Sub.cons rfl (by first | rfl | (rw [hlen]; rfl) | (rw [hlen]; congr 1; omega)) (Sub.cons rfl (by first | rfl | exact congrArg (Value.int _) (by omega)) (Sub.cons rfl rfl (Sub.nil _))))
            ·
              refine DL_gno rfl rfl rfl rfl ?_
              refine DL_gno rfl rfl rfl rfl ?_
              refine DL_gno rfl rfl rfl rfl ?_
              refine DL_gno rfl rfl rfl rfl ?_
              refine DL_gno rfl rfl rfl rfl ?_
              refine DL_gno rfl rfl rfl rfl ?_
              refine DL_gno rfl rfl rfl rfl ?_
              refine DL_gno rfl rfl rfl rfl ?_
              refine DL_gno rfl rfl rfl rfl ?_
              refine DL_y rfl ((by first | exact y_pickT rfl rfl | exact y_pickF rfl rfl)) rfl ?_
              refine DL_nil ?_
              refine hK14 _ _ ?_
              refine T_false rfl ?_
              refine T_skip ?_
              refine hK13 _ _ ?_
              refine T_seq fun K18 hK18 => ?_
              have hcp := (S6.row 0 rfl).cap
              have hno : ∀ y, xs[j]? = some y → lt y x = false ∧ y ≠ x := by first | exact (fun y2 hy2 => by have := (List.getElem?_eq_some_iff.1 hy2).1; omega) | exact (fun y2 hy2 => by rw [hy] at hy2; cases hy2; exact ⟨h27, fun e => h44 (by rw [e])⟩)
              refine T_region ?_
              have S12 := S6.nilrow 23 32
              refine L_y (y_assign rfl) rfl ?_
              refine L_nil ?_
              refine hK18 _ _ ?_
              refine T_seq fun K19 hK19 => ?_
              refine T_region ?_
              refine L_y (y_move rfl) rfl ?_
              refine L_y (y_move rfl) rfl ?_
              refine L_y (y_move rfl) rfl ?_
              refine L_y (y_sliceH Try.underlying44 sz23 rfl rfl inferInstance (by omega)) rfl ?_
              refine L_o (o_app te44 S12 1 rfl rfl rfl ((S12.row 0 rfl).cut (l := 0) (u := j) (Nat.zero_le _) (by omega)) (fun u hu => ids_one _ _ (List.mem_of_mem_drop (List.mem_of_mem_take hu))) rfl (by omega) (by omega) fun A13 c13 w13 S13 => ?_)
              refine L_y (y_assign rfl) rfl ?_
              refine L_nil ?_
              refine hK19 _ _ ?_
              refine T_seq fun K20 hK20 => ?_
              refine T_region ?_
              refine L_y (y_move rfl) rfl ?_
              refine L_y (y_move rfl) rfl ?_
              refine L_y (y_move rfl) rfl ?_
              refine L_y (y_idx Try.underlying44 sz23 rfl rfl (S13.rd hl) (Nt.mk (by omega) : Nt _ (k)) (by omega)) rfl ?_
              refine L_y (y_ldp (f := idf) idf_len Try.underlying23 rfl sz23 rfl (S13.rd hl) (by omega) hx) rfl ?_
              refine L_o (o_bsl (bL x.l) te44 zz23 S13 rfl rfl rfl (by simp [Value.cells, idf, x.h]) (by simp [Value.cells, idf]) rfl rfl rfl fun b14 w14 S14 => ?_)
              refine L_o (o_app te44 S14 1 rfl rfl rfl (by first | exact S14.row 0 rfl | exact S14.row 1 rfl | exact S14.row 2 rfl) (bL_one _) rfl (by omega) (by omega) fun A15 c15 w15 S15 => ?_)
              have S15d := S15.drop (rs' := [_, _]) (.cons_cons _ (.cons_cons _ (.cons _ (.refl _))))
              refine L_y (y_assign rfl) rfl ?_
              refine L_nil ?_
              refine hK20 _ _ ?_
              refine T_region ?_
              refine L_y (y_move rfl) rfl ?_
              refine L_y (y_move rfl) rfl ?_
              refine L_y (y_move rfl) rfl ?_
              refine L_y (y_sliceL Try.underlying44 sz23 rfl rfl inferInstance (by omega)) rfl ?_
              refine L_o (o_app te44 S15d 1 rfl rfl rfl ((S15d.row 0 rfl).cut (l := j) (u := xs.length) (by omega) (Nat.le_refl _)) (fun u hu => ids_one _ _ (List.mem_of_mem_drop (List.mem_of_mem_take hu))) rfl (by omega) (by omega) fun A16 c16 w16 S16 => ?_)
              refine L_y (y_assign rfl) rfl ?_
              refine L_nil ?_
              refine hK7 _ _ ?_
              refine T_region ?_
              refine L_y (y_move rfl) rfl ?_
              refine L_y (y_add rfl rfl (i64w (by omega))) rfl ?_
              refine L_y (y_assign rfl) rfl ?_
              refine L_nil ?_
              have hris2 := ins_ris hris hlow hno
              have hlen : (xs.take j ++ [x] ++ xs.drop j).length = xs.length + 1 := by simp; omega
              have S91 := S16.rowc 1 rfl (n' := (xs.take j ++ [x] ++ xs.drop j).length) (xs' := (xs.take j ++ [x] ++ xs.drop j).flatMap idf) (by rw [hlen]; omega) (ins_flatI xs j _ x (by omega) rfl)
              have S92 := S91.drop (.cons _ (.cons_cons _ (.refl _)))
              refine ⟨k + 1, _, _, xs.take j ++ [x] ++ xs.drop j, by omega, ⟨⟨by omega, by omega, hris2⟩, S92⟩, ?_⟩
              exact (Sub.cons rfl (by first | rfl | (rw [hlen]; rfl) | (rw [hlen]; congr 1; omega)) (Sub.cons rfl (by first | rfl | exact congrArg (Value.int _) (by omega)) (Sub.cons rfl rfl (Sub.nil _))))
        ·
          refine HL_gno rfl rfl rfl ?_
          refine HL_gno rfl rfl rfl ?_
          refine HL_gno rfl rfl rfl ?_
          refine HL_gno rfl rfl rfl ?_
          refine HL_gno rfl rfl rfl ?_
          refine HL_gno rfl rfl rfl ?_
          refine HL_gno rfl rfl rfl ?_
          refine HL_gno rfl rfl rfl ?_
          refine HL_nil ?_
          refine hK12 _ ?_
          refine L_gno rfl rfl rfl ?_
          refine L_y ((by first | exact y_pickT rfl rfl | exact y_pickF rfl rfl)) rfl ?_
          refine L_nil ?_
          refine hK11 _ _ ?_
          refine T_false rfl ?_
          refine T_exit ?_
          refine hK9 _ _ ?_
          refine T_seq fun K21 hK21 => ?_
          refine T_seq fun K22 hK22 => ?_
          refine T_drawnL [(0, true), (1, true), (2, true), (3, true), (4, true), (5, true), (6, true), (7, true), (8, true), (9, true), (10, true), (11, true), (12, true), (13, true), (14, true)] hmix (by kernel_rfl) fun w17 l17 => ?_
          have S17 := S3.like l17
          refine DL_y rfl (y_move rfl) rfl ?_
          refine DL_y rfl (y_move rfl) rfl ?_
          refine DL_y rfl (y_len Try.underlying44 rfl) rfl ?_
          refine DL_y rfl (y_lss rfl rfl) rfl ?_
          refine DL_y rfl (y_move rfl) rfl ?_
          refine DL_split 34 rfl (fun h34 => ?_) (fun h34 => ?_)
          ·
            obtain ⟨y, hy⟩ : ∃ y, xs[j]? = some y := ⟨_, List.getElem?_eq_getElem (by omega)⟩
            refine DL_gyes rfl rfl rfl (y_move rfl) rfl ?_
            refine DL_gyes rfl rfl rfl (y_move rfl) rfl ?_
            refine DL_gyes rfl rfl rfl (y_idx Try.underlying44 sz23 rfl rfl (S17.row 0 rfl) (Nt.mk (by omega) : Nt _ (j)) (by omega)) rfl ?_
            refine DL_gyes rfl rfl rfl (y_ldp (f := idf) idf_len Try.underlying23 rfl sz23 rfl (S17.row 0 rfl) (by omega) hy) rfl ?_
            refine DL_gyes rfl rfl rfl (y_move rfl) rfl ?_
            refine DL_gyes rfl rfl rfl (y_move rfl) rfl ?_
            refine DL_gyes rfl rfl rfl (y_idx Try.underlying44 sz23 rfl rfl (S17.rd hl) (Nt.mk (by omega) : Nt _ (k)) (by omega)) rfl ?_
            refine DL_gyes rfl rfl rfl (y_ldp (f := idf) idf_len Try.underlying23 rfl sz23 rfl (S17.rd hl) (by omega) hx) rfl ?_
            refine DL_gyes rfl rfl rfl (y_eqB Try.underlying23 Try.underlying5 sz5 (by kernel_rfl) rfl rfl y.h x.h) rfl ?_
            refine DL_y rfl ((by first | exact y_pickT rfl rfl | exact y_pickF rfl rfl)) rfl ?_
            refine DL_nil ?_
            refine hK22 _ _ ?_
            refine T_cond rfl (fun h44 => ?_) (fun h44 => ?_)
            ·
              refine T_exit ?_
              refine hK7 _ _ ?_
              refine T_region ?_
              refine L_y (y_move rfl) rfl ?_
              refine L_y (y_add rfl rfl (i64w (by omega))) rfl ?_
              refine L_y (y_assign rfl) rfl ?_
              refine L_nil ?_
              refine ⟨k + 1, A1, c1, xs, by omega, ⟨⟨by omega, by omega, hris⟩, S17⟩, ?_⟩
              exact (Sub.cons rfl (by first | rfl | (rw [hlen]; rfl) | (rw [hlen]; congr 1; omega)) (Sub.cons rfl (by first | rfl | exact congrArg (Value.int _) (by omega)) (Sub.cons rfl rfl (Sub.nil _))))
            ·
              refine T_skip ?_
              refine hK21 _ _ ?_
              refine T_seq fun K23 hK23 => ?_
              have hcp := (S17.row 0 rfl).cap
              have hno : ∀ y, xs[j]? = some y → lt y x = false ∧ y ≠ x := by first | exact (fun y2 hy2 => by have := (List.getElem?_eq_some_iff.1 hy2).1; omega) | exact (fun y2 hy2 => by rw [hy] at hy2; cases hy2; exact ⟨h27, fun e => h44 (by rw [e])⟩)
              refine T_region ?_
              have S18 := S17.nilrow 23 32
              refine L_y (y_assign rfl) rfl ?_
              refine L_nil ?_
              refine hK23 _ _ ?_
              refine T_seq fun K24 hK24 => ?_
              refine T_region ?_
              refine L_y (y_move rfl) rfl ?_
              refine L_y (y_move rfl) rfl ?_
              refine L_y (y_move rfl) rfl ?_
              refine L_y (y_sliceH Try.underlying44 sz23 rfl rfl inferInstance (by omega)) rfl ?_
              refine L_o (o_app te44 S18 1 rfl rfl rfl ((S18.row 0 rfl).cut (l := 0) (u := j) (Nat.zero_le _) (by omega)) (fun u hu => ids_one _ _ (List.mem_of_mem_drop (List.mem_of_mem_take hu))) rfl (by omega) (by omega) fun A19 c19 w19 S19 => ?_)
              refine L_y (y_assign rfl) rfl ?_
              refine L_nil ?_
              refine hK24 _ _ ?_
              refine T_seq fun K25 hK25 => ?_
              refine T_region ?_
              refine L_y (y_move rfl) rfl ?_
              refine L_y (y_move rfl) rfl ?_
              refine L_y (y_move rfl) rfl ?_
              refine L_y (y_idx Try.underlying44 sz23 rfl rfl (S19.rd hl) (Nt.mk (by omega) : Nt _ (k)) (by omega)) rfl ?_
              refine L_y (y_ldp (f := idf) idf_len Try.underlying23 rfl sz23 rfl (S19.rd hl) (by omega) hx) rfl ?_
              refine L_o (o_bsl (bL x.l) te44 zz23 S19 rfl rfl rfl (by simp [Value.cells, idf, x.h]) (by simp [Value.cells, idf]) rfl rfl rfl fun b20 w20 S20 => ?_)
              refine L_o (o_app te44 S20 1 rfl rfl rfl (by first | exact S20.row 0 rfl | exact S20.row 1 rfl | exact S20.row 2 rfl) (bL_one _) rfl (by omega) (by omega) fun A21 c21 w21 S21 => ?_)
              have S21d := S21.drop (rs' := [_, _]) (.cons_cons _ (.cons_cons _ (.cons _ (.refl _))))
              refine L_y (y_assign rfl) rfl ?_
              refine L_nil ?_
              refine hK25 _ _ ?_
              refine T_region ?_
              refine L_y (y_move rfl) rfl ?_
              refine L_y (y_move rfl) rfl ?_
              refine L_y (y_move rfl) rfl ?_
              refine L_y (y_sliceL Try.underlying44 sz23 rfl rfl inferInstance (by omega)) rfl ?_
              refine L_o (o_app te44 S21d 1 rfl rfl rfl ((S21d.row 0 rfl).cut (l := j) (u := xs.length) (by omega) (Nat.le_refl _)) (fun u hu => ids_one _ _ (List.mem_of_mem_drop (List.mem_of_mem_take hu))) rfl (by omega) (by omega) fun A22 c22 w22 S22 => ?_)
              refine L_y (y_assign rfl) rfl ?_
              refine L_nil ?_
              refine hK7 _ _ ?_
              refine T_region ?_
              refine L_y (y_move rfl) rfl ?_
              refine L_y (y_add rfl rfl (i64w (by omega))) rfl ?_
              refine L_y (y_assign rfl) rfl ?_
              refine L_nil ?_
              have hris2 := ins_ris hris hlow hno
              have hlen : (xs.take j ++ [x] ++ xs.drop j).length = xs.length + 1 := by simp; omega
              have S91 := S22.rowc 1 rfl (n' := (xs.take j ++ [x] ++ xs.drop j).length) (xs' := (xs.take j ++ [x] ++ xs.drop j).flatMap idf) (by rw [hlen]; omega) (ins_flatI xs j _ x (by omega) rfl)
              have S92 := S91.drop (.cons _ (.cons_cons _ (.refl _)))
              refine ⟨k + 1, _, _, xs.take j ++ [x] ++ xs.drop j, by omega, ⟨⟨by omega, by omega, hris2⟩, S92⟩, ?_⟩
              exact (Sub.cons rfl (by first | rfl | (rw [hlen]; rfl) | (rw [hlen]; congr 1; omega)) (Sub.cons rfl (by first | rfl | exact congrArg (Value.int _) (by omega)) (Sub.cons rfl rfl (Sub.nil _))))
          ·
            refine DL_gno rfl rfl rfl rfl ?_
            refine DL_gno rfl rfl rfl rfl ?_
            refine DL_gno rfl rfl rfl rfl ?_
            refine DL_gno rfl rfl rfl rfl ?_
            refine DL_gno rfl rfl rfl rfl ?_
            refine DL_gno rfl rfl rfl rfl ?_
            refine DL_gno rfl rfl rfl rfl ?_
            refine DL_gno rfl rfl rfl rfl ?_
            refine DL_gno rfl rfl rfl rfl ?_
            refine DL_y rfl ((by first | exact y_pickT rfl rfl | exact y_pickF rfl rfl)) rfl ?_
            refine DL_nil ?_
            refine hK22 _ _ ?_
            refine T_false rfl ?_
            refine T_skip ?_
            refine hK21 _ _ ?_
            refine T_seq fun K26 hK26 => ?_
            have hcp := (S17.row 0 rfl).cap
            have hno : ∀ y, xs[j]? = some y → lt y x = false ∧ y ≠ x := by first | exact (fun y2 hy2 => by have := (List.getElem?_eq_some_iff.1 hy2).1; omega) | exact (fun y2 hy2 => by rw [hy] at hy2; cases hy2; exact ⟨h27, fun e => h44 (by rw [e])⟩)
            refine T_region ?_
            have S23 := S17.nilrow 23 32
            refine L_y (y_assign rfl) rfl ?_
            refine L_nil ?_
            refine hK26 _ _ ?_
            refine T_seq fun K27 hK27 => ?_
            refine T_region ?_
            refine L_y (y_move rfl) rfl ?_
            refine L_y (y_move rfl) rfl ?_
            refine L_y (y_move rfl) rfl ?_
            refine L_y (y_sliceH Try.underlying44 sz23 rfl rfl inferInstance (by omega)) rfl ?_
            refine L_o (o_app te44 S23 1 rfl rfl rfl ((S23.row 0 rfl).cut (l := 0) (u := j) (Nat.zero_le _) (by omega)) (fun u hu => ids_one _ _ (List.mem_of_mem_drop (List.mem_of_mem_take hu))) rfl (by omega) (by omega) fun A24 c24 w24 S24 => ?_)
            refine L_y (y_assign rfl) rfl ?_
            refine L_nil ?_
            refine hK27 _ _ ?_
            refine T_seq fun K28 hK28 => ?_
            refine T_region ?_
            refine L_y (y_move rfl) rfl ?_
            refine L_y (y_move rfl) rfl ?_
            refine L_y (y_move rfl) rfl ?_
            refine L_y (y_idx Try.underlying44 sz23 rfl rfl (S24.rd hl) (Nt.mk (by omega) : Nt _ (k)) (by omega)) rfl ?_
            refine L_y (y_ldp (f := idf) idf_len Try.underlying23 rfl sz23 rfl (S24.rd hl) (by omega) hx) rfl ?_
            refine L_o (o_bsl (bL x.l) te44 zz23 S24 rfl rfl rfl (by simp [Value.cells, idf, x.h]) (by simp [Value.cells, idf]) rfl rfl rfl fun b25 w25 S25 => ?_)
            refine L_o (o_app te44 S25 1 rfl rfl rfl (by first | exact S25.row 0 rfl | exact S25.row 1 rfl | exact S25.row 2 rfl) (bL_one _) rfl (by omega) (by omega) fun A26 c26 w26 S26 => ?_)
            have S26d := S26.drop (rs' := [_, _]) (.cons_cons _ (.cons_cons _ (.cons _ (.refl _))))
            refine L_y (y_assign rfl) rfl ?_
            refine L_nil ?_
            refine hK28 _ _ ?_
            refine T_region ?_
            refine L_y (y_move rfl) rfl ?_
            refine L_y (y_move rfl) rfl ?_
            refine L_y (y_move rfl) rfl ?_
            refine L_y (y_sliceL Try.underlying44 sz23 rfl rfl inferInstance (by omega)) rfl ?_
            refine L_o (o_app te44 S26d 1 rfl rfl rfl ((S26d.row 0 rfl).cut (l := j) (u := xs.length) (by omega) (Nat.le_refl _)) (fun u hu => ids_one _ _ (List.mem_of_mem_drop (List.mem_of_mem_take hu))) rfl (by omega) (by omega) fun A27 c27 w27 S27 => ?_)
            refine L_y (y_assign rfl) rfl ?_
            refine L_nil ?_
            refine hK7 _ _ ?_
            refine T_region ?_
            refine L_y (y_move rfl) rfl ?_
            refine L_y (y_add rfl rfl (i64w (by omega))) rfl ?_
            refine L_y (y_assign rfl) rfl ?_
            refine L_nil ?_
            have hris2 := ins_ris hris hlow hno
            have hlen : (xs.take j ++ [x] ++ xs.drop j).length = xs.length + 1 := by simp; omega
            have S91 := S27.rowc 1 rfl (n' := (xs.take j ++ [x] ++ xs.drop j).length) (xs' := (xs.take j ++ [x] ++ xs.drop j).flatMap idf) (by rw [hlen]; omega) (ins_flatI xs j _ x (by omega) rfl)
            have S92 := S91.drop (.cons _ (.cons_cons _ (.refl _)))
            refine ⟨k + 1, _, _, xs.take j ++ [x] ++ xs.drop j, by omega, ⟨⟨by omega, by omega, hris2⟩, S92⟩, ?_⟩
            exact (Sub.cons rfl (by first | rfl | (rw [hlen]; rfl) | (rw [hlen]; congr 1; omega)) (Sub.cons rfl (by first | rfl | exact congrArg (Value.int _) (by omega)) (Sub.cons rfl rfl (Sub.nil _))))
    ·
      refine T_exit ?_
      refine hK3 _ _ ?_
      refine T_seq fun K29 hK29 => ?_
      refine T_region ?_
      refine L_y (y_move rfl) rfl ?_
      refine L_y (y_assign rfl) rfl ?_
      refine L_nil ?_
      refine hK29 _ _ ?_
      refine T_ret ?_
      repeat (first | with_reducible refine up_then ?_ | with_reducible refine up_in ?_)
      refine ret1 rfl rfl ?_
      exact ⟨_, rfl, S1.like0, _, _, _, xs, rfl, S1.own 0 rfl, hris, by omega⟩
end Go.Proofs.Ytblbcmkhgjlpcaa
