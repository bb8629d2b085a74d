/-
  Clone, Sorted.
-/
import Derived.Test.YtmgimcdkeelnpaaE
namespace Go.Proofs.Ytmgimcdkeelnpaa
open Go.RowKit Zk Zx
set_option linter.unusedVariables false
set_option linter.unusedSimpArgs false

theorem rs_nil {w : World} {A : Option Addr} {n c : Nat} {l : List EV} (hl : Rs w 34 A n c (l.flatMap enf)) (h : A = none) : l = [] := by
  subst h
  have h2 := ens_n hl
  rcases Nat.eq_zero_or_pos n with q | q
  · exact List.eq_nil_of_length_eq_zero (by omega)
  · obtain ⟨_, h2, _⟩ := hl.rd.2 q
    cases h2
theorem flat_drop (xs : List EV) (k : Nat) : (xs.flatMap enf).drop (k * 34) = (xs.drop k).flatMap enf := by
  have h := flat_take enf enf_len xs k
  have h2 : xs.flatMap enf = (xs.take k).flatMap enf ++ (xs.drop k).flatMap enf := by rw [← List.flatMap_append, List.take_append_drop]
  rcases Nat.lt_or_ge xs.length k with q | q
  · rw [List.drop_of_length_le (by rw [ens_len]; exact Nat.mul_le_mul_right _ (by omega)), List.drop_of_length_le (by omega)]
    rfl
  · rw [h2, List.drop_append, List.drop_of_length_le (by rw [ens_len, List.length_take]; exact Nat.mul_le_mul_right _ (by omega)), ens_len, List.length_take, Nat.min_eq_left q, Nat.sub_self]
    rfl
theorem ins_flatE (xs : List EV) (j : Nat) (x : EV) : ((xs.flatMap enf).drop (0 * 34)).take ((j - 0) * 34) ++ enf x ++ ((xs.flatMap enf).drop (j * 34)).take ((xs.length - j) * 34) = (xs.take j ++ x :: xs.drop j).flatMap enf := by
  rw [Nat.zero_mul, List.drop_zero, Nat.sub_zero, flat_take enf enf_len, flat_drop, flat_take enf enf_len, show (xs.drop j).take (xs.length - j) = xs.drop j from List.take_of_length_le (by rw [List.length_drop]; exact Nat.le_refl _), List.flatMap_append, List.flatMap_cons, List.append_assoc]


set_option maxRecDepth 100000 in
theorem clone (A : Option Addr) (c : Nat) (l : List EV) (w0 : World) (hl : Rs w0 34 A l.length c (l.flatMap enf)) (hn5 : l.length ≤ 10000) :
    Calls Try.prog 23 #[.slice A l.length c] w0 fun e w' => ∃ u, e = .returned u ∧ Like w0 w' ∧ ∃ A' c', u = .slice A' l.length c' ∧ w'.ownsRow w0.heap.size 39 34 (.slice A' l.length c') l.length (l.flatMap enf) := by
  refine enter1 (env := [(0, .slice A l.length c)]) [.slice A l.length c] Try.func23 rfl Try.ntmps23 rfl rfl ?_
  have hcap := hl.cap; have hmax := hl.max; have S0 := St.start w0 noM
  refine T_seq fun K1 hK1 => ?_
  refine T_region ?_
  refine L_y (y_assign rfl) rfl ?_
  refine L_nil ?_
  refine hK1 _ _ ?_
  refine T_seq fun K2 hK2 => ?_
  refine T_seq fun K3 hK3 => ?_
  refine T_region ?_
  refine L_y (y_move rfl) rfl ?_
  refine L_y (y_seqn Try.underlying22 rfl) rfl ?_
  refine L_nil ?_
  refine hK3 _ _ ?_
  refine T_condB rfl (fun h4 => ?_) (fun h4 => ?_)
  ·
    refine T_seq fun K4 hK4 => ?_
    refine T_region ?_
    refine L_y (y_assign rfl) rfl ?_
    refine L_nil ?_
    refine hK4 _ _ ?_
    refine T_ret ?_
    repeat (first | with_reducible refine up_then ?_ | with_reducible refine up_in ?_)
    refine ret1 rfl rfl ?_
    first | exact ⟨_, rfl, S0.like0, _, _, by rw [Nat.zero_add], by have h9 := S0.own 0 rfl; rw [Nat.zero_add] at h9; exact h9⟩ | (have hz := rs_nil hl (by simpa using h4); subst hz; exact ⟨_, rfl, S0.like0, none, 0, rfl, World.ownsRow_nil _ _ _ _⟩)
  ·
    refine T_skip ?_
    refine hK2 _ _ ?_
    refine T_seq fun K5 hK5 => ?_
    refine T_region ?_
    refine L_o (o_bsl0 te22 S0 rfl fun b1 w1 l1 S1 => ?_)
    refine L_y (y_move rfl) rfl ?_
    refine L_o (o_app te22 S1 0 rfl rfl rfl (S1.rd hl) (ens_one _) rfl (by omega) (by omega) fun A2 c2 w2 S2 => ?_)
    refine L_y (y_assign rfl) rfl ?_
    refine L_nil ?_
    refine hK5 _ _ ?_
    refine T_ret ?_
    repeat (first | with_reducible refine up_then ?_ | with_reducible refine up_in ?_)
    refine ret1 rfl rfl ?_
    first | exact ⟨_, rfl, S2.like0, _, _, by rw [Nat.zero_add], by have h9 := S2.own 0 rfl; rw [Nat.zero_add] at h9; exact h9⟩ | (have hz := rs_nil hl (by simpa using h4); subst hz; exact ⟨_, rfl, S2.like0, none, 0, rfl, World.ownsRow_nil _ _ _ _⟩)


set_option maxRecDepth 100000 in
theorem psorted (A : Option Addr) (c : Nat) (l : List EV) (w0 : World) (hl : Rs w0 34 A l.length c (l.flatMap enf)) (hn5 : l.length ≤ 10000) :
    Calls Try.prog 9 #[.slice A l.length c] w0 fun e w' => ∃ u, e = .returned u ∧ Like w0 w' ∧ ∃ A' c', u = .slice A' (srt ltK l).length c' ∧ w'.ownsRow w0.heap.size 39 34 (.slice A' (srt ltK l).length c') (srt ltK l).length ((srt ltK l).flatMap enf) := by
  refine enter1 (env := [(0, .slice A l.length c)]) [.slice A l.length c] Try.func9 rfl Try.ntmps9 rfl rfl ?_
  have hcap := hl.cap; have hmax := hl.max; have S0 := St.start w0 noM
  refine T_seq fun K1 hK1 => ?_
  refine T_region ?_
  refine L_y (y_assign rfl) rfl ?_
  refine L_nil ?_
  refine hK1 _ _ ?_
  refine T_seq fun K2 hK2 => ?_
  refine T_region ?_
  refine L_y (y_move rfl) rfl ?_
  refine L_o (o_call Try.func23 rfl rfl (clone A c l w0 (S0.rd hl) hn5) rfl rfl ?_)
  rintro e1 w1 ⟨v1, rfl, l1, A5, c5, rfl, O1⟩
  refine ⟨_, rfl, ?_⟩
  have S1 := S0.adopt l1 O1
  refine L_y (y_assign rfl) rfl ?_
  refine L_nil ?_
  refine hK2 _ _ ?_
  refine T_seq fun K3 hK3 => ?_
  refine T_region ?_
  refine L_y (y_move rfl) rfl ?_
  refine L_o (o_call Try.func24 rfl rfl (sortst A5 l.length c5 l 25 ltK w1 (S1.get 0 rfl) cmpK rfl hn5) rfl rfl ?_)
  rintro e2 w2 ⟨v2, rfl, T2⟩
  refine ⟨_, rfl, ?_⟩
  have S2 := S1.turn 0 rfl T2
  refine L_nil ?_
  refine hK3 _ _ ?_
  refine T_seq fun K4 hK4 => ?_
  refine T_region ?_
  refine L_y (y_move rfl) rfl ?_
  refine L_y (y_assign rfl) rfl ?_
  refine L_nil ?_
  refine hK4 _ _ ?_
  refine T_ret ?_
  repeat (first | with_reducible refine up_then ?_ | with_reducible refine up_in ?_)
  refine ret1 rfl rfl ?_
  exact ⟨_, rfl, S2.like0, A5, c5, by rw [srt_len], S2.own 0 rfl⟩


set_option maxRecDepth 100000 in
theorem rsorted (A : Option Addr) (n c : Nat) (l : List EV) (w0 : World) (hl : Rs w0 34 A n c (l.flatMap enf)) (hn5 : n ≤ 10000) :
    Calls Try.prog 13 #[.slice A n c] w0 fun e w' => ∃ u, e = .returned u ∧ Like w0 w' ∧ ∃ A' c', u = .slice A' (srt ltK l).length c' ∧ w'.ownsRow w0.heap.size 39 34 (.slice A' (srt ltK l).length c') (srt ltK l).length ((srt ltK l).flatMap enf) := by
  refine enter1 (env := [(0, .slice A n c)]) [.slice A n c] Try.func13 rfl Try.ntmps13 rfl rfl ?_
  have hn := ens_n hl; have hcap := hl.cap; have hmax := hl.max; have S0 := St.start w0 noM
  refine T_seq fun K1 hK1 => ?_
  refine T_region ?_
  refine L_y (y_assign rfl) rfl ?_
  refine L_nil ?_
  refine hK1 _ _ ?_
  refine T_seq fun K2 hK2 => ?_
  refine T_region ?_
  refine L_y (y_assign rfl) rfl ?_
  refine L_nil ?_
  refine hK2 _ _ ?_
  refine T_seq fun K3 hK3 => ?_
  refine T_seq fun K4 hK4 => ?_
  refine T_region ?_
  refine L_y (y_assign rfl) rfl ?_
  refine L_nil ?_
  refine hK4 _ _ ?_
  refine T_block ?_
  refine T_loop4 [(0, _)] (fun (k : Nat) (A1 : Option Addr) (c1 : Nat) (xs : List EV) => [(3, .slice A1 xs.length c1), (4, .int .i64 (k : Int))]) (fun (k : Nat) (A1 : Option Addr) (c1 : Nat) (xs : List EV) => n - k) (fun (k : Nat) (A1 : Option Addr) (c1 : Nat) (xs : List EV) (w : World) => (k ≤ n ∧ xs = (srt ltK (l.take k))) ∧ St w0 noM [row 39 34 A1 xs.length c1 (xs.flatMap enf)] w) 0 none 0 [] (Sub.cons rfl (by first | rfl | exact congrArg (Value.int _) (by omega)) (Sub.cons rfl (by first | rfl | exact congrArg (Value.int _) (by omega)) (Sub.nil _))) (Sub.cons rfl rfl (Sub.nil _)) ?_ ?_
  ·
    have S9 := S0.nilrow 39 34
    exact ⟨⟨Nat.zero_le _, rfl⟩, S9⟩
  ·
    intro k A1 c1 xs w1 hrel
    obtain ⟨⟨hk, hxs⟩, S1⟩ := hrel
    have hcp := (S1.row 0 rfl).cap
    have hxl : xs.length = k := by rw [hxs, srt_len, List.length_take]; omega
    have hso : Srt ltK xs := by rw [hxs]; exact srt_sorted ordK _
    refine T_seq fun K5 hK5 => ?_
    refine T_seq fun K6 hK6 => ?_
    refine T_region ?_
    refine L_y (y_move rfl) rfl ?_
    refine L_y (y_move rfl) rfl ?_
    refine L_y (y_len Try.underlying22 rfl) rfl ?_
    refine L_y (y_lss rfl rfl) rfl ?_
    refine L_nil ?_
    refine hK6 _ _ ?_
    refine T_cond rfl (fun h10 => ?_) (fun h10 => ?_)
    ·
      obtain ⟨x, hx⟩ : ∃ x, l[k]? = some x := ⟨_, List.getElem?_eq_getElem (by omega)⟩
      refine T_skip ?_
      refine hK5 _ _ ?_
      refine T_seq fun K7 hK7 => ?_
      refine T_block ?_
      refine T_seq fun K8 hK8 => ?_
      refine T_region ?_
      refine L_y (y_move rfl) rfl ?_
      refine L_y (y_len Try.underlying22 rfl) rfl ?_
      refine L_y (y_assign rfl) rfl ?_
      refine L_nil ?_
      refine hK8 _ _ ?_
      refine T_seq fun K9 hK9 => ?_
      refine T_block ?_
      refine T_loop1 [(0, _), (3, _), (4, _)] (fun (j : Nat) => [(5, .int .i64 (j : Int))]) (fun (j : Nat) => j) (fun (j : Nat) (w : World) => (j ≤ xs.length ∧ ∀ y ∈ xs.drop j, ltK x y = true) ∧ St w0 noM [row 39 34 A1 xs.length c1 (xs.flatMap enf)] w) xs.length (Sub.cons rfl (by first | rfl | exact congrArg (Value.int _) (by omega)) (Sub.nil _)) (Sub.cons rfl rfl (Sub.cons rfl rfl (Sub.cons rfl rfl (Sub.nil _)))) ?_ ?_
      ·
        exact ⟨⟨Nat.le_refl _, fun y hy => by rw [List.drop_of_length_le (Nat.le_refl _)] at hy; cases hy⟩, S1⟩
      ·
        intro j w2 hrel
        obtain ⟨⟨hj, hhi⟩, S2⟩ := hrel
        refine T_seq fun K10 hK10 => ?_
        refine T_seq fun K11 hK11 => ?_
        refine T_drawnL [(0, true), (1, true), (2, true), (3, true), (4, true), (5, true), (6, true), (8, true), (9, true), (10, true), (11, true), (12, true), (7, false), (13, false), (14, true), (15, true)] hmix (by kernel_rfl) fun w3 l3 => ?_
        have S3 := S2.like l3
        refine DL_y rfl (y_move rfl) rfl ?_
        refine DL_y rfl (y_gtr rfl rfl) rfl ?_
        refine DL_y rfl (y_move rfl) rfl ?_
        refine DL_split 17 rfl (fun h17 => ?_) (fun h17 => ?_)
        ·
          obtain ⟨i, hji⟩ : ∃ i, j = i + 1 := ⟨j - 1, by omega⟩
          obtain ⟨y, hy⟩ : ∃ y, xs[i]? = some y := ⟨_, List.getElem?_eq_getElem (by omega)⟩
          refine DL_gyes rfl rfl rfl (y_move rfl) rfl ?_
          refine DL_gyes rfl rfl rfl (y_move rfl) rfl ?_
          refine DL_gyes rfl rfl rfl (y_idx Try.underlying22 sz39 rfl rfl (S3.rd hl) (Nt.mk (by omega) : Nt _ (k)) (by omega)) rfl ?_
          refine DL_gyes rfl rfl rfl (y_ldp (f := enf) enf_len Try.underlying39 rfl sz39 rfl (S3.rd hl) (by omega) hx) rfl ?_
          refine DL_gyes rfl rfl rfl (y_move rfl) rfl ?_
          refine DL_gyes rfl rfl rfl (y_move rfl) rfl ?_
          refine DL_gyes rfl rfl rfl (y_sub rfl rfl (i64w (by omega))) rfl ?_
          refine DL_gyes rfl rfl rfl (y_idx Try.underlying22 sz39 rfl rfl (S3.row 0 rfl) (Nt.mk (by omega) : Nt _ (i)) (by omega)) rfl ?_
          refine DL_gyes rfl rfl rfl (y_ldp (f := enf) enf_len Try.underlying39 rfl sz39 rfl (S3.row 0 rfl) (by omega) hy) rfl ?_
          refine DL_ogyes rfl rfl rfl (o_call Try.func29 rfl rfl (rkey x w3) rfl rfl ?_)
          rintro e4 w4 ⟨v4, rfl, l4, rfl⟩
          refine ⟨_, rfl, l4, ?_⟩
          have S4 := S3.like l4
          have q4 := l4
          refine DL_ogyes rfl rfl rfl (o_call Try.func29 rfl rfl (rkey y w4) rfl rfl ?_)
          rintro e5 w5 ⟨v5, rfl, l5, rfl⟩
          refine ⟨_, rfl, (Like.trans q4 l5), ?_⟩
          have S5 := S4.like l5
          have q5 := (Like.trans q4 l5)
          refine DL_gyes rfl rfl rfl (y_slss rfl rfl) rfl ?_
          refine DL_y rfl ((by first | exact y_pickT rfl rfl | exact y_pickF rfl rfl)) rfl ?_
          refine DL_nil ?_
          refine hK11 _ _ ?_
          refine T_condB rfl (fun h30 => ?_) (fun h30 => ?_)
          ·
            have hxy : ltK x y = true := h30
            refine T_skip ?_
            refine hK10 _ _ ?_
            refine T_block ?_
            refine T_region ?_
            refine L_y (y_move rfl) rfl ?_
            refine L_y (y_sub rfl rfl (i64w (by omega))) rfl ?_
            refine L_y (y_assign rfl) rfl ?_
            refine L_nil ?_
            refine ⟨i, by omega, ⟨⟨by omega, fun z hz => by rw [drop_hd2 hy] at hz; rcases List.mem_cons.1 hz with rfl | hz; exact hxy; exact hhi z (by rw [hji]; exact hz)⟩, S5⟩, ?_⟩
            exact (Sub.cons rfl (congrArg (Value.int _) (by omega)) (Sub.cons rfl rfl (Sub.cons rfl rfl (Sub.cons rfl rfl (Sub.nil _)))))
          ·
            have hxy : ltK x y = false := by unfold ltK; simpa using h30
            have hlo : ∀ z ∈ xs.take j, ltK x z = false := by rw [hji, take_sn2 hy]; exact srt_last ordK (by have h8 : Srt ltK (xs.take (i + 1)) := hso.sublist (List.take_sublist _ _); rwa [take_sn2 hy] at h8) hxy
            refine T_exit ?_
            refine hK9 _ _ ?_
            refine T_seq fun K12 hK12 => ?_
            refine T_region ?_
            have S6 := S5.nilrow 39 34
            refine L_y (y_assign rfl) rfl ?_
            refine L_nil ?_
            refine hK12 _ _ ?_
            refine T_seq fun K13 hK13 => ?_
            refine T_region ?_
            refine L_y (y_move rfl) rfl ?_
            refine L_y (y_move rfl) rfl ?_
            refine L_y (y_move rfl) rfl ?_
            refine L_y (y_sliceH Try.underlying22 sz39 rfl rfl inferInstance (by omega)) rfl ?_
            refine L_o (o_app te22 S6 1 rfl rfl rfl ((S6.row 0 rfl).cut (l := 0) (u := j) (Nat.zero_le _) (by omega)) (fun u hu => ens_one _ _ (List.mem_of_mem_drop (List.mem_of_mem_take hu))) rfl (by omega) (by omega) fun A7 c7 w7 S7 => ?_)
            refine L_y (y_assign rfl) rfl ?_
            refine L_nil ?_
            refine hK13 _ _ ?_
            refine T_seq fun K14 hK14 => ?_
            refine T_region ?_
            refine L_y (y_move rfl) rfl ?_
            refine L_y (y_move rfl) rfl ?_
            refine L_y (y_move rfl) rfl ?_
            refine L_y (y_idx Try.underlying22 sz39 rfl rfl (S7.rd hl) (Nt.mk (by omega) : Nt _ (k)) (by omega)) rfl ?_
            refine L_y (y_ldp (f := enf) enf_len Try.underlying39 rfl sz39 rfl (S7.rd hl) (by omega) hx) rfl ?_
            refine L_o (o_bsl (enf x) te22 zz39 S7 rfl rfl rfl (by simp [Value.cells, enf_len]) (by simp [Value.cells]) rfl rfl rfl fun b8 w8 S8 => ?_)
            refine L_o (o_app te22 S8 1 rfl rfl rfl (by first | exact S8.row 0 rfl | exact S8.row 1 rfl | exact S8.row 2 rfl) (enf_one _) rfl (by omega) (by omega) fun A9 c9 w9 S9 => ?_)
            have S9d := S9.drop (rs' := [_, _]) (.cons_cons _ (.cons_cons _ (.cons _ (.refl _))))
            refine L_y (y_assign rfl) rfl ?_
            refine L_nil ?_
            refine hK14 _ _ ?_
            refine T_region ?_
            refine L_y (y_move rfl) rfl ?_
            refine L_y (y_move rfl) rfl ?_
            refine L_y (y_move rfl) rfl ?_
            refine L_y (y_sliceL Try.underlying22 sz39 rfl rfl inferInstance (by omega)) rfl ?_
            refine L_o (o_app te22 S9d 1 rfl rfl rfl ((S9d.row 0 rfl).cut (l := j) (u := xs.length) (by omega) (Nat.le_refl _)) (fun u hu => ens_one _ _ (List.mem_of_mem_drop (List.mem_of_mem_take hu))) rfl (by omega) (by omega) fun A10 c10 w10 S10 => ?_)
            refine L_y (y_assign rfl) rfl ?_
            refine L_nil ?_
            refine hK7 _ _ ?_
            refine T_region ?_
            refine L_y (y_move rfl) rfl ?_
            refine L_y (y_add rfl rfl (i64w (by omega))) rfl ?_
            refine L_y (y_assign rfl) rfl ?_
            refine L_nil ?_
            have hins : insS ltK xs x = xs.take j ++ x :: xs.drop j := by have h8 := ins_at (xs.take j) (xs.drop j) hlo (fun y hy => hhi y (List.mem_of_getElem? hy)); rwa [List.take_append_drop] at h8
            have hlen : (xs.take j ++ x :: xs.drop j).length = xs.length + 1 := by simp; omega
            have S91 := S10.rowc 1 rfl (n' := (xs.take j ++ x :: xs.drop j).length) (xs' := (xs.take j ++ x :: xs.drop j).flatMap enf) (by rw [hlen]; omega) (ins_flatE xs j x)
            have S92 := S91.drop (.cons _ (.cons_cons _ (.refl _)))
            refine ⟨k + 1, _, _, xs.take j ++ x :: xs.drop j, by omega, ⟨⟨by omega, by rw [take_sn2 hx, srt_snoc, ← hxs, hins]⟩, S92⟩, ?_⟩
            exact (Sub.cons rfl (by first | rfl | (rw [hlen]; rfl) | (rw [hlen]; congr 1; omega)) (Sub.cons rfl (by first | rfl | exact congrArg (Value.int _) (by omega)) (Sub.cons rfl rfl (Sub.nil _))))
        ·
          have hj0 : j = 0 := by omega
          have hlo : ∀ z ∈ xs.take j, ltK x z = false := by rw [hj0]; intro z hz; cases hz
          refine DL_gno rfl rfl rfl rfl ?_
          refine DL_gno rfl rfl rfl rfl ?_
          refine DL_gno rfl rfl rfl rfl ?_
          refine DL_gno rfl rfl rfl rfl ?_
          refine DL_gno rfl rfl rfl rfl ?_
          refine DL_gno rfl rfl rfl rfl ?_
          refine DL_gno rfl rfl rfl rfl ?_
          refine DL_gno rfl rfl rfl rfl ?_
          refine DL_gno rfl rfl rfl rfl ?_
          refine DL_ogno rfl rfl rfl rfl ?_
          refine DL_ogno rfl rfl rfl rfl ?_
          refine DL_gno rfl rfl rfl rfl ?_
          refine DL_y rfl ((by first | exact y_pickT rfl rfl | exact y_pickF rfl rfl)) rfl ?_
          refine DL_nil ?_
          refine hK11 _ _ ?_
          refine T_false rfl ?_
          refine T_exit ?_
          refine hK9 _ _ ?_
          refine T_seq fun K15 hK15 => ?_
          refine T_region ?_
          have S11 := S3.nilrow 39 34
          refine L_y (y_assign rfl) rfl ?_
          refine L_nil ?_
          refine hK15 _ _ ?_
          refine T_seq fun K16 hK16 => ?_
          refine T_region ?_
          refine L_y (y_move rfl) rfl ?_
          refine L_y (y_move rfl) rfl ?_
          refine L_y (y_move rfl) rfl ?_
          refine L_y (y_sliceH Try.underlying22 sz39 rfl rfl inferInstance (by omega)) rfl ?_
          refine L_o (o_app te22 S11 1 rfl rfl rfl ((S11.row 0 rfl).cut (l := 0) (u := j) (Nat.zero_le _) (by omega)) (fun u hu => ens_one _ _ (List.mem_of_mem_drop (List.mem_of_mem_take hu))) rfl (by omega) (by omega) fun A12 c12 w12 S12 => ?_)
          refine L_y (y_assign rfl) rfl ?_
          refine L_nil ?_
          refine hK16 _ _ ?_
          refine T_seq fun K17 hK17 => ?_
          refine T_region ?_
          refine L_y (y_move rfl) rfl ?_
          refine L_y (y_move rfl) rfl ?_
          refine L_y (y_move rfl) rfl ?_
          refine L_y (y_idx Try.underlying22 sz39 rfl rfl (S12.rd hl) (Nt.mk (by omega) : Nt _ (k)) (by omega)) rfl ?_
          refine L_y (y_ldp (f := enf) enf_len Try.underlying39 rfl sz39 rfl (S12.rd hl) (by omega) hx) rfl ?_
          refine L_o (o_bsl (enf x) te22 zz39 S12 rfl rfl rfl (by simp [Value.cells, enf_len]) (by simp [Value.cells]) rfl rfl rfl fun b13 w13 S13 => ?_)
          refine L_o (o_app te22 S13 1 rfl rfl rfl (by first | exact S13.row 0 rfl | exact S13.row 1 rfl | exact S13.row 2 rfl) (enf_one _) rfl (by omega) (by omega) fun A14 c14 w14 S14 => ?_)
          have S14d := S14.drop (rs' := [_, _]) (.cons_cons _ (.cons_cons _ (.cons _ (.refl _))))
          refine L_y (y_assign rfl) rfl ?_
          refine L_nil ?_
          refine hK17 _ _ ?_
          refine T_region ?_
          refine L_y (y_move rfl) rfl ?_
          refine L_y (y_move rfl) rfl ?_
          refine L_y (y_move rfl) rfl ?_
          refine L_y (y_sliceL Try.underlying22 sz39 rfl rfl inferInstance (by omega)) rfl ?_
          refine L_o (o_app te22 S14d 1 rfl rfl rfl ((S14d.row 0 rfl).cut (l := j) (u := xs.length) (by omega) (Nat.le_refl _)) (fun u hu => ens_one _ _ (List.mem_of_mem_drop (List.mem_of_mem_take hu))) rfl (by omega) (by omega) fun A15 c15 w15 S15 => ?_)
          refine L_y (y_assign rfl) rfl ?_
          refine L_nil ?_
          refine hK7 _ _ ?_
          refine T_region ?_
          refine L_y (y_move rfl) rfl ?_
          refine L_y (y_add rfl rfl (i64w (by omega))) rfl ?_
          refine L_y (y_assign rfl) rfl ?_
          refine L_nil ?_
          have hins : insS ltK xs x = xs.take j ++ x :: xs.drop j := by have h8 := ins_at (xs.take j) (xs.drop j) hlo (fun y hy => hhi y (List.mem_of_getElem? hy)); rwa [List.take_append_drop] at h8
          have hlen : (xs.take j ++ x :: xs.drop j).length = xs.length + 1 := by simp; omega
          have S91 := S15.rowc 1 rfl (n' := (xs.take j ++ x :: xs.drop j).length) (xs' := (xs.take j ++ x :: xs.drop j).flatMap enf) (by rw [hlen]; omega) (ins_flatE xs j x)
          have S92 := S91.drop (.cons _ (.cons_cons _ (.refl _)))
          refine ⟨k + 1, _, _, xs.take j ++ x :: xs.drop j, by omega, ⟨⟨by omega, by rw [take_sn2 hx, srt_snoc, ← hxs, hins]⟩, S92⟩, ?_⟩
          exact (Sub.cons rfl (by first | rfl | (rw [hlen]; rfl) | (rw [hlen]; congr 1; omega)) (Sub.cons rfl (by first | rfl | exact congrArg (Value.int _) (by omega)) (Sub.cons rfl rfl (Sub.nil _))))
    ·
      refine T_exit ?_
      refine hK3 _ _ ?_
      refine T_seq fun K18 hK18 => ?_
      refine T_region ?_
      refine L_y (y_move rfl) rfl ?_
      refine L_y (y_assign rfl) rfl ?_
      refine L_nil ?_
      refine hK18 _ _ ?_
      refine T_ret ?_
      repeat (first | with_reducible refine up_then ?_ | with_reducible refine up_in ?_)
      refine ret1 rfl rfl ?_
      have hkn : k = n := by omega
      subst hkn
      rw [List.take_of_length_le (by omega)] at hxs
      subst hxs
      exact ⟨_, rfl, S1.like0, _, _, rfl, S1.own 0 rfl⟩
end Go.Proofs.Ytmgimcdkeelnpaa
