import Derived.Test.YtmgimcdkeelnpaaMgPuts2
import Derived.Maps.Views
import Derived.StringKeys
import Derived.Test.YtmgimcdkeelnpaaRows
import Derived.Deep.CondSized
import Derived.JoinedCond
import Derived.Test.YtmgimcdkeelnpaaMgPuts1
import Derived.Lib.AppendStr
/-
  Clone, Sorted.
-/
namespace Go.Proofs.Ytmgimcdkeelnpaa
open Go.RowKit Zk Zx
set_option linter.unusedVariables false
set_option linter.unusedSimpArgs false

theorem rs_nil {w : World} {A : Option Addr} {n c : Nat} {l : List EV} (hl : Rs w 34 A n c (l.flatMap enf)) (h : A = none) : l = [] := by
  subst h
  have h2 := ens_n hl
  rcases Nat.eq_zero_or_pos n with q | q
  · exact List.eq_nil_of_length_eq_zero (by omega)
  · obtain ⟨_, h2, _⟩ := hl.rd.2 q
    cases h2
theorem flat_drop (xs : List EV) (k : Nat) : (xs.flatMap enf).drop (k * 34) = (xs.drop k).flatMap enf := by
  have h := flat_take enf enf_len xs k
  have h2 : xs.flatMap enf = (xs.take k).flatMap enf ++ (xs.drop k).flatMap enf := by rw [← List.flatMap_append, List.take_append_drop]
  rcases Nat.lt_or_ge xs.length k with q | q
  · rw [List.drop_of_length_le (by rw [ens_len]; exact Nat.mul_le_mul_right _ (by omega)), List.drop_of_length_le (by omega)]
    rfl
  · rw [h2, List.drop_append, List.drop_of_length_le (by rw [ens_len, List.length_take]; exact Nat.mul_le_mul_right _ (by omega)), ens_len, List.length_take, Nat.min_eq_left q, Nat.sub_self]
    rfl
theorem ins_flatE (xs : List EV) (j : Nat) (x : EV) : ((xs.flatMap enf).drop (0 * 34)).take ((j - 0) * 34) ++ enf x ++ ((xs.flatMap enf).drop (j * 34)).take ((xs.length - j) * 34) = (xs.take j ++ x :: xs.drop j).flatMap enf := by
  rw [Nat.zero_mul, List.drop_zero, Nat.sub_zero, flat_take enf enf_len, flat_drop, flat_take enf enf_len, show (xs.drop j).take (xs.length - j) = xs.drop j from List.take_of_length_le (by rw [List.length_drop]; exact Nat.le_refl _), List.flatMap_append, List.flatMap_cons, List.append_assoc]


set_option maxRecDepth 100000 in
theorem clone (A : Option Addr) (c : Nat) (l : List EV) (w0 : World) (hl : Rs w0 34 A l.length c (l.flatMap enf)) (hn5 : l.length ≤ 10000) :
    Calls Try.prog 23 #[.slice A l.length c] w0 fun e w' => ∃ u, e = .returned u ∧ Like w0 w' ∧ ∃ A' c', u = .slice A' l.length c' ∧ w'.ownsRow w0.heap.size 39 34 (.slice A' l.length c') l.length (l.flatMap enf) := by
  refine enter1 (env := [(0, .slice A l.length c)]) [.slice A l.length c] Try.func23 rfl Try.ntmps23 rfl rfl ?_
  have hcap := hl.cap; have hmax := hl.max; have S0 := St.start w0 noM
  refine T_seq fun K1 hK1 => ?_
  refine T_region ?_
  refine L_y (y_assign rfl) rfl ?_
  refine L_nil ?_
  refine hK1 _ _ ?_
  refine T_seq fun K2 hK2 => ?_
  refine T_seq fun K3 hK3 => ?_
  refine T_region ?_
  refine L_y (y_move rfl) rfl ?_
  refine L_y (y_seqn Try.underlying22 rfl) rfl ?_
  refine L_nil ?_
  refine hK3 _ _ ?_
  refine T_condB rfl (fun h4 => ?_) (fun h4 => ?_)
  ·
    refine T_seq fun K4 hK4 => ?_
    refine T_region ?_
    refine L_y (y_assign rfl) rfl ?_
    refine L_nil ?_
    refine hK4 _ _ ?_
    refine T_ret ?_
    repeat (first | with_reducible refine up_then ?_ | with_reducible refine up_in ?_)
    refine ret1 rfl rfl ?_
    first | exact ⟨_, rfl, S0.like0, _, _, by rw [Nat.zero_add], by have h9 := S0.own 0 rfl; rw [Nat.zero_add] at h9; exact h9⟩ | (have hz := rs_nil hl (by simpa using h4); subst hz; exact ⟨_, rfl, S0.like0, none, 0, rfl, World.ownsRow_nil _ _ _ _⟩)
  ·
    refine T_skip ?_
    refine hK2 _ _ ?_
    refine T_seq fun K5 hK5 => ?_
    refine T_region ?_
    refine L_o (o_bsl0 te22 S0 rfl fun b1 w1 l1 S1 => ?_)
    refine L_y (y_move rfl) rfl ?_
    refine L_o (o_app te22 S1 0 rfl rfl rfl (S1.rd hl) (ens_one _) rfl (by omega) (by omega) fun A2 c2 w2 S2 => ?_)
    refine L_y (y_assign rfl) rfl ?_
    refine L_nil ?_
    refine hK5 _ _ ?_
    refine T_ret ?_
    repeat (first | with_reducible refine up_then ?_ | with_reducible refine up_in ?_)
    refine ret1 rfl rfl ?_
    first | exact ⟨_, rfl, S2.like0, _, _, by rw [Nat.zero_add], by have h9 := S2.own 0 rfl; rw [Nat.zero_add] at h9; exact h9⟩ | (have hz := rs_nil hl (by simpa using h4); subst hz; exact ⟨_, rfl, S2.like0, none, 0, rfl, World.ownsRow_nil _ _ _ _⟩)


set_option maxRecDepth 100000 in
theorem psorted (A : Option Addr) (c : Nat) (l : List EV) (w0 : World) (hl : Rs w0 34 A l.length c (l.flatMap enf)) (hn5 : l.length ≤ 10000) :
    Calls Try.prog 9 #[.slice A l.length c] w0 fun e w' => ∃ u, e = .returned u ∧ Like w0 w' ∧ ∃ A' c', u = .slice A' (srt ltK l).length c' ∧ w'.ownsRow w0.heap.size 39 34 (.slice A' (srt ltK l).length c') (srt ltK l).length ((srt ltK l).flatMap enf) := by
  refine enter1 (env := [(0, .slice A l.length c)]) [.slice A l.length c] Try.func9 rfl Try.ntmps9 rfl rfl ?_
  have hcap := hl.cap; have hmax := hl.max; have S0 := St.start w0 noM
  refine T_seq fun K1 hK1 => ?_
  refine T_region ?_
  refine L_y (y_assign rfl) rfl ?_
  refine L_nil ?_
  refine hK1 _ _ ?_
  refine T_seq fun K2 hK2 => ?_
  refine T_region ?_
  refine L_y (y_move rfl) rfl ?_
  refine L_o (o_call Try.func23 rfl rfl (clone A c l w0 (S0.rd hl) hn5) rfl rfl ?_)
  rintro e1 w1 ⟨v1, rfl, l1, A5, c5, rfl, O1⟩
  refine ⟨_, rfl, ?_⟩
  have S1 := S0.adopt l1 O1
  refine L_y (y_assign rfl) rfl ?_
  refine L_nil ?_
  refine hK2 _ _ ?_
  refine T_seq fun K3 hK3 => ?_
  refine T_region ?_
  refine L_y (y_move rfl) rfl ?_
  refine L_o (o_call Try.func24 rfl rfl (sortst A5 l.length c5 l 25 ltK w1 (S1.get 0 rfl) cmpK rfl hn5) rfl rfl ?_)
  rintro e2 w2 ⟨v2, rfl, T2⟩
  refine ⟨_, rfl, ?_⟩
  have S2 := S1.turn 0 rfl T2
  refine L_nil ?_
  refine hK3 _ _ ?_
  refine T_seq fun K4 hK4 => ?_
  refine T_region ?_
  refine L_y (y_move rfl) rfl ?_
  refine L_y (y_assign rfl) rfl ?_
  refine L_nil ?_
  refine hK4 _ _ ?_
  refine T_ret ?_
  repeat (first | with_reducible refine up_then ?_ | with_reducible refine up_in ?_)
  refine ret1 rfl rfl ?_
  exact ⟨_, rfl, S2.like0, A5, c5, by rw [srt_len], S2.own 0 rfl⟩


set_option maxRecDepth 100000 in
theorem rsorted (A : Option Addr) (n c : Nat) (l : List EV) (w0 : World) (hl : Rs w0 34 A n c (l.flatMap enf)) (hn5 : n ≤ 10000) :
    Calls Try.prog 13 #[.slice A n c] w0 fun e w' => ∃ u, e = .returned u ∧ Like w0 w' ∧ ∃ A' c', u = .slice A' (srt ltK l).length c' ∧ w'.ownsRow w0.heap.size 39 34 (.slice A' (srt ltK l).length c') (srt ltK l).length ((srt ltK l).flatMap enf) := by
  refine enter1 (env := [(0, .slice A n c)]) [.slice A n c] Try.func13 rfl Try.ntmps13 rfl rfl ?_
  have hn := ens_n hl; have hcap := hl.cap; have hmax := hl.max; have S0 := St.start w0 noM
  refine T_seq fun K1 hK1 => ?_
  refine T_region ?_
  refine L_y (y_assign rfl) rfl ?_
  refine L_nil ?_
  refine hK1 _ _ ?_
  refine T_seq fun K2 hK2 => ?_
  refine T_region ?_
  refine L_y (y_assign rfl) rfl ?_
  refine L_nil ?_
  refine hK2 _ _ ?_
  refine T_seq fun K3 hK3 => ?_
  refine T_seq fun K4 hK4 => ?_
  refine T_region ?_
  refine L_y (y_assign rfl) rfl ?_
  refine L_nil ?_
  refine hK4 _ _ ?_
  refine T_block ?_
  refine T_loop4 [(0, _)] (fun (k : Nat) (A1 : Option Addr) (c1 : Nat) (xs : List EV) => [(3, .slice A1 xs.length c1), (4, .int .i64 (k : Int))]) (fun (k : Nat) (A1 : Option Addr) (c1 : Nat) (xs : List EV) => n - k) (fun (k : Nat) (A1 : Option Addr) (c1 : Nat) (xs : List EV) (w : World) => (k ≤ n ∧ xs = (srt ltK (l.take k))) ∧ St w0 noM [row 39 34 A1 xs.length c1 (xs.flatMap enf)] w) 0 none 0 [] (Sub.cons rfl (by first | rfl | exact congrArg (Value.int _) (by omega)) (Sub.cons rfl (by first | rfl | exact congrArg (Value.int _) (by omega)) (Sub.nil _))) (Sub.cons rfl rfl (Sub.nil _)) ?_ ?_
  ·
    have S9 := S0.nilrow 39 34
    exact ⟨⟨Nat.zero_le _, rfl⟩, S9⟩
  ·
    intro k A1 c1 xs w1 hrel
    obtain ⟨⟨hk, hxs⟩, S1⟩ := hrel
    have hcp := (S1.row 0 rfl).cap
    have hxl : xs.length = k := by rw [hxs, srt_len, List.length_take]; omega
    have hso : Srt ltK xs := by rw [hxs]; exact srt_sorted ordK _
    refine T_seq fun K5 hK5 => ?_
    refine T_seq fun K6 hK6 => ?_
    refine T_region ?_
    refine L_y (y_move rfl) rfl ?_
    refine L_y (y_move rfl) rfl ?_
    refine L_y (y_len Try.underlying22 rfl) rfl ?_
    refine L_y (y_lss rfl rfl) rfl ?_
    refine L_nil ?_
    refine hK6 _ _ ?_
    refine T_cond rfl (fun h10 => ?_) (fun h10 => ?_)
    ·
      obtain ⟨x, hx⟩ : ∃ x, l[k]? = some x := ⟨_, List.getElem?_eq_getElem (by omega)⟩
      refine T_skip ?_
      refine hK5 _ _ ?_
      refine T_seq fun K7 hK7 => ?_
      refine T_block ?_
      refine T_seq fun K8 hK8 => ?_
      refine T_region ?_
      refine L_y (y_move rfl) rfl ?_
      refine L_y (y_len Try.underlying22 rfl) rfl ?_
      refine L_y (y_assign rfl) rfl ?_
      refine L_nil ?_
      refine hK8 _ _ ?_
      refine T_seq fun K9 hK9 => ?_
      refine T_block ?_
      refine T_loop1 [(0, _), (3, _), (4, _)] (fun (j : Nat) => [(5, .int .i64 (j : Int))]) (fun (j : Nat) => j) (fun (j : Nat) (w : World) => (j ≤ xs.length ∧ ∀ y ∈ xs.drop j, ltK x y = true) ∧ St w0 noM [row 39 34 A1 xs.length c1 (xs.flatMap enf)] w) xs.length (Sub.cons rfl (by first | rfl | exact congrArg (Value.int _) (by omega)) (Sub.nil _)) (Sub.cons rfl rfl (Sub.cons rfl rfl (Sub.cons rfl rfl (Sub.nil _)))) ?_ ?_
      ·
        exact ⟨⟨Nat.le_refl _, fun y hy => by rw [List.drop_of_length_le (Nat.le_refl _)] at hy; cases hy⟩, S1⟩
      ·
        intro j w2 hrel
        obtain ⟨⟨hj, hhi⟩, S2⟩ := hrel
        refine T_seq fun K10 hK10 => ?_
        refine T_seq fun K11 hK11 => ?_
        refine T_drawnL [(0, true), (1, true), (2, true), (3, true), (4, true), (5, true), (6, true), (8, true), (9, true), (10, true), (11, true), (12, true), (7, false), (13, false), (14, true), (15, true)] hmix (by kernel_rfl) fun w3 l3 => ?_
        have S3 := S2.like l3
        refine DL_y rfl (y_move rfl) rfl ?_
        refine DL_y rfl (y_gtr rfl rfl) rfl ?_
        refine DL_y rfl (y_move rfl) rfl ?_
        refine DL_split 17 rfl (fun h17 => ?_) (fun h17 => ?_)
        ·
          obtain ⟨i, hji⟩ : ∃ i, j = i + 1 := ⟨j - 1, by omega⟩
          obtain ⟨y, hy⟩ : ∃ y, xs[i]? = some y := ⟨_, List.getElem?_eq_getElem (by omega)⟩
          refine DL_gyes rfl rfl rfl (y_move rfl) rfl ?_
          refine DL_gyes rfl rfl rfl (y_move rfl) rfl ?_
          refine DL_gyes rfl rfl rfl (y_idx Try.underlying22 sz39 rfl rfl (S3.rd hl) (Nt.mk (by omega) : Nt _ (k)) (by omega)) rfl ?_
          refine DL_gyes rfl rfl rfl (y_ldp (f := enf) enf_len Try.underlying39 rfl sz39 rfl (S3.rd hl) (by omega) hx) rfl ?_
          refine DL_gyes rfl rfl rfl (y_move rfl) rfl ?_
          refine DL_gyes rfl rfl rfl (y_move rfl) rfl ?_
          refine DL_gyes rfl rfl rfl (y_sub rfl rfl (i64w (by omega))) rfl ?_
          refine DL_gyes rfl rfl rfl (y_idx Try.underlying22 sz39 rfl rfl (S3.row 0 rfl) (Nt.mk (by omega) : Nt _ (i)) (by omega)) rfl ?_
          refine DL_gyes rfl rfl rfl (y_ldp (f := enf) enf_len Try.underlying39 rfl sz39 rfl (S3.row 0 rfl) (by omega) hy) rfl ?_
          refine DL_ogyes rfl rfl rfl (o_call Try.func29 rfl rfl (rkey x w3) rfl rfl ?_)
          rintro e4 w4 ⟨v4, rfl, l4, rfl⟩
          refine ⟨_, rfl, l4, ?_⟩
          have S4 := S3.like l4
          have q4 := l4
          refine DL_ogyes rfl rfl rfl (o_call Try.func29 rfl rfl (rkey y w4) rfl rfl ?_)
          rintro e5 w5 ⟨v5, rfl, l5, rfl⟩
          refine ⟨_, rfl, (Like.trans q4 l5), ?_⟩
          have S5 := S4.like l5
          have q5 := (Like.trans q4 l5)
          refine DL_gyes rfl rfl rfl (y_slss rfl rfl) rfl ?_
          refine DL_y rfl ((by first | exact y_pickT rfl rfl | exact y_pickF rfl rfl)) rfl ?_
          refine DL_nil ?_
          refine hK11 _ _ ?_
          refine T_condB rfl (fun h30 => ?_) (fun h30 => ?_)
          ·
            have hxy : ltK x y = true := h30
            refine T_skip ?_
            refine hK10 _ _ ?_
            refine T_block ?_
            refine T_region ?_
            refine L_y (y_move rfl) rfl ?_
            refine L_y (y_sub rfl rfl (i64w (by omega))) rfl ?_
            refine L_y (y_assign rfl) rfl ?_
            refine L_nil ?_
            refine ⟨i, by omega, ⟨⟨by omega, fun z hz => by rw [drop_hd2 hy] at hz; rcases List.mem_cons.1 hz with rfl | hz; exact hxy; exact hhi z (by rw [hji]; exact hz)⟩, S5⟩, ?_⟩
            exact (Sub.cons rfl (congrArg (Value.int _) (by omega)) (Sub.cons rfl rfl (Sub.cons rfl rfl (Sub.cons rfl rfl (Sub.nil _)))))
          ·
            have hxy : ltK x y = false := by unfold ltK; simpa using h30
            have hlo : ∀ z ∈ xs.take j, ltK x z = false := by rw [hji, take_sn2 hy]; exact srt_last ordK (by have h8 : Srt ltK (xs.take (i + 1)) := hso.sublist (List.take_sublist _ _); rwa [take_sn2 hy] at h8) hxy
            refine T_exit ?_
            refine hK9 _ _ ?_
            refine T_seq fun K12 hK12 => ?_
            refine T_region ?_
            have S6 := S5.nilrow 39 34
            refine L_y (y_assign rfl) rfl ?_
            refine L_nil ?_
            refine hK12 _ _ ?_
            refine T_seq fun K13 hK13 => ?_
            refine T_region ?_
            refine L_y (y_move rfl) rfl ?_
            refine L_y (y_move rfl) rfl ?_
            refine L_y (y_move rfl) rfl ?_
            refine L_y (y_sliceH Try.underlying22 sz39 rfl rfl inferInstance (by omega)) rfl ?_
            refine L_o (o_app te22 S6 1 rfl rfl rfl ((S6.row 0 rfl).cut (l := 0) (u := j) (Nat.zero_le _) (by omega)) (fun u hu => ens_one _ _ (List.mem_of_mem_drop (List.mem_of_mem_take hu))) rfl (by omega) (by omega) fun A7 c7 w7 S7 => ?_)
            refine L_y (y_assign rfl) rfl ?_
            refine L_nil ?_
            refine hK13 _ _ ?_
            refine T_seq fun K14 hK14 => ?_
            refine T_region ?_
            refine L_y (y_move rfl) rfl ?_
            refine L_y (y_move rfl) rfl ?_
            refine L_y (y_move rfl) rfl ?_
            refine L_y (y_idx Try.underlying22 sz39 rfl rfl (S7.rd hl) (Nt.mk (by omega) : Nt _ (k)) (by omega)) rfl ?_
            refine L_y (y_ldp (f := enf) enf_len Try.underlying39 rfl sz39 rfl (S7.rd hl) (by omega) hx) rfl ?_
            refine L_o (o_bsl (enf x) te22 zz39 S7 rfl rfl rfl (by simp [Value.cells, enf_len]) (by simp [Value.cells]) rfl rfl rfl fun b8 w8 S8 => ?_)
            refine L_o (o_app te22 S8 1 rfl rfl rfl (by first | exact S8.row 0 rfl | exact S8.row 1 rfl | exact S8.row 2 rfl) (enf_one _) rfl (by omega) (by omega) fun A9 c9 w9 S9 => ?_)
            have S9d := S9.drop (rs' := [_, _]) (.cons_cons _ (.cons_cons _ (.cons _ (.refl _))))
            refine L_y (y_assign rfl) rfl ?_
            refine L_nil ?_
            refine hK14 _ _ ?_
            refine T_region ?_
            refine L_y (y_move rfl) rfl ?_
            refine L_y (y_move rfl) rfl ?_
            refine L_y (y_move rfl) rfl ?_
            refine L_y (y_sliceL Try.underlying22 sz39 rfl rfl inferInstance (by omega)) rfl ?_
            refine L_o (o_app te22 S9d 1 rfl rfl rfl ((S9d.row 0 rfl).cut (l := j) (u := xs.length) (by omega) (Nat.le_refl _)) (fun u hu => ens_one _ _ (List.mem_of_mem_drop (List.mem_of_mem_take hu))) rfl (by omega) (by omega) fun A10 c10 w10 S10 => ?_)
            refine L_y (y_assign rfl) rfl ?_
            refine L_nil ?_
            refine hK7 _ _ ?_
            refine T_region ?_
            refine L_y (y_move rfl) rfl ?_
            refine L_y (y_add rfl rfl (i64w (by omega))) rfl ?_
            refine L_y (y_assign rfl) rfl ?_
            refine L_nil ?_
            have hins : insS ltK xs x = xs.take j ++ x :: xs.drop j := by have h8 := ins_at (xs.take j) (xs.drop j) hlo (fun y hy => hhi y (List.mem_of_getElem? hy)); rwa [List.take_append_drop] at h8
            have hlen : (xs.take j ++ x :: xs.drop j).length = xs.length + 1 := by simp; omega
            have S91 := S10.rowc 1 rfl (n' := (xs.take j ++ x :: xs.drop j).length) (xs' := (xs.take j ++ x :: xs.drop j).flatMap enf) (by rw [hlen]; omega) (ins_flatE xs j x)
            have S92 := S91.drop (.cons _ (.cons_cons _ (.refl _)))
            refine ⟨k + 1, _, _, xs.take j ++ x :: xs.drop j, by omega, ⟨⟨by omega, by rw [take_sn2 hx, srt_snoc, ← hxs, hins]⟩, S92⟩, ?_⟩
            exact (Sub.cons rfl (by first | rfl | (rw [hlen]; rfl) | (rw [hlen]; congr 1; omega)) (Sub.cons rfl (by first | rfl | exact congrArg (Value.int _) (by omega)) (Sub.cons rfl rfl (Sub.nil _))))
        ·
          have hj0 : j = 0 := by omega
          have hlo : ∀ z ∈ xs.take j, ltK x z = false := by rw [hj0]; intro z hz; cases hz
          refine DL_gno rfl rfl rfl rfl ?_
          refine DL_gno rfl rfl rfl rfl ?_
          refine DL_gno rfl rfl rfl rfl ?_
          refine DL_gno rfl rfl rfl rfl ?_
          refine DL_gno rfl rfl rfl rfl ?_
          refine DL_gno rfl rfl rfl rfl ?_
          refine DL_gno rfl rfl rfl rfl ?_
          refine DL_gno rfl rfl rfl rfl ?_
          refine DL_gno rfl rfl rfl rfl ?_
          refine DL_ogno rfl rfl rfl rfl ?_
          refine DL_ogno rfl rfl rfl rfl ?_
          refine DL_gno rfl rfl rfl rfl ?_
          refine DL_y rfl ((by first | exact y_pickT rfl rfl | exact y_pickF rfl rfl)) rfl ?_
          refine DL_nil ?_
          refine hK11 _ _ ?_
          refine T_false rfl ?_
          refine T_exit ?_
          refine hK9 _ _ ?_
          refine T_seq fun K15 hK15 => ?_
          refine T_region ?_
          have S11 := S3.nilrow 39 34
          refine L_y (y_assign rfl) rfl ?_
          refine L_nil ?_
          refine hK15 _ _ ?_
          refine T_seq fun K16 hK16 => ?_
          refine T_region ?_
          refine L_y (y_move rfl) rfl ?_
          refine L_y (y_move rfl) rfl ?_
          refine L_y (y_move rfl) rfl ?_
          refine L_y (y_sliceH Try.underlying22 sz39 rfl rfl inferInstance (by omega)) rfl ?_
          refine L_o (o_app te22 S11 1 rfl rfl rfl ((S11.row 0 rfl).cut (l := 0) (u := j) (Nat.zero_le _) (by omega)) (fun u hu => ens_one _ _ (List.mem_of_mem_drop (List.mem_of_mem_take hu))) rfl (by omega) (by omega) fun A12 c12 w12 S12 => ?_)
          refine L_y (y_assign rfl) rfl ?_
          refine L_nil ?_
          refine hK16 _ _ ?_
          refine T_seq fun K17 hK17 => ?_
          refine T_region ?_
          refine L_y (y_move rfl) rfl ?_
          refine L_y (y_move rfl) rfl ?_
          refine L_y (y_move rfl) rfl ?_
          refine L_y (y_idx Try.underlying22 sz39 rfl rfl (S12.rd hl) (Nt.mk (by omega) : Nt _ (k)) (by omega)) rfl ?_
          refine L_y (y_ldp (f := enf) enf_len Try.underlying39 rfl sz39 rfl (S12.rd hl) (by omega) hx) rfl ?_
          refine L_o (o_bsl (enf x) te22 zz39 S12 rfl rfl rfl (by simp [Value.cells, enf_len]) (by simp [Value.cells]) rfl rfl rfl fun b13 w13 S13 => ?_)
          refine L_o (o_app te22 S13 1 rfl rfl rfl (by first | exact S13.row 0 rfl | exact S13.row 1 rfl | exact S13.row 2 rfl) (enf_one _) rfl (by omega) (by omega) fun A14 c14 w14 S14 => ?_)
          have S14d := S14.drop (rs' := [_, _]) (.cons_cons _ (.cons_cons _ (.cons _ (.refl _))))
          refine L_y (y_assign rfl) rfl ?_
          refine L_nil ?_
          refine hK17 _ _ ?_
          refine T_region ?_
          refine L_y (y_move rfl) rfl ?_
          refine L_y (y_move rfl) rfl ?_
          refine L_y (y_move rfl) rfl ?_
          refine L_y (y_sliceL Try.underlying22 sz39 rfl rfl inferInstance (by omega)) rfl ?_
          refine L_o (o_app te22 S14d 1 rfl rfl rfl ((S14d.row 0 rfl).cut (l := j) (u := xs.length) (by omega) (Nat.le_refl _)) (fun u hu => ens_one _ _ (List.mem_of_mem_drop (List.mem_of_mem_take hu))) rfl (by omega) (by omega) fun A15 c15 w15 S15 => ?_)
          refine L_y (y_assign rfl) rfl ?_
          refine L_nil ?_
          refine hK7 _ _ ?_
          refine T_region ?_
          refine L_y (y_move rfl) rfl ?_
          refine L_y (y_add rfl rfl (i64w (by omega))) rfl ?_
          refine L_y (y_assign rfl) rfl ?_
          refine L_nil ?_
          have hins : insS ltK xs x = xs.take j ++ x :: xs.drop j := by have h8 := ins_at (xs.take j) (xs.drop j) hlo (fun y hy => hhi y (List.mem_of_getElem? hy)); rwa [List.take_append_drop] at h8
          have hlen : (xs.take j ++ x :: xs.drop j).length = xs.length + 1 := by simp; omega
          have S91 := S15.rowc 1 rfl (n' := (xs.take j ++ x :: xs.drop j).length) (xs' := (xs.take j ++ x :: xs.drop j).flatMap enf) (by rw [hlen]; omega) (ins_flatE xs j x)
          have S92 := S91.drop (.cons _ (.cons_cons _ (.refl _)))
          refine ⟨k + 1, _, _, xs.take j ++ x :: xs.drop j, by omega, ⟨⟨by omega, by rw [take_sn2 hx, srt_snoc, ← hxs, hins]⟩, S92⟩, ?_⟩
          exact (Sub.cons rfl (by first | rfl | (rw [hlen]; rfl) | (rw [hlen]; congr 1; omega)) (Sub.cons rfl (by first | rfl | exact congrArg (Value.int _) (by omega)) (Sub.cons rfl rfl (Sub.nil _))))
    ·
      refine T_exit ?_
      refine hK3 _ _ ?_
      refine T_seq fun K18 hK18 => ?_
      refine T_region ?_
      refine L_y (y_move rfl) rfl ?_
      refine L_y (y_assign rfl) rfl ?_
      refine L_nil ?_
      refine hK18 _ _ ?_
      refine T_ret ?_
      repeat (first | with_reducible refine up_then ?_ | with_reducible refine up_in ?_)
      refine ret1 rfl rfl ?_
      have hkn : k = n := by omega
      subst hkn
      rw [List.take_of_length_le (by omega)] at hxs
      subst hxs
      exact ⟨_, rfl, S1.like0, _, _, rfl, S1.own 0 rfl⟩
end Go.Proofs.Ytmgimcdkeelnpaa

/-
  '==' on structs of any plain fields. General; nothing here names a program.
-/
namespace Go.Proofs.Ytmgimcdkeelnpaa.Zx
open Go.RowKit Zk
set_option linter.unusedVariables false
set_option linter.unusedSimpArgs false
section
variable {P : Program}
/-- What '==' says of one field. -/
def FE (P : Program) (d : Nat) (xs ys : Array Value) (f : Field) (b : Bool) : Prop :=
  f.name ≠ "_" ∧ ∃ vx vy, (∀ w, (part f.type xs f.offset).run P w = .ok vx w) ∧ (∀ w, (part f.type ys f.offset).run P w = .ok vy w) ∧ (∀ w, (Op.equalIn d f.type vx vy).run P w = .ok b w)
inductive EqFs (P : Program) (d : Nat) (xs ys : Array Value) : List Field → Bool → Prop
  | nil : EqFs P d xs ys [] true
  | cons {f : Field} {fs : List Field} {b r : Bool} : FE P d xs ys f b → EqFs P d xs ys fs r → EqFs P d xs ys (f :: fs) (b && r)
theorem EqFs.run {d : Nat} {xs ys : Array Value} : ∀ {fs : List Field} {r : Bool}, EqFs P d xs ys fs r → ∀ w, (Op.eqFields d xs ys fs).run P w = .ok r w
  | _, _, .nil, w => rfl
  | _, _, .cons (f := f) (fs := fs) (b := b) (r := r) ⟨hn, vx, vy, h1, h2, h3⟩ h, w => by
    rw [Op.eqFields, if_pos hn, Sem.run_bind, h1 w, Result.andThen_ok, Sem.run_bind, h2 w, Result.andThen_ok, Sem.run_bind, h3 w, Result.andThen_ok]
    cases b with
    | true =>
      simp only [Bool.not_true, Bool.false_eq_true, if_false]
      rw [h.run w]
      rfl
    | false =>
      simp only [Bool.not_false, if_true, Sem.run_pure]
      rfl
theorem run_part_one {t : TypeId} {cs : Array Value} {o : Nat} {v : Value} (ha : ∀ w, (isAgg t).run P w = .ok false w) (hv : cs[o]? = some v) (w : World) : (part t cs o).run P w = .ok v w := by
  unfold part
  rw [Sem.run_bind, ha w]
  simp only [Result.andThen_ok, Bool.false_eq_true, if_false, hv, Sem.run_pure]
theorem run_part_agg {t : TypeId} {cs vs : Array Value} {o n : Nat} (ha : ∀ w, (isAgg t).run P w = .ok true w) (hs : ∀ w, (sizeOf t).run P w = .ok n w) (hv : cs.extract o (o + n) = vs) (w : World) : (part t cs o).run P w = .ok (.agg vs) w := by
  unfold part
  rw [Sem.run_bind, ha w]
  simp only [Result.andThen_ok, if_true, Sem.run_bind, hs w, Sem.run_pure, hv]
theorem FE_str {d : Nat} {xs ys : Array Value} {f : Field} {a b : ByteArray} (hn : f.name ≠ "_") (ht : P.underlying f.type = some .string) (hx : xs[f.offset]? = some (.string a)) (hy : ys[f.offset]? = some (.string b)) : FE P (d + 1) xs ys f (decide (a = b)) := by
  have ha : ∀ w, (isAgg f.type).run P w = .ok false w := fun w => by unfold isAgg; rw [Sem.run_bind, run_underlying ht w]; rfl
  refine ⟨hn, _, _, run_part_one ha hx, run_part_one ha hy, fun w => ?_⟩
  simp only [Op.equalIn, Sem.run_bind, run_underlying ht, Result.andThen_ok, Sem.run_pure]
  congr 1
  rw [beq_toListBytes, beq_str]
theorem FE_int {d : Nat} {xs ys : Array Value} {f : Field} {k : IntKind} {a b : Int} (hn : f.name ≠ "_") (ht : P.underlying f.type = some (.int k)) (hx : xs[f.offset]? = some (.int k a)) (hy : ys[f.offset]? = some (.int k b)) : FE P (d + 1) xs ys f (decide (a = b)) := by
  refine ⟨hn, _, _, run_part_int ht hx, run_part_int ht hy, fun w => ?_⟩
  rw [run_equalIn_int w d _ _ _ _ _ ht]
  congr 1
theorem FE_bool {d : Nat} {xs ys : Array Value} {f : Field} {a b : Bool} (hn : f.name ≠ "_") (ht : P.underlying f.type = some .bool) (hx : xs[f.offset]? = some (.bool a)) (hy : ys[f.offset]? = some (.bool b)) : FE P (d + 1) xs ys f (decide (a = b)) := by
  have ha : ∀ w, (isAgg f.type).run P w = .ok false w := fun w => by unfold isAgg; rw [Sem.run_bind, run_underlying ht w]; rfl
  refine ⟨hn, _, _, run_part_one ha hx, run_part_one ha hy, fun w => ?_⟩
  simp only [Op.equalIn, Sem.run_bind, run_underlying ht, Result.andThen_ok, Sem.run_pure]
  congr 1
theorem FE_bytes {d n : Nat} {xs ys : Array Value} {f : Field} {e : TypeId} {a b : List UInt8} (hn : f.name ≠ "_") (ht : P.underlying f.type = some (.array n e)) (he : P.underlying e = some (.int .u8)) (hs : (P.info? e).map (·.size) = some 1) (hsz : ∀ w, (sizeOf f.type).run P w = .ok n w) (ha : a.length = n) (hb : b.length = n)
    (hx : xs.extract f.offset (f.offset + n) = bA a) (hy : ys.extract f.offset (f.offset + n) = bA b) : FE P (d + 2) xs ys f (decide (a = b)) := by
  have hag : ∀ w, (isAgg f.type).run P w = .ok true w := fun w => by unfold isAgg; rw [Sem.run_bind, run_underlying ht w]; rfl
  refine ⟨hn, _, _, run_part_agg hag hsz hx, run_part_agg hag hsz hy, fun w => ?_⟩
  rw [run_equalIn_bytes w d ht he hs a b ha hb _ _ (bA_get a) (bA_get b)]
  congr 1
  by_cases h : a = b <;> simp [h]
theorem FE_struct {d n : Nat} {xs ys vx vy : Array Value} {f : Field} {fs : Array Field} {r : Bool} (hn : f.name ≠ "_") (ht : P.underlying f.type = some (.struct fs)) (hp : P.stoodInHeld f.type = false) (hsz : ∀ w, (sizeOf f.type).run P w = .ok n w)
    (hx : xs.extract f.offset (f.offset + n) = vx) (hy : ys.extract f.offset (f.offset + n) = vy) (h : EqFs P d vx vy fs.toList r) : FE P (d + 1) xs ys f r := by
  have hag : ∀ w, (isAgg f.type).run P w = .ok true w := fun w => by unfold isAgg; rw [Sem.run_bind, run_underlying ht w]; rfl
  refine ⟨hn, _, _, run_part_agg hag hsz hx, run_part_agg hag hsz hy, fun w => ?_⟩
  have e : P.fieldsOf f.type = fs := by simp [Program.fieldsOf, ht]
  rw [run_equalIn_struct w d _ _ _ (by rw [e]; exact ht) hp, e]
  exact h.run w
variable {S : World → Prop} {env : Env} {dst : Option Tmp} {ty : TypeId} {pos : String} {after : Array Edge} {g : Option (Nat × Bool)}
theorem y_eqS {x y : Operand} {t u : TypeId} {fs : Array Field} {xs ys : Array Value} {r : Bool} (ht : P.underlying t = some (.struct fs)) (hp : P.stoodInHeld t = false) (hm : P.eqGuardType P.depth t = false) (hf : EqFs P 9999 xs ys fs.toList r) (hx : ev env x = some (.agg xs)) (hy : ev env y = some (.agg ys)) :
    Y P S env ⟨dst, .binOp .eql t x y u, ty, pos, after, g⟩ (.bool r) := fun N a w ha _ => by
  have h1 := run_eql_struct (P := P) w t xs ys
  have e : P.fieldsOf t = fs := by simp [Program.fieldsOf, ht]
  rw [run_equalIn_struct w 9999 t _ _ (by rw [e]; exact ht) hp, e, hf.run w, Result.andThen_ok] at h1
  simp only [execOp, ha.eval hx, ha.eval hy, Sem.run_bind, eqGuard_run .eql x y _ _ hm w, Result.andThen_ok, h1, Sem.run_pure]
theorem y_neS {x y : Operand} {t u : TypeId} {fs : Array Field} {xs ys : Array Value} {r : Bool} (ht : P.underlying t = some (.struct fs)) (hp : P.stoodInHeld t = false) (hm : P.eqGuardType P.depth t = false) (hf : EqFs P 9999 xs ys fs.toList r) (hx : ev env x = some (.agg xs)) (hy : ev env y = some (.agg ys)) :
    Y P S env ⟨dst, .binOp .neq t x y u, ty, pos, after, g⟩ (.bool (!r)) := fun N a w ha _ => by
  have h1 := run_neq_struct (P := P) w t xs ys
  have e : P.fieldsOf t = fs := by simp [Program.fieldsOf, ht]
  rw [run_equalIn_struct w 9999 t _ _ (by rw [e]; exact ht) hp, e, hf.run w, Result.andThen_ok] at h1
  simp only [execOp, ha.eval hx, ha.eval hy, Sem.run_bind, eqGuard_run .neq x y _ _ hm w, Result.andThen_ok, h1, Sem.run_pure]
end
end Go.Proofs.Ytmgimcdkeelnpaa.Zx

/-
  Same.
-/
namespace Go.Proofs.Ytmgimcdkeelnpaa
open Go.RowKit Zk Zx
set_option linter.unusedVariables false
set_option linter.unusedSimpArgs false

theorem en_id (e : EV) : (enf e).toArray.extract 2 (2 + 32) = bA e.id := by
  apply Array.ext'
  rw [Array.toList_extract]
  simp only [enf, bA]
  rw [List.extract_eq_take_drop]
  show List.take 32 (bL e.id) = bL e.id
  exact List.take_of_length_le (by simp [bL, e.h.1])
theorem en_eq (x y : EV) {fs : Array Field} (hfs : Try.prog.underlying 39 = some (.struct fs)) : EqFs Try.prog 9999 (enf x).toArray (enf y).toArray fs.toList (decide (x = y)) := by
  have h2 := Try.underlying39
  rw [hfs] at h2
  injection h2 with h2
  injection h2 with h2
  subst h2
  have e : decide (x = y) = (decide (x.nm = y.nm) && (decide (x.md = y.md) && (decide (x.id = y.id) && true))) := by
    obtain ⟨a, b, c, d⟩ := x
    obtain ⟨a', b', c', d'⟩ := y
    rw [Bool.eq_iff_iff]
    simp
  rw [e]
  exact .cons (FE_str (by decide) Try.underlying9 rfl rfl) (.cons (FE_int (by decide) Try.underlying3 rfl rfl) (.cons (FE_bytes (by decide) Try.underlying37 Try.underlying5 sz5 Try.sizeOf37 x.h.1 y.h.1 (en_id x) (en_id y)) .nil))


set_option maxRecDepth 100000 in
theorem same (A : Option Addr) (n c : Nat) (l : List EV) (B : Option Addr) (m d : Nat) (l2 : List EV) (w0 : World) (hl : Rs w0 34 A n c (l.flatMap enf)) (hl2 : Rs w0 34 B m d (l2.flatMap enf)) :
    Calls Try.prog 12 #[.slice A n c, .slice B m d] w0 fun e w' => ∃ u, e = .returned u ∧ Like w0 w' ∧ u = .bool (decide (l = l2)) := by
  refine enter1 (env := [(0, .slice A n c), (1, .slice B m d)]) [.slice A n c, .slice B m d] Try.func12 rfl Try.ntmps12 rfl rfl ?_
  have hn := ens_n hl; have hcap := hl.cap; have hmax := hl.max; have S0 := St.start w0 noM; have hm := ens_n hl2; have hcap2 := hl2.cap; have hmax2 := hl2.max
  refine T_seq fun K1 hK1 => ?_
  refine T_region ?_
  refine L_y (y_assign rfl) rfl ?_
  refine L_nil ?_
  refine hK1 _ _ ?_
  refine T_seq fun K2 hK2 => ?_
  refine T_seq fun K3 hK3 => ?_
  refine T_region ?_
  refine L_y (y_move rfl) rfl ?_
  refine L_y (y_len Try.underlying22 rfl) rfl ?_
  refine L_y (y_move rfl) rfl ?_
  refine L_y (y_len Try.underlying22 rfl) rfl ?_
  refine L_y (y_neq rfl rfl) rfl ?_
  refine L_nil ?_
  refine hK3 _ _ ?_
  refine T_cond rfl (fun h10 => ?_) (fun h10 => ?_)
  ·
    refine T_seq fun K4 hK4 => ?_
    refine T_region ?_
    refine L_y (y_assign rfl) rfl ?_
    refine L_nil ?_
    refine hK4 _ _ ?_
    refine T_ret ?_
    repeat (first | with_reducible refine up_then ?_ | with_reducible refine up_in ?_)
    refine ret1 rfl rfl ?_
    first | exact ⟨_, rfl, S0.like0, congrArg Value.bool (decide_eq_false (fun e => by rw [e] at hn; omega)).symm⟩ | exact ⟨_, rfl, S0.like0, congrArg Value.bool (decide_eq_false (fun e => hxy (by rw [e] at hx; rw [hx] at hy; exact Option.some.inj hy))).symm⟩ | exact ⟨_, rfl, S0.like0, congrArg Value.bool (decide_eq_true (by rw [List.take_of_length_le (by omega), List.take_of_length_le (by omega)] at heq; exact heq)).symm⟩
  ·
    refine T_skip ?_
    refine hK2 _ _ ?_
    refine T_seq fun K5 hK5 => ?_
    refine T_seq fun K6 hK6 => ?_
    refine T_region ?_
    refine L_y (y_assign rfl) rfl ?_
    refine L_nil ?_
    refine hK6 _ _ ?_
    refine T_block ?_
    refine T_loop1 [(0, _), (1, _)] (fun (k : Nat) => [(5, .int .i64 (k : Int))]) (fun (k : Nat) => n - k) (fun (k : Nat) (w : World) => (k ≤ n ∧ l.take k = l2.take k) ∧ St w0 noM [] w) 0 (Sub.cons rfl (by first | rfl | exact congrArg (Value.int _) (by omega)) (Sub.nil _)) (Sub.cons rfl rfl (Sub.cons rfl rfl (Sub.nil _))) ?_ ?_
    ·
      exact ⟨⟨Nat.zero_le _, rfl⟩, S0⟩
    ·
      intro k w1 hrel
      obtain ⟨⟨hk, heq⟩, S1⟩ := hrel
      refine T_seq fun K7 hK7 => ?_
      refine T_seq fun K8 hK8 => ?_
      refine T_region ?_
      refine L_y (y_move rfl) rfl ?_
      refine L_y (y_move rfl) rfl ?_
      refine L_y (y_len Try.underlying22 rfl) rfl ?_
      refine L_y (y_lss rfl rfl) rfl ?_
      refine L_nil ?_
      refine hK8 _ _ ?_
      refine T_cond rfl (fun h14 => ?_) (fun h14 => ?_)
      ·
        obtain ⟨x, hx⟩ : ∃ x, l[k]? = some x := ⟨_, List.getElem?_eq_getElem (by omega)⟩
        obtain ⟨y, hy⟩ : ∃ y, l2[k]? = some y := ⟨_, List.getElem?_eq_getElem (by omega)⟩
        refine T_skip ?_
        refine hK7 _ _ ?_
        refine T_seq fun K9 hK9 => ?_
        refine T_block ?_
        refine T_seq fun K10 hK10 => ?_
        refine T_drawnL [(0, true), (1, true), (2, true), (3, true), (4, true), (5, true), (6, true), (7, true), (8, true)] hmix (by kernel_rfl) fun w2 l2 => ?_
        have S2 := S1.like l2
        refine DL_y rfl (y_move rfl) rfl ?_
        refine DL_y rfl (y_move rfl) rfl ?_
        refine DL_y rfl (y_idx Try.underlying22 sz39 rfl rfl (S2.rd hl) (Nt.mk (by omega) : Nt _ (k)) (by omega)) rfl ?_
        refine DL_y rfl (y_ldp (f := enf) enf_len Try.underlying39 rfl sz39 rfl (S2.rd hl) (by omega) hx) rfl ?_
        refine DL_y rfl (y_move rfl) rfl ?_
        refine DL_y rfl (y_move rfl) rfl ?_
        refine DL_y rfl (y_idx Try.underlying22 sz39 rfl rfl (S2.rd hl2) (Nt.mk (by omega) : Nt _ (k)) (by omega)) rfl ?_
        refine DL_y rfl (y_ldp (f := enf) enf_len Try.underlying39 rfl sz39 rfl (S2.rd hl2) (by omega) hy) rfl ?_
        refine DL_y rfl (y_neS Try.underlying39 (by kernel_rfl) (by kernel_rfl) (en_eq x y Try.underlying39) rfl rfl) rfl ?_
        refine DL_nil ?_
        refine hK10 _ _ ?_
        refine T_condB rfl (fun h25 => ?_) (fun h25 => ?_)
        ·
          have hxy : x ≠ y := by simpa using h25
          refine T_seq fun K11 hK11 => ?_
          refine T_region ?_
          refine L_y (y_assign rfl) rfl ?_
          refine L_nil ?_
          refine hK11 _ _ ?_
          refine T_ret ?_
          repeat (first | with_reducible refine up_then ?_ | with_reducible refine up_in ?_)
          refine ret1 rfl rfl ?_
          first | exact ⟨_, rfl, S2.like0, congrArg Value.bool (decide_eq_false (fun e => by rw [e] at hn; omega)).symm⟩ | exact ⟨_, rfl, S2.like0, congrArg Value.bool (decide_eq_false (fun e => hxy (by rw [e] at hx; rw [hx] at hy; exact Option.some.inj hy))).symm⟩ | exact ⟨_, rfl, S2.like0, congrArg Value.bool (decide_eq_true (by rw [List.take_of_length_le (by omega), List.take_of_length_le (by omega)] at heq; exact heq)).symm⟩
        ·
          have hxy : x = y := by simpa using h25
          refine T_skip ?_
          refine hK9 _ _ ?_
          refine T_region ?_
          refine L_y (y_move rfl) rfl ?_
          refine L_y (y_add rfl rfl (i64w (by omega))) rfl ?_
          refine L_y (y_assign rfl) rfl ?_
          refine L_nil ?_
          refine ⟨k + 1, by omega, ⟨⟨by omega, by rw [take_sn2 hx, take_sn2 hy, heq, hxy]⟩, S2⟩, ?_⟩
          exact (Sub.cons rfl (by first | rfl | exact congrArg (Value.int _) (by omega)) (Sub.cons rfl rfl (Sub.cons rfl rfl (Sub.nil _))))
      ·
        refine T_exit ?_
        refine hK5 _ _ ?_
        refine T_seq fun K12 hK12 => ?_
        refine T_region ?_
        refine L_y (y_assign rfl) rfl ?_
        refine L_nil ?_
        refine hK12 _ _ ?_
        refine T_ret ?_
        repeat (first | with_reducible refine up_then ?_ | with_reducible refine up_in ?_)
        refine ret1 rfl rfl ?_
        first | exact ⟨_, rfl, S1.like0, congrArg Value.bool (decide_eq_false (fun e => by rw [e] at hn; omega)).symm⟩ | exact ⟨_, rfl, S1.like0, congrArg Value.bool (decide_eq_false (fun e => hxy (by rw [e] at hx; rw [hx] at hy; exact Option.some.inj hy))).symm⟩ | exact ⟨_, rfl, S1.like0, congrArg Value.bool (decide_eq_true (by rw [List.take_of_length_le (by omega), List.take_of_length_le (by omega)] at heq; exact heq)).symm⟩
end Go.Proofs.Ytmgimcdkeelnpaa

/-
  Names.
-/
namespace Go.Proofs.Ytmgimcdkeelnpaa
open Go.RowKit Zk Zx
set_option linter.unusedVariables false
set_option linter.unusedSimpArgs false

def seenP (s : ByteArray) : Prop := ∀ k, k < s.size → 33 ≤ g8 s.data.toList k ∧ g8 s.data.toList k ≤ 126
instance (s : ByteArray) : Decidable (seenP s) := inferInstanceAs (Decidable (∀ k, k < s.size → 33 ≤ g8 s.data.toList k ∧ g8 s.data.toList k ≤ 126))
/-- May a text be a name? -/
def nmOk (s : ByteArray) : Bool := decide (1 ≤ s.size) && (decide (s.size ≤ 32) && (decide (seenP s) && (decide ((47 : UInt8) ∉ s.data.toList) && (decide (s ≠ ⟨#[46]⟩) && decide (s ≠ ⟨#[46, 46]⟩)))))
theorem idx_ge : ∀ (l : List UInt8) (c : UInt8), 0 ≤ Lib.indexByte l c ↔ c ∈ l
  | [], c => by unfold Lib.indexByte; simp
  | b :: l, c => by
    have ih := idx_ge l c
    have h0 := Lib.indexByte_ge l c
    unfold Lib.indexByte
    by_cases h : b = c
    · subst h; simp
    · have hb : (b == c) = false := by simp [h]
      rw [hb]
      simp only [Bool.false_eq_true, if_false, List.mem_cons, Ne.symm h, false_or]
      by_cases h1 : Lib.indexByte l c = -1
      · rw [h1]
        simp only [beq_self_eq_true, if_true]
        rw [← ih, h1]
      · have : (Lib.indexByte l c == -1) = false := by simp [h1]
        rw [this]
        simp only [Bool.false_eq_true, if_false]
        rw [← ih]
        omega
theorem strIdx (s : ByteArray) (w0 : World) : Calls Try.prog 61 #[.string s, .int .u8 47] w0 fun e w' => ∃ u, e = .returned u ∧ Like w0 w' ∧ u = .int .i64 (Lib.indexByte s.data.toList 47) :=
  (show Calls Try.prog 61 _ _ _ from Any.stringslite_IndexByte idxS s 47 w0).mono fun e w' ⟨h1, h2⟩ => by
    subst h2
    exact ⟨_, h1, Like.refl _, rfl⟩
theorem idx_self : Lib.indexByte (⟨#[47]⟩ : ByteArray).data.toList 47 = 0 := by decide +kernel
/-- How many strokes. -/
def cnSl (l : List UInt8) : Nat := l.count 47
theorem cn_step {l : List UInt8} {k : Nat} (hk : k < l.length) : cnSl (l.take (k + 1)) = cnSl (l.take k) + if g8 l k = 47 then 1 else 0 := by
  unfold cnSl
  rw [List.take_add_one, List.getElem?_eq_getElem hk, Option.toList_some, List.count_append]
  congr 1
  have e : g8 l k = ((l[k]).toNat : Int) := by simp [g8, List.getD_eq_getElem?_getD, List.getElem?_eq_getElem hk]
  rw [e]
  by_cases h : l[k] = 47
  · rw [h]; rfl
  · rw [if_neg (fun h2 => h (UInt8.toNat_inj.1 (by show _ = 47; omega))), List.count_eq_zero_of_not_mem (by simp; exact fun e => h e.symm)]
theorem cn_zero {l : List UInt8} : cnSl l = 0 ↔ (47 : UInt8) ∉ l := by unfold cnSl; exact List.count_eq_zero
theorem cn_le (l : List UInt8) : cnSl l ≤ l.length := List.count_le_length


set_option maxRecDepth 100000 in
theorem mode_ (m : Int) (w0 : World)  :
    Calls Try.prog 26 #[.int .i64 m] w0 fun e w' => ∃ u, e = .returned u ∧ Like w0 w' ∧ u = .bool (decide (m = 1 ∨ m = 2 ∨ m = 3)) := by
  refine enter1 (env := [(0, .int .i64 m)]) [.int .i64 m] Try.func26 rfl Try.ntmps26 rfl rfl ?_
  have S0 := St.start w0 noM
  refine T_seq fun K1 hK1 => ?_
  refine T_region ?_
  refine L_y (y_assign rfl) rfl ?_
  refine L_nil ?_
  refine hK1 _ _ ?_
  refine T_seq fun K2 hK2 => ?_
  refine T_region ?_
  refine L_y (y_move rfl) rfl ?_
  refine L_y (y_eql rfl rfl) rfl ?_
  refine L_y (y_move rfl) rfl ?_
  refine L_split 5 rfl (fun h5 => ?_) (fun h5 => ?_)
  ·
    refine L_gno rfl rfl rfl ?_
    refine L_gno rfl rfl rfl ?_
    refine L_y ((by first | exact y_pickT rfl rfl | exact y_pickF rfl rfl)) rfl ?_
    refine L_y (y_move rfl) rfl ?_
    refine L_gno rfl rfl rfl ?_
    refine L_gno rfl rfl rfl ?_
    refine L_y ((by first | exact y_pickT rfl rfl | exact y_pickF rfl rfl)) rfl ?_
    refine L_y (y_assign rfl) rfl ?_
    refine L_nil ?_
    refine hK2 _ _ ?_
    refine T_ret ?_
    repeat (first | with_reducible refine up_then ?_ | with_reducible refine up_in ?_)
    refine ret1 rfl rfl ?_
    exact ⟨_, rfl, S0.like0, congrArg Value.bool (by first | (rw [Bool.eq_iff_iff]; simp only [decide_eq_true_eq, true_iff, false_iff, Bool.true_eq, Bool.false_eq, Bool.false_eq_true]; omega) | (simp; omega))⟩
  ·
    refine L_gyes rfl rfl ?_
    refine L_y (y_move rfl) rfl ?_
    refine L_gyes rfl rfl ?_
    refine L_y (y_eql rfl rfl) rfl ?_
    refine L_y ((by first | exact y_pickT rfl rfl | exact y_pickF rfl rfl)) rfl ?_
    refine L_y (y_move rfl) rfl ?_
    refine L_split 9 rfl (fun h9 => ?_) (fun h9 => ?_)
    ·
      refine L_gno rfl rfl rfl ?_
      refine L_gno rfl rfl rfl ?_
      refine L_y ((by first | exact y_pickT rfl rfl | exact y_pickF rfl rfl)) rfl ?_
      refine L_y (y_assign rfl) rfl ?_
      refine L_nil ?_
      refine hK2 _ _ ?_
      refine T_ret ?_
      repeat (first | with_reducible refine up_then ?_ | with_reducible refine up_in ?_)
      refine ret1 rfl rfl ?_
      exact ⟨_, rfl, S0.like0, congrArg Value.bool (by first | (rw [Bool.eq_iff_iff]; simp only [decide_eq_true_eq, true_iff, false_iff, Bool.true_eq, Bool.false_eq, Bool.false_eq_true]; omega) | (simp; omega))⟩
    ·
      refine L_gyes rfl rfl ?_
      refine L_y (y_move rfl) rfl ?_
      refine L_gyes rfl rfl ?_
      refine L_y (y_eql rfl rfl) rfl ?_
      refine L_y ((by first | exact y_pickT rfl rfl | exact y_pickF rfl rfl)) rfl ?_
      refine L_y (y_assign rfl) rfl ?_
      refine L_nil ?_
      refine hK2 _ _ ?_
      refine T_ret ?_
      repeat (first | with_reducible refine up_then ?_ | with_reducible refine up_in ?_)
      refine ret1 rfl rfl ?_
      exact ⟨_, rfl, S0.like0, congrArg Value.bool (by first | (rw [Bool.eq_iff_iff]; simp only [decide_eq_true_eq, true_iff, false_iff, Bool.true_eq, Bool.false_eq, Bool.false_eq_true]; omega) | (simp; omega))⟩


set_option maxRecDepth 100000 in
theorem plain_ (s : ByteArray) (w0 : World) (hs : s.size ≤ 1000) :
    Calls Try.prog 37 #[.string s] w0 fun e w' => ∃ u, e = .returned u ∧ Like w0 w' ∧ u = .bool (decide (seenP s)) := by
  refine enter1 (env := [(0, .string s)]) [.string s] Try.func37 rfl Try.ntmps37 rfl rfl ?_
  have S0 := St.start w0 noM
  refine T_seq fun K1 hK1 => ?_
  refine T_region ?_
  refine L_y (y_assign rfl) rfl ?_
  refine L_nil ?_
  refine hK1 _ _ ?_
  refine T_seq fun K2 hK2 => ?_
  refine T_seq fun K3 hK3 => ?_
  refine T_region ?_
  refine L_y (y_move rfl) rfl ?_
  refine L_y (y_lens Try.underlying9 rfl) rfl ?_
  refine L_y (y_move rfl) rfl ?_
  refine L_nil ?_
  refine hK3 _ _ ?_
  refine T_block ?_
  refine T_loop1 [(0, _), (5, _)] (fun (k : Nat) => [(6, .int .i64 (k : Int))]) (fun (k : Nat) => s.size - k) (fun (k : Nat) (w : World) => (k ≤ s.size ∧ (∀ j, j < k → 33 ≤ g8 s.data.toList j ∧ g8 s.data.toList j ≤ 126)) ∧ St w0 noM [] w) 0 (Sub.cons rfl (by first | rfl | exact congrArg (Value.int _) (by omega)) (Sub.nil _)) (Sub.cons rfl rfl (Sub.cons rfl rfl (Sub.nil _))) ?_ ?_
  ·
    exact ⟨⟨Nat.zero_le _, fun j hj => absurd hj (by omega)⟩, S0⟩
  ·
    intro k w1 hrel
    obtain ⟨⟨hk, hse⟩, S1⟩ := hrel
    refine T_seq fun K4 hK4 => ?_
    refine T_region ?_
    refine L_y (y_lss rfl rfl) rfl ?_
    refine L_nil ?_
    refine hK4 _ _ ?_
    refine T_seq fun K5 hK5 => ?_
    refine T_cond rfl (fun h7 => ?_) (fun h7 => ?_)
    ·
      refine T_skip ?_
      refine hK5 _ _ ?_
      refine T_seq fun K6 hK6 => ?_
      refine T_block ?_
      refine T_seq fun K7 hK7 => ?_
      refine T_region ?_
      refine L_y (y_move rfl) rfl ?_
      refine L_y (y_assign rfl) rfl ?_
      refine L_nil ?_
      refine hK7 _ _ ?_
      refine T_seq fun K8 hK8 => ?_
      refine T_region ?_
      refine L_y (y_move rfl) rfl ?_
      refine L_y (y_move rfl) rfl ?_
      refine L_y (y_idxS Try.underlying9 rfl rfl inferInstance (by omega)) rfl ?_
      refine L_y (y_lss rfl rfl) rfl ?_
      refine L_y (y_move rfl) rfl ?_
      refine L_split 13 rfl (fun h13 => ?_) (fun h13 => ?_)
      ·
        refine L_gno rfl rfl rfl ?_
        refine L_gno rfl rfl rfl ?_
        refine L_gno rfl rfl rfl ?_
        refine L_gno rfl rfl rfl ?_
        refine L_y ((by first | exact y_pickT rfl rfl | exact y_pickF rfl rfl)) rfl ?_
        refine L_nil ?_
        refine hK8 _ _ ?_
        refine T_true rfl ?_
        refine T_seq fun K9 hK9 => ?_
        refine T_region ?_
        refine L_y (y_assign rfl) rfl ?_
        refine L_nil ?_
        refine hK9 _ _ ?_
        refine T_ret ?_
        repeat (first | with_reducible refine up_then ?_ | with_reducible refine up_in ?_)
        refine ret1 rfl rfl ?_
        first | exact ⟨_, rfl, S1.like0, congrArg Value.bool (decide_eq_false (fun h => by have := h k (by omega); omega)).symm⟩ | exact ⟨_, rfl, S1.like0, congrArg Value.bool (decide_eq_true (fun j hj => hse j (by omega))).symm⟩
      ·
        refine L_gyes rfl rfl ?_
        refine L_y (y_move rfl) rfl ?_
        refine L_gyes rfl rfl ?_
        refine L_y (y_move rfl) rfl ?_
        refine L_gyes rfl rfl ?_
        refine L_y (y_idxS Try.underlying9 rfl rfl inferInstance (by omega)) rfl ?_
        refine L_gyes rfl rfl ?_
        refine L_y (y_gtr rfl rfl) rfl ?_
        refine L_y ((by first | exact y_pickT rfl rfl | exact y_pickF rfl rfl)) rfl ?_
        refine L_nil ?_
        refine hK8 _ _ ?_
        refine T_cond rfl (fun h18 => ?_) (fun h18 => ?_)
        ·
          refine T_seq fun K10 hK10 => ?_
          refine T_region ?_
          refine L_y (y_assign rfl) rfl ?_
          refine L_nil ?_
          refine hK10 _ _ ?_
          refine T_ret ?_
          repeat (first | with_reducible refine up_then ?_ | with_reducible refine up_in ?_)
          refine ret1 rfl rfl ?_
          first | exact ⟨_, rfl, S1.like0, congrArg Value.bool (decide_eq_false (fun h => by have := h k (by omega); omega)).symm⟩ | exact ⟨_, rfl, S1.like0, congrArg Value.bool (decide_eq_true (fun j hj => hse j (by omega))).symm⟩
        ·
          refine T_skip ?_
          refine hK6 _ _ ?_
          refine T_region ?_
          refine L_y (y_add rfl rfl (i64w (by omega))) rfl ?_
          refine L_y (y_move rfl) rfl ?_
          refine L_nil ?_
          refine ⟨k + 1, by omega, ⟨⟨by omega, fun j hj => by rcases Nat.lt_or_ge j k with q | q; exact hse j q; (have e9 : j = k := by omega); subst e9; omega⟩, S1⟩, ?_⟩
          exact (Sub.cons rfl (by first | rfl | exact congrArg (Value.int _) (by omega)) (Sub.cons rfl rfl (Sub.cons rfl rfl (Sub.nil _))))
    ·
      refine T_exit ?_
      refine hK2 _ _ ?_
      refine T_seq fun K11 hK11 => ?_
      refine T_region ?_
      refine L_y (y_assign rfl) rfl ?_
      refine L_nil ?_
      refine hK11 _ _ ?_
      refine T_ret ?_
      repeat (first | with_reducible refine up_then ?_ | with_reducible refine up_in ?_)
      refine ret1 rfl rfl ?_
      first | exact ⟨_, rfl, S1.like0, congrArg Value.bool (decide_eq_false (fun h => by have := h k (by omega); omega)).symm⟩ | exact ⟨_, rfl, S1.like0, congrArg Value.bool (decide_eq_true (fun j hj => hse j (by omega))).symm⟩


set_option maxRecDepth 100000 in
theorem seen_ (s : ByteArray) (w0 : World) (hs : s.size ≤ 1000) :
    Calls Try.prog 39 #[.string s] w0 fun e w' => ∃ u, e = .returned u ∧ Like w0 w' ∧ u = .bool (decide (seenP s)) := by
  refine enter1 (env := [(0, .string s)]) [.string s] Try.func39 rfl Try.ntmps39 rfl rfl ?_
  have S0 := St.start w0 noM
  refine T_seq fun K1 hK1 => ?_
  refine T_region ?_
  refine L_y (y_assign rfl) rfl ?_
  refine L_nil ?_
  refine hK1 _ _ ?_
  refine T_seq fun K2 hK2 => ?_
  refine T_seq fun K3 hK3 => ?_
  refine T_region ?_
  refine L_y (y_assign rfl) rfl ?_
  refine L_nil ?_
  refine hK3 _ _ ?_
  refine T_block ?_
  refine T_loop1 [(0, _)] (fun (k : Nat) => [(3, .int .i64 (k : Int))]) (fun (k : Nat) => s.size - k) (fun (k : Nat) (w : World) => (k ≤ s.size ∧ (∀ j, j < k → 33 ≤ g8 s.data.toList j ∧ g8 s.data.toList j ≤ 126)) ∧ St w0 noM [] w) 0 (Sub.cons rfl (by first | rfl | exact congrArg (Value.int _) (by omega)) (Sub.nil _)) (Sub.cons rfl rfl (Sub.nil _)) ?_ ?_
  ·
    exact ⟨⟨Nat.zero_le _, fun j hj => absurd hj (by omega)⟩, S0⟩
  ·
    intro k w1 hrel
    obtain ⟨⟨hk, hse⟩, S1⟩ := hrel
    refine T_seq fun K4 hK4 => ?_
    refine T_seq fun K5 hK5 => ?_
    refine T_region ?_
    refine L_y (y_move rfl) rfl ?_
    refine L_y (y_move rfl) rfl ?_
    refine L_y (y_lens Try.underlying9 rfl) rfl ?_
    refine L_y (y_lss rfl rfl) rfl ?_
    refine L_nil ?_
    refine hK5 _ _ ?_
    refine T_cond rfl (fun h7 => ?_) (fun h7 => ?_)
    ·
      refine T_skip ?_
      refine hK4 _ _ ?_
      refine T_seq fun K6 hK6 => ?_
      refine T_block ?_
      refine T_seq fun K7 hK7 => ?_
      refine T_region ?_
      refine L_y (y_move rfl) rfl ?_
      refine L_y (y_move rfl) rfl ?_
      refine L_y (y_idxS Try.underlying9 rfl rfl inferInstance (by omega)) rfl ?_
      refine L_y (y_lss rfl rfl) rfl ?_
      refine L_y (y_move rfl) rfl ?_
      refine L_split 14 rfl (fun h14 => ?_) (fun h14 => ?_)
      ·
        refine L_gno rfl rfl rfl ?_
        refine L_gno rfl rfl rfl ?_
        refine L_gno rfl rfl rfl ?_
        refine L_gno rfl rfl rfl ?_
        refine L_y ((by first | exact y_pickT rfl rfl | exact y_pickF rfl rfl)) rfl ?_
        refine L_nil ?_
        refine hK7 _ _ ?_
        refine T_true rfl ?_
        refine T_seq fun K8 hK8 => ?_
        refine T_region ?_
        refine L_y (y_assign rfl) rfl ?_
        refine L_nil ?_
        refine hK8 _ _ ?_
        refine T_ret ?_
        repeat (first | with_reducible refine up_then ?_ | with_reducible refine up_in ?_)
        refine ret1 rfl rfl ?_
        first | exact ⟨_, rfl, S1.like0, congrArg Value.bool (decide_eq_false (fun h => by have := h k (by omega); omega)).symm⟩ | exact ⟨_, rfl, S1.like0, congrArg Value.bool (decide_eq_true (fun j hj => hse j (by omega))).symm⟩
      ·
        refine L_gyes rfl rfl ?_
        refine L_y (y_move rfl) rfl ?_
        refine L_gyes rfl rfl ?_
        refine L_y (y_move rfl) rfl ?_
        refine L_gyes rfl rfl ?_
        refine L_y (y_idxS Try.underlying9 rfl rfl inferInstance (by omega)) rfl ?_
        refine L_gyes rfl rfl ?_
        refine L_y (y_gtr rfl rfl) rfl ?_
        refine L_y ((by first | exact y_pickT rfl rfl | exact y_pickF rfl rfl)) rfl ?_
        refine L_nil ?_
        refine hK7 _ _ ?_
        refine T_cond rfl (fun h19 => ?_) (fun h19 => ?_)
        ·
          refine T_seq fun K9 hK9 => ?_
          refine T_region ?_
          refine L_y (y_assign rfl) rfl ?_
          refine L_nil ?_
          refine hK9 _ _ ?_
          refine T_ret ?_
          repeat (first | with_reducible refine up_then ?_ | with_reducible refine up_in ?_)
          refine ret1 rfl rfl ?_
          first | exact ⟨_, rfl, S1.like0, congrArg Value.bool (decide_eq_false (fun h => by have := h k (by omega); omega)).symm⟩ | exact ⟨_, rfl, S1.like0, congrArg Value.bool (decide_eq_true (fun j hj => hse j (by omega))).symm⟩
        ·
          refine T_skip ?_
          refine hK6 _ _ ?_
          refine T_region ?_
          refine L_y (y_move rfl) rfl ?_
          refine L_y (y_add rfl rfl (i64w (by omega))) rfl ?_
          refine L_y (y_assign rfl) rfl ?_
          refine L_nil ?_
          refine ⟨k + 1, by omega, ⟨⟨by omega, fun j hj => by rcases Nat.lt_or_ge j k with q | q; exact hse j q; (have e9 : j = k := by omega); subst e9; omega⟩, S1⟩, ?_⟩
          exact (Sub.cons rfl (by first | rfl | exact congrArg (Value.int _) (by omega)) (Sub.cons rfl rfl (Sub.nil _)))
    ·
      refine T_exit ?_
      refine hK2 _ _ ?_
      refine T_seq fun K10 hK10 => ?_
      refine T_region ?_
      refine L_y (y_assign rfl) rfl ?_
      refine L_nil ?_
      refine hK10 _ _ ?_
      refine T_ret ?_
      repeat (first | with_reducible refine up_then ?_ | with_reducible refine up_in ?_)
      refine ret1 rfl rfl ?_
      first | exact ⟨_, rfl, S1.like0, congrArg Value.bool (decide_eq_false (fun h => by have := h k (by omega); omega)).symm⟩ | exact ⟨_, rfl, S1.like0, congrArg Value.bool (decide_eq_true (fun j hj => hse j (by omega))).symm⟩


set_option maxRecDepth 100000 in
theorem sidx (s : ByteArray) (w0 : World)  :
    Calls Try.prog 54 #[.string s, .string ⟨#[47]⟩] w0 fun e w' => ∃ u, e = .returned u ∧ Like w0 w' ∧ u = .int .i64 (Lib.indexByte s.data.toList 47) := by
  refine enter1 (env := [(0, .string s), (1, .string ⟨#[47]⟩)]) [.string s, .string ⟨#[47]⟩] Try.func54 rfl Try.ntmps54 rfl rfl ?_
  have h1z : (⟨#[47]⟩ : ByteArray).size = 1 := rfl; have S0 := St.start w0 noM
  refine T_seq fun K1 hK1 => ?_
  refine T_region ?_
  refine L_y (y_assign rfl) rfl ?_
  refine L_nil ?_
  refine hK1 _ _ ?_
  refine T_seq fun K2 hK2 => ?_
  refine T_region ?_
  refine L_y (y_move rfl) rfl ?_
  refine L_y (y_lens Try.underlying9 rfl) rfl ?_
  refine L_y (y_assign rfl) rfl ?_
  refine L_nil ?_
  refine hK2 _ _ ?_
  refine T_seq fun K3 hK3 => ?_
  refine T_block ?_
  refine T_seq fun K4 hK4 => ?_
  refine T_region ?_
  refine L_y (y_move rfl) rfl ?_
  refine L_y (y_eql rfl rfl) rfl ?_
  refine L_y (y_move rfl) rfl ?_
  refine L_split 19 rfl (fun h19 => ?_) (fun h19 => ?_)
  ·
    omega
  ·
    refine L_gyes rfl rfl ?_
    refine L_y (y_move rfl) rfl ?_
    refine L_gyes rfl rfl ?_
    refine L_y (y_move rfl) rfl ?_
    refine L_gyes rfl rfl ?_
    refine L_y (y_seql rfl rfl) rfl ?_
    refine L_y ((by first | exact y_pickT rfl rfl | exact y_pickF rfl rfl)) rfl ?_
    refine L_y (y_assign rfl) rfl ?_
    refine L_nil ?_
    refine hK4 _ _ ?_
    refine T_cond rfl (fun h16 => ?_) (fun h16 => ?_)
    ·
      refine T_seq fun K5 hK5 => ?_
      refine T_region ?_
      refine L_y (y_assign rfl) rfl ?_
      refine L_nil ?_
      refine hK5 _ _ ?_
      refine T_ret ?_
      repeat (first | with_reducible refine up_then ?_ | with_reducible refine up_in ?_)
      refine ret1 rfl rfl ?_
      subst h16
      exact ⟨_, rfl, S0.like0, congrArg (Value.int _) idx_self.symm⟩
    ·
      refine T_seq fun K6 hK6 => ?_
      refine T_region ?_
      refine L_y (y_move rfl) rfl ?_
      refine L_y (y_eql rfl rfl) rfl ?_
      refine L_y (y_assign rfl) rfl ?_
      refine L_nil ?_
      refine hK6 _ _ ?_
      refine T_cond rfl (fun h24 => ?_) (fun h24 => ?_)
      ·
        refine T_seq fun K7 hK7 => ?_
        refine T_region ?_
        refine L_y (y_move rfl) rfl ?_
        refine L_y (y_move rfl) rfl ?_
        refine L_y (y_idxS Try.underlying9 rfl rfl inferInstance (by omega)) rfl ?_
        refine L_o (o_call Try.func61 rfl rfl (strIdx s w0) rfl rfl ?_)
        rintro e2 w2 ⟨v2, rfl, l2, rfl⟩
        refine ⟨_, rfl, ?_⟩
        have S2 := S0.like l2
        refine L_y (y_assign rfl) rfl ?_
        refine L_nil ?_
        refine hK7 _ _ ?_
        refine T_ret ?_
        repeat (first | with_reducible refine up_then ?_ | with_reducible refine up_in ?_)
        refine ret1 rfl rfl ?_
        exact ⟨_, rfl, S2.like0, rfl⟩
      ·
        omega


set_option maxRecDepth 100000 in
theorem sidx2 (s : ByteArray) (w0 : World)  :
    Calls Try.prog 47 #[.string s, .string ⟨#[47]⟩] w0 fun e w' => ∃ u, e = .returned u ∧ Like w0 w' ∧ u = .int .i64 (Lib.indexByte s.data.toList 47) := by
  refine enter1 (env := [(0, .string s), (1, .string ⟨#[47]⟩)]) [.string s, .string ⟨#[47]⟩] Try.func47 rfl Try.ntmps47 rfl rfl ?_
  have S0 := St.start w0 noM
  refine T_seq fun K1 hK1 => ?_
  refine T_region ?_
  refine L_y (y_assign rfl) rfl ?_
  refine L_nil ?_
  refine hK1 _ _ ?_
  refine T_seq fun K2 hK2 => ?_
  refine T_region ?_
  refine L_y (y_move rfl) rfl ?_
  refine L_y (y_move rfl) rfl ?_
  refine L_o (o_call Try.func54 rfl rfl (sidx s w0) rfl rfl ?_)
  rintro e1 w1 ⟨v1, rfl, l1, rfl⟩
  refine ⟨_, rfl, ?_⟩
  have S1 := S0.like l1
  refine L_y (y_assign rfl) rfl ?_
  refine L_nil ?_
  refine hK2 _ _ ?_
  refine T_ret ?_
  repeat (first | with_reducible refine up_then ?_ | with_reducible refine up_in ?_)
  refine ret1 rfl rfl ?_
  exact ⟨_, rfl, S1.like0, rfl⟩


set_option maxRecDepth 100000 in
theorem contai (s : ByteArray) (w0 : World)  :
    Calls Try.prog 38 #[.string s, .string ⟨#[47]⟩] w0 fun e w' => ∃ u, e = .returned u ∧ Like w0 w' ∧ u = .bool (decide ((47 : UInt8) ∈ s.data.toList)) := by
  refine enter1 (env := [(0, .string s), (1, .string ⟨#[47]⟩)]) [.string s, .string ⟨#[47]⟩] Try.func38 rfl Try.ntmps38 rfl rfl ?_
  have S0 := St.start w0 noM
  refine T_seq fun K1 hK1 => ?_
  refine T_region ?_
  refine L_y (y_assign rfl) rfl ?_
  refine L_nil ?_
  refine hK1 _ _ ?_
  refine T_seq fun K2 hK2 => ?_
  refine T_region ?_
  refine L_y (y_move rfl) rfl ?_
  refine L_y (y_move rfl) rfl ?_
  refine L_o (o_call Try.func47 rfl rfl (sidx2 s w0) rfl rfl ?_)
  rintro e1 w1 ⟨v1, rfl, l1, rfl⟩
  refine ⟨_, rfl, ?_⟩
  have S1 := S0.like l1
  refine L_y (y_geq rfl rfl) rfl ?_
  refine L_y (y_assign rfl) rfl ?_
  refine L_nil ?_
  refine hK2 _ _ ?_
  refine T_ret ?_
  repeat (first | with_reducible refine up_then ?_ | with_reducible refine up_in ?_)
  refine ret1 rfl rfl ?_
  exact ⟨_, rfl, S1.like0, congrArg Value.bool (decide_eq_decide.2 (idx_ge _ _))⟩


set_option maxRecDepth 100000 in
theorem pname (s : ByteArray) (w0 : World)  :
    Calls Try.prog 27 #[.string s] w0 fun e w' => ∃ u, e = .returned u ∧ Like w0 w' ∧ u = .bool (nmOk s) := by
  refine enter1 (env := [(0, .string s)]) [.string s] Try.func27 rfl Try.ntmps27 rfl rfl ?_
  have S0 := St.start w0 noM
  refine T_seq fun K1 hK1 => ?_
  refine T_region ?_
  refine L_y (y_assign rfl) rfl ?_
  refine L_nil ?_
  refine hK1 _ _ ?_
  refine T_seq fun K2 hK2 => ?_
  refine T_region ?_
  refine L_y (y_move rfl) rfl ?_
  refine L_y (y_lens Try.underlying9 rfl) rfl ?_
  refine L_y (y_gtr rfl rfl) rfl ?_
  refine L_y (y_move rfl) rfl ?_
  refine L_split 6 rfl (fun h6 => ?_) (fun h6 => ?_)
  ·
    have q6 : 1 ≤ s.size := by omega
    refine L_gyes rfl rfl ?_
    refine L_y (y_move rfl) rfl ?_
    refine L_gyes rfl rfl ?_
    refine L_y (y_lens Try.underlying9 rfl) rfl ?_
    refine L_gyes rfl rfl ?_
    refine L_y (y_leq rfl rfl) rfl ?_
    refine L_y ((by first | exact y_pickT rfl rfl | exact y_pickF rfl rfl)) rfl ?_
    refine L_y (y_move rfl) rfl ?_
    refine L_split 11 rfl (fun h11 => ?_) (fun h11 => ?_)
    ·
      have q11 : s.size ≤ 32 := by omega
      refine L_gyes rfl rfl ?_
      refine L_y (y_move rfl) rfl ?_
      refine L_gyes rfl rfl ?_
      refine L_o (o_call Try.func37 rfl rfl (plain_ s w0 (by omega)) rfl rfl ?_)
      rintro e3 w3 ⟨v3, rfl, l3, rfl⟩
      refine ⟨_, rfl, ?_⟩
      have S3 := S0.like l3
      refine L_y ((by first | exact y_pickT rfl rfl | exact y_pickF rfl rfl)) rfl ?_
      refine L_y (y_move rfl) rfl ?_
      refine L_split 15 rfl (fun h15 => ?_) (fun h15 => ?_)
      ·
        have q15 : seenP s := by first | exact of_decide_eq_true h15 | exact of_decide_eq_false h15 | simpa using h15
        refine L_gyes rfl rfl ?_
        refine L_y (y_move rfl) rfl ?_
        refine L_gyes rfl rfl ?_
        refine L_o (o_call Try.func38 rfl rfl (contai s w3) rfl rfl ?_)
        rintro e5 w5 ⟨v5, rfl, l5, rfl⟩
        refine ⟨_, rfl, ?_⟩
        have S5 := S3.like l5
        refine L_gyes rfl rfl ?_
        refine L_y ((by first | exact y_notD rfl | exact y_not rfl)) rfl ?_
        refine L_y ((by first | exact y_pickT rfl rfl | exact y_pickF rfl rfl)) rfl ?_
        refine L_y (y_move rfl) rfl ?_
        refine L_split 20 rfl (fun h20 => ?_) (fun h20 => ?_)
        ·
          have q20 : (47 : UInt8) ∉ s.data.toList := by simpa using h20
          refine L_gyes rfl rfl ?_
          refine L_y (y_move rfl) rfl ?_
          refine L_gyes rfl rfl ?_
          refine L_y (y_sneq rfl rfl) rfl ?_
          refine L_y ((by first | exact y_pickT rfl rfl | exact y_pickF rfl rfl)) rfl ?_
          refine L_y (y_move rfl) rfl ?_
          refine L_split 24 rfl (fun h24 => ?_) (fun h24 => ?_)
          ·
            have q24 : s ≠ ⟨#[46]⟩ := by simpa using h24
            refine L_gyes rfl rfl ?_
            refine L_y (y_move rfl) rfl ?_
            refine L_gyes rfl rfl ?_
            refine L_y (y_sneq rfl rfl) rfl ?_
            refine L_y ((by first | exact y_pickT rfl rfl | exact y_pickF rfl rfl)) rfl ?_
            refine L_y (y_assign rfl) rfl ?_
            refine L_nil ?_
            refine hK2 _ _ ?_
            refine T_ret ?_
            repeat (first | with_reducible refine up_then ?_ | with_reducible refine up_in ?_)
            refine ret1 rfl rfl ?_
            exact ⟨_, rfl, S5.like0, congrArg Value.bool (by unfold nmOk; simp [q24, q20, q15, q11, q6])⟩
          ·
            have q24 : ¬ s ≠ ⟨#[46]⟩ := by simpa using h24
            refine L_gno rfl rfl rfl ?_
            refine L_gno rfl rfl rfl ?_
            refine L_y ((by first | exact y_pickT rfl rfl | exact y_pickF rfl rfl)) rfl ?_
            refine L_y (y_assign rfl) rfl ?_
            refine L_nil ?_
            refine hK2 _ _ ?_
            refine T_ret ?_
            repeat (first | with_reducible refine up_then ?_ | with_reducible refine up_in ?_)
            refine ret1 rfl rfl ?_
            exact ⟨_, rfl, S5.like0, congrArg Value.bool (by unfold nmOk; simp [q24, q20, q15, q11, q6])⟩
        ·
          have q20 : (47 : UInt8) ∈ s.data.toList := Decidable.not_not.1 h20
          refine L_gno rfl rfl rfl ?_
          refine L_gno rfl rfl rfl ?_
          refine L_y ((by first | exact y_pickT rfl rfl | exact y_pickF rfl rfl)) rfl ?_
          refine L_y (y_move rfl) rfl ?_
          refine L_gno rfl rfl rfl ?_
          refine L_gno rfl rfl rfl ?_
          refine L_y ((by first | exact y_pickT rfl rfl | exact y_pickF rfl rfl)) rfl ?_
          refine L_y (y_assign rfl) rfl ?_
          refine L_nil ?_
          refine hK2 _ _ ?_
          refine T_ret ?_
          repeat (first | with_reducible refine up_then ?_ | with_reducible refine up_in ?_)
          refine ret1 rfl rfl ?_
          exact ⟨_, rfl, S5.like0, congrArg Value.bool (by unfold nmOk; simp [q20, q15, q11, q6])⟩
      ·
        have q15 : ¬ seenP s := by first | exact of_decide_eq_true h15 | exact of_decide_eq_false h15 | simpa using h15
        refine L_gno rfl rfl rfl ?_
        refine L_gno rfl rfl rfl ?_
        refine L_gno rfl rfl rfl ?_
        refine L_y ((by first | exact y_pickT rfl rfl | exact y_pickF rfl rfl)) rfl ?_
        refine L_y (y_move rfl) rfl ?_
        refine L_gno rfl rfl rfl ?_
        refine L_gno rfl rfl rfl ?_
        refine L_y ((by first | exact y_pickT rfl rfl | exact y_pickF rfl rfl)) rfl ?_
        refine L_y (y_move rfl) rfl ?_
        refine L_gno rfl rfl rfl ?_
        refine L_gno rfl rfl rfl ?_
        refine L_y ((by first | exact y_pickT rfl rfl | exact y_pickF rfl rfl)) rfl ?_
        refine L_y (y_assign rfl) rfl ?_
        refine L_nil ?_
        refine hK2 _ _ ?_
        refine T_ret ?_
        repeat (first | with_reducible refine up_then ?_ | with_reducible refine up_in ?_)
        refine ret1 rfl rfl ?_
        exact ⟨_, rfl, S3.like0, congrArg Value.bool (by unfold nmOk; simp [q15, q11, q6])⟩
    ·
      have q11 : ¬ s.size ≤ 32 := by omega
      refine L_gno rfl rfl rfl ?_
      refine L_gno rfl rfl rfl ?_
      refine L_y ((by first | exact y_pickT rfl rfl | exact y_pickF rfl rfl)) rfl ?_
      refine L_y (y_move rfl) rfl ?_
      refine L_gno rfl rfl rfl ?_
      refine L_gno rfl rfl rfl ?_
      refine L_gno rfl rfl rfl ?_
      refine L_y ((by first | exact y_pickT rfl rfl | exact y_pickF rfl rfl)) rfl ?_
      refine L_y (y_move rfl) rfl ?_
      refine L_gno rfl rfl rfl ?_
      refine L_gno rfl rfl rfl ?_
      refine L_y ((by first | exact y_pickT rfl rfl | exact y_pickF rfl rfl)) rfl ?_
      refine L_y (y_move rfl) rfl ?_
      refine L_gno rfl rfl rfl ?_
      refine L_gno rfl rfl rfl ?_
      refine L_y ((by first | exact y_pickT rfl rfl | exact y_pickF rfl rfl)) rfl ?_
      refine L_y (y_assign rfl) rfl ?_
      refine L_nil ?_
      refine hK2 _ _ ?_
      refine T_ret ?_
      repeat (first | with_reducible refine up_then ?_ | with_reducible refine up_in ?_)
      refine ret1 rfl rfl ?_
      exact ⟨_, rfl, S0.like0, congrArg Value.bool (by unfold nmOk; simp [q11, q6])⟩
  ·
    have q6 : ¬ 1 ≤ s.size := by omega
    refine L_gno rfl rfl rfl ?_
    refine L_gno rfl rfl rfl ?_
    refine L_gno rfl rfl rfl ?_
    refine L_y ((by first | exact y_pickT rfl rfl | exact y_pickF rfl rfl)) rfl ?_
    refine L_y (y_move rfl) rfl ?_
    refine L_gno rfl rfl rfl ?_
    refine L_gno rfl rfl rfl ?_
    refine L_y ((by first | exact y_pickT rfl rfl | exact y_pickF rfl rfl)) rfl ?_
    refine L_y (y_move rfl) rfl ?_
    refine L_gno rfl rfl rfl ?_
    refine L_gno rfl rfl rfl ?_
    refine L_gno rfl rfl rfl ?_
    refine L_y ((by first | exact y_pickT rfl rfl | exact y_pickF rfl rfl)) rfl ?_
    refine L_y (y_move rfl) rfl ?_
    refine L_gno rfl rfl rfl ?_
    refine L_gno rfl rfl rfl ?_
    refine L_y ((by first | exact y_pickT rfl rfl | exact y_pickF rfl rfl)) rfl ?_
    refine L_y (y_move rfl) rfl ?_
    refine L_gno rfl rfl rfl ?_
    refine L_gno rfl rfl rfl ?_
    refine L_y ((by first | exact y_pickT rfl rfl | exact y_pickF rfl rfl)) rfl ?_
    refine L_y (y_assign rfl) rfl ?_
    refine L_nil ?_
    refine hK2 _ _ ?_
    refine T_ret ?_
    repeat (first | with_reducible refine up_then ?_ | with_reducible refine up_in ?_)
    refine ret1 rfl rfl ?_
    exact ⟨_, rfl, S0.like0, congrArg Value.bool (by unfold nmOk; simp [q6])⟩


set_option maxRecDepth 100000 in
theorem parts (s : ByteArray) (w0 : World) (hs : s.size ≤ 1000) :
    Calls Try.prog 40 #[.string s] w0 fun e w' => ∃ u, e = .returned u ∧ Like w0 w' ∧ ∃ A' c', u = .slice A' (if s.size = 0 then 0 else cnSl s.data.toList + 1) c' := by
  refine enter1 (env := [(0, .string s)]) [.string s] Try.func40 rfl Try.ntmps40 rfl rfl ?_
  have S0 := St.start w0 noM
  refine T_seq fun K1 hK1 => ?_
  refine T_region ?_
  refine L_y (y_assign rfl) rfl ?_
  refine L_nil ?_
  refine hK1 _ _ ?_
  refine T_seq fun K2 hK2 => ?_
  refine T_region ?_
  have S1 := S0.nilrow 9 1
  refine L_y (y_assign rfl) rfl ?_
  refine L_nil ?_
  refine hK2 _ _ ?_
  refine T_seq fun K3 hK3 => ?_
  refine T_seq fun K4 hK4 => ?_
  refine T_region ?_
  refine L_y (y_move rfl) rfl ?_
  refine L_y (y_seql rfl rfl) rfl ?_
  refine L_nil ?_
  refine hK4 _ _ ?_
  refine T_cond rfl (fun h7 => ?_) (fun h7 => ?_)
  ·
    refine T_seq fun K5 hK5 => ?_
    refine T_region ?_
    refine L_y (y_move rfl) rfl ?_
    refine L_y (y_assign rfl) rfl ?_
    refine L_nil ?_
    refine hK5 _ _ ?_
    refine T_ret ?_
    repeat (first | with_reducible refine up_then ?_ | with_reducible refine up_in ?_)
    refine ret1 rfl rfl ?_
    have hz : s.size = 0 := by rw [h7]; rfl
    exact ⟨_, rfl, S1.like0, none, 0, by rw [if_pos hz]⟩
  ·
    refine T_skip ?_
    refine hK3 _ _ ?_
    refine T_seq fun K6 hK6 => ?_
    refine T_region ?_
    refine L_y (y_assign rfl) rfl ?_
    refine L_nil ?_
    refine hK6 _ _ ?_
    refine T_seq fun K7 hK7 => ?_
    refine T_seq fun K8 hK8 => ?_
    refine T_region ?_
    refine L_y (y_assign rfl) rfl ?_
    refine L_nil ?_
    refine hK8 _ _ ?_
    refine T_block ?_
    refine T_loop5 [(0, _)] (fun (k : Nat) (nw : ByteArray) (A1 : Option Addr) (c1 : Nat) (xs : List Value) => [(3, .slice A1 (cnSl (s.data.toList.take k)) c1), (4, .string nw), (5, .int .i64 (k : Int))]) (fun (k : Nat) (nw : ByteArray) (A1 : Option Addr) (c1 : Nat) (xs : List Value) => s.size - k) (fun (k : Nat) (nw : ByteArray) (A1 : Option Addr) (c1 : Nat) (xs : List Value) (w : World) => (k ≤ s.size ∧ nw.size ≤ k) ∧ St w0 noM [row 9 1 A1 (cnSl (s.data.toList.take k)) c1 xs] w) 0 ⟨#[]⟩ none 0 [] (Sub.cons rfl (by first | rfl | exact congrArg (Value.int _) (by omega)) (Sub.cons rfl (by first | rfl | exact congrArg (Value.int _) (by omega)) (Sub.cons rfl (by first | rfl | exact congrArg (Value.int _) (by omega)) (Sub.nil _)))) (Sub.cons rfl rfl (Sub.nil _)) ?_ ?_
    ·
      exact ⟨⟨Nat.zero_le _, Nat.le_refl _⟩, S1⟩
    ·
      intro k nw A1 c1 xs w2 hrel
      obtain ⟨⟨hk, hnw⟩, S2⟩ := hrel
      have hcl := cn_le (s.data.toList.take k)
      rw [List.length_take, size_toList] at hcl
      have hex : (s.extract k (k + 1)).size ≤ 1 := by rw [ByteArray.size_extract]; omega
      refine T_seq fun K9 hK9 => ?_
      refine T_seq fun K10 hK10 => ?_
      refine T_region ?_
      refine L_y (y_move rfl) rfl ?_
      refine L_y (y_move rfl) rfl ?_
      refine L_y (y_lens Try.underlying9 rfl) rfl ?_
      refine L_y (y_lss rfl rfl) rfl ?_
      refine L_nil ?_
      refine hK10 _ _ ?_
      refine T_cond rfl (fun h12 => ?_) (fun h12 => ?_)
      ·
        refine T_skip ?_
        refine hK9 _ _ ?_
        refine T_seq fun K11 hK11 => ?_
        refine T_block ?_
        refine T_seq fun K12 hK12 => ?_
        refine T_region ?_
        refine L_y (y_move rfl) rfl ?_
        refine L_y (y_move rfl) rfl ?_
        refine L_y (y_idxS Try.underlying9 rfl rfl inferInstance (by omega)) rfl ?_
        refine L_y (y_eql rfl rfl) rfl ?_
        refine L_nil ?_
        refine hK12 _ _ ?_
        refine T_cond rfl (fun h18 => ?_) (fun h18 => ?_)
        ·
          refine T_seq fun K13 hK13 => ?_
          refine T_region ?_
          refine L_y (y_move rfl) rfl ?_
          refine L_y (y_move rfl) rfl ?_
          refine L_o (o_bsl [_] te44 zz9 S2 rfl rfl rfl rfl rfl rfl rfl rfl fun b3 w3 S3 => ?_)
          refine L_o (o_app te44 S3 0 rfl rfl rfl (by first | exact S3.row 0 rfl | exact S3.row 1 rfl) (by first | exact bL_one _ | exact iL_one _ | (intro u hu; simp at hu; subst hu; rfl) | (simp; done) | (simp [Value.oneCell']; done)) rfl (by omega) (by omega) fun A4 c4 w4 S4 => ?_)
          have S4d := S4.drop (rs' := [_]) (.cons_cons _ (.cons _ (.refl _)))
          refine L_y (y_assign rfl) rfl ?_
          refine L_nil ?_
          refine hK13 _ _ ?_
          refine T_region ?_
          refine L_y (y_assign rfl) rfl ?_
          refine L_nil ?_
          refine hK11 _ _ ?_
          refine T_region ?_
          refine L_y (y_move rfl) rfl ?_
          refine L_y (y_add rfl rfl (i64w (by omega))) rfl ?_
          refine L_y (y_assign rfl) rfl ?_
          refine L_nil ?_
          have hcs := cn_step (l := s.data.toList) (k := k) (by rw [size_toList]; omega)
          rw [if_pos (by omega)] at hcs
          refine ⟨k + 1, ⟨#[]⟩, A4, c4, _, by omega, ⟨⟨by omega, by show 0 ≤ _; omega⟩, by rw [hcs]; exact S4d⟩, ?_⟩
          exact (Sub.cons rfl (by first | (rw [hcs]; rfl) | (rw [hcs, Nat.add_zero])) (Sub.cons rfl (by first | rfl | exact congrArg (Value.int _) (by omega)) (Sub.cons rfl (by first | rfl | exact congrArg (Value.int _) (by omega)) (Sub.cons rfl rfl (Sub.nil _)))))
        ·
          refine T_region ?_
          refine L_y (y_move rfl) rfl ?_
          refine L_y (y_move rfl) rfl ?_
          refine L_y (y_move rfl) rfl ?_
          refine L_y (y_move rfl) rfl ?_
          refine L_y (y_add rfl rfl (i64w (by omega))) rfl ?_
          refine L_y (y_sslice Try.underlying9 rfl rfl rfl inferInstance inferInstance (by omega) (by omega)) rfl ?_
          refine L_y (y_cat rfl rfl (by omega)) rfl ?_
          refine L_y (y_assign rfl) rfl ?_
          refine L_nil ?_
          refine hK11 _ _ ?_
          refine T_region ?_
          refine L_y (y_move rfl) rfl ?_
          refine L_y (y_add rfl rfl (i64w (by omega))) rfl ?_
          refine L_y (y_assign rfl) rfl ?_
          refine L_nil ?_
          have hcs := cn_step (l := s.data.toList) (k := k) (by rw [size_toList]; omega)
          rw [if_neg (by omega)] at hcs
          refine ⟨k + 1, nw ++ s.extract k (k + 1), A1, c1, xs, by omega, ⟨⟨by omega, by rw [ByteArray.size_append]; omega⟩, by rw [hcs]; exact S2⟩, ?_⟩
          exact (Sub.cons rfl (by first | (rw [hcs]; rfl) | (rw [hcs, Nat.add_zero])) (Sub.cons rfl (by first | rfl | exact congrArg (Value.int _) (by omega)) (Sub.cons rfl (by first | rfl | exact congrArg (Value.int _) (by omega)) (Sub.cons rfl rfl (Sub.nil _)))))
      ·
        refine T_exit ?_
        refine hK7 _ _ ?_
        refine T_seq fun K14 hK14 => ?_
        refine T_region ?_
        refine L_y (y_move rfl) rfl ?_
        refine L_y (y_move rfl) rfl ?_
        refine L_o (o_bsl [_] te44 zz9 S2 rfl rfl rfl rfl rfl rfl rfl rfl fun b5 w5 S5 => ?_)
        refine L_o (o_app te44 S5 0 rfl rfl rfl (by first | exact S5.row 0 rfl | exact S5.row 1 rfl) (by first | exact bL_one _ | exact iL_one _ | (intro u hu; simp at hu; subst hu; rfl) | (simp; done) | (simp [Value.oneCell']; done)) rfl (by omega) (by omega) fun A6 c6 w6 S6 => ?_)
        have S6d := S6.drop (rs' := [_]) (.cons_cons _ (.cons _ (.refl _)))
        refine L_y (y_assign rfl) rfl ?_
        refine L_nil ?_
        refine hK14 _ _ ?_
        refine T_ret ?_
        repeat (first | with_reducible refine up_then ?_ | with_reducible refine up_in ?_)
        refine ret1 rfl rfl ?_
        have hz : ¬ s.size = 0 := fun e => h7 (by apply ByteArray.ext; exact Array.eq_empty_of_size_eq_zero e)
        have hkn : k = s.size := by omega
        rw [List.take_of_length_le (by rw [size_toList]; omega)] at *
        exact ⟨_, rfl, S6d.like0, _, _, by rw [if_neg hz]⟩
end Go.Proofs.Ytmgimcdkeelnpaa

/-
  Check.
-/
namespace Go.Proofs.Ytmgimcdkeelnpaa
open Go.RowKit Zk Zx
set_option linter.unusedVariables false
set_option linter.unusedSimpArgs false

def mdOk (m : Int) : Prop := m = 1 ∨ m = 2 ∨ m = 3
instance (m : Int) : Decidable (mdOk m) := inferInstanceAs (Decidable (m = 1 ∨ m = 2 ∨ m = 3))
/-- The first thing that is wrong with an entry. -/
def chk1 : List EV → Int
  | [] => 0
  | e :: l => if ¬ mdOk e.md then 16 else if nmOk e.nm = false then 15 else chk1 l
/-- Do keys rise? -/
def risK : List EV → Bool
  | x :: y :: l => ltK x y && risK (y :: l)
  | _ => true
/-- Is no name there twice? -/
def once (l : List EV) : Prop := (l.map EV.nm).Nodup
instance (l : List EV) : Decidable (once l) := inferInstanceAs (Decidable (l.map EV.nm).Nodup)
def chkE (l : List EV) : Int := if 64 < l.length then 3 else if chk1 l ≠ 0 then chk1 l else if ¬ once l then 17 else if risK l = false then 18 else 0
theorem chk1_at {l : List EV} : ∀ (k : Nat), (∀ j e, j < k → l[j]? = some e → mdOk e.md ∧ nmOk e.nm = true) → k ≤ l.length → chk1 l = chk1 (l.drop k) := by
  induction l with
  | nil => intro k _ hk; simp at hk; rw [hk]; rfl
  | cons e l ih =>
    intro k h hk
    match k with
    | 0 => rfl
    | k + 1 =>
      obtain ⟨h1, h2⟩ := h 0 e (by omega) rfl
      conv => lhs; unfold chk1
      rw [if_neg (fun x => x h1), if_neg (by rw [h2]; exact fun x => by cases x), List.drop_succ_cons]
      exact ih k (fun j e' hj he => h (j + 1) e' (by omega) he) (by simpa using hk)
theorem chk1_md {l : List EV} {k : Nat} {e : EV} (he : l[k]? = some e) (h : ¬ mdOk e.md) : chk1 (l.drop k) = 16 := by
  rw [drop_hd2 he]
  unfold chk1
  rw [if_pos h]
theorem chk1_nm {l : List EV} {k : Nat} {e : EV} (he : l[k]? = some e) (h : mdOk e.md) (h2 : nmOk e.nm = false) : chk1 (l.drop k) = 15 := by
  rw [drop_hd2 he]
  unfold chk1
  rw [if_neg (fun x => x h), if_pos h2]
theorem risK_at : ∀ (l : List EV) (k : Nat), (∀ j x y, j + 1 < k → l[j]? = some x → l[j + 1]? = some y → ltK x y = true) → k ≤ l.length → risK l = risK (l.drop (k - 1))
  | l, 0, _, _ => rfl
  | l, 1, _, _ => rfl
  | [], k + 2, _, h => by simp at h
  | [x], k + 2, _, h => by simp at h
  | x :: y :: l, k + 2, h, hk => by
    have h0 := h 0 x y (by omega) rfl rfl
    have ih := risK_at (y :: l) (k + 1) (fun j a b hj ha hb => h (j + 1) a b (by omega) ha hb) (by simpa using hk)
    show (ltK x y && risK (y :: l)) = _
    rw [h0, Bool.true_and, ih]
    rfl
theorem risK_no {l : List EV} {k : Nat} {x y : EV} (hx : l[k]? = some x) (hy : l[k + 1]? = some y) (h : ltK x y = false) : risK (l.drop k) = false := by
  rw [drop_hd2 hx, drop_hd2 hy]
  show (ltK x y && _) = false
  rw [h]
  rfl
theorem risK_end {l : List EV} {k : Nat} (h : l.length ≤ k + 1) : risK (l.drop k) = true := by
  have : (l.drop k).length ≤ 1 := by rw [List.length_drop]; omega
  match hd : l.drop k with
  | [] => rfl
  | [x] => rfl
  | x :: y :: m => rw [hd] at this; simp at this
theorem once_snoc {l : List EV} {k : Nat} {e : EV} (he : l[k]? = some e) (h : once (l.take k)) (h2 : e.nm ∉ (l.take k).map EV.nm) : once (l.take (k + 1)) := by
  unfold once at *
  rw [take_sn2 he, List.map_append, List.nodup_append]
  refine ⟨h, by simp, fun a ha b hb => ?_⟩
  rw [List.map_singleton, List.mem_singleton] at hb
  subst hb
  exact fun e2 => h2 (by rw [← e2]; exact ha)
theorem not_onceT {l : List EV} {k : Nat} {e : EV} (he : l[k]? = some e) (h2 : e.nm ∈ (l.take k).map EV.nm) : ¬ once (l.take (k + 1)) := fun h3 => by
  unfold once at h3
  rw [take_sn2 he, List.map_append, List.nodup_append] at h3
  exact h3.2.2 _ h2 _ (by simp) rfl
theorem once_sub {l : List EV} (k : Nat) (h : once l) : once (l.take k) := by
  unfold once at *
  exact h.sublist ((List.take_sublist _ _).map _)
theorem once_down {l : List EV} {k : Nat} (h : once (l.take (k + 1))) : once (l.take k) := by
  have := once_sub k h
  rwa [List.take_take, Nat.min_eq_left (by omega)] at this
theorem not_once {l : List EV} {k : Nat} {e : EV} (he : l[k]? = some e) (h2 : e.nm ∈ (l.take k).map EV.nm) : ¬ once l := fun h => not_onceT he h2 (once_sub (k + 1) h)


set_option maxRecDepth 100000 in
theorem rname (s : ByteArray) (w0 : World)  :
    Calls Try.prog 28 #[.string s] w0 fun e w' => ∃ u, e = .returned u ∧ Like w0 w' ∧ u = .bool (nmOk s) := by
  refine enter1 (env := [(0, .string s)]) [.string s] Try.func28 rfl Try.ntmps28 rfl rfl ?_
  have S0 := St.start w0 noM
  refine T_seq fun K1 hK1 => ?_
  refine T_region ?_
  refine L_y (y_assign rfl) rfl ?_
  refine L_nil ?_
  refine hK1 _ _ ?_
  refine T_seq fun K2 hK2 => ?_
  refine T_region ?_
  refine L_y (y_move rfl) rfl ?_
  refine L_y (y_lens Try.underlying9 rfl) rfl ?_
  refine L_y (y_geq rfl rfl) rfl ?_
  refine L_y (y_move rfl) rfl ?_
  refine L_split 6 rfl (fun h6 => ?_) (fun h6 => ?_)
  ·
    have q6 : 1 ≤ s.size := by omega
    refine L_gyes rfl rfl ?_
    refine L_y (y_move rfl) rfl ?_
    refine L_gyes rfl rfl ?_
    refine L_y (y_lens Try.underlying9 rfl) rfl ?_
    refine L_gyes rfl rfl ?_
    refine L_y (y_leq rfl rfl) rfl ?_
    refine L_y ((by first | exact y_pickT rfl rfl | exact y_pickF rfl rfl)) rfl ?_
    refine L_y (y_move rfl) rfl ?_
    refine L_split 11 rfl (fun h11 => ?_) (fun h11 => ?_)
    ·
      have q11 : s.size ≤ 32 := by omega
      refine L_gyes rfl rfl ?_
      refine L_y (y_move rfl) rfl ?_
      refine L_gyes rfl rfl ?_
      refine L_o (o_call Try.func39 rfl rfl (seen_ s w0 (by omega)) rfl rfl ?_)
      rintro e3 w3 ⟨v3, rfl, l3, rfl⟩
      refine ⟨_, rfl, ?_⟩
      have S3 := S0.like l3
      refine L_y ((by first | exact y_pickT rfl rfl | exact y_pickF rfl rfl)) rfl ?_
      refine L_y (y_move rfl) rfl ?_
      refine L_split 15 rfl (fun h15 => ?_) (fun h15 => ?_)
      ·
        have q15 : seenP s := by first | exact of_decide_eq_true h15 | exact of_decide_eq_false h15 | simpa using h15
        refine L_gyes rfl rfl ?_
        refine L_y (y_move rfl) rfl ?_
        refine L_gyes rfl rfl ?_
        refine L_o (o_call Try.func40 rfl rfl (parts s w3 (by omega)) rfl rfl ?_)
        rintro e5 w5 ⟨v5, rfl, l5, A17, c17, rfl⟩
        refine ⟨_, rfl, ?_⟩
        have S5 := S3.like l5
        refine L_gyes rfl rfl ?_
        refine L_y (y_len Try.underlying44 rfl) rfl ?_
        refine L_gyes rfl rfl ?_
        refine L_y (y_eql rfl rfl) rfl ?_
        refine L_y ((by first | exact y_pickT rfl rfl | exact y_pickF rfl rfl)) rfl ?_
        refine L_y (y_move rfl) rfl ?_
        refine L_split 21 rfl (fun h21 => ?_) (fun h21 => ?_)
        ·
          have q21 : (47 : UInt8) ∉ s.data.toList := cn_zero.1 (by rw [if_neg (by omega)] at h21; omega)
          refine L_gyes rfl rfl ?_
          refine L_y (y_move rfl) rfl ?_
          refine L_gyes rfl rfl ?_
          refine L_y (y_sneq rfl rfl) rfl ?_
          refine L_y ((by first | exact y_pickT rfl rfl | exact y_pickF rfl rfl)) rfl ?_
          refine L_y (y_move rfl) rfl ?_
          refine L_split 25 rfl (fun h25 => ?_) (fun h25 => ?_)
          ·
            have q25 : s ≠ ⟨#[46]⟩ := by simpa using h25
            refine L_gyes rfl rfl ?_
            refine L_y (y_move rfl) rfl ?_
            refine L_gyes rfl rfl ?_
            refine L_y (y_sneq rfl rfl) rfl ?_
            refine L_y ((by first | exact y_pickT rfl rfl | exact y_pickF rfl rfl)) rfl ?_
            refine L_y (y_assign rfl) rfl ?_
            refine L_nil ?_
            refine hK2 _ _ ?_
            refine T_ret ?_
            repeat (first | with_reducible refine up_then ?_ | with_reducible refine up_in ?_)
            refine ret1 rfl rfl ?_
            exact ⟨_, rfl, S5.like0, congrArg Value.bool (by unfold nmOk; simp [q25, q21, q15, q11, q6])⟩
          ·
            have q25 : ¬ s ≠ ⟨#[46]⟩ := by simpa using h25
            refine L_gno rfl rfl rfl ?_
            refine L_gno rfl rfl rfl ?_
            refine L_y ((by first | exact y_pickT rfl rfl | exact y_pickF rfl rfl)) rfl ?_
            refine L_y (y_assign rfl) rfl ?_
            refine L_nil ?_
            refine hK2 _ _ ?_
            refine T_ret ?_
            repeat (first | with_reducible refine up_then ?_ | with_reducible refine up_in ?_)
            refine ret1 rfl rfl ?_
            exact ⟨_, rfl, S5.like0, congrArg Value.bool (by unfold nmOk; simp [q25, q21, q15, q11, q6])⟩
        ·
          have q21 : (47 : UInt8) ∈ s.data.toList := Decidable.not_not.1 fun e => by rw [if_neg (by omega), cn_zero.2 e] at h21; exact h21 rfl
          refine L_gno rfl rfl rfl ?_
          refine L_gno rfl rfl rfl ?_
          refine L_y ((by first | exact y_pickT rfl rfl | exact y_pickF rfl rfl)) rfl ?_
          refine L_y (y_move rfl) rfl ?_
          refine L_gno rfl rfl rfl ?_
          refine L_gno rfl rfl rfl ?_
          refine L_y ((by first | exact y_pickT rfl rfl | exact y_pickF rfl rfl)) rfl ?_
          refine L_y (y_assign rfl) rfl ?_
          refine L_nil ?_
          refine hK2 _ _ ?_
          refine T_ret ?_
          repeat (first | with_reducible refine up_then ?_ | with_reducible refine up_in ?_)
          refine ret1 rfl rfl ?_
          exact ⟨_, rfl, S5.like0, congrArg Value.bool (by unfold nmOk; simp [q21, q15, q11, q6])⟩
      ·
        have q15 : ¬ seenP s := by first | exact of_decide_eq_true h15 | exact of_decide_eq_false h15 | simpa using h15
        refine L_gno rfl rfl rfl ?_
        refine L_gno rfl rfl rfl ?_
        refine L_gno rfl rfl rfl ?_
        refine L_gno rfl rfl rfl ?_
        refine L_y ((by first | exact y_pickT rfl rfl | exact y_pickF rfl rfl)) rfl ?_
        refine L_y (y_move rfl) rfl ?_
        refine L_gno rfl rfl rfl ?_
        refine L_gno rfl rfl rfl ?_
        refine L_y ((by first | exact y_pickT rfl rfl | exact y_pickF rfl rfl)) rfl ?_
        refine L_y (y_move rfl) rfl ?_
        refine L_gno rfl rfl rfl ?_
        refine L_gno rfl rfl rfl ?_
        refine L_y ((by first | exact y_pickT rfl rfl | exact y_pickF rfl rfl)) rfl ?_
        refine L_y (y_assign rfl) rfl ?_
        refine L_nil ?_
        refine hK2 _ _ ?_
        refine T_ret ?_
        repeat (first | with_reducible refine up_then ?_ | with_reducible refine up_in ?_)
        refine ret1 rfl rfl ?_
        exact ⟨_, rfl, S3.like0, congrArg Value.bool (by unfold nmOk; simp [q15, q11, q6])⟩
    ·
      have q11 : ¬ s.size ≤ 32 := by omega
      refine L_gno rfl rfl rfl ?_
      refine L_gno rfl rfl rfl ?_
      refine L_y ((by first | exact y_pickT rfl rfl | exact y_pickF rfl rfl)) rfl ?_
      refine L_y (y_move rfl) rfl ?_
      refine L_gno rfl rfl rfl ?_
      refine L_gno rfl rfl rfl ?_
      refine L_gno rfl rfl rfl ?_
      refine L_gno rfl rfl rfl ?_
      refine L_y ((by first | exact y_pickT rfl rfl | exact y_pickF rfl rfl)) rfl ?_
      refine L_y (y_move rfl) rfl ?_
      refine L_gno rfl rfl rfl ?_
      refine L_gno rfl rfl rfl ?_
      refine L_y ((by first | exact y_pickT rfl rfl | exact y_pickF rfl rfl)) rfl ?_
      refine L_y (y_move rfl) rfl ?_
      refine L_gno rfl rfl rfl ?_
      refine L_gno rfl rfl rfl ?_
      refine L_y ((by first | exact y_pickT rfl rfl | exact y_pickF rfl rfl)) rfl ?_
      refine L_y (y_assign rfl) rfl ?_
      refine L_nil ?_
      refine hK2 _ _ ?_
      refine T_ret ?_
      repeat (first | with_reducible refine up_then ?_ | with_reducible refine up_in ?_)
      refine ret1 rfl rfl ?_
      exact ⟨_, rfl, S0.like0, congrArg Value.bool (by unfold nmOk; simp [q11, q6])⟩
  ·
    have q6 : ¬ 1 ≤ s.size := by omega
    refine L_gno rfl rfl rfl ?_
    refine L_gno rfl rfl rfl ?_
    refine L_gno rfl rfl rfl ?_
    refine L_y ((by first | exact y_pickT rfl rfl | exact y_pickF rfl rfl)) rfl ?_
    refine L_y (y_move rfl) rfl ?_
    refine L_gno rfl rfl rfl ?_
    refine L_gno rfl rfl rfl ?_
    refine L_y ((by first | exact y_pickT rfl rfl | exact y_pickF rfl rfl)) rfl ?_
    refine L_y (y_move rfl) rfl ?_
    refine L_gno rfl rfl rfl ?_
    refine L_gno rfl rfl rfl ?_
    refine L_gno rfl rfl rfl ?_
    refine L_gno rfl rfl rfl ?_
    refine L_y ((by first | exact y_pickT rfl rfl | exact y_pickF rfl rfl)) rfl ?_
    refine L_y (y_move rfl) rfl ?_
    refine L_gno rfl rfl rfl ?_
    refine L_gno rfl rfl rfl ?_
    refine L_y ((by first | exact y_pickT rfl rfl | exact y_pickF rfl rfl)) rfl ?_
    refine L_y (y_move rfl) rfl ?_
    refine L_gno rfl rfl rfl ?_
    refine L_gno rfl rfl rfl ?_
    refine L_y ((by first | exact y_pickT rfl rfl | exact y_pickF rfl rfl)) rfl ?_
    refine L_y (y_assign rfl) rfl ?_
    refine L_nil ?_
    refine hK2 _ _ ?_
    refine T_ret ?_
    repeat (first | with_reducible refine up_then ?_ | with_reducible refine up_in ?_)
    refine ret1 rfl rfl ?_
    exact ⟨_, rfl, S0.like0, congrArg Value.bool (by unfold nmOk; simp [q6])⟩
end Go.Proofs.Ytmgimcdkeelnpaa

/-
  Maps from strings to bools: sets of strings. General; nothing here names a program.
-/
namespace Go.Proofs.Ytmgimcdkeelnpaa.Zx
open Go.RowKit Zk Go.Maps
set_option linter.unusedVariables false
set_option linter.unusedSimpArgs false
section
variable {P : Program} {N : Nat} {Q : Post} {env : Env} {w w0 : World} {M : Nat → Prop} {rs : List Res} {K : Env → World → Prop} {d : Tmp} {dst : Option Tmp} {ty : TypeId} {pos : String} {after : Array Edge} {g : Option (Nat × Bool)}
def hasS (L : List ByteArray) (s : ByteArray) : Bool := L.any fun t => decide (t = s)
theorem hasS_iff {L : List ByteArray} {s : ByteArray} : hasS L s = true ↔ s ∈ L := by
  unfold hasS
  rw [List.any_eq_true]
  constructor
  · rintro ⟨t, h1, h2⟩
    rw [← of_decide_eq_true h2]
    exact h1
  · exact fun h => ⟨s, h, decide_eq_true rfl⟩
/-- The map holds just these. -/
def SM (D : DU) (L : List ByteArray) : Prop := IsMap D ∧ ∀ s : ByteArray, D.atKey (.string s.data.toList) (.lit (.bool false)) = .lit (.bool (hasS L s))
theorem SM.nil : SM (.map []) [] := ⟨⟨[], rfl⟩, fun s => rfl⟩
theorem bytes_inj {a b : ByteArray} (h : a.data.toList = b.data.toList) : a = b := by
  apply ByteArray.ext
  exact Array.toList_inj.1 h
theorem SM.put {D : DU} {L : List ByteArray} (h : SM D L) (s : ByteArray) : SM (D.put (.string s.data.toList) (.lit (.bool true))) (L ++ [s]) := by
  refine ⟨?_, fun t => ?_⟩
  · obtain ⟨es, rfl⟩ := h.1
    exact ⟨_, rfl⟩
  · by_cases e : t = s
    · subst e
      rw [atKey_put_same h.1 (show WideAt.IsKeyLit (.string _) from trivial), hasS_iff.2 (by simp)]
    · have e2 : hasS (L ++ [s]) t = hasS L t := by
        rw [Bool.eq_iff_iff, hasS_iff, hasS_iff]
        simp [e]
      rw [atKey_put_other (fun q => e (bytes_inj (by injection q))), h.2 t, e2]
theorem y_lookZ {t k e : TypeId} {b n : Nat} {D : DU} {L : List ByteArray} {m x : Operand} {s : ByteArray} (hown : w.ownsMap P k (plainElem P e) b n D) (hk : P.underlying k = some .string) (ht : P.underlying t = some (.map k e)) (he : P.underlying e = some .bool)
    (hz : ∀ w, (zeroValue e).run P w = .ok (.bool false) w) (hm : ev env m = some (.map (some b))) (hx : ev env x = some (.string s)) (hs : s.size ≤ maxLen) (hc : SM D L) :
    Y P (Like w) env ⟨dst, .lookup t m x false, ty, pos, after, g⟩ (.bool (hasS L s)) := fun N a w' ha hw => by
  have h2 : w'.ownsMap P k (plainElem P e) b n D := (mapR P k e b n D).stable w w' (fun i hi => by have hi' : i = b := hi; subst hi'; exact hw.block i hown.lt) hown
  obtain ⟨v, ps, hrun, hv⟩ := h2.lookup (Maps.string_keyed hk) ht (hz w') (plainElem_bool (H := Unit) he false) (Go.WideMaps.keyOf_string_mk hk hs)
  rw [hc.2 s] at hv
  have e1 : v = .bool (hasS L s) := by
    cases v with
    | bool c =>
      rw [plainElem_bool he] at hv
      have := Option.some.inj hv
      have h3 := congrArg Prod.fst this
      simp only [DataW.lit.injEq, Lit.bool.injEq] at h3
      rw [h3]
    | _ => simp [plainElem, he] at hv
  subst e1
  simp only [execOp, ha.eval hm, ha.eval hx, Sem.run_bind, hrun, Sem.run_pure, Result.andThen_ok]
theorem o_mapUpZ {t k e : TypeId} {b n : Nat} {D : DU} {m x v : Operand} {s : ByteArray} {c : Bool} (S : St w0 M rs w) (j : Nat) (hj : rs[j]? = some (mapR P k e b n D)) (hk : P.underlying k = some .string) (ht : P.underlying t = some (.map k e)) (he : P.underlying e = some .bool)
    (hm : ev env m = some (.map (some b))) (hx : ev env x = some (.string s)) (hv : ev env v = some (.bool c)) (hs : s.size ≤ maxLen) (hn : n < 9223372036854775807)
    (h : ∀ w', St w0 M (rs.set j (mapR P k e b (n + 1) (D.put (.string s.data.toList) (.lit (.bool c))))) w' → K env w') :
    O P N Q ⟨none, .mapUpdate t m x v, ty, pos, after, g⟩ env w K := fun a ha => by
  have hown : w.ownsMap P k (plainElem P e) b n D := S.get j hj
  obtain ⟨w', hrun, h1, h2⟩ := hown.update (Maps.string_keyed hk) ht (by unfold maxLen; exact hn) (Go.WideMaps.keyOf_string_mk hk hs) (plainElem_bool (H := Unit) he c)
  unfold Oper.wp
  simp only [execOp, ha.eval hm, ha.eval hx, ha.eval hv, Sem.run_bind, hrun, Sem.run_pure, Result.andThen_ok]
  refine ⟨env, ha, h w' (S.upd j hj h2.os h2.tape h2.output h2.size (fun i hi hn => h2.block i hi fun e => hn ?_) h1 fun i hi => .inl hi)⟩
  injection e with e
end
end Go.Proofs.Ytmgimcdkeelnpaa.Zx

/-
  tree.Check.
-/
namespace Go.Proofs.Ytmgimcdkeelnpaa
open Go.RowKit Zk Zx
set_option linter.unusedVariables false
set_option linter.unusedSimpArgs false

theorem ok_next {l : List EV} {k : Nat} {x : EV} (h : ∀ j e, j < k → l[j]? = some e → mdOk e.md ∧ nmOk e.nm = true) (hx : l[k]? = some x) (h1 : mdOk x.md) (h2 : nmOk x.nm = true) : ∀ j e, j < k + 1 → l[j]? = some e → mdOk e.md ∧ nmOk e.nm = true := fun j e hj he => by
  rcases Nat.lt_or_ge j k with q | q
  · exact h j e q he
  · obtain rfl : j = k := by omega
    rw [hx] at he
    cases he
    exact ⟨h1, h2⟩
theorem ris_next {l : List EV} {k : Nat} {x y : EV} (h : ∀ j x y, j + 1 < k → l[j]? = some x → l[j + 1]? = some y → ltK x y = true) (hx : l[k - 1]? = some x) (hy : l[k]? = some y) (h0 : 0 < k) (h1 : ltK x y = true) : ∀ j x y, j + 1 < k + 1 → l[j]? = some x → l[j + 1]? = some y → ltK x y = true := fun j a b hj ha hb => by
  rcases Nat.lt_or_ge (j + 1) k with q | q
  · exact h j a b q ha hb
  · obtain rfl : j = k - 1 := by omega
    rw [show k - 1 + 1 = k by omega] at hb
    rw [hx] at ha
    rw [hy] at hb
    cases ha
    cases hb
    exact h1
theorem enf_sz (x : EV) : (enf x).toArray.size = 34 := by rw [List.size_toArray, enf_len]
theorem szE (x : EV) : (Try.prog.info? 39).map (·.size) = some (enf x).toArray.size := sz39.trans (congrArg some (by rw [List.size_toArray, enf_len]))
theorem risK_fin {l : List EV} {k : Nat} (h : ∀ j x y, j + 1 < k → l[j]? = some x → l[j + 1]? = some y → ltK x y = true) (h1 : k ≤ l.length ∨ k = 1) (h2 : l.length ≤ k) : risK l = true := by
  rcases h1 with h1 | h1
  · exact (risK_at l k h h1).trans (risK_end (by omega))
  · subst h1
    match l, h2 with
    | [], _ => rfl
    | [x], _ => rfl
    | x :: y :: m, h2 => simp at h2
theorem chkE_long {l : List EV} (h : 64 < l.length) : chkE l = 3 := by unfold chkE; rw [if_pos h]
theorem chkE_one {l : List EV} {c : Int} (h : ¬ 64 < l.length) (h1 : chk1 l = c) (hc : c ≠ 0) : chkE l = c := by unfold chkE; rw [if_neg h, if_pos (by rw [h1]; exact hc), h1]
theorem chkE_twice {l : List EV} (h : ¬ 64 < l.length) (h1 : chk1 l = 0) (h2 : ¬ once l) : chkE l = 17 := by unfold chkE; rw [if_neg h, if_neg (by omega), if_pos h2]
theorem chkE_ord {l : List EV} (h : ¬ 64 < l.length) (h1 : chk1 l = 0) (h2 : once l) (h3 : risK l = false) : chkE l = 18 := by unfold chkE; rw [if_neg h, if_neg (by omega), if_neg (fun x => x h2), if_pos h3]
theorem chkE_ok {l : List EV} (h : ¬ 64 < l.length) (h1 : chk1 l = 0) (h2 : once l) (h3 : risK l = true) : chkE l = 0 := by unfold chkE; rw [if_neg h, if_neg (by omega), if_neg (fun x => x h2), if_neg (by rw [h3]; exact fun x => by cases x)]


set_option maxRecDepth 100000 in
theorem pcheck (A : Option Addr) (n c : Nat) (l : List EV) (w0 : World) (hl : Rs w0 34 A n c (l.flatMap enf)) (hn5 : n ≤ 10000) :
    Calls Try.prog 10 #[.slice A n c] w0 fun e w' => ∃ u, e = .returned u ∧ Like w0 w' ∧ u = .int .i64 (chkE l) := by
  refine enter1 (env := [(0, .slice A n c)]) [.slice A n c] Try.func10 rfl Try.ntmps10 rfl rfl ?_
  have hn := ens_n hl; have hcap := hl.cap; have hmax := hl.max; have S0 := St.start w0 noM
  refine T_seq fun K1 hK1 => ?_
  refine T_region ?_
  refine L_y (y_assign rfl) rfl ?_
  refine L_nil ?_
  refine hK1 _ _ ?_
  refine T_seq fun K2 hK2 => ?_
  refine T_seq fun K3 hK3 => ?_
  refine T_region ?_
  refine L_y (y_move rfl) rfl ?_
  refine L_y (y_len Try.underlying22 rfl) rfl ?_
  refine L_y (y_gtr rfl rfl) rfl ?_
  refine L_nil ?_
  refine hK3 _ _ ?_
  refine T_cond rfl (fun h10 => ?_) (fun h10 => ?_)
  ·
    refine T_seq fun K4 hK4 => ?_
    refine T_region ?_
    refine L_y (y_assign rfl) rfl ?_
    refine L_nil ?_
    refine hK4 _ _ ?_
    refine T_ret ?_
    repeat (first | with_reducible refine up_then ?_ | with_reducible refine up_in ?_)
    refine ret1 rfl rfl ?_
    exact ⟨_, rfl, S0.like0, congrArg (Value.int _) (chkE_long (by omega)).symm⟩
  ·
    refine T_skip ?_
    refine hK2 _ _ ?_
    refine T_seq fun K5 hK5 => ?_
    refine T_region ?_
    refine L_o (o_makeMap (t := 57) (k := 9) (e := 4) S0 rfl fun b1 w1 hb1 S1 => ?_)
    refine L_y (y_assign rfl) rfl ?_
    refine L_nil ?_
    refine hK5 _ _ ?_
    refine T_seq fun K6 hK6 => ?_
    refine T_region ?_
    refine L_y (y_assign rfl) rfl ?_
    refine L_nil ?_
    refine hK6 _ _ ?_
    refine T_seq fun K7 hK7 => ?_
    refine T_seq fun K8 hK8 => ?_
    refine T_region ?_
    refine L_y (y_move rfl) rfl ?_
    refine L_y (y_len Try.underlying22 rfl) rfl ?_
    refine L_y (y_move rfl) rfl ?_
    refine L_nil ?_
    refine hK8 _ _ ?_
    refine T_block ?_
    refine T_loop3 [(0, _), (3, _), (12, _), (13, _)] (fun (k : Nat) (tw : Bool) (D : DU) => [(14, .int .i64 (k : Int)), (4, .bool tw)]) (fun (k : Nat) (tw : Bool) (D : DU) => n - k) (fun (k : Nat) (tw : Bool) (D : DU) (w : World) => (k ≤ n ∧ (∀ j e, j < k → l[j]? = some e → mdOk e.md ∧ nmOk e.nm = true) ∧ tw = decide (¬ once (l.take k)) ∧ SM D ((l.take k).map EV.nm)) ∧ St w0 noM [mapR Try.prog 9 4 b1 k D] w) 0 false (.map []) (Sub.cons rfl (by first | rfl | exact congrArg (Value.int _) (by omega)) (Sub.cons rfl (by first | rfl | exact congrArg (Value.int _) (by omega)) (Sub.nil _))) (Sub.cons rfl rfl (Sub.cons rfl rfl (Sub.cons rfl rfl (Sub.cons rfl rfl (Sub.nil _))))) ?_ ?_
    ·
      exact ⟨⟨Nat.zero_le _, fun j e hj => absurd hj (by omega), by simp [once], SM.nil⟩, S1⟩
    ·
      intro k tw D w2 hrel
      obtain ⟨⟨hk, hok, htw, hsm⟩, S2⟩ := hrel
      refine T_seq fun K9 hK9 => ?_
      refine T_region ?_
      refine L_y (y_lss rfl rfl) rfl ?_
      refine L_nil ?_
      refine hK9 _ _ ?_
      refine T_seq fun K10 hK10 => ?_
      refine T_cond rfl (fun h15 => ?_) (fun h15 => ?_)
      ·
        obtain ⟨x, hx⟩ : ∃ x, l[k]? = some x := ⟨_, List.getElem?_eq_getElem (by omega)⟩
        refine T_skip ?_
        refine hK10 _ _ ?_
        refine T_seq fun K11 hK11 => ?_
        refine T_block ?_
        refine T_seq fun K12 hK12 => ?_
        refine T_region ?_
        refine L_y (y_idx Try.underlying22 sz39 rfl rfl (S2.rd hl) (Nt.mk (by omega) : Nt _ (k)) (by omega)) rfl ?_
        refine L_y (y_ldp (f := enf) enf_len Try.underlying39 rfl sz39 rfl (S2.rd hl) (by omega) hx) rfl ?_
        refine L_o (o_alloc zz39 S2 rfl fun b3 w3 hb3 S3 => ?_)
        refine L_o (o_stW S3 1 rfl rfl rfl (szE x) ((enf_sz x).trans (by kernel_rfl)) (enf_one x) fun w4 S4 => ?_)
        refine L_nil ?_
        refine hK12 _ _ ?_
        refine T_seq fun K13 hK13 => ?_
        refine T_seq fun K14 hK14 => ?_
        refine T_region ?_
        refine L_y (y_fieldA 1 Try.underlying39 rfl sz3 rfl rfl rfl) rfl ?_
        refine L_y (y_ldc Try.underlying3 rfl rfl (((S4.blk 1 rfl).cell _).trans (by rfl))) rfl ?_
        refine L_o (o_call Try.func26 rfl rfl (mode_ x.md w4) rfl rfl ?_)
        rintro e5 w5 ⟨v5, rfl, l5, rfl⟩
        refine ⟨_, rfl, ?_⟩
        have S5 := S4.like l5
        refine L_y ((by first | exact y_notD rfl | exact y_not rfl)) rfl ?_
        refine L_nil ?_
        refine hK14 _ _ ?_
        refine T_cond rfl (fun h21 => ?_) (fun h21 => ?_)
        ·
          have hmd : ¬ mdOk x.md := h21
          refine T_seq fun K15 hK15 => ?_
          refine T_region ?_
          refine L_y (y_assign rfl) rfl ?_
          refine L_nil ?_
          refine hK15 _ _ ?_
          refine T_ret ?_
          repeat (first | with_reducible refine up_then ?_ | with_reducible refine up_in ?_)
          refine ret1 rfl rfl ?_
          exact ⟨_, rfl, S5.like0, congrArg (Value.int _) (chkE_one (by omega) ((chk1_at k hok (by omega)).trans (chk1_md hx hmd)) (by decide)).symm⟩
        ·
          have hmd : mdOk x.md := Decidable.not_not.1 h21
          refine T_skip ?_
          refine hK13 _ _ ?_
          refine T_seq fun K16 hK16 => ?_
          refine T_seq fun K17 hK17 => ?_
          refine T_region ?_
          refine L_y (y_fieldA 0 Try.underlying39 rfl sz9 rfl rfl rfl) rfl ?_
          refine L_y (y_ldc Try.underlying9 rfl rfl (((S5.blk 1 rfl).cell _).trans (by rfl))) rfl ?_
          refine L_o (o_call Try.func27 rfl rfl (pname x.nm w5) rfl rfl ?_)
          rintro e6 w6 ⟨v6, rfl, l6, rfl⟩
          refine ⟨_, rfl, ?_⟩
          have S6 := S5.like l6
          refine L_y ((by first | exact y_notD rfl | exact y_not rfl)) rfl ?_
          refine L_nil ?_
          refine hK17 _ _ ?_
          refine T_condB rfl (fun h25 => ?_) (fun h25 => ?_)
          ·
            have hnm : nmOk x.nm = false := by simpa using h25
            refine T_seq fun K18 hK18 => ?_
            refine T_region ?_
            refine L_y (y_assign rfl) rfl ?_
            refine L_nil ?_
            refine hK18 _ _ ?_
            refine T_ret ?_
            repeat (first | with_reducible refine up_then ?_ | with_reducible refine up_in ?_)
            refine ret1 rfl rfl ?_
            exact ⟨_, rfl, S6.like0, congrArg (Value.int _) (chkE_one (by omega) ((chk1_at k hok (by omega)).trans (chk1_nm hx hmd hnm)) (by decide)).symm⟩
          ·
            have hnm : nmOk x.nm = true := by simpa using h25
            refine T_skip ?_
            refine hK16 _ _ ?_
            refine T_seq fun K19 hK19 => ?_
            refine T_region ?_
            refine L_y (y_move rfl) rfl ?_
            refine L_y (y_move rfl) rfl ?_
            refine L_splitB 27 rfl (fun h27 => ?_) (fun h27 => ?_)
            ·
              refine L_gno rfl rfl rfl ?_
              refine L_gno rfl rfl rfl ?_
              refine L_gno rfl rfl rfl ?_
              refine L_gno rfl rfl rfl ?_
              refine L_y ((by first | exact y_pickT rfl rfl | exact y_pickF rfl rfl)) rfl ?_
              refine L_y (y_assign rfl) rfl ?_
              refine L_nil ?_
              refine hK19 _ _ ?_
              refine T_region ?_
              refine L_y (y_move rfl) rfl ?_
              refine L_y (y_fieldA 0 Try.underlying39 rfl sz9 rfl rfl rfl) rfl ?_
              refine L_y (y_ldc Try.underlying9 rfl rfl (((S6.blk 1 rfl).cell _).trans (by rfl))) rfl ?_
              refine L_o (o_mapUpZ S6 0 rfl Try.underlying9 Try.underlying57 Try.underlying4 rfl rfl rfl (Nat.le_trans x.h.2 (by decide)) (by omega) fun w8 S8 => ?_)
              refine L_nil ?_
              refine hK11 _ _ ?_
              refine T_region ?_
              refine L_y (y_add rfl rfl (i64w (by omega))) rfl ?_
              refine L_y (y_move rfl) rfl ?_
              refine L_nil ?_
              have hon2 : true = decide (¬ once (l.take (k + 1))) := by have h8 : ¬ once (l.take k) := of_decide_eq_true (htw.symm.trans h27); rw [eq_comm, decide_eq_true_iff]; exact fun h9 => h8 (once_down h9)
              have S9 := S8.drop (.cons_cons _ (.cons _ (.refl _)))
              refine ⟨k + 1, _, _, by omega, ⟨⟨by omega, ok_next hok hx hmd hnm, hon2, by rw [take_sn2 hx, List.map_append]; exact hsm.put x.nm⟩, S9⟩, ?_⟩
              exact (Sub.cons rfl (by first | rfl | exact congrArg (Value.int _) (by omega)) (Sub.cons rfl (by first | rfl | exact congrArg (Value.int _) (by omega)) (Sub.cons rfl rfl (Sub.cons rfl rfl (Sub.cons rfl rfl (Sub.cons rfl rfl (Sub.nil _)))))))
            ·
              refine L_gyes rfl rfl ?_
              refine L_y (y_move rfl) rfl ?_
              refine L_gyes rfl rfl ?_
              refine L_y (y_fieldA 0 Try.underlying39 rfl sz9 rfl rfl rfl) rfl ?_
              refine L_gyes rfl rfl ?_
              refine L_y (y_ldc Try.underlying9 rfl rfl (((S6.blk 1 rfl).cell _).trans (by rfl))) rfl ?_
              refine L_gyes rfl rfl ?_
              refine L_y (y_lookZ (S6.get 0 rfl) Try.underlying9 Try.underlying57 Try.underlying4 zz4 rfl rfl (Nat.le_trans x.h.2 (by decide)) hsm) rfl ?_
              refine L_y ((by first | exact y_pickT rfl rfl | exact y_pickF rfl rfl)) rfl ?_
              refine L_y (y_assign rfl) rfl ?_
              refine L_nil ?_
              refine hK19 _ _ ?_
              refine T_region ?_
              refine L_y (y_move rfl) rfl ?_
              refine L_y (y_fieldA 0 Try.underlying39 rfl sz9 rfl rfl rfl) rfl ?_
              refine L_y (y_ldc Try.underlying9 rfl rfl (((S6.blk 1 rfl).cell _).trans (by rfl))) rfl ?_
              refine L_o (o_mapUpZ S6 0 rfl Try.underlying9 Try.underlying57 Try.underlying4 rfl rfl rfl (Nat.le_trans x.h.2 (by decide)) (by omega) fun w9 S9 => ?_)
              refine L_nil ?_
              refine hK11 _ _ ?_
              refine T_region ?_
              refine L_y (y_add rfl rfl (i64w (by omega))) rfl ?_
              refine L_y (y_move rfl) rfl ?_
              refine L_nil ?_
              have hon2 : hasS ((l.take k).map EV.nm) x.nm = decide (¬ once (l.take (k + 1))) := by rw [Bool.eq_iff_iff, hasS_iff, decide_eq_true_iff]; have h8 : once (l.take k) := Decidable.not_not.1 (of_decide_eq_false (htw.symm.trans h27)); exact ⟨fun h => not_onceT hx h, fun h => Classical.byContradiction fun h9 => h (once_snoc hx h8 h9)⟩
              have S9 := S9.drop (.cons_cons _ (.cons _ (.refl _)))
              refine ⟨k + 1, _, _, by omega, ⟨⟨by omega, ok_next hok hx hmd hnm, hon2, by rw [take_sn2 hx, List.map_append]; exact hsm.put x.nm⟩, S9⟩, ?_⟩
              exact (Sub.cons rfl (by first | rfl | exact congrArg (Value.int _) (by omega)) (Sub.cons rfl (by first | rfl | exact congrArg (Value.int _) (by omega)) (Sub.cons rfl rfl (Sub.cons rfl rfl (Sub.cons rfl rfl (Sub.cons rfl rfl (Sub.nil _)))))))
      ·
        have hkn : k = n := by omega
        rw [List.take_of_length_le (by omega)] at htw
        have hc1 : chk1 l = 0 := (chk1_at k hok (by omega)).trans (by rw [List.drop_of_length_le (by omega)]; rfl)
        refine T_exit ?_
        refine hK7 _ _ ?_
        refine T_seq fun K20 hK20 => ?_
        refine T_seq fun K21 hK21 => ?_
        refine T_region ?_
        refine L_y (y_move rfl) rfl ?_
        refine L_nil ?_
        refine hK21 _ _ ?_
        refine T_condB rfl (fun h37 => ?_) (fun h37 => ?_)
        ·
          have hon : ¬ once l := of_decide_eq_true (htw.symm.trans h37)
          refine T_seq fun K22 hK22 => ?_
          refine T_region ?_
          refine L_y (y_assign rfl) rfl ?_
          refine L_nil ?_
          refine hK22 _ _ ?_
          refine T_ret ?_
          repeat (first | with_reducible refine up_then ?_ | with_reducible refine up_in ?_)
          refine ret1 rfl rfl ?_
          exact ⟨_, rfl, S2.like0, congrArg (Value.int _) (chkE_twice (by omega) hc1 hon).symm⟩
        ·
          have hon : once l := Decidable.not_not.1 (of_decide_eq_false (htw.symm.trans h37))
          refine T_skip ?_
          refine hK20 _ _ ?_
          refine T_seq fun K23 hK23 => ?_
          refine T_seq fun K24 hK24 => ?_
          refine T_region ?_
          refine L_y (y_assign rfl) rfl ?_
          refine L_nil ?_
          refine hK24 _ _ ?_
          refine T_block ?_
          refine T_loop1 [(0, _)] (fun (k : Nat) => [(7, .int .i64 (k : Int))]) (fun (k : Nat) => n - k) (fun (k : Nat) (w : World) => ((1 ≤ k ∧ (k ≤ n ∨ k = 1)) ∧ (∀ j x y, j + 1 < k → l[j]? = some x → l[j + 1]? = some y → ltK x y = true)) ∧ St w0 noM [] w) 1 (Sub.cons rfl (by first | rfl | exact congrArg (Value.int _) (by omega)) (Sub.nil _)) (Sub.cons rfl rfl (Sub.nil _)) ?_ ?_
          ·
            exact ⟨⟨⟨Nat.le_refl _, .inr rfl⟩, fun j x y hj => absurd hj (by omega)⟩, S2.drop (.cons _ (.refl _))⟩
          ·
            intro k w10 hrel
            obtain ⟨⟨⟨hk1, hk2⟩, hri⟩, S10⟩ := hrel
            refine T_seq fun K25 hK25 => ?_
            refine T_seq fun K26 hK26 => ?_
            refine T_region ?_
            refine L_y (y_move rfl) rfl ?_
            refine L_y (y_move rfl) rfl ?_
            refine L_y (y_len Try.underlying22 rfl) rfl ?_
            refine L_y (y_lss rfl rfl) rfl ?_
            refine L_nil ?_
            refine hK26 _ _ ?_
            refine T_cond rfl (fun h41 => ?_) (fun h41 => ?_)
            ·
              obtain ⟨x, hx⟩ : ∃ x, l[k - 1]? = some x := ⟨_, List.getElem?_eq_getElem (by omega)⟩
              obtain ⟨y, hy⟩ : ∃ y, l[k]? = some y := ⟨_, List.getElem?_eq_getElem (by omega)⟩
              refine T_skip ?_
              refine hK25 _ _ ?_
              refine T_seq fun K27 hK27 => ?_
              refine T_block ?_
              refine T_seq fun K28 hK28 => ?_
              refine T_tail 9 hmix (by kernel_rfl) fun w11 l11 K29 hK29 => ?_
              have S11 := S10.like l11
              refine HL_y (y_move rfl) rfl ?_
              refine HL_y (y_move rfl) rfl ?_
              refine HL_y (y_sub rfl rfl (i64w (by omega))) rfl ?_
              refine HL_y (y_idx Try.underlying22 sz39 rfl rfl (S11.rd hl) (Nt.mk (by omega) : Nt _ (k - 1)) (by omega)) rfl ?_
              refine HL_y (y_ldp (f := enf) enf_len Try.underlying39 rfl sz39 rfl (S11.rd hl) (by omega) hx) rfl ?_
              refine HL_y (y_move rfl) rfl ?_
              refine HL_y (y_move rfl) rfl ?_
              refine HL_y (y_idx Try.underlying22 sz39 rfl rfl (S11.rd hl) (Nt.mk (by omega) : Nt _ (k)) (by omega)) rfl ?_
              refine HL_y (y_ldp (f := enf) enf_len Try.underlying39 rfl sz39 rfl (S11.rd hl) (by omega) hy) rfl ?_
              refine HL_nil ?_
              refine hK29 _ ?_
              refine L_o (o_call Try.func25 rfl rfl (order x y w11) rfl rfl ?_)
              rintro e12 w12 ⟨v12, rfl, l12, v53, rfl, hv53⟩
              refine ⟨_, rfl, ?_⟩
              have S12 := S11.like l12
              refine L_y (y_geq rfl rfl) rfl ?_
              refine L_nil ?_
              refine hK28 _ _ ?_
              refine T_cond rfl (fun h54 => ?_) (fun h54 => ?_)
              ·
                have hxy : ltK x y = false := by cases h9 : ltK x y with | false => rfl | true => exact absurd (hv53.2 h9) (by omega)
                refine T_seq fun K30 hK30 => ?_
                refine T_region ?_
                refine L_y (y_assign rfl) rfl ?_
                refine L_nil ?_
                refine hK30 _ _ ?_
                refine T_ret ?_
                repeat (first | with_reducible refine up_then ?_ | with_reducible refine up_in ?_)
                refine ret1 rfl rfl ?_
                exact ⟨_, rfl, S12.like0, congrArg (Value.int _) (chkE_ord (by omega) hc1 hon ((risK_at l k hri (by omega)).trans (risK_no hx (by rw [show k - 1 + 1 = k by omega]; exact hy) hxy))).symm⟩
              ·
                have hxy : ltK x y = true := hv53.1 (by omega)
                refine T_skip ?_
                refine hK27 _ _ ?_
                refine T_region ?_
                refine L_y (y_move rfl) rfl ?_
                refine L_y (y_add rfl rfl (i64w (by omega))) rfl ?_
                refine L_y (y_assign rfl) rfl ?_
                refine L_nil ?_
                refine ⟨k + 1, by omega, ⟨⟨⟨by omega, by omega⟩, ris_next hri hx hy (by omega) hxy⟩, S12⟩, ?_⟩
                exact (Sub.cons rfl (congrArg (Value.int _) (by omega)) (Sub.cons rfl rfl (Sub.nil _)))
            ·
              refine T_exit ?_
              refine hK23 _ _ ?_
              refine T_seq fun K31 hK31 => ?_
              refine T_region ?_
              refine L_y (y_assign rfl) rfl ?_
              refine L_nil ?_
              refine hK31 _ _ ?_
              refine T_ret ?_
              repeat (first | with_reducible refine up_then ?_ | with_reducible refine up_in ?_)
              refine ret1 rfl rfl ?_
              exact ⟨_, rfl, S10.like0, congrArg (Value.int _) (chkE_ok (by omega) hc1 hon (risK_fin hri (by omega) (by omega))).symm⟩
end Go.Proofs.Ytmgimcdkeelnpaa

/-
  The document: Check.
-/
namespace Go.Proofs.Ytmgimcdkeelnpaa
open Go.RowKit Zk Zx
set_option linter.unusedVariables false
set_option linter.unusedSimpArgs false

theorem once_in {l : List EV} {i k : Nat} {x : EV} (hi : l[i]? = some x) (hik : i < k) : x.nm ∈ (l.take k).map EV.nm :=
  List.mem_map.2 ⟨x, List.mem_of_getElem? (by rw [List.getElem?_take, if_pos hik]; exact hi), rfl⟩
theorem once_out {l : List EV} {k : Nat} {x : EV} (h : ∀ j y, j < k → l[j]? = some y → y.nm ≠ x.nm) : x.nm ∉ (l.take k).map EV.nm := fun hm => by
  obtain ⟨y, hy, e⟩ := List.mem_map.1 hm
  obtain ⟨j, hj, rfl⟩ := List.getElem_of_mem hy
  have hjk : j < k := by rw [List.length_take] at hj; omega
  exact h j _ hjk (by rw [List.getElem_take]; exact List.getElem?_eq_getElem _) e
theorem en_get (l : List EV) (k t : Nat) (x : EV) (hx : l[k]? = some x) (ht : t < 34) : (l.flatMap enf)[k * 34 + t]? = (enf x)[t]? := by
  have h := drop_hd2 hx
  have e : l = l.take k ++ x :: l.drop (k + 1) := by rw [← h, List.take_append_drop]
  have hk := (List.getElem?_eq_some_iff.1 hx).1
  rw [e, List.flatMap_append, List.flatMap_cons, List.getElem?_append_right (by rw [ens_len, List.length_take]; omega), ens_len, List.length_take, Nat.min_eq_left (by omega), Nat.add_sub_cancel_left, List.getElem?_append_left (by rw [enf_len]; exact ht)]
theorem en_nm {l : List EV} {k : Nat} {x : EV} (hx : l[k]? = some x) : (l.flatMap enf)[k * 34 + 0]? = some (.string x.nm) := (en_get l k 0 x hx (by omega)).trans rfl
theorem en_md {l : List EV} {k : Nat} {x : EV} (hx : l[k]? = some x) : (l.flatMap enf)[k * 34 + 1]? = some (.int .i64 x.md) := (en_get l k 1 x hx (by omega)).trans rfl


set_option maxRecDepth 100000 in
theorem rcheck (A : Option Addr) (n c : Nat) (l : List EV) (w0 : World) (hl : Rs w0 34 A n c (l.flatMap enf)) (hn5 : n ≤ 10000) :
    Calls Try.prog 11 #[.slice A n c] w0 fun e w' => ∃ u, e = .returned u ∧ Like w0 w' ∧ u = .int .i64 (chkE l) := by
  refine enter1 (env := [(0, .slice A n c)]) [.slice A n c] Try.func11 rfl Try.ntmps11 rfl rfl ?_
  have hn := ens_n hl; have hcap := hl.cap; have hmax := hl.max; have S0 := St.start w0 noM
  refine T_seq fun K1 hK1 => ?_
  refine T_region ?_
  refine L_y (y_assign rfl) rfl ?_
  refine L_nil ?_
  refine hK1 _ _ ?_
  refine T_seq fun K2 hK2 => ?_
  refine T_seq fun K3 hK3 => ?_
  refine T_region ?_
  refine L_y (y_move rfl) rfl ?_
  refine L_y (y_len Try.underlying22 rfl) rfl ?_
  refine L_y (y_gtr rfl rfl) rfl ?_
  refine L_nil ?_
  refine hK3 _ _ ?_
  refine T_cond rfl (fun h9 => ?_) (fun h9 => ?_)
  ·
    refine T_seq fun K4 hK4 => ?_
    refine T_region ?_
    refine L_y (y_assign rfl) rfl ?_
    refine L_nil ?_
    refine hK4 _ _ ?_
    refine T_ret ?_
    repeat (first | with_reducible refine up_then ?_ | with_reducible refine up_in ?_)
    refine ret1 rfl rfl ?_
    exact ⟨_, rfl, S0.like0, congrArg (Value.int _) (chkE_long (by omega)).symm⟩
  ·
    refine T_skip ?_
    refine hK2 _ _ ?_
    refine T_seq fun K5 hK5 => ?_
    refine T_seq fun K6 hK6 => ?_
    refine T_region ?_
    refine L_y (y_assign rfl) rfl ?_
    refine L_nil ?_
    refine hK6 _ _ ?_
    refine T_block ?_
    refine T_loop1 [(0, _)] (fun (k : Nat) => [(3, .int .i64 (k : Int))]) (fun (k : Nat) => n - k) (fun (k : Nat) (w : World) => (k ≤ n ∧ (∀ j e, j < k → l[j]? = some e → mdOk e.md ∧ nmOk e.nm = true)) ∧ St w0 noM [] w) 0 (Sub.cons rfl (by first | rfl | exact congrArg (Value.int _) (by omega)) (Sub.nil _)) (Sub.cons rfl rfl (Sub.nil _)) ?_ ?_
    ·
      exact ⟨⟨Nat.zero_le _, fun j e hj => absurd hj (by omega)⟩, S0⟩
    ·
      intro k w1 hrel
      obtain ⟨⟨hk, hok⟩, S1⟩ := hrel
      refine T_seq fun K7 hK7 => ?_
      refine T_seq fun K8 hK8 => ?_
      refine T_region ?_
      refine L_y (y_move rfl) rfl ?_
      refine L_y (y_move rfl) rfl ?_
      refine L_y (y_len Try.underlying22 rfl) rfl ?_
      refine L_y (y_lss rfl rfl) rfl ?_
      refine L_nil ?_
      refine hK8 _ _ ?_
      refine T_cond rfl (fun h13 => ?_) (fun h13 => ?_)
      ·
        obtain ⟨x, hx⟩ : ∃ x, l[k]? = some x := ⟨_, List.getElem?_eq_getElem (by omega)⟩
        refine T_skip ?_
        refine hK7 _ _ ?_
        refine T_seq fun K9 hK9 => ?_
        refine T_block ?_
        refine T_seq fun K10 hK10 => ?_
        refine T_seq fun K11 hK11 => ?_
        refine T_region ?_
        refine L_y (y_move rfl) rfl ?_
        refine L_y (y_move rfl) rfl ?_
        refine L_y (y_idx Try.underlying22 sz39 rfl rfl (S1.rd hl) (Nt.mk (by omega) : Nt _ (k)) (by omega)) rfl ?_
        refine L_y (y_fieldR 1 Try.underlying39 rfl sz3 rfl rfl (S1.rd hl) (by omega) rfl) rfl ?_
        refine L_y (y_ldf Try.underlying3 rfl rfl (S1.rd hl) (by omega) (en_md hx)) rfl ?_
        refine L_y (y_lss rfl rfl) rfl ?_
        refine L_y (y_move rfl) rfl ?_
        refine L_split 22 rfl (fun h22 => ?_) (fun h22 => ?_)
        ·
          have hmd : ¬ mdOk x.md := by unfold mdOk; omega
          refine L_gno rfl rfl rfl ?_
          refine L_gno rfl rfl rfl ?_
          refine L_gno rfl rfl rfl ?_
          refine L_gno rfl rfl rfl ?_
          refine L_gno rfl rfl rfl ?_
          refine L_gno rfl rfl rfl ?_
          refine L_y ((by first | exact y_pickT rfl rfl | exact y_pickF rfl rfl)) rfl ?_
          refine L_nil ?_
          refine hK11 _ _ ?_
          refine T_true rfl ?_
          refine T_seq fun K12 hK12 => ?_
          refine T_region ?_
          refine L_y (y_assign rfl) rfl ?_
          refine L_nil ?_
          refine hK12 _ _ ?_
          refine T_ret ?_
          repeat (first | with_reducible refine up_then ?_ | with_reducible refine up_in ?_)
          refine ret1 rfl rfl ?_
          exact ⟨_, rfl, S1.like0, congrArg (Value.int _) (chkE_one (by omega) ((chk1_at k hok (by omega)).trans (chk1_md hx hmd)) (by decide)).symm⟩
        ·
          refine L_gyes rfl rfl ?_
          refine L_y (y_move rfl) rfl ?_
          refine L_gyes rfl rfl ?_
          refine L_y (y_move rfl) rfl ?_
          refine L_gyes rfl rfl ?_
          refine L_y (y_idx Try.underlying22 sz39 rfl rfl (S1.rd hl) (Nt.mk (by omega) : Nt _ (k)) (by omega)) rfl ?_
          refine L_gyes rfl rfl ?_
          refine L_y (y_fieldR 1 Try.underlying39 rfl sz3 rfl rfl (S1.rd hl) (by omega) rfl) rfl ?_
          refine L_gyes rfl rfl ?_
          refine L_y (y_ldf Try.underlying3 rfl rfl (S1.rd hl) (by omega) (en_md hx)) rfl ?_
          refine L_gyes rfl rfl ?_
          refine L_y (y_gtr rfl rfl) rfl ?_
          refine L_y ((by first | exact y_pickT rfl rfl | exact y_pickF rfl rfl)) rfl ?_
          refine L_nil ?_
          refine hK11 _ _ ?_
          refine T_cond rfl (fun h29 => ?_) (fun h29 => ?_)
          ·
            have hmd : ¬ mdOk x.md := by unfold mdOk; omega
            refine T_seq fun K13 hK13 => ?_
            refine T_region ?_
            refine L_y (y_assign rfl) rfl ?_
            refine L_nil ?_
            refine hK13 _ _ ?_
            refine T_ret ?_
            repeat (first | with_reducible refine up_then ?_ | with_reducible refine up_in ?_)
            refine ret1 rfl rfl ?_
            exact ⟨_, rfl, S1.like0, congrArg (Value.int _) (chkE_one (by omega) ((chk1_at k hok (by omega)).trans (chk1_md hx hmd)) (by decide)).symm⟩
          ·
            have hmd : mdOk x.md := by unfold mdOk; omega
            refine T_skip ?_
            refine hK10 _ _ ?_
            refine T_seq fun K14 hK14 => ?_
            refine T_region ?_
            refine L_y (y_move rfl) rfl ?_
            refine L_y (y_move rfl) rfl ?_
            refine L_y (y_idx Try.underlying22 sz39 rfl rfl (S1.rd hl) (Nt.mk (by omega) : Nt _ (k)) (by omega)) rfl ?_
            refine L_y (y_fieldR 0 Try.underlying39 rfl sz9 rfl rfl (S1.rd hl) (by omega) rfl) rfl ?_
            refine L_y (y_ldf Try.underlying9 rfl rfl (S1.rd hl) (by omega) (en_nm hx)) rfl ?_
            refine L_o (o_call Try.func28 rfl rfl (rname x.nm w1) rfl rfl ?_)
            rintro e3 w3 ⟨v3, rfl, l3, rfl⟩
            refine ⟨_, rfl, ?_⟩
            have S3 := S1.like l3
            refine L_y ((by first | exact y_notD rfl | exact y_not rfl)) rfl ?_
            refine L_nil ?_
            refine hK14 _ _ ?_
            refine T_condB rfl (fun h36 => ?_) (fun h36 => ?_)
            ·
              have hnm : nmOk x.nm = false := by simpa using h36
              refine T_seq fun K15 hK15 => ?_
              refine T_region ?_
              refine L_y (y_assign rfl) rfl ?_
              refine L_nil ?_
              refine hK15 _ _ ?_
              refine T_ret ?_
              repeat (first | with_reducible refine up_then ?_ | with_reducible refine up_in ?_)
              refine ret1 rfl rfl ?_
              exact ⟨_, rfl, S3.like0, congrArg (Value.int _) (chkE_one (by omega) ((chk1_at k hok (by omega)).trans (chk1_nm hx hmd hnm)) (by decide)).symm⟩
            ·
              have hnm : nmOk x.nm = true := by simpa using h36
              refine T_skip ?_
              refine hK9 _ _ ?_
              refine T_region ?_
              refine L_y (y_move rfl) rfl ?_
              refine L_y (y_add rfl rfl (i64w (by omega))) rfl ?_
              refine L_y (y_assign rfl) rfl ?_
              refine L_nil ?_
              refine ⟨k + 1, by omega, ⟨⟨by omega, ok_next hok hx hmd hnm⟩, S3⟩, ?_⟩
              exact (Sub.cons rfl (by first | rfl | exact congrArg (Value.int _) (by omega)) (Sub.cons rfl rfl (Sub.nil _)))
      ·
        have hc1 : chk1 l = 0 := (chk1_at k hok (by omega)).trans (by rw [List.drop_of_length_le (by omega)]; rfl)
        refine T_exit ?_
        refine hK5 _ _ ?_
        refine T_seq fun K16 hK16 => ?_
        refine T_seq fun K17 hK17 => ?_
        refine T_region ?_
        refine L_y (y_assign rfl) rfl ?_
        refine L_nil ?_
        refine hK17 _ _ ?_
        refine T_block ?_
        refine T_loop1 [(0, _)] (fun (k : Nat) => [(4, .int .i64 (k : Int))]) (fun (k : Nat) => n - k) (fun (k : Nat) (w : World) => (k ≤ n ∧ once (l.take k)) ∧ St w0 noM [] w) 0 (Sub.cons rfl (by first | rfl | exact congrArg (Value.int _) (by omega)) (Sub.nil _)) (Sub.cons rfl rfl (Sub.nil _)) ?_ ?_
        ·
          exact ⟨⟨Nat.zero_le _, by simp [once]⟩, S1⟩
        ·
          intro k w4 hrel
          obtain ⟨⟨hk, hon⟩, S4⟩ := hrel
          refine T_seq fun K18 hK18 => ?_
          refine T_seq fun K19 hK19 => ?_
          refine T_region ?_
          refine L_y (y_move rfl) rfl ?_
          refine L_y (y_move rfl) rfl ?_
          refine L_y (y_len Try.underlying22 rfl) rfl ?_
          refine L_y (y_lss rfl rfl) rfl ?_
          refine L_nil ?_
          refine hK19 _ _ ?_
          refine T_cond rfl (fun h40 => ?_) (fun h40 => ?_)
          ·
            obtain ⟨x, hx⟩ : ∃ x, l[k]? = some x := ⟨_, List.getElem?_eq_getElem (by omega)⟩
            refine T_skip ?_
            refine hK18 _ _ ?_
            refine T_seq fun K20 hK20 => ?_
            refine T_block ?_
            refine T_seq fun K21 hK21 => ?_
            refine T_region ?_
            refine L_y (y_assign rfl) rfl ?_
            refine L_nil ?_
            refine hK21 _ _ ?_
            refine T_block ?_
            refine T_loop1 [(0, _), (4, _)] (fun (j : Nat) => [(5, .int .i64 (j : Int))]) (fun (j : Nat) => k - j) (fun (j : Nat) (w : World) => (j ≤ k ∧ (∀ i y, i < j → l[i]? = some y → y.nm ≠ x.nm)) ∧ St w0 noM [] w) 0 (Sub.cons rfl (by first | rfl | exact congrArg (Value.int _) (by omega)) (Sub.nil _)) (Sub.cons rfl rfl (Sub.cons rfl rfl (Sub.nil _))) ?_ ?_
            ·
              exact ⟨⟨Nat.zero_le _, fun i y hi => absurd hi (by omega)⟩, S4⟩
            ·
              intro j w5 hrel
              obtain ⟨⟨hj, hno⟩, S5⟩ := hrel
              refine T_seq fun K22 hK22 => ?_
              refine T_seq fun K23 hK23 => ?_
              refine T_region ?_
              refine L_y (y_move rfl) rfl ?_
              refine L_y (y_move rfl) rfl ?_
              refine L_y (y_lss rfl rfl) rfl ?_
              refine L_nil ?_
              refine hK23 _ _ ?_
              refine T_cond rfl (fun h45 => ?_) (fun h45 => ?_)
              ·
                obtain ⟨y, hy⟩ : ∃ y, l[j]? = some y := ⟨_, List.getElem?_eq_getElem (by omega)⟩
                refine T_skip ?_
                refine hK22 _ _ ?_
                refine T_seq fun K24 hK24 => ?_
                refine T_block ?_
                refine T_seq fun K25 hK25 => ?_
                refine T_drawnL [(0, true), (1, true), (2, true), (3, true), (4, true), (5, true), (6, true), (7, true), (8, true), (9, true), (10, true)] hmix (by kernel_rfl) fun w6 l6 => ?_
                have S6 := S5.like l6
                refine DL_y rfl (y_move rfl) rfl ?_
                refine DL_y rfl (y_move rfl) rfl ?_
                refine DL_y rfl (y_idx Try.underlying22 sz39 rfl rfl (S6.rd hl) (Nt.mk (by omega) : Nt _ (j)) (by omega)) rfl ?_
                refine DL_y rfl (y_fieldR 0 Try.underlying39 rfl sz9 rfl rfl (S6.rd hl) (by omega) rfl) rfl ?_
                refine DL_y rfl (y_ldf Try.underlying9 rfl rfl (S6.rd hl) (by omega) (en_nm hy)) rfl ?_
                refine DL_y rfl (y_move rfl) rfl ?_
                refine DL_y rfl (y_move rfl) rfl ?_
                refine DL_y rfl (y_idx Try.underlying22 sz39 rfl rfl (S6.rd hl) (Nt.mk (by omega) : Nt _ (k)) (by omega)) rfl ?_
                refine DL_y rfl (y_fieldR 0 Try.underlying39 rfl sz9 rfl rfl (S6.rd hl) (by omega) rfl) rfl ?_
                refine DL_y rfl (y_ldf Try.underlying9 rfl rfl (S6.rd hl) (by omega) (en_nm hx)) rfl ?_
                refine DL_y rfl (y_seql rfl rfl) rfl ?_
                refine DL_nil ?_
                refine hK25 _ _ ?_
                refine T_cond rfl (fun h58 => ?_) (fun h58 => ?_)
                ·
                  refine T_seq fun K26 hK26 => ?_
                  refine T_region ?_
                  refine L_y (y_assign rfl) rfl ?_
                  refine L_nil ?_
                  refine hK26 _ _ ?_
                  refine T_ret ?_
                  repeat (first | with_reducible refine up_then ?_ | with_reducible refine up_in ?_)
                  refine ret1 rfl rfl ?_
                  exact ⟨_, rfl, S6.like0, congrArg (Value.int _) (chkE_twice (by omega) hc1 (not_once hx (by rw [← h58]; exact once_in hy (by omega)))).symm⟩
                ·
                  refine T_skip ?_
                  refine hK24 _ _ ?_
                  refine T_region ?_
                  refine L_y (y_move rfl) rfl ?_
                  refine L_y (y_add rfl rfl (i64w (by omega))) rfl ?_
                  refine L_y (y_assign rfl) rfl ?_
                  refine L_nil ?_
                  refine ⟨j + 1, by omega, ⟨⟨by omega, fun i z hi hz => by rcases Nat.lt_or_ge i j with q | q; exact hno i z q hz; (have e9 : i = j := by omega); subst e9; rw [hy] at hz; cases hz; exact h58⟩, S6⟩, ?_⟩
                  exact (Sub.cons rfl (by first | rfl | exact congrArg (Value.int _) (by omega)) (Sub.cons rfl rfl (Sub.cons rfl rfl (Sub.nil _))))
              ·
                refine T_exit ?_
                refine hK20 _ _ ?_
                refine T_region ?_
                refine L_y (y_move rfl) rfl ?_
                refine L_y (y_add rfl rfl (i64w (by omega))) rfl ?_
                refine L_y (y_assign rfl) rfl ?_
                refine L_nil ?_
                refine ⟨k + 1, by omega, ⟨⟨by omega, once_snoc hx hon (once_out (fun i y hi hy => hno i y (by omega) hy))⟩, S5⟩, ?_⟩
                exact (Sub.cons rfl (by first | rfl | exact congrArg (Value.int _) (by omega)) (Sub.cons rfl rfl (Sub.nil _)))
          ·
            have hon : once l := by rwa [List.take_of_length_le (by omega)] at hon
            refine T_exit ?_
            refine hK16 _ _ ?_
            refine T_seq fun K27 hK27 => ?_
            refine T_seq fun K28 hK28 => ?_
            refine T_region ?_
            refine L_y (y_assign rfl) rfl ?_
            refine L_nil ?_
            refine hK28 _ _ ?_
            refine T_block ?_
            refine T_loop1 [(0, _)] (fun (k : Nat) => [(6, .int .i64 (k : Int))]) (fun (k : Nat) => n - k) (fun (k : Nat) (w : World) => ((k + 1 ≤ n ∨ k = 0) ∧ (∀ j x y, j < k → l[j]? = some x → l[j + 1]? = some y → ltK x y = true)) ∧ St w0 noM [] w) 0 (Sub.cons rfl (by first | rfl | exact congrArg (Value.int _) (by omega)) (Sub.nil _)) (Sub.cons rfl rfl (Sub.nil _)) ?_ ?_
            ·
              exact ⟨⟨.inr rfl, fun j x y hj => absurd hj (by omega)⟩, S4⟩
            ·
              intro k w7 hrel
              obtain ⟨⟨hk2, hri⟩, S7⟩ := hrel
              refine T_seq fun K29 hK29 => ?_
              refine T_seq fun K30 hK30 => ?_
              refine T_region ?_
              refine L_y (y_move rfl) rfl ?_
              refine L_y (y_add rfl rfl (i64w (by omega))) rfl ?_
              refine L_y (y_move rfl) rfl ?_
              refine L_y (y_len Try.underlying22 rfl) rfl ?_
              refine L_y (y_lss rfl rfl) rfl ?_
              refine L_nil ?_
              refine hK30 _ _ ?_
              refine T_cond rfl (fun h63 => ?_) (fun h63 => ?_)
              ·
                obtain ⟨x, hx⟩ : ∃ x, l[k]? = some x := ⟨_, List.getElem?_eq_getElem (by omega)⟩
                obtain ⟨y, hy⟩ : ∃ y, l[k + 1]? = some y := ⟨_, List.getElem?_eq_getElem (by omega)⟩
                refine T_skip ?_
                refine hK29 _ _ ?_
                refine T_seq fun K31 hK31 => ?_
                refine T_block ?_
                refine T_seq fun K32 hK32 => ?_
                refine T_drawnL [(0, true), (1, true), (2, true), (3, true), (5, true), (6, true), (7, true), (8, true), (9, true), (4, false), (10, false), (11, true)] hmix (by kernel_rfl) fun w8 l8 => ?_
                have S8 := S7.like l8
                refine DL_y rfl (y_move rfl) rfl ?_
                refine DL_y rfl (y_move rfl) rfl ?_
                refine DL_y rfl (y_idx Try.underlying22 sz39 rfl rfl (S8.rd hl) (Nt.mk (by omega) : Nt _ (k)) (by omega)) rfl ?_
                refine DL_y rfl (y_ldp (f := enf) enf_len Try.underlying39 rfl sz39 rfl (S8.rd hl) (by omega) hx) rfl ?_
                refine DL_y rfl (y_move rfl) rfl ?_
                refine DL_y rfl (y_move rfl) rfl ?_
                refine DL_y rfl (y_add rfl rfl (i64w (by omega))) rfl ?_
                refine DL_y rfl (y_idx Try.underlying22 sz39 rfl rfl (S8.rd hl) (Nt.mk (by omega) : Nt _ (k + 1)) (by omega)) rfl ?_
                refine DL_y rfl (y_ldp (f := enf) enf_len Try.underlying39 rfl sz39 rfl (S8.rd hl) (by omega) hy) rfl ?_
                refine DL_o rfl (o_call Try.func29 rfl rfl (rkey x w8) rfl rfl ?_)
                rintro e9 w9 ⟨v9, rfl, l9, rfl⟩
                refine ⟨_, rfl, l9, ?_⟩
                have S9 := S8.like l9
                have q9 := l9
                refine DL_o rfl (o_call Try.func29 rfl rfl (rkey y w9) rfl rfl ?_)
                rintro e10 w10 ⟨v10, rfl, l10, rfl⟩
                refine ⟨_, rfl, (Like.trans q9 l10), ?_⟩
                have S10 := S9.like l10
                have q10 := (Like.trans q9 l10)
                refine DL_y rfl (y_sgeq rfl rfl) rfl ?_
                refine DL_nil ?_
                refine hK32 _ _ ?_
                refine T_condB rfl (fun h77 => ?_) (fun h77 => ?_)
                ·
                  have hxy : ltK x y = false := by unfold ltK; simpa using h77
                  refine T_seq fun K33 hK33 => ?_
                  refine T_region ?_
                  refine L_y (y_assign rfl) rfl ?_
                  refine L_nil ?_
                  refine hK33 _ _ ?_
                  refine T_ret ?_
                  repeat (first | with_reducible refine up_then ?_ | with_reducible refine up_in ?_)
                  refine ret1 rfl rfl ?_
                  exact ⟨_, rfl, S10.like0, congrArg (Value.int _) (chkE_ord (by omega) hc1 hon ((risK_at l (k + 1) (fun j x y hj => hri j x y (by omega)) (by omega)).trans (risK_no hx hy hxy))).symm⟩
                ·
                  have hxy : ltK x y = true := by unfold ltK; simpa using h77
                  refine T_skip ?_
                  refine hK31 _ _ ?_
                  refine T_region ?_
                  refine L_y (y_move rfl) rfl ?_
                  refine L_y (y_add rfl rfl (i64w (by omega))) rfl ?_
                  refine L_y (y_assign rfl) rfl ?_
                  refine L_nil ?_
                  refine ⟨k + 1, by omega, ⟨⟨by omega, fun j a b hj ha hb => ris_next (k := k + 1) (fun j a b hj => hri j a b (by omega)) hx hy (by omega) hxy j a b (by omega) ha hb⟩, S10⟩, ?_⟩
                  exact (Sub.cons rfl (by first | rfl | exact congrArg (Value.int _) (by omega)) (Sub.cons rfl rfl (Sub.nil _)))
              ·
                refine T_exit ?_
                refine hK27 _ _ ?_
                refine T_seq fun K34 hK34 => ?_
                refine T_region ?_
                refine L_y (y_assign rfl) rfl ?_
                refine L_nil ?_
                refine hK34 _ _ ?_
                refine T_ret ?_
                repeat (first | with_reducible refine up_then ?_ | with_reducible refine up_in ?_)
                refine ret1 rfl rfl ?_
                exact ⟨_, rfl, S7.like0, congrArg (Value.int _) (chkE_ok (by omega) hc1 hon (risK_fin (k := k + 1) (fun j x y hj => hri j x y (by omega)) (by omega) (by omega))).symm⟩
end Go.Proofs.Ytmgimcdkeelnpaa

/-
  The second form's bound: what it gives of a law's arguments. General; nothing here names a program.
-/
namespace Go.Proofs.Ytmgimcdkeelnpaa.Zx
open Go.ChangeShapes Go.WideShapes Go.ChangeAt Go.RowKit Go.Deep Zk
set_option linter.unusedVariables false
section
variable {H : Type} {enc : TypeId × Value → H} {P : Program} {w : World} {base : Nat} {spare : Nat → Bool} {held : Bool}
theorem bulk_pos (d : DataW H) : 1 ≤ Rows.uptoBulk d := by
  cases d with
  | lit l => cases l <;> simp [Rows.uptoBulk]
  | _ => simp [Rows.uptoBulk]
theorem flat_one {α : Type} (f : α → Value) : ∀ l : List α, l.flatMap (fun y => [f y]) = l.map f
  | [] => rfl
  | y :: l => by rw [List.flatMap_cons, flat_one f l]; rfl
theorem sum_ones {α : Type} : ∀ l : List α, (l.map fun _ => 1).sum = l.length
  | [] => rfl
  | y :: l => by rw [List.map_cons, List.sum_cons, sum_ones l, List.length_cons]; omega
theorem bulk_range {α : Type} (m : α → Nat) : ∀ (l : List α) (D : Nat → DataW H), (∀ i y, l[i]? = some y → m y ≤ Rows.uptoBulk (D i)) → (l.map m).sum ≤ Rows.uptoBulkAll ((List.range l.length).map D)
  | [], D, h => by simp
  | x :: l, D, h => by
    rw [List.length_cons, List.range_succ_eq_map, List.map_cons, List.map_cons, List.map_map, Rows.uptoBulkAll, List.sum_cons]
    have h1 := h 0 x rfl
    have h2 := bulk_range m l (D ∘ Nat.succ) (fun i y hy => h (i + 1) y hy)
    omega
/-- A slice whose elements are of many cells, with its bulk. -/
theorem read_rowNB {α : Type} (f : α → List Value) (φ : α → Prop) (m : α → Nat) (size : Nat) {t e : TypeId} (ht : P.underlying t = some (.slice e)) (hc : P.cellsOf e = size) (hpos : 0 < size) (hlen : ∀ y, (f y).length = size)
    (hread : ∀ n cs x, cs.length = size → DataW.trod enc P w base spare held n e cs = some x → ∃ y, cs = f y ∧ φ y ∧ m y ≤ Rows.uptoBulk x.1)
    {fuel : Nat} {cs : List Value} {x : DataW H × List MemPlace} (h : DataW.trod enc P w base spare held fuel t cs = some x) :
    ∃ A n c, ∃ l : List α, cs = [.slice A n c] ∧ Rs w size A n c (l.flatMap f) ∧ (∀ y ∈ l, φ y) ∧ l.length = n ∧ (l.map m).sum + 1 ≤ Rows.uptoBulk x.1 := by
  rcases open_slice ht h with ⟨rfl, rfl⟩ | ⟨a, len, cap, k, n, D, Pl, rfl, _, hl, hm, hmm, rfl, hi⟩
  · exact ⟨none, 0, 0, [], rfl, Rs.nil w size, (fun y hy => by cases hy), rfl, by simp [Rows.uptoBulk]⟩
  · have hle : len ≤ k := by rw [hmm]; split <;> omega
    rw [hc] at hi
    obtain ⟨l, hll, hp⟩ := list_of (fun i (y : α) => w.cells? base (a.add (i * size)) size = some (f y) ∧ φ y ∧ m y ≤ Rows.uptoBulk (D i)) len (fun i hil => by
      obtain ⟨cs', h1, h2⟩ := hi i (by omega)
      obtain ⟨y, h3, h4, h5⟩ := hread n cs' _ (World.cells?_some h1).2.1 h2
      exact ⟨y, by rw [← h3]; exact h1, h4, h5⟩)
    refine ⟨some a, len, cap, l, rfl, ⟨⟨by rw [flat_len f size hlen, hll], fun h0 => ⟨a, rfl, ?_, fun j u hu => ?_⟩⟩, hl, by unfold maxLen at hm; exact hm⟩, fun y hy => ?_, hll, ?_⟩
    · obtain ⟨cs', h1, h2⟩ := hi 0 (by omega)
      have h3 := (World.cells?_some h1).2.2 0 hpos
      rw [List.getElem?_eq_getElem (by rw [(World.cells?_some h1).2.1]; exact hpos)] at h3
      have := World.block_lt_of_cell? w _ h3
      rwa [block_of_add, block_of_add] at this
    · obtain ⟨i, y, h1, h2, h3⟩ := flat_get f size hlen l j u hu
      have h4 := (World.cells?_some (hp i y h1).1).2.2 (j - i * size) (by have := (List.getElem?_eq_some_iff.1 h3).1; rwa [hlen y] at this)
      rw [Go.Deep.add_add, show i * size + (j - i * size) = j by omega, h3] at h4
      exact h4
    · obtain ⟨i, hi2, rfl⟩ := List.getElem_of_mem hy
      exact (hp i _ (List.getElem?_eq_getElem hi2)).2.1
    · have h6 := bulk_range m l D (fun i y hy => (hp i y hy).2.2)
      rw [hll] at h6
      simp only [Rows.uptoBulk]
      omega
/-- A struct of three cells. -/
theorem read_struct3 {e : TypeId} {f0 f1 f2 : Field} (he : P.underlying e = some (.struct #[f0, f1, f2])) (o0 : f0.offset = 0) (o1 : f1.offset = 1) (o2 : f2.offset = 2) (c0 : P.cellsOf f0.type = 1) (c1 : P.cellsOf f1.type = 1) (c2 : P.cellsOf f2.type = 1)
    {n : Nat} {cs : List Value} {x : DataW H × List MemPlace} (hl : cs.length = 3) (h : DataW.trod enc P w base spare held n e cs = some x) :
    ∃ v0 v1 v2 y0 y1 y2 k, cs = [v0, v1, v2] ∧ x.1 = .agg [y0.1, y1.1, y2.1] ∧ DataW.trod enc P w base spare held k f0.type [v0] = some y0 ∧ DataW.trod enc P w base spare held k f1.type [v1] = some y1 ∧ DataW.trod enc P w base spare held k f2.type [v2] = some y2 := by
  obtain ⟨xs, k, hk, rfl, _, hxl, hf⟩ := DataW.trod_struct he h
  match xs, hxl, cs, hl with
  | [y0, y1, y2], _, [v0, v1, v2], _ =>
    have g0 := hf 0 f0 rfl
    have g1 := hf 1 f1 rfl
    have g2 := hf 2 f2 rfl
    simp [o0, o1, o2, c0, c1, c2] at g0 g1 g2
    exact ⟨v0, v1, v2, y0, y1, y2, k, rfl, rfl, g0, g1, g2⟩
/-- A slice of bytes, with its bulk. -/
theorem open_bytesSB {r : Reach} {b0 : Nat} {t e : TypeId} {v : Value} {d : DataW H} {p : List MemPlace} (ht : P.underlying t = some (.slice e)) (he : P.underlying e = some (.int .u8)) (hc : P.cellsOf e = 1)
    (hv : Value.okWide P w r b0 t v) (h : DataW.Trod enc P w base spare held t v d p) : ∃ A n c l, v = .slice A n c ∧ Rs w 1 A n c (bL l) ∧ n + 1 ≤ Rows.uptoBulk d := by
  obtain ⟨fuel, hf⟩ := h
  obtain ⟨A, n, c, l, h1, h2, _, h4, h5⟩ := read_rowNB (fun y => [bV y]) (fun _ => True) (fun _ => 1) 1 ht hc (by decide) (fun _ => rfl) (fun k cs x hl hx => by
    obtain ⟨a, ha, _, hw⟩ := DataW.trod_int he hx
    obtain ⟨c, rfl⟩ := u8_of a hw
    exact ⟨c, ha, trivial, bulk_pos _⟩) hf
  refine ⟨A, n, c, l, slice_of_cells ht hv h1, by rwa [flat_one] at h2, ?_⟩
  rw [sum_ones, h4] at h5
  exact h5
end
end Go.Proofs.Ytmgimcdkeelnpaa.Zx

/-
  The law TreeChecks.
-/
namespace Go.Proofs.Ytmgimcdkeelnpaa
open Go.RowKit Zk Zx
set_option linter.unusedVariables false
set_option linter.unusedSimpArgs false

section
open Go.ChangeShapes Go.WideShapes Go.ChangeAt Go.Deep
variable {H : Type} {enc : TypeId × Value → H} {w : World} {base : Nat} {spare : Nat → Bool} {held : Bool}
/-- An entry as it is read. -/
structure EW where
  nm : ByteArray
  md : Int
  id : List UInt8
  h : id.length = 32
def ewf (e : EW) : List Value := Value.string e.nm :: Value.int .i64 e.md :: bL e.id
theorem ewf_len (e : EW) : (ewf e).length = 34 := by simp [ewf, e.h]
theorem read_ew {fuel : Nat} {cs : List Value} {x : DataW H × List MemPlace} (hlen : cs.length = 34) (h : DataW.trod enc Try.prog w base spare held fuel 39 cs = some x) : ∃ e : EW, cs = ewf e ∧ e.nm.size ≤ Rows.uptoBulk x.1 := by
  obtain ⟨xs, n, _, hx, hl, hlen2, hg⟩ := DataW.trod_struct Try.underlying39 h
  have e0 := hg 0 _ rfl
  have e1 := hg 1 _ rfl
  have e2 := hg 2 _ rfl
  change DataW.trod enc Try.prog w base spare held n 9 ((cs.drop 0).take (Try.prog.cellsOf 9)) = _ at e0
  change DataW.trod enc Try.prog w base spare held n 3 ((cs.drop 1).take (Try.prog.cellsOf 3)) = _ at e1
  change DataW.trod enc Try.prog w base spare held n 37 ((cs.drop 2).take (Try.prog.cellsOf 37)) = _ at e2
  have c9 : Try.prog.cellsOf 9 = 1 := by kernel_rfl
  have c3 : Try.prog.cellsOf 3 = 1 := by kernel_rfl
  have c37 : Try.prog.cellsOf 37 = 32 := by kernel_rfl
  rw [c9] at e0
  rw [c3] at e1
  rw [c37] at e2
  have hxl : xs.length = 3 := hlen2
  match cs, hlen, xs, hxl with
  | v0 :: v1 :: vs, hlen, [y0, y1, y2], _ =>
    have e0 : DataW.trod enc Try.prog w base spare held n 9 [v0] = some y0 := e0
    have e1 : DataW.trod enc Try.prog w base spare held n 3 [v1] = some y1 := e1
    have e2 : DataW.trod enc Try.prog w base spare held n 37 (vs.take 32) = some y2 := e2
    rw [List.take_of_length_le (by simp at hlen; omega)] at e2
    obtain ⟨s, hs, z0, _⟩ := DataW.trod_string Try.underlying9 e0
    obtain ⟨i1, hi1, _, _⟩ := DataW.trod_int Try.underlying3 e1
    obtain ⟨z, hz, hcs⟩ := read_bytes Try.underlying37 Try.underlying5 (by kernel_rfl) (by kernel_rfl) e2
    cases hs
    cases hi1
    subst hcs
    refine ⟨⟨s, i1, z, hz⟩, rfl, ?_⟩
    rw [hx]
    simp only [Rows.uptoBulk, List.map_cons, List.map_nil, Rows.uptoBulkAll]
    rw [z0]
    simp only [Rows.uptoBulk, Array.length_toList]
    show s.data.size ≤ _
    omega
theorem open_ens {r : Reach} {b0 : Nat} {v : Value} {d : DataW H} {p : List MemPlace} (hv : Value.okWide Try.prog w r b0 22 v) (h : DataW.Trod enc Try.prog w base spare held 22 v d p) :
    ∃ A n c, ∃ l : List EW, v = .slice A n c ∧ Rs w 34 A n c (l.flatMap ewf) ∧ (l.map fun e => e.nm.size).sum + 1 ≤ Rows.uptoBulk d := by
  obtain ⟨fuel, hf⟩ := h
  obtain ⟨A, n, c, l, h1, h2, h3, h4, h5⟩ := read_rowNB ewf (fun _ => True) (fun e => e.nm.size) 34 Try.underlying22 (by kernel_rfl) (by decide) ewf_len (fun k cs x hl hx => by
    obtain ⟨o, ho, h7⟩ := read_ew hl hx
    exact ⟨o, ho, trivial, h7⟩) hf
  exact ⟨A, n, c, l, slice_of_cells Try.underlying22 hv h1, h2, h5⟩
theorem ew_ev : ∀ (l : List EW), (l.map fun e => e.nm.size).sum ≤ 1048576 → ∃ l2 : List EV, l.flatMap ewf = l2.flatMap enf ∧ (∀ e ∈ l2, e.nm.size ≤ 1048576) ∧ l2.length = l.length
  | [], _ => ⟨[], rfl, fun e he => (by cases he), rfl⟩
  | e :: l, h => by
    rw [List.map_cons, List.sum_cons] at h
    obtain ⟨l2, h1, h2, h3⟩ := ew_ev l (by omega)
    refine ⟨⟨e.nm, e.md, e.id, e.h, by omega⟩ :: l2, ?_, fun x hx => ?_, by rw [List.length_cons, List.length_cons, h3]⟩
    · rw [List.flatMap_cons, List.flatMap_cons, h1]
      rfl
    · rcases List.mem_cons.1 hx with rfl | hx
      · show e.nm.size ≤ _
        omega
      · exact h2 x hx
end
def wE1 : EV := ⟨⟨#[97]⟩, 3, List.replicate 32 0, by decide⟩
def wE2 : EV := ⟨⟨#[97, 48]⟩, 1, List.replicate 32 0, by decide⟩
def wE3 : EV := ⟨⟨#[97, 46, 98]⟩, 1, List.replicate 32 0, by decide⟩
theorem ltK_bl : ltK = fun x y => bl (keyB x).data.toList (keyB y).data.toList := by funext x y; exact sLt_bl _ _
theorem wsrt : srt ltK [wE1, wE2, wE3] = [wE3, wE1, wE2] := by
  rw [ltK_bl]
  decide +kernel
theorem wchk : chkE [wE3, wE1, wE2] = 0 := by
  refine chkE_ok (by decide) (by decide +kernel) (by decide +kernel) ?_
  show (ltK wE3 wE1 && (ltK wE1 wE2 && true)) = true
  rw [ltK_bl]
  decide +kernel
theorem psortedW (A : Option Addr) (c : Nat) (w0 : World) (hl : Rs w0 34 A 3 c ([wE1, wE2, wE3].flatMap enf)) :
    Calls Try.prog 9 #[.slice A 3 c] w0 fun e w' => ∃ u, e = .returned u ∧ Like w0 w' ∧ ∃ A' c', u = .slice A' 3 c' ∧ w'.ownsRow w0.heap.size 39 34 (.slice A' 3 c') 3 ([wE3, wE1, wE2].flatMap enf) := by
  have h := psorted A c [wE1, wE2, wE3] w0 hl (by decide)
  rw [wsrt] at h
  exact h


set_option maxRecDepth 100000 in
theorem works  (w0 : World)  :
    Calls Try.prog 8 #[] w0 fun e w' => ∃ u, e = .returned u ∧ Like w0 w' ∧ u = .bool true := by
  refine enter1 (env := []) [] Try.func8 rfl Try.ntmps8 rfl rfl ?_
  have S0 := St.start w0 noM
  refine T_seq fun K1 hK1 => ?_
  refine T_region ?_
  refine L_y (y_assign rfl) rfl ?_
  refine L_nil ?_
  refine hK1 _ _ ?_
  refine T_seq fun K2 hK2 => ?_
  refine T_region ?_
  refine L_y (y_build rfl (show _ = some (enf wE1).toArray by kernel_rfl)) rfl ?_
  refine L_y (y_build rfl (show _ = some (enf wE2).toArray by kernel_rfl)) rfl ?_
  refine L_y (y_build rfl (show _ = some (enf wE3).toArray by kernel_rfl)) rfl ?_
  refine L_o (o_bsl ([wE1, wE2, wE3].flatMap enf) te22 zz39 S0 rfl rfl rfl (by kernel_rfl) (by kernel_rfl) rfl rfl rfl fun b1 w1 S1 => ?_)
  refine L_o (o_call Try.func9 rfl rfl (psortedW _ _ w1 (S1.row 0 rfl)) rfl rfl ?_)
  rintro e2 w2 ⟨v2, rfl, l2, A6, c6, rfl, O2⟩
  refine ⟨_, rfl, ?_⟩
  have S2 := S1.adopt l2 O2
  refine L_y (y_assign rfl) rfl ?_
  refine L_nil ?_
  refine hK2 _ _ ?_
  refine T_seq fun K3 hK3 => ?_
  refine T_region ?_
  refine L_y (y_move rfl) rfl ?_
  refine L_y (y_len Try.underlying22 rfl) rfl ?_
  refine L_y (y_eql rfl rfl) rfl ?_
  refine L_y (y_move rfl) rfl ?_
  refine L_split 10 rfl (fun h10 => ?_) (fun h10 => ?_)
  ·
    refine L_gyes rfl rfl ?_
    refine L_y (y_move rfl) rfl ?_
    refine L_gyes rfl rfl ?_
    refine L_y (y_idx Try.underlying22 sz39 rfl rfl (S2.row 1 rfl) (Nt.mk rfl : Nt _ (0)) (by omega)) rfl ?_
    refine L_gyes rfl rfl ?_
    refine L_y (y_fieldR 0 Try.underlying39 rfl sz9 rfl rfl (S2.row 1 rfl) (by omega) rfl) rfl ?_
    refine L_gyes rfl rfl ?_
    refine L_y (y_ldf Try.underlying9 rfl rfl (S2.row 1 rfl) (by omega) (en_nm (l := [wE3, wE1, wE2]) (k := 0) (x := wE3) rfl)) rfl ?_
    refine L_gyes rfl rfl ?_
    refine L_y (y_seql rfl rfl) rfl ?_
    refine L_y ((by first | exact y_pickT rfl rfl | exact y_pickF rfl rfl)) rfl ?_
    refine L_y (y_move rfl) rfl ?_
    refine L_split 17 rfl (fun h17 => ?_) (fun h17 => ?_)
    ·
      refine L_gyes rfl rfl ?_
      refine L_y (y_move rfl) rfl ?_
      refine L_gyes rfl rfl ?_
      refine L_y (y_idx Try.underlying22 sz39 rfl rfl (S2.row 1 rfl) (Nt.mk rfl : Nt _ (1)) (by omega)) rfl ?_
      refine L_gyes rfl rfl ?_
      refine L_y (y_fieldR 0 Try.underlying39 rfl sz9 rfl rfl (S2.row 1 rfl) (by omega) rfl) rfl ?_
      refine L_gyes rfl rfl ?_
      refine L_y (y_ldf Try.underlying9 rfl rfl (S2.row 1 rfl) (by omega) (en_nm (l := [wE3, wE1, wE2]) (k := 1) (x := wE1) rfl)) rfl ?_
      refine L_gyes rfl rfl ?_
      refine L_y (y_seql rfl rfl) rfl ?_
      refine L_y ((by first | exact y_pickT rfl rfl | exact y_pickF rfl rfl)) rfl ?_
      refine L_y (y_move rfl) rfl ?_
      refine L_split 24 rfl (fun h24 => ?_) (fun h24 => ?_)
      ·
        refine L_gyes rfl rfl ?_
        refine L_y (y_move rfl) rfl ?_
        refine L_gyes rfl rfl ?_
        refine L_y (y_idx Try.underlying22 sz39 rfl rfl (S2.row 1 rfl) (Nt.mk rfl : Nt _ (2)) (by omega)) rfl ?_
        refine L_gyes rfl rfl ?_
        refine L_y (y_fieldR 0 Try.underlying39 rfl sz9 rfl rfl (S2.row 1 rfl) (by omega) rfl) rfl ?_
        refine L_gyes rfl rfl ?_
        refine L_y (y_ldf Try.underlying9 rfl rfl (S2.row 1 rfl) (by omega) (en_nm (l := [wE3, wE1, wE2]) (k := 2) (x := wE2) rfl)) rfl ?_
        refine L_gyes rfl rfl ?_
        refine L_y (y_seql rfl rfl) rfl ?_
        refine L_y ((by first | exact y_pickT rfl rfl | exact y_pickF rfl rfl)) rfl ?_
        refine L_y (y_move rfl) rfl ?_
        refine L_split 31 rfl (fun h31 => ?_) (fun h31 => ?_)
        ·
          refine L_gyes rfl rfl ?_
          refine L_y (y_move rfl) rfl ?_
          refine L_gyes rfl rfl ?_
          refine L_o (o_call Try.func10 rfl rfl (pcheck A6 3 c6 [wE3, wE1, wE2] w2 (S2.row 1 rfl) (by decide)) rfl rfl ?_)
          rintro e7 w7 ⟨v7, rfl, l7, rfl⟩
          refine ⟨_, rfl, ?_⟩
          have S7 := S2.like l7
          rw [wchk]
          refine L_gyes rfl rfl ?_
          refine L_y (y_eql rfl rfl) rfl ?_
          refine L_y ((by first | exact y_pickT rfl rfl | exact y_pickF rfl rfl)) rfl ?_
          refine L_y (y_assign rfl) rfl ?_
          refine L_nil ?_
          refine hK3 _ _ ?_
          refine T_ret ?_
          repeat (first | with_reducible refine up_then ?_ | with_reducible refine up_in ?_)
          refine ret1 rfl rfl ?_
          exact ⟨_, rfl, S7.like0, rfl⟩
        ·
          exact absurd rfl h31
      ·
        exact absurd rfl h24
    ·
      exact absurd rfl h17
  ·
    exact absurd rfl h10


set_option maxRecDepth 100000 in
theorem lchecks (A : Option Addr) (c : Nat) (l : List EV) (w0 : World) (hl : Rs w0 34 A l.length c (l.flatMap enf)) :
    Calls Try.prog 3 #[.slice A l.length c] w0 fun e w' => ∃ u, e = .returned u ∧ Like w0 w' ∧ u = .bool true := by
  refine enter1 (env := [(0, .slice A l.length c)]) [.slice A l.length c] Try.func3 rfl Try.ntmps3 rfl rfl ?_
  have hcap := hl.cap; have hmax := hl.max; have S0 := St.start w0 noM
  refine T_seq fun K1 hK1 => ?_
  refine T_region ?_
  refine L_y (y_assign rfl) rfl ?_
  refine L_nil ?_
  refine hK1 _ _ ?_
  refine T_seq fun K2 hK2 => ?_
  refine T_seq fun K3 hK3 => ?_
  refine T_region ?_
  refine L_y (y_move rfl) rfl ?_
  refine L_y (y_len Try.underlying22 rfl) rfl ?_
  refine L_y (y_gtr rfl rfl) rfl ?_
  refine L_nil ?_
  refine hK3 _ _ ?_
  refine T_cond rfl (fun h7 => ?_) (fun h7 => ?_)
  ·
    refine T_seq fun K4 hK4 => ?_
    refine T_region ?_
    refine L_o (o_call Try.func8 rfl rfl (works w0) rfl rfl ?_)
    rintro e1 w1 ⟨v1, rfl, l1, rfl⟩
    refine ⟨_, rfl, ?_⟩
    have S1 := S0.like l1
    refine L_y (y_assign rfl) rfl ?_
    refine L_nil ?_
    refine hK4 _ _ ?_
    refine T_ret ?_
    repeat (first | with_reducible refine up_then ?_ | with_reducible refine up_in ?_)
    refine ret1 rfl rfl ?_
    exact ⟨_, rfl, S1.like0, rfl⟩
  ·
    refine T_skip ?_
    refine hK2 _ _ ?_
    refine T_seq fun K5 hK5 => ?_
    refine T_region ?_
    refine L_o (o_bsl0 te22 S0 rfl fun b2 w2 l2 S2 => ?_)
    refine L_y (y_move rfl) rfl ?_
    refine L_o (o_app te22 S2 0 rfl rfl rfl (S2.rd hl) (ens_one _) rfl (by omega) (by omega) fun A3 c3 w3 S3 => ?_)
    have S91 := S3.rowc 0 rfl (n' := l.length) (xs' := l.flatMap enf) (Nat.zero_add _) rfl
    rw [Nat.zero_add]
    refine L_y (y_assign rfl) rfl ?_
    refine L_nil ?_
    refine hK5 _ _ ?_
    refine T_seq fun K6 hK6 => ?_
    refine T_region ?_
    refine L_y (y_move rfl) rfl ?_
    refine L_o (o_call Try.func9 rfl rfl (psorted _ _ l w3 (S91.row 0 rfl) (by omega)) rfl rfl ?_)
    rintro e4 w4 ⟨v4, rfl, l4, A13, c13, rfl, O4⟩
    refine ⟨_, rfl, ?_⟩
    have S4 := S91.adopt l4 O4
    refine L_y (y_assign rfl) rfl ?_
    refine L_nil ?_
    refine hK6 _ _ ?_
    refine T_seq fun K7 hK7 => ?_
    refine T_region ?_
    refine L_y (y_move rfl) rfl ?_
    refine L_o (o_call Try.func10 rfl rfl (pcheck _ _ _ l w4 (S4.row 0 rfl) (by omega)) rfl rfl ?_)
    rintro e5 w5 ⟨v5, rfl, l5, rfl⟩
    refine ⟨_, rfl, ?_⟩
    have S5 := S4.like l5
    refine L_y (y_move rfl) rfl ?_
    refine L_o (o_call Try.func11 rfl rfl (rcheck _ _ _ l w5 (S5.rd hl) (by omega)) rfl rfl ?_)
    rintro e6 w6 ⟨v6, rfl, l6, rfl⟩
    refine ⟨_, rfl, ?_⟩
    have S6 := S5.like l6
    refine L_y (y_eql rfl rfl) rfl ?_
    refine L_y (y_move rfl) rfl ?_
    refine L_split 19 rfl (fun h19 => ?_) (fun h19 => ?_)
    ·
      refine L_gyes rfl rfl ?_
      refine L_y (y_move rfl) rfl ?_
      refine L_gyes rfl rfl ?_
      refine L_y (y_move rfl) rfl ?_
      refine L_gyes rfl rfl ?_
      refine L_o (o_call Try.func13 rfl rfl (rsorted _ _ _ l w6 (S6.rd hl) (by omega)) rfl rfl ?_)
      rintro e8 w8 ⟨v8, rfl, l8, A22, c22, rfl, O8⟩
      refine ⟨_, rfl, ?_⟩
      have S8 := S6.adopt l8 O8
      refine L_gyes rfl rfl ?_
      refine L_o (o_call Try.func12 rfl rfl (same _ _ _ (srt ltK l) _ _ _ (srt ltK l) w8 (S8.row 1 rfl) (S8.row 2 rfl)) rfl rfl ?_)
      rintro e9 w9 ⟨v9, rfl, l9, rfl⟩
      refine ⟨_, rfl, ?_⟩
      have S9 := S8.like l9
      rw [decide_eq_true rfl]
      refine L_y ((by first | exact y_pickT rfl rfl | exact y_pickF rfl rfl)) rfl ?_
      refine L_y (y_move rfl) rfl ?_
      refine L_splitB 25 rfl (fun h25 => ?_) (fun h25 => ?_)
      ·
        refine L_gyes rfl rfl ?_
        refine L_y (y_move rfl) rfl ?_
        refine L_gyes rfl rfl ?_
        refine L_y (y_move rfl) rfl ?_
        refine L_gyes rfl rfl ?_
        refine L_o (o_call Try.func12 rfl rfl (same _ _ _ l _ _ _ l w9 (S9.row 0 rfl) (S9.rd hl)) rfl rfl ?_)
        rintro e11 w11 ⟨v11, rfl, l11, rfl⟩
        refine ⟨_, rfl, ?_⟩
        have S11 := S9.like l11
        rw [decide_eq_true rfl]
        refine L_y ((by first | exact y_pickT rfl rfl | exact y_pickF rfl rfl)) rfl ?_
        refine L_y (y_move rfl) rfl ?_
        refine L_splitB 30 rfl (fun h30 => ?_) (fun h30 => ?_)
        ·
          refine L_gyes rfl rfl ?_
          refine L_o (o_call Try.func8 rfl rfl (works w11) rfl rfl ?_)
          rintro e13 w13 ⟨v13, rfl, l13, rfl⟩
          refine ⟨_, rfl, ?_⟩
          have S13 := S11.like l13
          refine L_y ((by first | exact y_pickT rfl rfl | exact y_pickF rfl rfl)) rfl ?_
          refine L_y (y_assign rfl) rfl ?_
          refine L_nil ?_
          refine hK7 _ _ ?_
          refine T_ret ?_
          repeat (first | with_reducible refine up_then ?_ | with_reducible refine up_in ?_)
          refine ret1 rfl rfl ?_
          exact ⟨_, rfl, S13.like0, rfl⟩
        ·
          cases h30
      ·
        cases h25
    ·
      exact absurd rfl h19


theorem checks_law (A : Option Addr) (n c : Nat) (l : List EW) (w0 : World) (hl : Rs w0 34 A n c (l.flatMap ewf)) (hs : (l.map fun e => e.nm.size).sum ≤ 1048576) :
    Calls Try.prog 3 #[.slice A n c] w0 fun e w' => e = .returned (.bool true) ∧ Below w0.heap.size w0 w' := by
  obtain ⟨l2, h1, _, _⟩ := ew_ev l hs
  rw [h1] at hl
  have hn := ens_n hl
  subst hn
  exact (lchecks A c l2 w0 hl).mono fun e w' ⟨u, h1, h2, h3⟩ => by subst h3; exact ⟨h1, h2⟩
end Go.Proofs.Ytmgimcdkeelnpaa

/-
  append(b, s...), s a string. General; nothing here names a program.
-/
namespace Go.Proofs.Ytmgimcdkeelnpaa.Zx
open Go.RowKit Zk
set_option linter.unusedVariables false
set_option linter.unusedSimpArgs false
section
variable {P : Program} {N : Nat} {Q : Post} {env : Env} {w w0 : World} {M : Nat → Prop} {rs : List Res} {K : Env → World → Prop} {d : Tmp} {ty : TypeId} {pos : String} {after : Array Edge} {g : Option (Nat × Bool)}
theorem strCells_bL (s : ByteArray) : Go.Lib.strCells s = bL s.data.toList := rfl
theorem o_appS {s x : Operand} {t u e : TypeId} {str : ByteArray} (TE : Elem P t e (.int .u8 0) 1 1) (hu : P.underlying u = some .string) (S : St w0 M rs w) (k : Nat) {A : Option Addr} {n c : Nat} {xs : List Value} (hk : rs[k]? = some (row e 1 A n c xs))
    (hs : ev env s = some (.slice A n c)) (hx : ev env x = some (.string str)) (hd : Nat.blt d N = true) (hbytes : n + str.size ≤ 140737488355328)
    (h : ∀ A2 c2 w', St w0 M (rs.set k (row e 1 A2 (n + str.size) c2 (xs ++ bL str.data.toList))) w' → K ((d, .slice A2 (n + str.size) c2) :: env) w') :
    O P N Q ⟨some d, .call { callee := .builtin .append, args := #[s, x], argTypes := #[t, u] }, ty, pos, after, g⟩ env w K := fun a ha => by
  have hown : w.ownsRow 0 e 1 (.slice A n c) n xs := S.get k hk
  obtain ⟨i, hi, hz, hsize, hby⟩ := info_parts TE.hi
  obtain ⟨v', w', hrun, h2, h3, h4⟩ := Go.Lib.run_append_own_string (P := P) w 0 t u ty e i TE.ht hu hi hz hsize hby _ n xs hown str (by unfold maxLen; omega) hbytes (Nat.zero_le _)
  have hb : v'.ownBlock = (Value.slice A n c).ownBlock ∨ v'.ownBlock = some w.heap.size := by
    rcases hown.2 with ⟨h5, h6⟩ | ⟨b, cap, cur, h5, _, hg, hnc, hcm, hcs, hxs⟩
    · cases h5
      rcases Nat.eq_zero_or_pos str.size with q | q
      · left
        rw [h4.2 ⟨rfl, q⟩]
      · have hr := run_append_nil_string (P := P) w t u ty e i (.int .u8 0) TE.ht hu hi hz str q (by omega) (by rw [hby]; omega)
        rw [hrun] at hr
        right
        injection hr with hr1 hr2
        rw [hr1]
        rfl
    · cases h5
      by_cases hroom : n + str.size ≤ c
      · have hr := Go.Lib.run_append_room_string (P := P) w t u ty e i TE.ht hu hi hsize b n c cur hg str hroom (by omega)
        rw [hrun] at hr
        left
        injection hr with hr1 hr2
        rw [hr1]
        rfl
      · have holds : ∀ j u, xs[j]? = some u → w.cell? ((⟨b, 0, none⟩ : Addr).add j) = some u := hown.cells (g := b) rfl
        have hxl : xs.length = n * 1 := hown.1
        have hr := Go.Lib.run_append_grow_string (P := P) w t u ty e i (.int .u8 0) TE.ht hu hi hz ⟨b, 0, none⟩ n c xs (by rw [hsize]; exact hxl) holds str (by omega) (by omega) (by rw [hby]; exact growslice_fits (by omega) (by omega))
        rw [hrun] at hr
        right
        injection hr with hr1 hr2
        rw [hr1]
        rfl
  obtain ⟨A2, c2, rfl⟩ := own_form h2
  unfold Oper.wp execOp
  simp only [resolve, invoke, builtin, Sem.run_bind, Sem.run_pure, Result.andThen_ok, List.map_toArray, List.map_cons, List.map_nil, ha.eval hs, ha.eval hx, hrun]
  refine ⟨_, ha.put d _ hd, h A2 c2 w' ?_⟩
  refine S.upd k hk h3.os h3.tape h3.output h3.size (fun i hi hn => h3.block i hi (fun e => hn e.symm)) h2 fun i hi => ?_
  change (Value.slice A2 (n + str.size) c2).ownBlock = some i at hi
  rcases hb with hb | hb
  · left; rw [hb] at hi; exact hi
  · right
    rw [hb] at hi
    cases hi
    exact ⟨Nat.le_refl _, (h2.lt _ hb).2⟩
/-- A place in an array that lies in an element. -/
theorem y_idxAR {dst : Option Tmp} {Sp : World → Prop} {x i : Operand} {t e : TypeId} {A : Option Addr} {n c k0 k size len : Nat} {xs : List Value} {q : IntKind} {j : Int} (ht : P.underlying t = some (.array len e)) (hsz : (P.info? e).map (·.size) = some 1)
    (hx : ev env x = some (pRF A k0)) (hr : Rs w size A n c xs) (hn : 0 < n) (hi : ev env i = some (.int q j)) (hj : Nt j k) (hk : k < len) :
    Y P Sp env ⟨dst, .indexAddr t x i, ty, pos, after, g⟩ (pRF A (k0 + k)) := fun N a w' ha _ => by
  have hj' := hj.eq
  subst hj'
  obtain ⟨ad, rfl, hb, hcell⟩ := hr.rd.2 hn
  have h1 : (0 : Int) ≤ (k : Int) ∧ (k : Int) < (len : Int) := by omega
  simp only [execOp, ha.eval hx, ha.eval hi, pRF, Option.map_some, Instr.indexAt, Instr.sureAddr, asIntOf, Sem.run_bind, run_underlying ht, Sem.run_pure, Result.andThen_ok, h1, and_self, if_true, sizeOf_run hsz, Int.toNat_natCast, add_of_add, Nat.mul_one]
end
end Go.Proofs.Ytmgimcdkeelnpaa.Zx

/-
  Put.
-/
namespace Go.Proofs.Ytmgimcdkeelnpaa
open Go.RowKit Zk Zx
set_option linter.unusedVariables false
set_option linter.unusedSimpArgs false

/-- An entry as bytes, a tree as bytes. -/
def encE (e : EV) : List UInt8 := [UInt8.ofNat (48 + e.md.toNat), 32] ++ e.nm.data.toList ++ [0] ++ e.id
def encT (l : List EV) : List UInt8 := l.flatMap encE
def putT (l : List EV) : List UInt8 × Int := if chkE l ≠ 0 then ([], chkE l) else (encT l, 0)
theorem put_err {l : List EV} (h : chkE l ≠ 0) : putT l = ([], chkE l) := by unfold putT; rw [if_pos h]
theorem put_ok {l : List EV} (h : chkE l = 0) : putT l = (encT l, 0) := by unfold putT; rw [if_neg (fun x => x h)]
theorem chk1_all : ∀ {l : List EV}, chk1 l = 0 → ∀ e ∈ l, mdOk e.md ∧ nmOk e.nm = true
  | [], _, e, he => by cases he
  | x :: l, h, e, he => by
    unfold chk1 at h
    split at h
    · exact absurd h (by decide)
    · rename_i h1
      split at h
      · exact absurd h (by decide)
      · rename_i h2
        rcases List.mem_cons.1 he with rfl | he
        · exact ⟨Decidable.not_not.1 h1, by simpa using h2⟩
        · exact chk1_all h e he
theorem chkE_all {l : List EV} (h : chkE l = 0) : l.length ≤ 64 ∧ chk1 l = 0 ∧ once l ∧ risK l = true := by
  unfold chkE at h
  split at h
  · exact absurd h (by decide)
  · rename_i h0
    split at h
    · rename_i h1; exact absurd h h1
    · rename_i h1
      split at h
      · exact absurd h (by decide)
      · rename_i h2
        split at h
        · exact absurd h (by decide)
        · rename_i h3
          exact ⟨by omega, Decidable.not_not.1 h1, Decidable.not_not.1 h2, by simpa using h3⟩
theorem nm_len {s : ByteArray} (h : nmOk s = true) : 1 ≤ s.size ∧ s.size ≤ 32 := by
  unfold nmOk at h
  simp only [Bool.and_eq_true, decide_eq_true_eq] at h
  exact ⟨h.1, h.2.1⟩
theorem encE_len (e : EV) : (encE e).length = 35 + e.nm.size := by
  unfold encE
  simp [e.h.1]
  have : e.nm.data.size = e.nm.size := rfl
  omega
theorem encT_step {l : List EV} {k : Nat} {x : EV} (hx : l[k]? = some x) : encT (l.take (k + 1)) = encT (l.take k) ++ encE x := by
  unfold encT
  rw [take_sn2 hx, List.flatMap_append]
  simp
theorem md_u8 {m : Int} (h : mdOk m) : IntKind.u8.wrap (48 + m) = ((UInt8.ofNat (48 + m.toNat)).toNat : Int) := by
  rw [IntKind.wrap_u8, UInt8.toNat_ofNat']
  unfold mdOk at h
  omega
theorem bLa (l m : List UInt8) : bL l ++ bL m = bL (l ++ m) := by simp [bL]
theorem rs_id {w : World} {b : Nat} {x : EV} (h : Blk w b 39 (enf x).toArray) : Rs w 1 (some ⟨b, 2, none⟩) 32 32 (bL x.id) := by
  have h2 := Rs.of_blk (o := 2) (n := 32) h (by rw [enf_sz]; omega) (by omega)
  have e : ((enf x).toArray.toList.drop 2).take 32 = bL x.id := by
    show (bL x.id).take 32 = bL x.id
    exact List.take_of_length_le (by simp [bL, x.h.1])
  rwa [e] at h2


set_option maxRecDepth 100000 in
theorem pput (A : Option Addr) (n c : Nat) (l : List EV) (w0 : World) (hl : Rs w0 34 A n c (l.flatMap enf)) (hn5 : n ≤ 10000) :
    Calls Try.prog 14 #[.slice A n c] w0 fun e w' => ∃ u, e = .returned u ∧ Like w0 w' ∧ ∃ A' c', u = .tuple #[.slice A' (putT l).1.length c', .int .i64 (putT l).2] ∧ w'.ownsRow w0.heap.size 5 1 (.slice A' (putT l).1.length c') (putT l).1.length (bL (putT l).1) := by
  refine enter1 (env := [(0, .slice A n c)]) [.slice A n c] Try.func14 rfl Try.ntmps14 rfl rfl ?_
  have hn := ens_n hl; have hcap := hl.cap; have hmax := hl.max; have S0 := St.start w0 noM
  refine T_seq fun K1 hK1 => ?_
  refine T_region ?_
  refine L_y (y_assign rfl) rfl ?_
  refine L_y (y_assign rfl) rfl ?_
  refine L_nil ?_
  refine hK1 _ _ ?_
  refine T_seq fun K2 hK2 => ?_
  refine T_seq fun K3 hK3 => ?_
  refine T_region ?_
  refine L_y (y_move rfl) rfl ?_
  refine L_o (o_call Try.func10 rfl rfl (pcheck A n c l w0 (S0.rd hl) hn5) rfl rfl ?_)
  rintro e1 w1 ⟨v1, rfl, l1, rfl⟩
  refine ⟨_, rfl, ?_⟩
  have S1 := S0.like l1
  refine L_y (y_assign rfl) rfl ?_
  refine L_nil ?_
  refine hK3 _ _ ?_
  refine T_seq fun K4 hK4 => ?_
  refine T_region ?_
  refine L_y (y_move rfl) rfl ?_
  refine L_y (y_neq rfl rfl) rfl ?_
  refine L_nil ?_
  refine hK4 _ _ ?_
  refine T_cond rfl (fun h11 => ?_) (fun h11 => ?_)
  ·
    refine T_seq fun K5 hK5 => ?_
    refine T_region ?_
    refine L_y (y_move rfl) rfl ?_
    refine L_y (y_assign rfl) rfl ?_
    refine L_y (y_assign rfl) rfl ?_
    refine L_nil ?_
    refine hK5 _ _ ?_
    refine T_ret ?_
    repeat (first | with_reducible refine up_then ?_ | with_reducible refine up_in ?_)
    refine ret2 rfl rfl rfl ?_
    first | exact ⟨_, rfl, S1.like0, none, 0, by rw [put_err h11]; rfl, by rw [put_err h11]; exact World.ownsRow_nil _ _ _ _⟩ | (have hke : k = n := by omega); subst hke; rw [List.take_of_length_le (by omega)] at hm; subst hm; exact ⟨_, rfl, S1.like0, _, _, by rw [put_ok h110], by rw [put_ok h110]; exact S1.own 0 rfl⟩
  ·
    have h110 := Decidable.byContradiction h11
    obtain ⟨h64, hc1, hon, hri⟩ := chkE_all h110
    have hall := chk1_all hc1
    refine T_skip ?_
    refine hK2 _ _ ?_
    refine T_seq fun K6 hK6 => ?_
    refine T_region ?_
    have S2 := S1.nilrow 5 1
    refine L_y (y_assign rfl) rfl ?_
    refine L_nil ?_
    refine hK6 _ _ ?_
    refine T_seq fun K7 hK7 => ?_
    refine T_seq fun K8 hK8 => ?_
    refine T_region ?_
    refine L_y (y_move rfl) rfl ?_
    refine L_y (y_len Try.underlying22 rfl) rfl ?_
    refine L_y (y_move rfl) rfl ?_
    refine L_nil ?_
    refine hK8 _ _ ?_
    refine T_block ?_
    refine T_loop4 [(13, _), (14, _)] (fun (k : Nat) (m : List UInt8) (A1 : Option Addr) (c1 : Nat) => [(15, .int .i64 (k : Int)), (5, .slice A1 m.length c1)]) (fun (k : Nat) (m : List UInt8) (A1 : Option Addr) (c1 : Nat) => n - k) (fun (k : Nat) (m : List UInt8) (A1 : Option Addr) (c1 : Nat) (w : World) => (k ≤ n ∧ m = encT (l.take k) ∧ m.length ≤ 100 * k) ∧ St w0 noM [row 5 1 A1 m.length c1 (bL m)] w) 0 [] none 0 (Sub.cons rfl (by first | rfl | exact congrArg (Value.int _) (by omega)) (Sub.cons rfl (by first | rfl | exact congrArg (Value.int _) (by omega)) (Sub.nil _))) (Sub.cons rfl rfl (Sub.cons rfl rfl (Sub.nil _))) ?_ ?_
    ·
      exact ⟨⟨Nat.zero_le _, rfl, Nat.zero_le _⟩, S2⟩
    ·
      intro k m A1 c1 w3 hrel
      obtain ⟨⟨hk, hm, hml⟩, S3⟩ := hrel
      refine T_seq fun K9 hK9 => ?_
      refine T_region ?_
      refine L_y (y_lss rfl rfl) rfl ?_
      refine L_nil ?_
      refine hK9 _ _ ?_
      refine T_seq fun K10 hK10 => ?_
      refine T_cond rfl (fun h16 => ?_) (fun h16 => ?_)
      ·
        obtain ⟨x, hx⟩ : ∃ x, l[k]? = some x := ⟨_, List.getElem?_eq_getElem (by omega)⟩
        obtain ⟨hmd, hnm⟩ := hall x (List.mem_of_getElem? hx)
        have hmd3 : x.md = 1 ∨ x.md = 2 ∨ x.md = 3 := hmd
        have hnl := nm_len hnm
        have hel := encE_len x
        have hid := x.h.1
        refine T_skip ?_
        refine hK10 _ _ ?_
        refine T_seq fun K11 hK11 => ?_
        refine T_block ?_
        refine T_seq fun K12 hK12 => ?_
        refine T_region ?_
        refine L_y (y_idx Try.underlying22 sz39 rfl rfl (S3.rd hl) (Nt.mk (by omega) : Nt _ (k)) (by omega)) rfl ?_
        refine L_y (y_ldp (f := enf) enf_len Try.underlying39 rfl sz39 rfl (S3.rd hl) (by omega) hx) rfl ?_
        refine L_o (o_alloc zz39 S3 rfl fun b4 w4 hb4 S4 => ?_)
        refine L_o (o_stW S4 1 rfl rfl rfl (szE x) ((enf_sz x).trans (by kernel_rfl)) (enf_one x) fun w5 S5 => ?_)
        refine L_nil ?_
        refine hK12 _ _ ?_
        refine T_seq fun K13 hK13 => ?_
        refine T_region ?_
        refine L_y (y_move rfl) rfl ?_
        refine L_y (y_fieldA 1 Try.underlying39 rfl sz3 rfl rfl rfl) rfl ?_
        refine L_y (y_ldc Try.underlying3 rfl rfl (((S5.blk 1 rfl).cell _).trans (by rfl))) rfl ?_
        refine L_y (y_add rfl rfl (i64w (by omega))) rfl ?_
        refine L_y (y_conv is3 Try.underlying5 rfl (md_u8 hmd)) rfl ?_
        refine L_o (o_bsl [_, _] te30 zz5 S5 rfl rfl rfl rfl rfl rfl rfl rfl fun b6 w6 S6 => ?_)
        refine L_o (o_app te30 S6 0 rfl rfl rfl (by first | exact S6.row 0 rfl | exact S6.row 2 rfl) (by first | exact bL_one _ | exact iL_one _ | (intro u hu; simp at hu; subst hu; rfl) | (simp; done) | (simp [Value.oneCell']; done)) rfl (by omega) (by omega) fun A7 c7 w7 S7 => ?_)
        have S7d := S7.drop (rs' := [_, _]) (.cons_cons _ (.cons_cons _ (.cons _ (.refl _))))
        refine L_y (y_assign rfl) rfl ?_
        refine L_nil ?_
        refine hK13 _ _ ?_
        refine T_seq fun K14 hK14 => ?_
        refine T_region ?_
        refine L_y (y_move rfl) rfl ?_
        refine L_y (y_fieldA 0 Try.underlying39 rfl sz9 rfl rfl rfl) rfl ?_
        refine L_y (y_ldc Try.underlying9 rfl rfl (((S7d.blk 1 rfl).cell _).trans (by rfl))) rfl ?_
        refine L_o (o_appS te30 Try.underlying9 S7d 0 rfl rfl rfl rfl (by omega) fun A8 c8 w8 S8 => ?_)
        refine L_y (y_assign rfl) rfl ?_
        refine L_nil ?_
        refine hK14 _ _ ?_
        refine T_seq fun K15 hK15 => ?_
        refine T_region ?_
        refine L_y (y_move rfl) rfl ?_
        refine L_o (o_bsl [_] te30 zz5 S8 rfl rfl rfl rfl rfl rfl rfl rfl fun b9 w9 S9 => ?_)
        refine L_o (o_app te30 S9 0 rfl rfl rfl (by first | exact S9.row 0 rfl | exact S9.row 2 rfl) (by first | exact bL_one _ | exact iL_one _ | (intro u hu; simp at hu; subst hu; rfl) | (simp; done) | (simp [Value.oneCell']; done)) rfl (by omega) (by omega) fun A10 c10 w10 S10 => ?_)
        have S10d := S10.drop (rs' := [_, _]) (.cons_cons _ (.cons_cons _ (.cons _ (.refl _))))
        refine L_y (y_assign rfl) rfl ?_
        refine L_nil ?_
        refine hK15 _ _ ?_
        refine T_region ?_
        refine L_y (y_move rfl) rfl ?_
        refine L_y (y_fieldA 2 Try.underlying39 rfl sz37 rfl rfl rfl) rfl ?_
        refine L_y (y_aslice Try.underlying37 sz5 rfl) rfl ?_
        refine L_o (o_app te30 S10d 0 rfl rfl rfl (rs_id (S10d.blk 1 rfl)) (bL_one _) rfl (by omega) (by omega) fun A11 c11 w11 S11 => ?_)
        refine L_y (y_assign rfl) rfl ?_
        refine L_nil ?_
        refine hK11 _ _ ?_
        refine T_region ?_
        refine L_y (y_add rfl rfl (i64w (by omega))) rfl ?_
        refine L_y (y_move rfl) rfl ?_
        refine L_nil ?_
        have S9 := S11.rowc 0 rfl (n' := (m ++ encE x).length) (xs' := bL (m ++ encE x)) (by rw [List.length_append, hel]; omega) (by unfold encE; rw [← bLa, ← bLa, ← bLa, ← bLa]; simp only [List.append_assoc]; rfl)
        have S8 := S9.drop (.cons_cons _ (.cons _ (.refl _)))
        refine ⟨k + 1, (m ++ encE x), _, _, by omega, ⟨⟨by omega, by rw [encT_step hx, hm], by rw [List.length_append, hel]; omega⟩, S8⟩, ?_⟩
        exact (Sub.cons rfl (by first | rfl | exact congrArg (Value.int _) (by omega)) (Sub.cons rfl (by rw [List.length_append, hel]; congr 1; omega) (Sub.cons rfl rfl (Sub.cons rfl rfl (Sub.nil _)))))
      ·
        refine T_exit ?_
        refine hK7 _ _ ?_
        refine T_seq fun K16 hK16 => ?_
        refine T_region ?_
        refine L_y (y_move rfl) rfl ?_
        refine L_y (y_assign rfl) rfl ?_
        refine L_y (y_assign rfl) rfl ?_
        refine L_nil ?_
        refine hK16 _ _ ?_
        refine T_ret ?_
        repeat (first | with_reducible refine up_then ?_ | with_reducible refine up_in ?_)
        refine ret2 rfl rfl rfl ?_
        first | exact ⟨_, rfl, S3.like0, none, 0, by rw [put_err h11]; rfl, by rw [put_err h11]; exact World.ownsRow_nil _ _ _ _⟩ | (have hke : k = n := by omega); subst hke; rw [List.take_of_length_le (by omega)] at hm; subst hm; exact ⟨_, rfl, S3.like0, _, _, by rw [put_ok h110], by rw [put_ok h110]; exact S3.own 0 rfl⟩
end Go.Proofs.Ytmgimcdkeelnpaa

/-
  The document: Put.
-/
namespace Go.Proofs.Ytmgimcdkeelnpaa
open Go.RowKit Zk Zx
set_option linter.unusedVariables false
set_option linter.unusedSimpArgs false

def preE (x : EV) : List UInt8 := [UInt8.ofNat (48 + x.md.toNat), 32] ++ x.nm.data.toList ++ [0]
theorem preE_len (x : EV) : (preE x).length = 3 + x.nm.size := by
  unfold preE
  simp
  have : x.nm.data.size = x.nm.size := rfl
  omega
theorem encE_pre (x : EV) : encE x = preE x ++ x.id := rfl
theorem bL_pre (m : List UInt8) (x : EV) : bL m ++ [Value.int .u8 ((UInt8.ofNat (48 + x.md.toNat)).toNat : Int)] ++ [Value.int .u8 32] ++ bL x.nm.data.toList ++ [Value.int .u8 0] = bL (m ++ preE x) := by
  unfold preE
  rw [← bLa, ← bLa, ← bLa]
  simp only [List.append_assoc]
  rfl
theorem id_step {m : List UInt8} {x : EV} {j : Nat} {c : UInt8} (hc : x.id[j]? = some c) : m ++ preE x ++ x.id.take (j + 1) = (m ++ preE x ++ x.id.take j) ++ [c] := by
  rw [take_sn2 hc, List.append_assoc]
  simp only [List.append_assoc]
theorem id_stepL {m : List UInt8} {x : EV} {j : Nat} {c : UInt8} (hc : x.id[j]? = some c) : (m ++ preE x ++ x.id.take j).length + 1 = (m ++ preE x ++ x.id.take (j + 1)).length := by
  rw [id_step hc]; simp only [List.length_append, List.length_cons, List.length_nil]
theorem en_b {l : List EV} {k j : Nat} {x : EV} {c : UInt8} (hx : l[k]? = some x) (hc : x.id[j]? = some c) (hj : j < 32) : (l.flatMap enf)[k * 34 + 2 + j]? = some (.int .u8 (c.toNat : Int)) := by
  rw [Nat.add_assoc]
  refine (en_get l k (2 + j) x hx (by omega)).trans ?_
  show (Value.string x.nm :: Value.int .i64 x.md :: bL x.id)[2 + j]? = _
  rw [show 2 + j = j + 1 + 1 by omega, List.getElem?_cons_succ, List.getElem?_cons_succ]
  exact bL_get _ _ _ hc


set_option maxRecDepth 100000 in
theorem rput (A : Option Addr) (n c : Nat) (l : List EV) (w0 : World) (hl : Rs w0 34 A n c (l.flatMap enf)) (hn5 : n ≤ 10000) :
    Calls Try.prog 15 #[.slice A n c] w0 fun e w' => ∃ u, e = .returned u ∧ Like w0 w' ∧ ∃ A' c', u = .tuple #[.slice A' (putT l).1.length c', .int .i64 (putT l).2] ∧ w'.ownsRow w0.heap.size 5 1 (.slice A' (putT l).1.length c') (putT l).1.length (bL (putT l).1) := by
  refine enter1 (env := [(0, .slice A n c)]) [.slice A n c] Try.func15 rfl Try.ntmps15 rfl rfl ?_
  have hn := ens_n hl; have hcap := hl.cap; have hmax := hl.max; have S0 := St.start w0 noM
  refine T_seq fun K1 hK1 => ?_
  refine T_region ?_
  refine L_y (y_assign rfl) rfl ?_
  refine L_y (y_assign rfl) rfl ?_
  refine L_nil ?_
  refine hK1 _ _ ?_
  refine T_seq fun K2 hK2 => ?_
  refine T_region ?_
  refine L_y (y_move rfl) rfl ?_
  refine L_o (o_call Try.func11 rfl rfl (rcheck A n c l w0 (S0.rd hl) hn5) rfl rfl ?_)
  rintro e1 w1 ⟨v1, rfl, l1, rfl⟩
  refine ⟨_, rfl, ?_⟩
  have S1 := S0.like l1
  refine L_y (y_assign rfl) rfl ?_
  refine L_nil ?_
  refine hK2 _ _ ?_
  refine T_seq fun K3 hK3 => ?_
  refine T_seq fun K4 hK4 => ?_
  refine T_region ?_
  refine L_y (y_move rfl) rfl ?_
  refine L_y (y_neq rfl rfl) rfl ?_
  refine L_nil ?_
  refine hK4 _ _ ?_
  refine T_cond rfl (fun h11 => ?_) (fun h11 => ?_)
  ·
    refine T_seq fun K5 hK5 => ?_
    refine T_region ?_
    refine L_y (y_move rfl) rfl ?_
    refine L_y (y_assign rfl) rfl ?_
    refine L_y (y_assign rfl) rfl ?_
    refine L_nil ?_
    refine hK5 _ _ ?_
    refine T_ret ?_
    repeat (first | with_reducible refine up_then ?_ | with_reducible refine up_in ?_)
    refine ret2 rfl rfl rfl ?_
    first | exact ⟨_, rfl, S1.like0, none, 0, by rw [put_err h11]; rfl, by rw [put_err h11]; exact World.ownsRow_nil _ _ _ _⟩ | (have hke : k = n := by omega); subst hke; rw [List.take_of_length_le (by omega)] at hm; subst hm; exact ⟨_, rfl, S1.like0, _, _, by rw [put_ok h110], by rw [put_ok h110]; exact S1.own 0 rfl⟩
  ·
    have h110 := Decidable.byContradiction h11
    obtain ⟨h64, hc1, hon, hri⟩ := chkE_all h110
    have hall := chk1_all hc1
    refine T_skip ?_
    refine hK3 _ _ ?_
    refine T_seq fun K6 hK6 => ?_
    refine T_region ?_
    have S2 := S1.nilrow 5 1
    refine L_y (y_assign rfl) rfl ?_
    refine L_nil ?_
    refine hK6 _ _ ?_
    refine T_seq fun K7 hK7 => ?_
    refine T_seq fun K8 hK8 => ?_
    refine T_region ?_
    refine L_y (y_assign rfl) rfl ?_
    refine L_nil ?_
    refine hK8 _ _ ?_
    refine T_block ?_
    refine T_loop4 [(0, _)] (fun (k : Nat) (m : List UInt8) (A1 : Option Addr) (c1 : Nat) => [(6, .int .i64 (k : Int)), (5, .slice A1 m.length c1)]) (fun (k : Nat) (m : List UInt8) (A1 : Option Addr) (c1 : Nat) => n - k) (fun (k : Nat) (m : List UInt8) (A1 : Option Addr) (c1 : Nat) (w : World) => (k ≤ n ∧ m = encT (l.take k) ∧ m.length ≤ 100 * k) ∧ St w0 noM [row 5 1 A1 m.length c1 (bL m)] w) 0 [] none 0 (Sub.cons rfl (by first | rfl | exact congrArg (Value.int _) (by omega)) (Sub.cons rfl (by first | rfl | exact congrArg (Value.int _) (by omega)) (Sub.nil _))) (Sub.cons rfl rfl (Sub.nil _)) ?_ ?_
    ·
      exact ⟨⟨Nat.zero_le _, rfl, Nat.zero_le _⟩, S2⟩
    ·
      intro k m A1 c1 w3 hrel
      obtain ⟨⟨hk, hm, hml⟩, S3⟩ := hrel
      refine T_seq fun K9 hK9 => ?_
      refine T_seq fun K10 hK10 => ?_
      refine T_region ?_
      refine L_y (y_move rfl) rfl ?_
      refine L_y (y_move rfl) rfl ?_
      refine L_y (y_len Try.underlying22 rfl) rfl ?_
      refine L_y (y_lss rfl rfl) rfl ?_
      refine L_nil ?_
      refine hK10 _ _ ?_
      refine T_cond rfl (fun h16 => ?_) (fun h16 => ?_)
      ·
        obtain ⟨x, hx⟩ : ∃ x, l[k]? = some x := ⟨_, List.getElem?_eq_getElem (by omega)⟩
        obtain ⟨hmd, hnm⟩ := hall x (List.mem_of_getElem? hx)
        have hmd3 : x.md = 1 ∨ x.md = 2 ∨ x.md = 3 := hmd
        have hnl := nm_len hnm
        have hel := encE_len x
        have hid := x.h.1
        refine T_skip ?_
        refine hK9 _ _ ?_
        refine T_seq fun K11 hK11 => ?_
        refine T_block ?_
        refine T_seq fun K12 hK12 => ?_
        refine T_region ?_
        refine L_y (y_move rfl) rfl ?_
        refine L_y (y_move rfl) rfl ?_
        refine L_y (y_move rfl) rfl ?_
        refine L_y (y_idx Try.underlying22 sz39 rfl rfl (S3.rd hl) (Nt.mk (by omega) : Nt _ (k)) (by omega)) rfl ?_
        refine L_y (y_fieldR 1 Try.underlying39 rfl sz3 rfl rfl (S3.rd hl) (by omega) rfl) rfl ?_
        refine L_y (y_ldf Try.underlying3 rfl rfl (S3.rd hl) (by omega) (en_md hx)) rfl ?_
        refine L_y (y_add rfl rfl (i64w (by omega))) rfl ?_
        refine L_y (y_conv is3 Try.underlying5 rfl (md_u8 hmd)) rfl ?_
        refine L_o (o_bsl [_] te30 zz5 S3 rfl rfl rfl rfl rfl rfl rfl rfl fun b4 w4 S4 => ?_)
        refine L_o (o_app te30 S4 0 rfl rfl rfl (by first | exact S4.row 0 rfl | exact S4.row 1 rfl) (by first | exact bL_one _ | exact iL_one _ | (intro u hu; simp at hu; subst hu; rfl) | (simp; done) | (simp [Value.oneCell']; done)) rfl (by omega) (by omega) fun A5 c5 w5 S5 => ?_)
        have S5d := S5.drop (rs' := [_]) (.cons_cons _ (.cons _ (.refl _)))
        refine L_y (y_assign rfl) rfl ?_
        refine L_nil ?_
        refine hK12 _ _ ?_
        refine T_seq fun K13 hK13 => ?_
        refine T_region ?_
        refine L_y (y_move rfl) rfl ?_
        refine L_o (o_bsl [_] te30 zz5 S5d rfl rfl rfl rfl rfl rfl rfl rfl fun b6 w6 S6 => ?_)
        refine L_o (o_app te30 S6 0 rfl rfl rfl (by first | exact S6.row 0 rfl | exact S6.row 1 rfl) (by first | exact bL_one _ | exact iL_one _ | (intro u hu; simp at hu; subst hu; rfl) | (simp; done) | (simp [Value.oneCell']; done)) rfl (by omega) (by omega) fun A7 c7 w7 S7 => ?_)
        have S7d := S7.drop (rs' := [_]) (.cons_cons _ (.cons _ (.refl _)))
        refine L_y (y_assign rfl) rfl ?_
        refine L_nil ?_
        refine hK13 _ _ ?_
        refine T_seq fun K14 hK14 => ?_
        refine T_region ?_
        refine L_y (y_move rfl) rfl ?_
        refine L_y (y_move rfl) rfl ?_
        refine L_y (y_move rfl) rfl ?_
        refine L_y (y_idx Try.underlying22 sz39 rfl rfl (S7d.rd hl) (Nt.mk (by omega) : Nt _ (k)) (by omega)) rfl ?_
        refine L_y (y_fieldR 0 Try.underlying39 rfl sz9 rfl rfl (S7d.rd hl) (by omega) rfl) rfl ?_
        refine L_y (y_ldf Try.underlying9 rfl rfl (S7d.rd hl) (by omega) (en_nm hx)) rfl ?_
        refine L_o (o_sbytes Try.underlying9 Try.underlying30 Try.underlying5 rfl (by omega) S7d rfl fun b8 c8 w8 l8 S8 => ?_)
        refine L_o (o_app te30 S8 0 rfl rfl rfl (by first | exact S8.row 0 rfl | exact S8.fix 1 rfl) (by first | exact bL_one _ | exact iL_one _ | (intro u hu; simp at hu; subst hu; rfl) | (simp; done) | (simp [Value.oneCell']; done)) rfl (by omega) (by omega) fun A9 c9 w9 S9 => ?_)
        refine L_y (y_assign rfl) rfl ?_
        refine L_nil ?_
        refine hK14 _ _ ?_
        refine T_seq fun K15 hK15 => ?_
        refine T_region ?_
        refine L_y (y_move rfl) rfl ?_
        refine L_o (o_bsl [_] te30 zz5 S9 rfl rfl rfl rfl rfl rfl rfl rfl fun b10 w10 S10 => ?_)
        refine L_o (o_app te30 S10 0 rfl rfl rfl (by first | exact S10.row 0 rfl | exact S10.fix 1 rfl | exact S10.row 2 rfl) (by first | exact bL_one _ | exact iL_one _ | (intro u hu; simp at hu; subst hu; rfl) | (simp; done) | (simp [Value.oneCell']; done)) rfl (by omega) (by omega) fun A11 c11 w11 S11 => ?_)
        have S11d := S11.drop (rs' := [_, _]) (.cons_cons _ (.cons_cons _ (.cons _ (.refl _))))
        refine L_y (y_assign rfl) rfl ?_
        refine L_nil ?_
        refine hK15 _ _ ?_
        refine T_seq fun K16 hK16 => ?_
        refine T_region ?_
        refine L_y (y_assign rfl) rfl ?_
        refine L_nil ?_
        refine hK16 _ _ ?_
        refine T_block ?_
        refine T_loop3 [(0, _), (6, _)] (fun (j : Nat) (A2 : Option Addr) (c2 : Nat) => [(7, .int .i64 (j : Int)), (5, .slice A2 (m ++ preE x ++ x.id.take j).length c2)]) (fun (j : Nat) (A2 : Option Addr) (c2 : Nat) => 32 - j) (fun (j : Nat) (A2 : Option Addr) (c2 : Nat) (w : World) => j ≤ 32 ∧ St w0 noM [row 5 1 A2 (m ++ preE x ++ x.id.take j).length c2 (bL (m ++ preE x ++ x.id.take j))] w) 0 _ _ (Sub.cons rfl (by first | rfl | (rw [List.take_zero, List.append_nil, List.length_append, preE_len]; congr 1; omega)) (Sub.cons rfl (by first | rfl | (rw [List.take_zero, List.append_nil, List.length_append, preE_len]; congr 1; omega)) (Sub.nil _))) (Sub.cons rfl rfl (Sub.cons rfl rfl (Sub.nil _))) ?_ ?_
        ·
          have S9 := (S11d.rowc 0 rfl (n' := (m ++ preE x ++ x.id.take 0).length) (xs' := bL (m ++ preE x ++ x.id.take 0)) (by rw [List.take_zero, List.append_nil, List.length_append, preE_len]; omega) (by rw [List.take_zero, List.append_nil]; exact bL_pre m x)).drop (.cons_cons _ (.cons _ (.refl _)))
          exact ⟨Nat.zero_le _, S9⟩
        ·
          intro j A2 c2 w12 hrel
          obtain ⟨hj, S12⟩ := hrel
          have hpl : (m ++ preE x ++ x.id.take j).length = m.length + 3 + x.nm.size + j := by rw [List.length_append, List.length_append, preE_len, List.length_take, x.h.1]; omega
          refine T_seq fun K17 hK17 => ?_
          refine T_seq fun K18 hK18 => ?_
          refine T_region ?_
          refine L_y (y_move rfl) rfl ?_
          refine L_y (y_lss rfl rfl) rfl ?_
          refine L_nil ?_
          refine hK18 _ _ ?_
          refine T_cond rfl (fun h44 => ?_) (fun h44 => ?_)
          ·
            obtain ⟨c, hc⟩ : ∃ c, x.id[j]? = some c := ⟨_, List.getElem?_eq_getElem (by omega)⟩
            refine T_skip ?_
            refine hK17 _ _ ?_
            refine T_seq fun K19 hK19 => ?_
            refine T_block ?_
            refine T_region ?_
            refine L_y (y_move rfl) rfl ?_
            refine L_y (y_move rfl) rfl ?_
            refine L_y (y_move rfl) rfl ?_
            refine L_y (y_move rfl) rfl ?_
            refine L_y (y_idx Try.underlying22 sz39 rfl rfl (S12.rd hl) (Nt.mk (by omega) : Nt _ (k)) (by omega)) rfl ?_
            refine L_y (y_fieldR 2 Try.underlying39 rfl sz37 rfl rfl (S12.rd hl) (by omega) rfl) rfl ?_
            refine L_y (y_idxAR Try.underlying37 sz5 rfl (S12.rd hl) (by omega) rfl (Nt.mk rfl : Nt _ j) (by omega)) rfl ?_
            refine L_y (y_ldf Try.underlying5 rfl rfl (S12.rd hl) (by omega) (en_b hx hc (by omega))) rfl ?_
            refine L_o (o_bsl [_] te30 zz5 S12 rfl rfl rfl rfl rfl rfl rfl rfl fun b13 w13 S13 => ?_)
            refine L_o (o_app te30 S13 0 rfl rfl rfl (by first | exact S13.row 0 rfl | exact S13.row 1 rfl) (by first | exact bL_one _ | exact iL_one _ | (intro u hu; simp at hu; subst hu; rfl) | (simp; done) | (simp [Value.oneCell']; done)) rfl (by omega) (by omega) fun A14 c14 w14 S14 => ?_)
            have S14d := S14.drop (rs' := [_]) (.cons_cons _ (.cons _ (.refl _)))
            refine L_y (y_assign rfl) rfl ?_
            refine L_nil ?_
            refine hK19 _ _ ?_
            refine T_region ?_
            refine L_y (y_move rfl) rfl ?_
            refine L_y (y_add rfl rfl (i64w (by omega))) rfl ?_
            refine L_y (y_assign rfl) rfl ?_
            refine L_nil ?_
            have S9 := S14d.rowc 0 rfl (n' := (m ++ preE x ++ x.id.take (j + 1)).length) (xs' := bL (m ++ preE x ++ x.id.take (j + 1))) (id_stepL hc) (by rw [id_step hc]; exact bLa _ [c])
            refine ⟨j + 1, _, _, by omega, ⟨by omega, S9⟩, ?_⟩
            exact (Sub.cons rfl (by first | rfl | exact congrArg (Value.int _) (by omega)) (Sub.cons rfl (by rw [id_stepL hc]) (Sub.cons rfl rfl (Sub.cons rfl rfl (Sub.nil _)))))
          ·
            refine T_exit ?_
            refine hK11 _ _ ?_
            refine T_region ?_
            refine L_y (y_move rfl) rfl ?_
            refine L_y (y_add rfl rfl (i64w (by omega))) rfl ?_
            refine L_y (y_assign rfl) rfl ?_
            refine L_nil ?_
            have e9 : (m ++ preE x ++ x.id.take j) = (m ++ encE x) := by rw [List.take_of_length_le (by omega)]; rw [encE_pre, List.append_assoc]
            have S8 := S12.rowc 0 rfl (n' := (m ++ encE x).length) (xs' := bL (m ++ encE x)) (by rw [e9]) (by rw [e9])
            refine ⟨k + 1, (m ++ encE x), A2, c2, by omega, ⟨⟨by omega, by rw [encT_step hx, hm], by rw [List.length_append, hel]; omega⟩, S8⟩, ?_⟩
            exact (Sub.cons rfl (by first | rfl | exact congrArg (Value.int _) (by omega)) (Sub.cons rfl (by rw [e9]) (Sub.cons rfl rfl (Sub.nil _))))
      ·
        refine T_exit ?_
        refine hK7 _ _ ?_
        refine T_seq fun K20 hK20 => ?_
        refine T_region ?_
        refine L_y (y_move rfl) rfl ?_
        refine L_y (y_assign rfl) rfl ?_
        refine L_y (y_assign rfl) rfl ?_
        refine L_nil ?_
        refine hK20 _ _ ?_
        refine T_ret ?_
        repeat (first | with_reducible refine up_then ?_ | with_reducible refine up_in ?_)
        refine ret2 rfl rfl rfl ?_
        first | exact ⟨_, rfl, S3.like0, none, 0, by rw [put_err h11]; rfl, by rw [put_err h11]; exact World.ownsRow_nil _ _ _ _⟩ | (have hke : k = n := by omega); subst hke; rw [List.take_of_length_le (by omega)] at hm; subst hm; exact ⟨_, rfl, S3.like0, _, _, by rw [put_ok h110], by rw [put_ok h110]; exact S3.own 0 rfl⟩
end Go.Proofs.Ytmgimcdkeelnpaa

/-
  The law TreePuts.
-/
namespace Go.Proofs.Ytmgimcdkeelnpaa
open Go.RowKit Zk Zx
set_option linter.unusedVariables false
set_option linter.unusedSimpArgs false

theorem byt_inj (l k : List UInt8) : decide ((⟨l.toArray⟩ : ByteArray) = ⟨k.toArray⟩) = decide (l = k) := by
  by_cases h : l = k
  · subst h; simp
  · rw [decide_eq_false h, decide_eq_false]
    intro e
    injection e with e
    exact h (by simpa using congrArg Array.toList e)


set_option maxRecDepth 100000 in
theorem same1 (A B : Option Addr) (n c m d : Nat) (a b : List UInt8) (w0 : World) (ha : Rs w0 1 A n c (bL a)) (hb : Rs w0 1 B m d (bL b)) :
    Calls Try.prog 16 #[.slice A n c, .slice B m d] w0 fun e w' => ∃ u, e = .returned u ∧ Like w0 w' ∧ u = .bool (decide (a = b)) := by
  refine enter1 (env := [(0, .slice A n c), (1, .slice B m d)]) [.slice A n c, .slice B m d] Try.func16 rfl Try.ntmps16 rfl rfl ?_
  have S0 := St.start w0 noM
  refine T_seq fun K1 hK1 => ?_
  refine T_region ?_
  refine L_y (y_assign rfl) rfl ?_
  refine L_nil ?_
  refine hK1 _ _ ?_
  refine T_seq fun K2 hK2 => ?_
  refine T_region ?_
  refine L_y (y_move rfl) rfl ?_
  refine L_y (y_bstr Try.underlying30 Try.underlying5 Try.underlying9 rfl (S0.rd ha)) rfl ?_
  refine L_y (y_move rfl) rfl ?_
  refine L_y (y_bstr Try.underlying30 Try.underlying5 Try.underlying9 rfl (S0.rd hb)) rfl ?_
  refine L_y (y_seql rfl rfl) rfl ?_
  refine L_y (y_assign rfl) rfl ?_
  refine L_nil ?_
  refine hK2 _ _ ?_
  refine T_ret ?_
  repeat (first | with_reducible refine up_then ?_ | with_reducible refine up_in ?_)
  refine ret1 rfl rfl ?_
  exact ⟨_, rfl, S0.like0, by rw [byt_inj]⟩


theorem same1T (A B : Option Addr) (n c m d : Nat) (a : List UInt8) (w0 : World) (ha : Rs w0 1 A n c (bL a)) (hb : Rs w0 1 B m d (bL a)) :
    Calls Try.prog 16 #[.slice A n c, .slice B m d] w0 fun e w' => ∃ u, e = .returned u ∧ Like w0 w' ∧ u = .bool true :=
  (same1 A B n c m d a a w0 ha hb).mono fun e w' ⟨u, h1, h2, h3⟩ => ⟨u, h1, h2, by rw [h3, decide_eq_true rfl]⟩


set_option maxRecDepth 100000 in
theorem lputs (A : Option Addr) (c : Nat) (l : List EV) (w0 : World) (hl : Rs w0 34 A l.length c (l.flatMap enf)) :
    Calls Try.prog 4 #[.slice A l.length c] w0 fun e w' => ∃ u, e = .returned u ∧ Like w0 w' ∧ u = .bool true := by
  refine enter1 (env := [(0, .slice A l.length c)]) [.slice A l.length c] Try.func4 rfl Try.ntmps4 rfl rfl ?_
  have hcap := hl.cap; have hmax := hl.max; have S0 := St.start w0 noM
  refine T_seq fun K1 hK1 => ?_
  refine T_region ?_
  refine L_y (y_assign rfl) rfl ?_
  refine L_nil ?_
  refine hK1 _ _ ?_
  refine T_seq fun K2 hK2 => ?_
  refine T_seq fun K3 hK3 => ?_
  refine T_region ?_
  refine L_y (y_move rfl) rfl ?_
  refine L_y (y_len Try.underlying22 rfl) rfl ?_
  refine L_y (y_gtr rfl rfl) rfl ?_
  refine L_nil ?_
  refine hK3 _ _ ?_
  refine T_cond rfl (fun h14 => ?_) (fun h14 => ?_)
  ·
    refine T_seq fun K4 hK4 => ?_
    refine T_region ?_
    refine L_o (o_call Try.func8 rfl rfl (works w0) rfl rfl ?_)
    rintro e1 w1 ⟨v1, rfl, l1, rfl⟩
    refine ⟨_, rfl, ?_⟩
    have S1 := S0.like l1
    refine L_y (y_assign rfl) rfl ?_
    refine L_nil ?_
    refine hK4 _ _ ?_
    refine T_ret ?_
    repeat (first | with_reducible refine up_then ?_ | with_reducible refine up_in ?_)
    refine ret1 rfl rfl ?_
    exact ⟨_, rfl, S1.like0, rfl⟩
  ·
    refine T_skip ?_
    refine hK2 _ _ ?_
    refine T_seq fun K5 hK5 => ?_
    refine T_region ?_
    refine L_y (y_move rfl) rfl ?_
    refine L_o (o_call Try.func14 rfl rfl (pput A l.length c l w0 (S0.rd hl) (by omega)) rfl rfl ?_)
    rintro e2 w2 ⟨v2, rfl, l2, A18, c18, rfl, O2⟩
    refine ⟨_, rfl, ?_⟩
    have S2 := S0.adopt l2 O2
    refine L_y (y_move rfl) rfl ?_
    refine L_y (y_extract rfl rfl) rfl ?_
    refine L_y (y_extract rfl rfl) rfl ?_
    refine L_y (y_assign rfl) rfl ?_
    refine L_y (y_assign rfl) rfl ?_
    refine L_nil ?_
    refine hK5 _ _ ?_
    refine T_seq fun K6 hK6 => ?_
    refine T_region ?_
    refine L_y (y_move rfl) rfl ?_
    refine L_o (o_call Try.func15 rfl rfl (rput A l.length c l w2 (S2.rd hl) (by omega)) rfl rfl ?_)
    rintro e3 w3 ⟨v3, rfl, l3, A23, c23, rfl, O3⟩
    refine ⟨_, rfl, ?_⟩
    have S3 := S2.adopt l3 O3
    refine L_y (y_move rfl) rfl ?_
    refine L_y (y_extract rfl rfl) rfl ?_
    refine L_y (y_extract rfl rfl) rfl ?_
    refine L_y (y_assign rfl) rfl ?_
    refine L_y (y_assign rfl) rfl ?_
    refine L_nil ?_
    refine hK6 _ _ ?_
    refine T_seq fun K7 hK7 => ?_
    refine T_region ?_
    refine L_y (y_move rfl) rfl ?_
    refine L_o (o_call Try.func13 rfl rfl (rsorted A l.length c l w3 (S3.rd hl) (by omega)) rfl rfl ?_)
    rintro e4 w4 ⟨v4, rfl, l4, A27, c27, rfl, O4⟩
    refine ⟨_, rfl, ?_⟩
    have S4 := S3.adopt l4 O4
    refine L_y (y_assign rfl) rfl ?_
    refine L_nil ?_
    refine hK7 _ _ ?_
    refine T_seq fun K8 hK8 => ?_
    refine T_region ?_
    refine L_y (y_move rfl) rfl ?_
    refine L_o (o_call Try.func14 rfl rfl (pput A27 (srt ltK l).length c27 (srt ltK l) w4 (S4.row 2 rfl) (by rw [srt_len]; omega)) rfl rfl ?_)
    rintro e5 w5 ⟨v5, rfl, l5, A30, c30, rfl, O5⟩
    refine ⟨_, rfl, ?_⟩
    have S5 := S4.adopt l5 O5
    refine L_y (y_move rfl) rfl ?_
    refine L_y (y_extract rfl rfl) rfl ?_
    refine L_y (y_extract rfl rfl) rfl ?_
    refine L_y (y_assign rfl) rfl ?_
    refine L_y (y_assign rfl) rfl ?_
    refine L_nil ?_
    refine hK8 _ _ ?_
    refine T_seq fun K9 hK9 => ?_
    refine T_region ?_
    refine L_y (y_move rfl) rfl ?_
    refine L_o (o_call Try.func15 rfl rfl (rput A27 (srt ltK l).length c27 (srt ltK l) w5 (S5.row 2 rfl) (by rw [srt_len]; omega)) rfl rfl ?_)
    rintro e6 w6 ⟨v6, rfl, l6, A35, c35, rfl, O6⟩
    refine ⟨_, rfl, ?_⟩
    have S6 := S5.adopt l6 O6
    refine L_y (y_move rfl) rfl ?_
    refine L_y (y_extract rfl rfl) rfl ?_
    refine L_y (y_extract rfl rfl) rfl ?_
    refine L_y (y_assign rfl) rfl ?_
    refine L_y (y_assign rfl) rfl ?_
    refine L_nil ?_
    refine hK9 _ _ ?_
    refine T_seq fun K10 hK10 => ?_
    refine T_region ?_
    refine L_y (y_move rfl) rfl ?_
    refine L_y (y_move rfl) rfl ?_
    refine L_o (o_call Try.func16 rfl rfl (same1T A18 A23 _ c18 _ c23 _ w6 (S6.row 0 rfl) (S6.row 1 rfl)) rfl rfl ?_)
    rintro e7 w7 ⟨v7, rfl, l7, rfl⟩
    refine ⟨_, rfl, ?_⟩
    have S7 := S6.like l7
    refine L_y (y_move rfl) rfl ?_
    refine L_splitB 41 rfl (fun h41 => ?_) (fun h41 => ?_)
    ·
      refine L_gyes rfl rfl ?_
      refine L_y (y_move rfl) rfl ?_
      refine L_gyes rfl rfl ?_
      refine L_y (y_move rfl) rfl ?_
      refine L_gyes rfl rfl ?_
      refine L_y (y_eql rfl rfl) rfl ?_
      refine L_y ((by first | exact y_pickT rfl rfl | exact y_pickF rfl rfl)) rfl ?_
      refine L_y (y_move rfl) rfl ?_
      refine L_split 46 rfl (fun h46 => ?_) (fun h46 => ?_)
      ·
        refine L_gyes rfl rfl ?_
        refine L_y (y_move rfl) rfl ?_
        refine L_gyes rfl rfl ?_
        refine L_y (y_move rfl) rfl ?_
        refine L_gyes rfl rfl ?_
        refine L_o (o_call Try.func16 rfl rfl (same1T A30 A35 _ c30 _ c35 _ w7 (S7.row 3 rfl) (S7.row 4 rfl)) rfl rfl ?_)
        rintro e10 w10 ⟨v10, rfl, l10, rfl⟩
        refine ⟨_, rfl, ?_⟩
        have S10 := S7.like l10
        refine L_y ((by first | exact y_pickT rfl rfl | exact y_pickF rfl rfl)) rfl ?_
        refine L_y (y_move rfl) rfl ?_
        refine L_splitB 51 rfl (fun h51 => ?_) (fun h51 => ?_)
        ·
          refine L_gyes rfl rfl ?_
          refine L_y (y_move rfl) rfl ?_
          refine L_gyes rfl rfl ?_
          refine L_y (y_move rfl) rfl ?_
          refine L_gyes rfl rfl ?_
          refine L_y (y_eql rfl rfl) rfl ?_
          refine L_y ((by first | exact y_pickT rfl rfl | exact y_pickF rfl rfl)) rfl ?_
          refine L_y (y_move rfl) rfl ?_
          refine L_split 56 rfl (fun h56 => ?_) (fun h56 => ?_)
          ·
            refine L_gyes rfl rfl ?_
            refine L_o (o_call Try.func8 rfl rfl (works w10) rfl rfl ?_)
            rintro e13 w13 ⟨v13, rfl, l13, rfl⟩
            refine ⟨_, rfl, ?_⟩
            have S13 := S10.like l13
            refine L_y ((by first | exact y_pickT rfl rfl | exact y_pickF rfl rfl)) rfl ?_
            refine L_y (y_assign rfl) rfl ?_
            refine L_nil ?_
            refine hK10 _ _ ?_
            refine T_ret ?_
            repeat (first | with_reducible refine up_then ?_ | with_reducible refine up_in ?_)
            refine ret1 rfl rfl ?_
            exact ⟨_, rfl, S13.like0, rfl⟩
          ·
            exact absurd h56 (by simp)
        ·
          exact absurd h51 (by simp)
      ·
        exact absurd h46 (by simp)
    ·
      exact absurd h41 (by simp)


theorem puts_law (A : Option Addr) (n c : Nat) (l : List EW) (w0 : World) (hl : Rs w0 34 A n c (l.flatMap ewf)) (hs : (l.map fun e => e.nm.size).sum ≤ 1048576) :
    Calls Try.prog 4 #[.slice A n c] w0 fun e w' => e = .returned (.bool true) ∧ Below w0.heap.size w0 w' := by
  obtain ⟨l2, h1, _, _⟩ := ew_ev l hs
  rw [h1] at hl
  have hn := ens_n hl
  subst hn
  exact (lputs A c l2 w0 hl).mono fun e w' ⟨u, h1, h2, h3⟩ => by subst h3; exact ⟨h1, h2⟩
end Go.Proofs.Ytmgimcdkeelnpaa
