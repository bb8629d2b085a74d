import Derived.Test.YtbbmkgpgiacdeaaMgKeeps3
import Derived.Test.YtbbmkgpgiacdeaaMgKeeps1
import Derived.Test.YtbbmkgpgiacdeaaMgKeeps2
import Derived.Shelf.SlSortCmp.InsertionK
import Derived.Lib.Small
import Derived.Lib.Walk
import Derived.Shelf.SlSortCmp.NoneTotal
/-
  Lengths, and the greatest.
-/
namespace Go.Proofs.Ytbbmkgpgiacdeaa
open Go.RowKit Zk Zx
set_option linter.unusedVariables false
set_option linter.unusedSimpArgs false

theorem drop_pred {α : Type} {l : List α} {j : Nat} {p : α} (h : l[j - 1]? = some p) (hj : 0 < j) : l.drop (j - 1) = p :: l.drop j := by
  have := drop_cons h
  rwa [show j - 1 + 1 = j by omega] at this
theorem lens_pred {l : List PI} {j : Nat} {p : PI} {t : Nat} (h : l[j - 1]? = some p) (hj : 0 < j) (hb : best p.2 (l.drop j) (lens (l.drop j)) = t) : lens (l.drop (j - 1)) = (t + 1) :: lens (l.drop j) := by
  rw [drop_pred h hj, lens, hb, Nat.add_comm]
theorem long_step {l : List PI} {j : Nat} {p : PI} {t : Nat} (h : l[j - 1]? = some p) (hj : 0 < j) (hb : best p.2 (l.drop j) (lens (l.drop j)) = t) :
    (iL (nI (List.replicate j 0 ++ lens (l.drop j)))).set (j - 1) (.int .i64 ((t : Int) + 1)) = iL (nI (List.replicate (j - 1) 0 ++ lens (l.drop (j - 1)))) := by
  have h1 := nI_set (List.replicate j 0 ++ lens (l.drop j)) (j - 1) (t + 1)
  rw [long_set hj, ← lens_pred h hj hb] at h1
  exact h1
theorem okL_nil {out : List PI} {b : Int} (h : (out.length : Int) = 0) : okL out b = true := by
  have : out = [] := List.eq_nil_of_length_eq_zero (by omega)
  subst this
  rfl
theorem okL_last {out : List PI} {b : Int} {q : PI} (h : out[out.length - 1]? = some q) : okL out b = decide (q.2 < b) := by
  unfold okL
  rw [List.getLast?_eq_getElem?, h]
theorem sel_hit {w : Nat} {out l : List PI} {ns : List Nat} {i : Nat} {p : PI} {n : Nat} (h : l[i]? = some p) (hn : ns[i]? = some n) (h1 : n = w) (h2 : okL out p.2 = true) : sel (w - 1) (out ++ [p]) (l.drop (i + 1)) (ns.drop (i + 1)) = sel w out (l.drop i) (ns.drop i) := by
  rw [sel_at h hn, if_pos ⟨h1, h2⟩]
theorem sel_miss {w : Nat} {out l : List PI} {ns : List Nat} {i : Nat} {p : PI} {n : Nat} (h : l[i]? = some p) (hn : ns[i]? = some n) (h1 : ¬ (n = w ∧ okL out p.2 = true)) : sel w out (l.drop (i + 1)) (ns.drop (i + 1)) = sel w out (l.drop i) (ns.drop i) := by
  rw [sel_at h hn, if_neg h1]
theorem topN_one {ns : List Nat} {x : Nat} (h : ns[0]? = some x) : topN (ns.take 1) = x := by
  cases ns with
  | nil => cases h
  | cons y ns =>
    obtain rfl : y = x := by simpa using h
    simp [topN]


set_option maxRecDepth 100000 in
theorem plens (A : Option Addr) (n ca : Nat) (l : List PI) (w0 : World) (hl : Rs w0 2 A n ca (l.flatMap pI)) (hn9 : n ≤ 1048576) :
    Calls Try.prog 46 #[.slice A n ca] w0 fun e w' => ∃ u, e = .returned u ∧ Like w0 w' ∧ ∃ b, u = .slice (some ⟨b, 0, none⟩) n n ∧ w'.ownsRow w0.heap.size 3 1 (.slice (some ⟨b, 0, none⟩) n n) n (iL (nI (lens l))) := by
  refine enter1 (env := [(0, .slice A n ca)]) [.slice A n ca] Try.func46 rfl Try.ntmps46 rfl rfl ?_
  have hln := pI_n hl; have hcap := hl.cap; have hmax := hl.max; have S0 := St.start w0 noM
  refine T_seq fun K1 hK1 => ?_
  refine T_region ?_
  refine L_y (y_assign rfl) rfl ?_
  refine L_nil ?_
  refine hK1 _ _ ?_
  refine T_seq fun K2 hK2 => ?_
  refine T_region ?_
  refine L_y (y_move rfl) rfl ?_
  refine L_y (y_len Try.underlying25 rfl) rfl ?_
  refine L_o (o_make te22 rfl S0 rfl rfl inferInstance inferInstance rfl (by omega) (by omega) (by omega) fun b1 w1 S1 => ?_)
  refine L_y (y_assign rfl) rfl ?_
  refine L_nil ?_
  refine hK2 _ _ ?_
  refine T_seq fun K3 hK3 => ?_
  refine T_region ?_
  refine L_o (o_alloc zz22 S1 rfl fun b2 w2 hb2 S2 => ?_)
  have S90 := S2.nilrow 3 1
  refine L_nil ?_
  refine hK3 _ _ ?_
  refine T_seq fun K4 hK4 => ?_
  refine T_seq fun K5 hK5 => ?_
  refine T_region ?_
  refine L_y (y_move rfl) rfl ?_
  refine L_y (y_len Try.underlying25 rfl) rfl ?_
  refine L_y (y_sub rfl rfl (i64w (by omega))) rfl ?_
  refine L_y (y_assign rfl) rfl ?_
  refine L_nil ?_
  refine hK5 _ _ ?_
  refine T_block ?_
  refine T_loop4 [(0, _), (3, _), (4, _)] (fun (j : Nat) (PA : Option Addr) (pc : Nat) (piles : List Int) => [(5, .int .i64 ((j : Int) - 1))]) (fun (j : Nat) (PA : Option Addr) (pc : Nat) (piles : List Int) => j) (fun (j : Nat) (PA : Option Addr) (pc : Nat) (piles : List Int) (w : World) => (j ≤ n ∧ PIL (l.drop j) piles ∧ piles.length + j ≤ n) ∧ St w0 noM [row 3 1 (some ⟨b1, 0, none⟩) n n (iL (nI (List.replicate j 0 ++ lens (l.drop j)))), blk b2 22 #[.slice PA piles.length pc], row 3 1 PA piles.length pc (iL piles)] w) n none 0 [] (Sub.cons rfl (by first | rfl | exact congrArg (Value.int _) (by omega)) (Sub.nil _)) (Sub.cons rfl rfl (Sub.cons rfl rfl (Sub.cons rfl rfl (Sub.nil _)))) ?_ ?_
  ·
    have S91 := S90.rowc 0 rfl (n' := n) (xs' := iL (nI (List.replicate n 0 ++ lens (l.drop n)))) rfl (by rw [List.drop_of_length_le (show l.length ≤ n by omega)]; simpa [lens] using zer_nI n)
    exact ⟨⟨Nat.le_refl _, by rw [List.drop_of_length_le (show l.length ≤ n by omega)]; exact PIL.nil, by simp⟩, S91⟩
  ·
    intro j PA pc piles w3 hrel
    obtain ⟨⟨hj, hpil, hpl⟩, S3⟩ := hrel
    refine T_seq fun K6 hK6 => ?_
    refine T_seq fun K7 hK7 => ?_
    refine T_region ?_
    refine L_y (y_move rfl) rfl ?_
    refine L_y (y_geq rfl rfl) rfl ?_
    refine L_nil ?_
    refine hK7 _ _ ?_
    refine T_cond rfl (fun h15 => ?_) (fun h15 => ?_)
    ·
      obtain ⟨p, hp⟩ : ∃ p, l[j - 1]? = some p := ⟨_, List.getElem?_eq_getElem (by omega)⟩
      refine T_skip ?_
      refine hK6 _ _ ?_
      refine T_seq fun K8 hK8 => ?_
      refine T_block ?_
      refine T_seq fun K9 hK9 => ?_
      refine T_region ?_
      refine L_y (y_move rfl) rfl ?_
      refine L_y (y_move rfl) rfl ?_
      refine L_y (y_idx Try.underlying25 sz34 rfl rfl (S3.rd hl) (Nt.mk (by omega) : Nt _ (j - 1)) (by omega)) rfl ?_
      refine L_y (y_fieldR 1 Try.underlying34 rfl sz3 rfl rfl (S3.rd hl) (by omega) rfl) rfl ?_
      refine L_y (y_ldf Try.underlying3 rfl rfl (S3.rd hl) (by omega) (pI_get _ _ _ hp).2) rfl ?_
      refine L_o (o_alloc zz3 S3 rfl fun b4 w4 hb4 S4 => ?_)
      refine L_o (o_st1 S4 3 rfl rfl rfl rfl sz3 (by first | decide | (simp; done)) fun w5 S5 => ?_)
      refine L_nil ?_
      refine hK9 _ _ ?_
      refine T_seq fun K10 hK10 => ?_
      refine T_region ?_
      refine L_y (y_ldc Try.underlying22 rfl rfl (((S5.blk 1 rfl).cell _).trans (by rfl))) rfl ?_
      refine L_y (y_len Try.underlying22 rfl) rfl ?_
      refine L_y (y_makeFunc rfl rfl) rfl ?_
      refine L_o (o_call Try.func61 rfl rfl (srch _ _ PA pc piles p.2 w5 (S5.blk 1 rfl) (S5.blk 3 rfl) (S5.row 2 rfl) hpil.dec (by omega)) rfl rfl ?_)
      rintro e6 w6 ⟨v6, rfl, l6, t, rfl, htl, hlo, hhi⟩
      refine ⟨_, rfl, ?_⟩
      have S6 := S5.like l6
      have hbt := hpil.best htl hlo hhi
      refine L_y (y_assign rfl) rfl ?_
      refine L_nil ?_
      refine hK10 _ _ ?_
      refine T_seq fun K11 hK11 => ?_
      refine T_seq fun K12 hK12 => ?_
      refine T_region ?_
      refine L_y (y_move rfl) rfl ?_
      refine L_y (y_ldc Try.underlying22 rfl rfl (((S6.blk 1 rfl).cell _).trans (by rfl))) rfl ?_
      refine L_y (y_len Try.underlying22 rfl) rfl ?_
      refine L_y (y_eql rfl rfl) rfl ?_
      refine L_nil ?_
      refine hK12 _ _ ?_
      refine T_cond rfl (fun h30 => ?_) (fun h30 => ?_)
      ·
        refine T_region ?_
        refine L_y (y_ldc Try.underlying22 rfl rfl (((S6.blk 1 rfl).cell _).trans (by rfl))) rfl ?_
        refine L_y (y_ldc Try.underlying3 rfl rfl (((S6.blk 3 rfl).cell _).trans (by rfl))) rfl ?_
        refine L_o (o_bsl [_] te22 zz3 S6 rfl rfl rfl rfl rfl rfl rfl rfl fun b7 w7 S7 => ?_)
        refine L_o (o_app te22 S7 2 rfl rfl rfl (by first | exact S7.row 0 rfl | exact S7.row 2 rfl | exact S7.row 4 rfl) (by first | exact bL_one _ | exact iL_one _ | (intro u hu; simp at hu; subst hu; rfl) | (simp; done) | (simp [Value.oneCell']; done)) rfl (by omega) (by omega) fun A8 c8 w8 S8 => ?_)
        have S8d := S8.drop (rs' := [_, _, _, _]) (.cons_cons _ (.cons_cons _ (.cons_cons _ (.cons_cons _ (.cons _ (.refl _))))))
        refine L_o (o_st1 S8d 1 rfl rfl rfl rfl sz22 (by simp; done) fun w9 S9 => ?_)
        refine L_nil ?_
        refine hK11 _ _ ?_
        refine T_region ?_
        refine L_y (y_move rfl) rfl ?_
        refine L_y (y_move rfl) rfl ?_
        refine L_y (y_move rfl) rfl ?_
        refine L_y (y_add rfl rfl (i64w (by omega))) rfl ?_
        refine L_y (y_idx Try.underlying22 sz3 rfl rfl (S9.row 0 rfl) (Nt.mk (by omega) : Nt _ (j - 1)) (by omega)) rfl ?_
        refine L_o (o_strow S9 0 rfl rfl rfl rfl sz3 (by omega) fun w10 S10 => ?_)
        refine L_nil ?_
        refine hK8 _ _ ?_
        refine T_region ?_
        refine L_y (y_move rfl) rfl ?_
        refine L_y (y_sub rfl rfl (i64w (by omega))) rfl ?_
        refine L_y (y_assign rfl) rfl ?_
        refine L_nil ?_
        have S91 := S10.drop (rs' := [_, _, _]) (.cons_cons _ (.cons_cons _ (.cons_cons _ (.cons _ (.refl _)))))
        have S92 := S91.rowc 0 rfl (n' := n) (xs' := iL (nI (List.replicate (j - 1) 0 ++ lens (l.drop (j - 1))))) rfl (long_step hp (by omega) hbt)
        have S93 := S92.rowc 2 rfl (n' := (piles ++ [p.2]).length) (xs' := iL (piles ++ [p.2])) (by simp) (by first | exact iL_snoc _ _ | exact iL_set _ _ _)
        have S94 := S93.blkc 1 rfl (cs' := #[.slice _ (piles ++ [p.2]).length _]) (by first | rfl | (rw [List.length_append]; rfl) | (rw [List.length_set]))
        refine ⟨j - 1, _, _, (piles ++ [p.2]), by omega, ⟨⟨by omega, by rw [drop_pred hp (by omega)]; exact hpil.push (fun k y hk => hlo k y (by omega)), by simp; omega⟩, S94⟩, ?_⟩
        exact (Sub.cons rfl (by first | rfl | exact congrArg (Value.int _) (by omega)) (Sub.cons rfl rfl (Sub.cons rfl rfl (Sub.cons rfl rfl (Sub.nil _)))))
      ·
        refine T_region ?_
        refine L_y (y_ldc Try.underlying22 rfl rfl (((S6.blk 1 rfl).cell _).trans (by rfl))) rfl ?_
        refine L_y (y_move rfl) rfl ?_
        refine L_y (y_ldc Try.underlying3 rfl rfl (((S6.blk 3 rfl).cell _).trans (by rfl))) rfl ?_
        refine L_y (y_idx Try.underlying22 sz3 rfl rfl (S6.row 2 rfl) (Nt.mk rfl : Nt _ (t)) (by omega)) rfl ?_
        refine L_o (o_strow S6 2 rfl rfl rfl rfl sz3 (by omega) fun w11 S11 => ?_)
        refine L_nil ?_
        refine hK11 _ _ ?_
        refine T_region ?_
        refine L_y (y_move rfl) rfl ?_
        refine L_y (y_move rfl) rfl ?_
        refine L_y (y_move rfl) rfl ?_
        refine L_y (y_add rfl rfl (i64w (by omega))) rfl ?_
        refine L_y (y_idx Try.underlying22 sz3 rfl rfl (S11.row 0 rfl) (Nt.mk (by omega) : Nt _ (j - 1)) (by omega)) rfl ?_
        refine L_o (o_strow S11 0 rfl rfl rfl rfl sz3 (by omega) fun w12 S12 => ?_)
        refine L_nil ?_
        refine hK8 _ _ ?_
        refine T_region ?_
        refine L_y (y_move rfl) rfl ?_
        refine L_y (y_sub rfl rfl (i64w (by omega))) rfl ?_
        refine L_y (y_assign rfl) rfl ?_
        refine L_nil ?_
        have S91 := S12.drop (rs' := [_, _, _]) (.cons_cons _ (.cons_cons _ (.cons_cons _ (.cons _ (.refl _)))))
        have S92 := S91.rowc 0 rfl (n' := n) (xs' := iL (nI (List.replicate (j - 1) 0 ++ lens (l.drop (j - 1))))) rfl (long_step hp (by omega) hbt)
        have S93 := S92.rowc 2 rfl (n' := (piles.set t p.2).length) (xs' := iL (piles.set t p.2)) (by simp) (by first | exact iL_snoc _ _ | exact iL_set _ _ _)
        have S94 := S93.blkc 1 rfl (cs' := #[.slice _ (piles.set t p.2).length _]) (by first | rfl | (rw [List.length_append]; rfl) | (rw [List.length_set]))
        refine ⟨j - 1, _, _, (piles.set t p.2), by omega, ⟨⟨by omega, by rw [drop_pred hp (by omega)]; exact hpil.set (by omega) hlo hhi, by simp; omega⟩, S94⟩, ?_⟩
        exact (Sub.cons rfl (by first | rfl | exact congrArg (Value.int _) (by omega)) (Sub.cons rfl rfl (Sub.cons rfl rfl (Sub.cons rfl rfl (Sub.nil _)))))
    ·
      refine T_exit ?_
      refine hK4 _ _ ?_
      refine T_seq fun K13 hK13 => ?_
      refine T_region ?_
      refine L_y (y_move rfl) rfl ?_
      refine L_y (y_assign rfl) rfl ?_
      refine L_nil ?_
      refine hK13 _ _ ?_
      refine T_ret ?_
      repeat (first | with_reducible refine up_then ?_ | with_reducible refine up_in ?_)
      refine ret1 rfl rfl ?_
      have hj0 : j = 0 := by omega
      subst hj0
      exact ⟨_, rfl, S3.like0, b1, rfl, by have h9 := S3.own 0 rfl; simpa using h9⟩


set_option maxRecDepth 100000 in
theorem pmax (A : Option Addr) (n ca : Nat) (ns : List Nat) (w0 : World) (hn : Rs w0 1 A n ca (iL (nI ns))) (h1 : 1 ≤ n) :
    Calls Try.prog 47 #[.slice A n ca] w0 fun e w' => ∃ u, e = .returned u ∧ Like w0 w' ∧ u = .int .i64 (topN ns : Int) := by
  refine enter1 (env := [(0, .slice A n ca)]) [.slice A n ca] Try.func47 rfl Try.ntmps47 rfl rfl ?_
  have hla := lenI hn; rw [nI_len] at hla; have hcap := hn.cap; have hmax := hn.max; have S0 := St.start w0 noM
  refine T_seq fun K1 hK1 => ?_
  refine T_region ?_
  refine L_y (y_assign rfl) rfl ?_
  refine L_nil ?_
  refine hK1 _ _ ?_
  refine T_seq fun K2 hK2 => ?_
  refine T_seq fun K3 hK3 => ?_
  refine T_region ?_
  refine L_y (y_move rfl) rfl ?_
  refine L_y (y_len Try.underlying22 rfl) rfl ?_
  refine L_y (y_lss rfl rfl) rfl ?_
  refine L_nil ?_
  refine hK3 _ _ ?_
  refine T_cond rfl (fun h7 => ?_) (fun h7 => ?_)
  ·
    exact absurd h7 (by omega)
  ·
    refine T_skip ?_
    refine hK2 _ _ ?_
    refine T_seq fun K4 hK4 => ?_
    refine T_region ?_
    obtain ⟨x0, hx0⟩ : ∃ x0, ns[0]? = some x0 := ⟨_, List.getElem?_eq_getElem (by omega)⟩
    refine L_y (y_move rfl) rfl ?_
    refine L_y (y_idx Try.underlying22 sz3 rfl rfl (S0.rd hn) (Nt.mk rfl : Nt _ (0)) (by omega)) rfl ?_
    refine L_y (y_ldr Try.underlying3 rfl rfl (S0.rd hn) (iL_get _ _ _ (nI_get hx0))) rfl ?_
    refine L_y (y_assign rfl) rfl ?_
    refine L_nil ?_
    refine hK4 _ _ ?_
    refine T_seq fun K5 hK5 => ?_
    refine T_seq fun K6 hK6 => ?_
    refine T_region ?_
    refine L_y (y_assign rfl) rfl ?_
    refine L_nil ?_
    refine hK6 _ _ ?_
    refine T_block ?_
    refine T_loop1 [(0, _)] (fun (i : Nat) => [(3, .int .i64 (topN (ns.take i) : Int)), (4, .int .i64 (i : Int))]) (fun (i : Nat) => n - i) (fun (i : Nat) (w : World) => (1 ≤ i ∧ i ≤ n) ∧ St w0 noM [] w) 1 (Sub.cons rfl (by first | rfl | (rw [topN_one hx0])) (Sub.cons rfl (by first | rfl | (rw [topN_one hx0])) (Sub.nil _))) (Sub.cons rfl rfl (Sub.nil _)) ?_ ?_
    ·
      exact ⟨⟨by omega, by omega⟩, S0⟩
    ·
      intro i w1 hrel
      obtain ⟨⟨hi1, hi⟩, S1⟩ := hrel
      refine T_seq fun K7 hK7 => ?_
      refine T_seq fun K8 hK8 => ?_
      refine T_region ?_
      refine L_y (y_move rfl) rfl ?_
      refine L_y (y_move rfl) rfl ?_
      refine L_y (y_len Try.underlying22 rfl) rfl ?_
      refine L_y (y_lss rfl rfl) rfl ?_
      refine L_nil ?_
      refine hK8 _ _ ?_
      refine T_cond rfl (fun h15 => ?_) (fun h15 => ?_)
      ·
        obtain ⟨x, hx⟩ : ∃ x, ns[i]? = some x := ⟨_, List.getElem?_eq_getElem (by omega)⟩
        refine T_skip ?_
        refine hK7 _ _ ?_
        refine T_seq fun K9 hK9 => ?_
        refine T_block ?_
        refine T_region ?_
        refine L_y (y_move rfl) rfl ?_
        refine L_y (y_move rfl) rfl ?_
        refine L_y (y_move rfl) rfl ?_
        refine L_y (y_idx Try.underlying22 sz3 rfl rfl (S1.rd hn) (Nt.mk (by omega) : Nt _ (i)) (by omega)) rfl ?_
        refine L_y (y_ldr Try.underlying3 rfl rfl (S1.rd hn) (iL_get _ _ _ (nI_get hx))) rfl ?_
        refine L_y (y_max rfl rfl) rfl ?_
        refine L_y (y_assign rfl) rfl ?_
        refine L_nil ?_
        refine hK9 _ _ ?_
        refine T_region ?_
        refine L_y (y_move rfl) rfl ?_
        refine L_y (y_add rfl rfl (i64w (by omega))) rfl ?_
        refine L_y (y_assign rfl) rfl ?_
        refine L_nil ?_
        refine ⟨i + 1, by omega, ⟨⟨by omega, by omega⟩, S1⟩, ?_⟩
        exact (Sub.cons rfl (congrArg (Value.int _) (by rw [tk hx, topN_snoc]; omega)) (Sub.cons rfl (by first | rfl | exact congrArg (Value.int _) (by omega)) (Sub.cons rfl rfl (Sub.nil _))))
      ·
        refine T_exit ?_
        refine hK5 _ _ ?_
        refine T_seq fun K10 hK10 => ?_
        refine T_region ?_
        refine L_y (y_move rfl) rfl ?_
        refine L_y (y_assign rfl) rfl ?_
        refine L_nil ?_
        refine hK10 _ _ ?_
        refine T_ret ?_
        repeat (first | with_reducible refine up_then ?_ | with_reducible refine up_in ?_)
        refine ret1 rfl rfl ?_
        exact ⟨_, rfl, S1.like0, by rw [List.take_of_length_le (by omega)]⟩
end Go.Proofs.Ytbbmkgpgiacdeaa

/-
  Chain.
-/
namespace Go.Proofs.Ytbbmkgpgiacdeaa
open Go.RowKit Zk Zx
set_option linter.unusedVariables false
set_option linter.unusedSimpArgs false

theorem lens_get {l : List PI} {i : Nat} (h : i < l.length) : ∃ m, (lens l)[i]? = some m ∧ 1 ≤ m ∧ m ≤ l.length := by
  have h1 : i < (lens l).length := by rw [lens_len]; exact h
  exact ⟨_, List.getElem?_eq_getElem h1, lens_le l _ (List.getElem_mem h1)⟩
theorem chain_nil : chain [] = [] := by
  unfold chain
  rw [sel_n1]
theorem pI_one1 (p : PI) : ∀ u ∈ (pI p).toArray.toList, u.oneCell' = true := fun u hu => pI_one [p] u (by simpa using hu)
theorem pIs_snoc (out : List PI) (p : PI) : out.flatMap pI ++ pI p = (out ++ [p]).flatMap pI := by rw [List.flatMap_append]; simp


set_option maxRecDepth 100000 in
theorem pchain (A : Option Addr) (n ca : Nat) (l : List PI) (w0 : World) (hl : Rs w0 2 A n ca (l.flatMap pI)) (hn9 : n ≤ 1048576) :
    Calls Try.prog 27 #[.slice A n ca] w0 fun e w' => ∃ u, e = .returned u ∧ Like w0 w' ∧ ∃ A m c, u = .slice A m c ∧ w'.ownsRow w0.heap.size 34 2 (.slice A m c) m ((chain l).flatMap pI) := by
  refine enter1 (env := [(0, .slice A n ca)]) [.slice A n ca] Try.func27 rfl Try.ntmps27 rfl rfl ?_
  have hln := pI_n hl; have hcap := hl.cap; have hmax := hl.max; have S0 := St.start w0 noM
  refine T_seq fun K1 hK1 => ?_
  refine T_region ?_
  refine L_y (y_assign rfl) rfl ?_
  refine L_nil ?_
  refine hK1 _ _ ?_
  refine T_seq fun K2 hK2 => ?_
  refine T_region ?_
  refine L_y (y_move rfl) rfl ?_
  refine L_o (o_call Try.func46 rfl rfl (plens A n ca l w0 (S0.rd hl) hn9) rfl rfl ?_)
  rintro e1 w1 ⟨v1, rfl, l1, b9, rfl, O1⟩
  refine ⟨_, rfl, ?_⟩
  have S1 := S0.adopt l1 O1
  refine L_y (y_assign rfl) rfl ?_
  refine L_nil ?_
  refine hK2 _ _ ?_
  refine T_seq fun K3 hK3 => ?_
  refine T_seq fun K4 hK4 => ?_
  refine T_region ?_
  refine L_y (y_move rfl) rfl ?_
  refine L_y (y_len Try.underlying22 rfl) rfl ?_
  refine L_y (y_eql rfl rfl) rfl ?_
  refine L_nil ?_
  refine hK4 _ _ ?_
  refine T_cond rfl (fun h12 => ?_) (fun h12 => ?_)
  ·
    refine T_seq fun K5 hK5 => ?_
    refine T_region ?_
    refine L_y (y_assign rfl) rfl ?_
    refine L_nil ?_
    refine hK5 _ _ ?_
    refine T_ret ?_
    repeat (first | with_reducible refine up_then ?_ | with_reducible refine up_in ?_)
    refine ret1 rfl rfl ?_
    have hn0 : n = 0 := by omega
    have hl0 : l = [] := List.eq_nil_of_length_eq_zero (by omega)
    subst hl0
    exact ⟨_, rfl, S1.like0, none, 0, 0, rfl, by rw [chain_nil]; exact World.ownsRow_nil _ _ _ _⟩
  ·
    refine T_skip ?_
    refine hK3 _ _ ?_
    refine T_seq fun K6 hK6 => ?_
    refine T_region ?_
    refine L_y (y_move rfl) rfl ?_
    refine L_o (o_call Try.func47 rfl rfl (pmax _ _ _ (lens l) w1 (S1.row 0 rfl) (by omega)) rfl rfl ?_)
    rintro e2 w2 ⟨v2, rfl, l2, rfl⟩
    refine ⟨_, rfl, ?_⟩
    have S2 := S1.like l2
    refine L_y (y_assign rfl) rfl ?_
    refine L_nil ?_
    refine hK6 _ _ ?_
    refine T_seq fun K7 hK7 => ?_
    refine T_region ?_
    have S3 := S2.nilrow 34 2
    refine L_y (y_assign rfl) rfl ?_
    refine L_nil ?_
    refine hK7 _ _ ?_
    refine T_seq fun K8 hK8 => ?_
    refine T_seq fun K9 hK9 => ?_
    refine T_region ?_
    refine L_y (y_move rfl) rfl ?_
    refine L_y (y_len Try.underlying25 rfl) rfl ?_
    refine L_y (y_move rfl) rfl ?_
    refine L_nil ?_
    refine hK9 _ _ ?_
    refine T_block ?_
    refine T_loop5 [(3, _), (15, _), (16, _)] (fun (i : Nat) (wn : Nat) (A1 : Option Addr) (c1 : Nat) (out : List PI) => [(17, .int .i64 (i : Int)), (5, .slice A1 out.length c1), (4, .int .i64 (wn : Int))]) (fun (i : Nat) (wn : Nat) (A1 : Option Addr) (c1 : Nat) (out : List PI) => n - i) (fun (i : Nat) (wn : Nat) (A1 : Option Addr) (c1 : Nat) (out : List PI) (w : World) => (i ≤ n ∧ out.length ≤ i ∧ sel wn out (l.drop i) ((lens l).drop i) = chain l) ∧ St w0 noM [row 3 1 (some ⟨b9, 0, none⟩) n n (iL (nI (lens l))), row 34 2 A1 out.length c1 (out.flatMap pI)] w) 0 (topN (lens l)) none 0 [] (Sub.cons rfl (by first | rfl | exact congrArg (Value.int _) (by omega)) (Sub.cons rfl (by first | rfl | exact congrArg (Value.int _) (by omega)) (Sub.cons rfl (by first | rfl | exact congrArg (Value.int _) (by omega)) (Sub.nil _)))) (Sub.cons rfl rfl (Sub.cons rfl rfl (Sub.cons rfl rfl (Sub.nil _)))) ?_ ?_
    ·
      exact ⟨⟨Nat.zero_le _, Nat.le_refl _, rfl⟩, S3⟩
    ·
      intro i wn A1 c1 out w4 hrel
      obtain ⟨⟨hi, hol, hsel⟩, S4⟩ := hrel
      refine T_seq fun K10 hK10 => ?_
      refine T_region ?_
      refine L_y (y_lss rfl rfl) rfl ?_
      refine L_nil ?_
      refine hK10 _ _ ?_
      refine T_seq fun K11 hK11 => ?_
      refine T_cond rfl (fun h18 => ?_) (fun h18 => ?_)
      ·
        obtain ⟨p, hp⟩ : ∃ p, l[i]? = some p := ⟨_, List.getElem?_eq_getElem (by omega)⟩
        obtain ⟨mi, hmi, hm1, hm2⟩ := lens_get (l := l) (i := i) (by omega)
        refine T_skip ?_
        refine hK11 _ _ ?_
        refine T_seq fun K12 hK12 => ?_
        refine T_block ?_
        refine T_seq fun K13 hK13 => ?_
        refine T_region ?_
        refine L_y (y_move rfl) rfl ?_
        refine L_y (y_idx Try.underlying25 sz34 rfl rfl (S4.rd hl) (Nt.mk (by omega) : Nt _ (i)) (by omega)) rfl ?_
        refine L_y (y_ldp (f := pI) pI_len Try.underlying34 rfl sz34 rfl (S4.rd hl) (by omega) hp) rfl ?_
        refine L_o (o_alloc zz34 S4 rfl fun b5 w5 hb5 S5 => ?_)
        refine L_y (y_assign rfl) rfl ?_
        refine L_o (o_stW S5 2 rfl rfl rfl sz34 (by rfl) (pI_one1 p) fun w6 S6 => ?_)
        refine L_nil ?_
        refine hK13 _ _ ?_
        refine T_seq fun K14 hK14 => ?_
        refine T_drawnL [(0, true), (1, true), (2, true), (3, true), (4, true), (5, true), (6, true), (7, true), (8, true), (9, true), (10, true), (11, true), (12, true), (13, true), (14, true), (15, true), (16, true), (17, true), (18, true), (19, true), (20, true), (21, true), (22, true)] hmix (by kernel_rfl) fun w7 l7 => ?_
        have S7 := S6.like l7
        refine DL_y rfl (y_move rfl) rfl ?_
        refine DL_y rfl (y_move rfl) rfl ?_
        refine DL_y rfl (y_idx Try.underlying22 sz3 rfl rfl (S7.row 0 rfl) (Nt.mk rfl : Nt _ (i)) (by omega)) rfl ?_
        refine DL_y rfl (y_ldr Try.underlying3 rfl rfl (S7.row 0 rfl) (iL_get _ _ _ (nI_get hmi))) rfl ?_
        refine DL_y rfl (y_move rfl) rfl ?_
        refine DL_y rfl (y_eql rfl rfl) rfl ?_
        refine DL_y rfl (y_move rfl) rfl ?_
        refine DL_split 28 rfl (fun h28 => ?_) (fun h28 => ?_)
        ·
          refine DL_gyes rfl rfl rfl (y_move rfl) rfl ?_
          refine DL_gyes rfl rfl rfl (y_len Try.underlying25 rfl) rfl ?_
          refine DL_gyes rfl rfl rfl (y_eql rfl rfl) rfl ?_
          refine DL_gyes rfl rfl rfl (y_move rfl) rfl ?_
          refine DL_split 32 rfl (fun h32 => ?_) (fun h32 => ?_)
          ·
            refine DL_gno rfl rfl rfl rfl ?_
            refine DL_gno rfl rfl rfl rfl ?_
            refine DL_gno rfl rfl rfl rfl ?_
            refine DL_gno rfl rfl rfl rfl ?_
            refine DL_gno rfl rfl rfl rfl ?_
            refine DL_gno rfl rfl rfl rfl ?_
            refine DL_gno rfl rfl rfl rfl ?_
            refine DL_gno rfl rfl rfl rfl ?_
            refine DL_gno rfl rfl rfl rfl ?_
            refine DL_gno rfl rfl rfl rfl ?_
            refine DL_gyes rfl rfl rfl ((by first | exact y_pickT rfl rfl | exact y_pickF rfl rfl)) rfl ?_
            refine DL_y rfl ((by first | exact y_pickT rfl rfl | exact y_pickF rfl rfl)) rfl ?_
            refine DL_nil ?_
            refine hK14 _ _ ?_
            refine T_true rfl ?_
            refine T_seq fun K15 hK15 => ?_
            refine T_region ?_
            refine L_y (y_move rfl) rfl ?_
            refine L_y (y_ldW Try.underlying34 rfl sz34 rfl (S7.blk 2 rfl) (show _ = pI p ∧ _ from ⟨rfl, rfl⟩)) rfl ?_
            refine L_o (o_bsl [_, _] te25 zz34 S7 rfl rfl rfl rfl rfl rfl rfl rfl fun b8 w8 S8 => ?_)
            refine L_o (o_app te25 S8 1 rfl rfl rfl (by first | exact S8.row 0 rfl | exact S8.row 1 rfl | exact S8.row 3 rfl) (by intro u hu; simp [pI] at hu; rcases hu with rfl | rfl <;> rfl) rfl (by omega) (by omega) fun A9 c9 w9 S9 => ?_)
            have S9d := S9.drop (rs' := [_, _, _]) (.cons_cons _ (.cons_cons _ (.cons_cons _ (.cons _ (.refl _)))))
            refine L_y (y_assign rfl) rfl ?_
            refine L_nil ?_
            refine hK15 _ _ ?_
            refine T_region ?_
            refine L_y (y_move rfl) rfl ?_
            refine L_y (y_sub rfl rfl (i64w (by omega))) rfl ?_
            refine L_y (y_assign rfl) rfl ?_
            refine L_nil ?_
            refine hK12 _ _ ?_
            refine T_region ?_
            refine L_y (y_add rfl rfl (i64w (by omega))) rfl ?_
            refine L_y (y_move rfl) rfl ?_
            refine L_nil ?_
            have hsl := sel_hit (w := wn) (out := out) hp hmi (by have := h28; omega) (by first | exact okL_nil h32 | (rw [okL_last hq]; exact decide_eq_true h44))
            rw [hsel] at hsl
            have S91 := S9d.drop (rs' := [_, _]) (.cons_cons _ (.cons_cons _ (.cons _ (.refl _))))
            have S92 := S91.rowc 1 rfl (n' := (out ++ [p]).length) (xs' := (out ++ [p]).flatMap pI) (by simp) (pIs_snoc _ _)
            refine ⟨i + 1, (wn - 1), _, _, (out ++ [p]), by omega, ⟨⟨by omega, by first | omega | (simp; omega), hsl⟩, S92⟩, ?_⟩
            exact (Sub.cons rfl (by first | rfl | exact congrArg (Value.int _) (by omega)) (Sub.cons rfl (by first | rfl | (rw [List.length_append]; rfl)) (Sub.cons rfl (by first | rfl | exact congrArg (Value.int _) (by omega)) (Sub.cons rfl rfl (Sub.cons rfl rfl (Sub.cons rfl rfl (Sub.nil _)))))))
          ·
            obtain ⟨q, hq⟩ : ∃ q, out[out.length - 1]? = some q := ⟨_, List.getElem?_eq_getElem (by omega)⟩
            refine DL_gyes rfl rfl rfl (y_fieldA 1 Try.underlying34 rfl sz3 rfl rfl rfl) rfl ?_
            refine DL_gyes rfl rfl rfl (y_ldc Try.underlying3 rfl rfl (((S7.blk 2 rfl).cell _).trans (by rfl))) rfl ?_
            refine DL_gyes rfl rfl rfl (y_move rfl) rfl ?_
            refine DL_gyes rfl rfl rfl (y_move rfl) rfl ?_
            refine DL_gyes rfl rfl rfl (y_len Try.underlying25 rfl) rfl ?_
            refine DL_gyes rfl rfl rfl (y_sub rfl rfl (i64w (by omega))) rfl ?_
            refine DL_gyes rfl rfl rfl (y_idx Try.underlying25 sz34 rfl rfl (S7.row 1 rfl) (Nt.mk (by omega) : Nt _ (out.length - 1)) (by omega)) rfl ?_
            refine DL_gyes rfl rfl rfl (y_fieldR 1 Try.underlying34 rfl sz3 rfl rfl (S7.row 1 rfl) (by omega) rfl) rfl ?_
            refine DL_gyes rfl rfl rfl (y_ldf Try.underlying3 rfl rfl (S7.row 1 rfl) (by omega) (pI_get _ _ _ hq).2) rfl ?_
            refine DL_gyes rfl rfl rfl (y_gtr rfl rfl) rfl ?_
            refine DL_gyes rfl rfl rfl ((by first | exact y_pickT rfl rfl | exact y_pickF rfl rfl)) rfl ?_
            refine DL_y rfl ((by first | exact y_pickT rfl rfl | exact y_pickF rfl rfl)) rfl ?_
            refine DL_nil ?_
            refine hK14 _ _ ?_
            refine T_cond rfl (fun h44 => ?_) (fun h44 => ?_)
            ·
              refine T_seq fun K16 hK16 => ?_
              refine T_region ?_
              refine L_y (y_move rfl) rfl ?_
              refine L_y (y_ldW Try.underlying34 rfl sz34 rfl (S7.blk 2 rfl) (show _ = pI p ∧ _ from ⟨rfl, rfl⟩)) rfl ?_
              refine L_o (o_bsl [_, _] te25 zz34 S7 rfl rfl rfl rfl rfl rfl rfl rfl fun b10 w10 S10 => ?_)
              refine L_o (o_app te25 S10 1 rfl rfl rfl (by first | exact S10.row 0 rfl | exact S10.row 1 rfl | exact S10.row 3 rfl) (by intro u hu; simp [pI] at hu; rcases hu with rfl | rfl <;> rfl) rfl (by omega) (by omega) fun A11 c11 w11 S11 => ?_)
              have S11d := S11.drop (rs' := [_, _, _]) (.cons_cons _ (.cons_cons _ (.cons_cons _ (.cons _ (.refl _)))))
              refine L_y (y_assign rfl) rfl ?_
              refine L_nil ?_
              refine hK16 _ _ ?_
              refine T_region ?_
              refine L_y (y_move rfl) rfl ?_
              refine L_y (y_sub rfl rfl (i64w (by omega))) rfl ?_
              refine L_y (y_assign rfl) rfl ?_
              refine L_nil ?_
              refine hK12 _ _ ?_
              refine T_region ?_
              refine L_y (y_add rfl rfl (i64w (by omega))) rfl ?_
              refine L_y (y_move rfl) rfl ?_
              refine L_nil ?_
              have hsl := sel_hit (w := wn) (out := out) hp hmi (by have := h28; omega) (by first | exact okL_nil h32 | (rw [okL_last hq]; exact decide_eq_true h44))
              rw [hsel] at hsl
              have S91 := S11d.drop (rs' := [_, _]) (.cons_cons _ (.cons_cons _ (.cons _ (.refl _))))
              have S92 := S91.rowc 1 rfl (n' := (out ++ [p]).length) (xs' := (out ++ [p]).flatMap pI) (by simp) (pIs_snoc _ _)
              refine ⟨i + 1, (wn - 1), _, _, (out ++ [p]), by omega, ⟨⟨by omega, by first | omega | (simp; omega), hsl⟩, S92⟩, ?_⟩
              exact (Sub.cons rfl (by first | rfl | exact congrArg (Value.int _) (by omega)) (Sub.cons rfl (by first | rfl | (rw [List.length_append]; rfl)) (Sub.cons rfl (by first | rfl | exact congrArg (Value.int _) (by omega)) (Sub.cons rfl rfl (Sub.cons rfl rfl (Sub.cons rfl rfl (Sub.nil _)))))))
            ·
              refine T_skip ?_
              refine hK12 _ _ ?_
              refine T_region ?_
              refine L_y (y_add rfl rfl (i64w (by omega))) rfl ?_
              refine L_y (y_move rfl) rfl ?_
              refine L_nil ?_
              have hsl := sel_miss (w := wn) (out := out) hp hmi (by first | exact fun h => h28 (by have := h.1; omega) | exact fun h => (by have h8 := h.1; have := h28; omega) | exact fun h => by have h9 := h.2; rw [okL_last hq] at h9; exact h44 (of_decide_eq_true h9))
              rw [hsel] at hsl
              have S91 := S7.drop (rs' := [_, _]) (.cons_cons _ (.cons_cons _ (.cons _ (.refl _))))
              have S92 := S91.rowc 1 rfl (n' := out.length) (xs' := out.flatMap pI) (by simp) rfl
              refine ⟨i + 1, wn, _, _, out, by omega, ⟨⟨by omega, by first | omega | (simp; omega), hsl⟩, S92⟩, ?_⟩
              exact (Sub.cons rfl (by first | rfl | exact congrArg (Value.int _) (by omega)) (Sub.cons rfl (by first | rfl | (rw [List.length_append]; rfl)) (Sub.cons rfl (by first | rfl | exact congrArg (Value.int _) (by omega)) (Sub.cons rfl rfl (Sub.cons rfl rfl (Sub.cons rfl rfl (Sub.nil _)))))))
        ·
          refine DL_gno rfl rfl rfl rfl ?_
          refine DL_gno rfl rfl rfl rfl ?_
          refine DL_gno rfl rfl rfl rfl ?_
          refine DL_gno rfl rfl rfl rfl ?_
          refine DL_gnu rfl rfl rfl rfl ?_
          refine DL_gnu rfl rfl rfl rfl ?_
          refine DL_gnu rfl rfl rfl rfl ?_
          refine DL_gnu rfl rfl rfl rfl ?_
          refine DL_gnu rfl rfl rfl rfl ?_
          refine DL_gnu rfl rfl rfl rfl ?_
          refine DL_gnu rfl rfl rfl rfl ?_
          refine DL_gnu rfl rfl rfl rfl ?_
          refine DL_gnu rfl rfl rfl rfl ?_
          refine DL_gnu rfl rfl rfl rfl ?_
          refine DL_gno rfl rfl rfl rfl ?_
          refine DL_y rfl ((by first | exact y_pickT rfl rfl | exact y_pickF rfl rfl)) rfl ?_
          refine DL_nil ?_
          refine hK14 _ _ ?_
          refine T_false rfl ?_
          refine T_skip ?_
          refine hK12 _ _ ?_
          refine T_region ?_
          refine L_y (y_add rfl rfl (i64w (by omega))) rfl ?_
          refine L_y (y_move rfl) rfl ?_
          refine L_nil ?_
          have hsl := sel_miss (w := wn) (out := out) hp hmi (by first | exact fun h => h28 (by have := h.1; omega) | exact fun h => (by have h8 := h.1; have := h28; omega) | exact fun h => by have h9 := h.2; rw [okL_last hq] at h9; exact h44 (of_decide_eq_true h9))
          rw [hsel] at hsl
          have S91 := S7.drop (rs' := [_, _]) (.cons_cons _ (.cons_cons _ (.cons _ (.refl _))))
          have S92 := S91.rowc 1 rfl (n' := out.length) (xs' := out.flatMap pI) (by simp) rfl
          refine ⟨i + 1, wn, _, _, out, by omega, ⟨⟨by omega, by first | omega | (simp; omega), hsl⟩, S92⟩, ?_⟩
          exact (Sub.cons rfl (by first | rfl | exact congrArg (Value.int _) (by omega)) (Sub.cons rfl (by first | rfl | (rw [List.length_append]; rfl)) (Sub.cons rfl (by first | rfl | exact congrArg (Value.int _) (by omega)) (Sub.cons rfl rfl (Sub.cons rfl rfl (Sub.cons rfl rfl (Sub.nil _)))))))
      ·
        refine T_exit ?_
        refine hK8 _ _ ?_
        refine T_seq fun K17 hK17 => ?_
        refine T_region ?_
        refine L_y (y_move rfl) rfl ?_
        refine L_y (y_assign rfl) rfl ?_
        refine L_nil ?_
        refine hK17 _ _ ?_
        refine T_ret ?_
        repeat (first | with_reducible refine up_then ?_ | with_reducible refine up_in ?_)
        refine ret1 rfl rfl ?_
        have hse := sel_end (w := wn) (out := out) (ns := lens l) (l := l) (i := i) (by omega)
        rw [hsel] at hse
        rw [hse]
        exact ⟨_, rfl, S4.like0, _, _, _, rfl, S4.own 1 rfl⟩
end Go.Proofs.Ytbbmkgpgiacdeaa

/-
  The document's Chain.
-/
namespace Go.Proofs.Ytbbmkgpgiacdeaa
open Go.RowKit Zk Zx
set_option linter.unusedVariables false
set_option linter.unusedSimpArgs false

def LG (l : List PI) (j v : Nat) : List Nat := List.replicate (j - 1) 0 ++ v :: lens (l.drop j)
theorem LG_get {l : List PI} {j v t m : Nat} (hj : 0 < j) (h : (lens (l.drop j))[t]? = some m) : (LG l j v)[j + t]? = some m := by
  unfold LG
  rw [List.getElem?_append_right (by simp; omega), List.length_replicate, show j + t - (j - 1) = t + 1 by omega, List.getElem?_cons_succ]
  exact h
theorem LG_at {l : List PI} {j v : Nat} : (LG l j v)[j - 1]? = some v := by
  unfold LG
  rw [List.getElem?_append_right (by simp), List.length_replicate, Nat.sub_self]
  rfl
theorem LG_len {l : List PI} {j v : Nat} (hj : 0 < j) (h : j ≤ l.length) : (LG l j v).length = l.length := by
  unfold LG
  rw [List.length_append, List.length_replicate, List.length_cons, lens_len, List.length_drop]
  omega
theorem LG_one {l : List PI} {j : Nat} (hj : 0 < j) : (iL (nI (List.replicate j 0 ++ lens (l.drop j)))).set (j - 1) (.int .i64 1) = iL (nI (LG l j 1)) := by
  have h1 := nI_set (List.replicate j 0 ++ lens (l.drop j)) (j - 1) 1
  rw [long_set hj] at h1
  exact h1
theorem LG_set {l : List PI} {j v m : Nat} : (iL (nI (LG l j v))).set (j - 1) (.int .i64 ((m : Int) + 1)) = iL (nI (LG l j (m + 1))) := by
  have h1 := nI_set (LG l j v) (j - 1) (m + 1)
  rw [show (LG l j v).set (j - 1) (m + 1) = LG l j (m + 1) by
    unfold LG
    rw [List.set_append_right _ _ (by simp), List.length_replicate, Nat.sub_self]
    rfl] at h1
  exact h1
theorem best_step {l : List PI} {j t m : Nat} {p q : PI} (hq : (l.drop j)[t]? = some q) (hm : (lens (l.drop j))[t]? = some m) : best p.2 ((l.drop j).take (t + 1)) ((lens (l.drop j)).take (t + 1)) = max (best p.2 ((l.drop j).take t) ((lens (l.drop j)).take t)) (if p.2 < q.2 then m else 0) := by
  rw [tk hq, tk hm, best_snoc]
  rw [List.length_take, List.length_take, lens_len]
theorem LG_end {l : List PI} {j v : Nat} {p : PI} (hp : l[j - 1]? = some p) (hj : 0 < j) (hv : v = 1 + best p.2 (l.drop j) (lens (l.drop j))) : LG l j v = List.replicate (j - 1) 0 ++ lens (l.drop (j - 1)) ∧ lens (l.drop (j - 1)) = v :: lens (l.drop j) := by
  have h1 := lens_pred hp hj rfl
  rw [show best p.2 (l.drop j) (lens (l.drop j)) + 1 = v by omega] at h1
  unfold LG
  rw [h1]
  exact ⟨rfl, rfl⟩


set_option maxRecDepth 100000 in
theorem rchain (A : Option Addr) (n ca : Nat) (l : List PI) (w0 : World) (hl : Rs w0 2 A n ca (l.flatMap pI)) (hn9 : n ≤ 1048576) :
    Calls Try.prog 28 #[.slice A n ca] w0 fun e w' => ∃ u, e = .returned u ∧ Like w0 w' ∧ ∃ A m c, u = .slice A m c ∧ w'.ownsRow w0.heap.size 34 2 (.slice A m c) m ((chain l).flatMap pI) := by
  refine enter1 (env := [(0, .slice A n ca)]) [.slice A n ca] Try.func28 rfl Try.ntmps28 rfl rfl ?_
  have hln := pI_n hl; have hcap := hl.cap; have hmax := hl.max; have S0 := St.start w0 noM
  refine T_seq fun K1 hK1 => ?_
  refine T_region ?_
  refine L_y (y_assign rfl) rfl ?_
  refine L_nil ?_
  refine hK1 _ _ ?_
  refine T_seq fun K2 hK2 => ?_
  refine T_region ?_
  refine L_y (y_move rfl) rfl ?_
  refine L_y (y_len Try.underlying25 rfl) rfl ?_
  refine L_o (o_make te22 rfl S0 rfl rfl inferInstance inferInstance rfl (by omega) (by omega) (by omega) fun b1 w1 S1 => ?_)
  refine L_y (y_assign rfl) rfl ?_
  refine L_nil ?_
  refine hK2 _ _ ?_
  refine T_seq fun K3 hK3 => ?_
  refine T_region ?_
  refine L_y (y_assign rfl) rfl ?_
  refine L_nil ?_
  refine hK3 _ _ ?_
  refine T_seq fun K4 hK4 => ?_
  refine T_seq fun K5 hK5 => ?_
  refine T_region ?_
  refine L_y (y_move rfl) rfl ?_
  refine L_y (y_len Try.underlying25 rfl) rfl ?_
  refine L_y (y_sub rfl rfl (i64w (by omega))) rfl ?_
  refine L_y (y_assign rfl) rfl ?_
  refine L_nil ?_
  refine hK5 _ _ ?_
  refine T_block ?_
  refine T_loop1 [(0, _), (3, _)] (fun (j : Nat) => [(5, .int .i64 ((j : Int) - 1)), (4, .int .i64 (topN (lens (l.drop j)) : Int))]) (fun (j : Nat) => j) (fun (j : Nat) (w : World) => j ≤ n ∧ St w0 noM [row 3 1 (some ⟨b1, 0, none⟩) n n (iL (nI (List.replicate j 0 ++ lens (l.drop j))))] w) n (Sub.cons rfl (by first | rfl | exact congrArg (Value.int _) (by omega) | (rw [List.drop_of_length_le (show l.length ≤ n by omega)]; rfl)) (Sub.cons rfl (by first | rfl | exact congrArg (Value.int _) (by omega) | (rw [List.drop_of_length_le (show l.length ≤ n by omega)]; rfl)) (Sub.nil _))) (Sub.cons rfl rfl (Sub.cons rfl rfl (Sub.nil _))) ?_ ?_
  ·
    have S91 := S1.rowc 0 rfl (n' := n) (xs' := iL (nI (List.replicate n 0 ++ lens (l.drop n)))) rfl (by rw [List.drop_of_length_le (show l.length ≤ n by omega)]; simpa [lens] using zer_nI n)
    exact ⟨Nat.le_refl _, S91⟩
  ·
    intro j w2 hrel
    obtain ⟨hj, S2⟩ := hrel
    refine T_seq fun K6 hK6 => ?_
    refine T_seq fun K7 hK7 => ?_
    refine T_region ?_
    refine L_y (y_move rfl) rfl ?_
    refine L_y (y_geq rfl rfl) rfl ?_
    refine L_nil ?_
    refine hK7 _ _ ?_
    refine T_cond rfl (fun h16 => ?_) (fun h16 => ?_)
    ·
      obtain ⟨p, hp⟩ : ∃ p, l[j - 1]? = some p := ⟨_, List.getElem?_eq_getElem (by omega)⟩
      refine T_skip ?_
      refine hK6 _ _ ?_
      refine T_seq fun K8 hK8 => ?_
      refine T_block ?_
      refine T_seq fun K9 hK9 => ?_
      refine T_region ?_
      refine L_y (y_move rfl) rfl ?_
      refine L_y (y_move rfl) rfl ?_
      refine L_y (y_idx Try.underlying22 sz3 rfl rfl (S2.row 0 rfl) (Nt.mk (by omega) : Nt _ (j - 1)) (by omega)) rfl ?_
      refine L_o (o_strow S2 0 rfl rfl rfl rfl sz3 (by omega) fun w3 S3 => ?_)
      refine L_nil ?_
      refine hK9 _ _ ?_
      refine T_seq fun K10 hK10 => ?_
      refine T_seq fun K11 hK11 => ?_
      refine T_region ?_
      refine L_y (y_move rfl) rfl ?_
      refine L_y (y_add rfl rfl (i64w (by omega))) rfl ?_
      refine L_y (y_assign rfl) rfl ?_
      refine L_nil ?_
      refine hK11 _ _ ?_
      refine T_block ?_
      refine T_loop2 [(0, _), (3, _), (4, _), (5, _)] (fun (t : Nat) (v : Nat) => [(6, .int .i64 ((j : Int) + (t : Int)))]) (fun (t : Nat) (v : Nat) => n - j - t) (fun (t : Nat) (v : Nat) (w : World) => (t ≤ n - j ∧ v = 1 + (best p.2 ((l.drop j).take t) ((lens (l.drop j)).take t))) ∧ St w0 noM [row 3 1 (some ⟨b1, 0, none⟩) n n (iL (nI (LG l j v)))] w) 0 1 (Sub.cons rfl (by first | rfl | exact congrArg (Value.int _) (by omega)) (Sub.nil _)) (Sub.cons rfl rfl (Sub.cons rfl rfl (Sub.cons rfl rfl (Sub.cons rfl rfl (Sub.nil _))))) ?_ ?_
      ·
        have S91 := S3.rowc 0 rfl (n' := n) (xs' := iL (nI (LG l j 1))) rfl (LG_one (by omega))
        exact ⟨⟨Nat.zero_le _, by simp [best]⟩, S91⟩
      ·
        intro t v w4 hrel
        obtain ⟨⟨ht, hv⟩, S4⟩ := hrel
        refine T_seq fun K12 hK12 => ?_
        refine T_seq fun K13 hK13 => ?_
        refine T_region ?_
        refine L_y (y_move rfl) rfl ?_
        refine L_y (y_move rfl) rfl ?_
        refine L_y (y_len Try.underlying25 rfl) rfl ?_
        refine L_y (y_lss rfl rfl) rfl ?_
        refine L_nil ?_
        refine hK13 _ _ ?_
        refine T_cond rfl (fun h27 => ?_) (fun h27 => ?_)
        ·
          obtain ⟨q, hq⟩ : ∃ q, l[j + t]? = some q := ⟨_, List.getElem?_eq_getElem (by omega)⟩
          have hqd : (l.drop j)[t]? = some q := by rw [List.getElem?_drop]; exact hq
          obtain ⟨m, hmt⟩ : ∃ m, (lens (l.drop j))[t]? = some m := ⟨_, List.getElem?_eq_getElem (by rw [lens_len, List.length_drop]; omega)⟩
          have hm := LG_get (v := v) (by omega) hmt
          have hmb : m ≤ n := by have := (lens_le _ _ (List.mem_of_getElem? hmt)).2; rw [List.length_drop] at this; omega
          refine T_skip ?_
          refine hK12 _ _ ?_
          refine T_seq fun K14 hK14 => ?_
          refine T_block ?_
          refine T_seq fun K15 hK15 => ?_
          refine T_drawnL [(0, true), (1, true), (2, true), (3, true), (4, true), (5, true), (6, true), (7, true), (8, true), (9, true), (10, true), (11, true), (12, true), (13, true), (14, true), (15, true), (16, true), (17, true), (18, true), (19, true), (20, true), (21, true), (22, true)] hmix (by kernel_rfl) fun w5 l5 => ?_
          have S5 := S4.like l5
          refine DL_y rfl (y_move rfl) rfl ?_
          refine DL_y rfl (y_move rfl) rfl ?_
          refine DL_y rfl (y_idx Try.underlying25 sz34 rfl rfl (S5.rd hl) (Nt.mk (by omega) : Nt _ (j + t)) (by omega)) rfl ?_
          refine DL_y rfl (y_fieldR 1 Try.underlying34 rfl sz3 rfl rfl (S5.rd hl) (by omega) rfl) rfl ?_
          refine DL_y rfl (y_ldf Try.underlying3 rfl rfl (S5.rd hl) (by omega) (pI_get _ _ _ hq).2) rfl ?_
          refine DL_y rfl (y_move rfl) rfl ?_
          refine DL_y rfl (y_move rfl) rfl ?_
          refine DL_y rfl (y_idx Try.underlying25 sz34 rfl rfl (S5.rd hl) (Nt.mk (by omega) : Nt _ (j - 1)) (by omega)) rfl ?_
          refine DL_y rfl (y_fieldR 1 Try.underlying34 rfl sz3 rfl rfl (S5.rd hl) (by omega) rfl) rfl ?_
          refine DL_y rfl (y_ldf Try.underlying3 rfl rfl (S5.rd hl) (by omega) (pI_get _ _ _ hp).2) rfl ?_
          refine DL_y rfl (y_gtr rfl rfl) rfl ?_
          refine DL_y rfl (y_move rfl) rfl ?_
          refine DL_split 41 rfl (fun h41 => ?_) (fun h41 => ?_)
          ·
            refine DL_gyes rfl rfl rfl (y_move rfl) rfl ?_
            refine DL_gyes rfl rfl rfl (y_move rfl) rfl ?_
            refine DL_gyes rfl rfl rfl (y_idx Try.underlying22 sz3 rfl rfl (S5.row 0 rfl) (Nt.mk (by omega) : Nt _ (j + t)) (by omega)) rfl ?_
            refine DL_gyes rfl rfl rfl (y_ldr Try.underlying3 rfl rfl (S5.row 0 rfl) (iL_get _ _ _ (nI_get hm))) rfl ?_
            refine DL_gyes rfl rfl rfl (y_add rfl rfl (i64w (by omega))) rfl ?_
            refine DL_gyes rfl rfl rfl (y_move rfl) rfl ?_
            refine DL_gyes rfl rfl rfl (y_move rfl) rfl ?_
            refine DL_gyes rfl rfl rfl (y_idx Try.underlying22 sz3 rfl rfl (S5.row 0 rfl) (Nt.mk (by omega) : Nt _ (j - 1)) (by omega)) rfl ?_
            refine DL_gyes rfl rfl rfl (y_ldr Try.underlying3 rfl rfl (S5.row 0 rfl) (iL_get _ _ _ (nI_get LG_at))) rfl ?_
            refine DL_gyes rfl rfl rfl (y_gtr rfl rfl) rfl ?_
            refine DL_y rfl ((by first | exact y_pickT rfl rfl | exact y_pickF rfl rfl)) rfl ?_
            refine DL_nil ?_
            refine hK15 _ _ ?_
            refine T_cond rfl (fun h52 => ?_) (fun h52 => ?_)
            ·
              refine T_region ?_
              refine L_y (y_move rfl) rfl ?_
              refine L_y (y_move rfl) rfl ?_
              refine L_y (y_move rfl) rfl ?_
              refine L_y (y_move rfl) rfl ?_
              refine L_y (y_idx Try.underlying22 sz3 rfl rfl (S5.row 0 rfl) (Nt.mk (by omega) : Nt _ (j + t)) (by omega)) rfl ?_
              refine L_y (y_ldr Try.underlying3 rfl rfl (S5.row 0 rfl) (iL_get _ _ _ (nI_get hm))) rfl ?_
              refine L_y (y_add rfl rfl (i64w (by omega))) rfl ?_
              refine L_y (y_idx Try.underlying22 sz3 rfl rfl (S5.row 0 rfl) (Nt.mk (by omega) : Nt _ (j - 1)) (by omega)) rfl ?_
              refine L_o (o_strow S5 0 rfl rfl rfl rfl sz3 (by omega) fun w6 S6 => ?_)
              refine L_nil ?_
              refine hK14 _ _ ?_
              refine T_region ?_
              refine L_y (y_move rfl) rfl ?_
              refine L_y (y_add rfl rfl (i64w (by omega))) rfl ?_
              refine L_y (y_assign rfl) rfl ?_
              refine L_nil ?_
              have hbs := best_step (p := p) hqd hmt
              rw [if_pos h41] at hbs
              have S91 := S6.rowc 0 rfl (n' := n) (xs' := iL (nI (LG l j (m + 1)))) rfl LG_set
              refine ⟨t + 1, m + 1, by omega, ⟨⟨by omega, by rw [hbs]; omega⟩, S91⟩, ?_⟩
              exact (Sub.cons rfl (by first | rfl | exact congrArg (Value.int _) (by omega)) (Sub.cons rfl rfl (Sub.cons rfl rfl (Sub.cons rfl rfl (Sub.cons rfl rfl (Sub.nil _))))))
            ·
              refine T_skip ?_
              refine hK14 _ _ ?_
              refine T_region ?_
              refine L_y (y_move rfl) rfl ?_
              refine L_y (y_add rfl rfl (i64w (by omega))) rfl ?_
              refine L_y (y_assign rfl) rfl ?_
              refine L_nil ?_
              have hbs := best_step (p := p) hqd hmt
              refine ⟨t + 1, v, by omega, ⟨⟨by omega, by first | (rw [if_neg h41] at hbs; rw [hbs]; omega) | (rw [if_pos h41] at hbs; rw [hbs]; omega)⟩, S5⟩, ?_⟩
              exact (Sub.cons rfl (by first | rfl | exact congrArg (Value.int _) (by omega)) (Sub.cons rfl rfl (Sub.cons rfl rfl (Sub.cons rfl rfl (Sub.cons rfl rfl (Sub.nil _))))))
          ·
            refine DL_gno rfl rfl rfl rfl ?_
            refine DL_gno rfl rfl rfl rfl ?_
            refine DL_gno rfl rfl rfl rfl ?_
            refine DL_gno rfl rfl rfl rfl ?_
            refine DL_gno rfl rfl rfl rfl ?_
            refine DL_gno rfl rfl rfl rfl ?_
            refine DL_gno rfl rfl rfl rfl ?_
            refine DL_gno rfl rfl rfl rfl ?_
            refine DL_gno rfl rfl rfl rfl ?_
            refine DL_gno rfl rfl rfl rfl ?_
            refine DL_y rfl ((by first | exact y_pickT rfl rfl | exact y_pickF rfl rfl)) rfl ?_
            refine DL_nil ?_
            refine hK15 _ _ ?_
            refine T_false rfl ?_
            refine T_skip ?_
            refine hK14 _ _ ?_
            refine T_region ?_
            refine L_y (y_move rfl) rfl ?_
            refine L_y (y_add rfl rfl (i64w (by omega))) rfl ?_
            refine L_y (y_assign rfl) rfl ?_
            refine L_nil ?_
            have hbs := best_step (p := p) hqd hmt
            refine ⟨t + 1, v, by omega, ⟨⟨by omega, by first | (rw [if_neg h41] at hbs; rw [hbs]; omega) | (rw [if_pos h41] at hbs; rw [hbs]; omega)⟩, S5⟩, ?_⟩
            exact (Sub.cons rfl (by first | rfl | exact congrArg (Value.int _) (by omega)) (Sub.cons rfl rfl (Sub.cons rfl rfl (Sub.cons rfl rfl (Sub.cons rfl rfl (Sub.nil _))))))
        ·
          refine T_exit ?_
          refine hK10 _ _ ?_
          refine T_seq fun K16 hK16 => ?_
          refine T_region ?_
          refine L_y (y_move rfl) rfl ?_
          refine L_y (y_move rfl) rfl ?_
          refine L_y (y_idx Try.underlying22 sz3 rfl rfl (S4.row 0 rfl) (Nt.mk (by omega) : Nt _ (j - 1)) (by omega)) rfl ?_
          refine L_y (y_ldr Try.underlying3 rfl rfl (S4.row 0 rfl) (iL_get _ _ _ (nI_get LG_at))) rfl ?_
          refine L_y (y_move rfl) rfl ?_
          refine L_y (y_gtr rfl rfl) rfl ?_
          refine L_nil ?_
          refine hK16 _ _ ?_
          refine T_cond rfl (fun h66 => ?_) (fun h66 => ?_)
          ·
            refine T_region ?_
            refine L_y (y_move rfl) rfl ?_
            refine L_y (y_move rfl) rfl ?_
            refine L_y (y_idx Try.underlying22 sz3 rfl rfl (S4.row 0 rfl) (Nt.mk (by omega) : Nt _ (j - 1)) (by omega)) rfl ?_
            refine L_y (y_ldr Try.underlying3 rfl rfl (S4.row 0 rfl) (iL_get _ _ _ (nI_get LG_at))) rfl ?_
            refine L_y (y_assign rfl) rfl ?_
            refine L_nil ?_
            refine hK8 _ _ ?_
            refine T_region ?_
            refine L_y (y_move rfl) rfl ?_
            refine L_y (y_sub rfl rfl (i64w (by omega))) rfl ?_
            refine L_y (y_assign rfl) rfl ?_
            refine L_nil ?_
            have htn : t = n - j := by omega
            subst htn
            rw [List.take_of_length_le (by rw [List.length_drop]; omega), List.take_of_length_le (by rw [lens_len, List.length_drop]; omega)] at hv
            obtain ⟨hle, hlp⟩ := LG_end hp (by omega) hv
            have S91 := S4.rowc 0 rfl (n' := n) (xs' := iL (nI (List.replicate (j - 1) 0 ++ lens (l.drop (j - 1))))) rfl (by rw [hle])
            have htp : topN (lens (l.drop (j - 1))) = max v (topN (lens (l.drop j))) := by rw [hlp]; rfl
            refine ⟨j - 1, by omega, ⟨by omega, S91⟩, ?_⟩
            exact (Sub.cons rfl (by first | rfl | exact congrArg (Value.int _) (by omega)) (Sub.cons rfl (by rw [htp]; first | exact congrArg (Value.int _) (by omega)) (Sub.cons rfl rfl (Sub.cons rfl rfl (Sub.nil _)))))
          ·
            refine T_skip ?_
            refine hK8 _ _ ?_
            refine T_region ?_
            refine L_y (y_move rfl) rfl ?_
            refine L_y (y_sub rfl rfl (i64w (by omega))) rfl ?_
            refine L_y (y_assign rfl) rfl ?_
            refine L_nil ?_
            have htn : t = n - j := by omega
            subst htn
            rw [List.take_of_length_le (by rw [List.length_drop]; omega), List.take_of_length_le (by rw [lens_len, List.length_drop]; omega)] at hv
            obtain ⟨hle, hlp⟩ := LG_end hp (by omega) hv
            have S91 := S4.rowc 0 rfl (n' := n) (xs' := iL (nI (List.replicate (j - 1) 0 ++ lens (l.drop (j - 1))))) rfl (by rw [hle])
            have htp : topN (lens (l.drop (j - 1))) = max v (topN (lens (l.drop j))) := by rw [hlp]; rfl
            refine ⟨j - 1, by omega, ⟨by omega, S91⟩, ?_⟩
            exact (Sub.cons rfl (by first | rfl | exact congrArg (Value.int _) (by omega)) (Sub.cons rfl (by rw [htp]; first | exact congrArg (Value.int _) (by omega)) (Sub.cons rfl rfl (Sub.cons rfl rfl (Sub.nil _)))))
    ·
      refine T_exit ?_
      refine hK4 _ _ ?_
      refine T_seq fun K17 hK17 => ?_
      refine T_region ?_
      have S7 := S2.nilrow 34 2
      refine L_y (y_assign rfl) rfl ?_
      refine L_nil ?_
      refine hK17 _ _ ?_
      refine T_seq fun K18 hK18 => ?_
      refine T_seq fun K19 hK19 => ?_
      refine T_region ?_
      refine L_y (y_assign rfl) rfl ?_
      refine L_nil ?_
      refine hK19 _ _ ?_
      refine T_block ?_
      refine T_loop5 [(0, _), (3, _)] (fun (i : Nat) (wn : Nat) (A1 : Option Addr) (c1 : Nat) (out : List PI) => [(8, .int .i64 (i : Int)), (7, .slice A1 out.length c1), (4, .int .i64 (wn : Int))]) (fun (i : Nat) (wn : Nat) (A1 : Option Addr) (c1 : Nat) (out : List PI) => n - i) (fun (i : Nat) (wn : Nat) (A1 : Option Addr) (c1 : Nat) (out : List PI) (w : World) => (i ≤ n ∧ out.length ≤ i ∧ sel wn out (l.drop i) ((lens l).drop i) = chain l) ∧ St w0 noM [row 3 1 (some ⟨b1, 0, none⟩) n n (iL (nI (lens l))), row 34 2 A1 out.length c1 (out.flatMap pI)] w) 0 (topN (lens l)) none 0 [] (Sub.cons rfl (by first | rfl | (have hj0 : j = 0 := by omega); subst hj0; simp) (Sub.cons rfl (by first | rfl | (have hj0 : j = 0 := by omega); subst hj0; simp) (Sub.cons rfl (by first | rfl | (have hj0 : j = 0 := by omega); subst hj0; simp) (Sub.nil _)))) (Sub.cons rfl rfl (Sub.cons rfl rfl (Sub.nil _))) ?_ ?_
      ·
        have S91 := S7.rowc 0 rfl (n' := n) (xs' := iL (nI (lens l))) rfl (by (have hj0 : j = 0 := by omega); subst hj0; simp)
        exact ⟨⟨Nat.zero_le _, Nat.le_refl _, rfl⟩, S91⟩
      ·
        intro i wn A1 c1 out w8 hrel
        obtain ⟨⟨hi, hol, hsel⟩, S8⟩ := hrel
        refine T_seq fun K20 hK20 => ?_
        refine T_seq fun K21 hK21 => ?_
        refine T_region ?_
        refine L_y (y_move rfl) rfl ?_
        refine L_y (y_move rfl) rfl ?_
        refine L_y (y_len Try.underlying25 rfl) rfl ?_
        refine L_y (y_lss rfl rfl) rfl ?_
        refine L_nil ?_
        refine hK21 _ _ ?_
        refine T_cond rfl (fun h74 => ?_) (fun h74 => ?_)
        ·
          obtain ⟨p, hp⟩ : ∃ p, l[i]? = some p := ⟨_, List.getElem?_eq_getElem (by omega)⟩
          obtain ⟨mi, hmi, hm1, hm2⟩ := lens_get (l := l) (i := i) (by omega)
          refine T_skip ?_
          refine hK20 _ _ ?_
          refine T_seq fun K22 hK22 => ?_
          refine T_block ?_
          refine T_seq fun K23 hK23 => ?_
          refine T_drawnL [(0, true), (1, true), (2, true), (3, true), (4, true), (5, true), (6, true), (7, true), (8, true), (9, true), (10, true), (11, true), (12, true), (13, true), (14, true), (15, true), (16, true), (17, true), (18, true), (19, true), (20, true), (21, true), (22, true), (23, true), (24, true), (25, true), (26, true), (27, true), (28, true), (29, true)] hmix (by kernel_rfl) fun w9 l9 => ?_
          have S9 := S8.like l9
          refine DL_y rfl (y_move rfl) rfl ?_
          refine DL_y rfl (y_move rfl) rfl ?_
          refine DL_y rfl (y_idx Try.underlying22 sz3 rfl rfl (S9.row 0 rfl) (Nt.mk rfl : Nt _ (i)) (by omega)) rfl ?_
          refine DL_y rfl (y_ldr Try.underlying3 rfl rfl (S9.row 0 rfl) (iL_get _ _ _ (nI_get hmi))) rfl ?_
          refine DL_y rfl (y_move rfl) rfl ?_
          refine DL_y rfl (y_eql rfl rfl) rfl ?_
          refine DL_y rfl (y_move rfl) rfl ?_
          refine DL_split 83 rfl (fun h83 => ?_) (fun h83 => ?_)
          ·
            refine DL_gyes rfl rfl rfl (y_move rfl) rfl ?_
            refine DL_gyes rfl rfl rfl (y_gtr rfl rfl) rfl ?_
            refine DL_y rfl ((by first | exact y_pickT rfl rfl | exact y_pickF rfl rfl)) rfl ?_
            refine DL_y rfl (y_move rfl) rfl ?_
            refine DL_split 87 rfl (fun h87 => ?_) (fun h87 => ?_)
            ·
              refine DL_gyes rfl rfl rfl (y_move rfl) rfl ?_
              refine DL_gyes rfl rfl rfl (y_len Try.underlying25 rfl) rfl ?_
              refine DL_gyes rfl rfl rfl (y_eql rfl rfl) rfl ?_
              refine DL_gyes rfl rfl rfl (y_move rfl) rfl ?_
              refine DL_split 91 rfl (fun h91 => ?_) (fun h91 => ?_)
              ·
                refine DL_gno rfl rfl rfl rfl ?_
                refine DL_gno rfl rfl rfl rfl ?_
                refine DL_gno rfl rfl rfl rfl ?_
                refine DL_gno rfl rfl rfl rfl ?_
                refine DL_gno rfl rfl rfl rfl ?_
                refine DL_gno rfl rfl rfl rfl ?_
                refine DL_gno rfl rfl rfl rfl ?_
                refine DL_gno rfl rfl rfl rfl ?_
                refine DL_gno rfl rfl rfl rfl ?_
                refine DL_gno rfl rfl rfl rfl ?_
                refine DL_gno rfl rfl rfl rfl ?_
                refine DL_gno rfl rfl rfl rfl ?_
                refine DL_gno rfl rfl rfl rfl ?_
                refine DL_gyes rfl rfl rfl ((by first | exact y_pickT rfl rfl | exact y_pickF rfl rfl)) rfl ?_
                refine DL_y rfl ((by first | exact y_pickT rfl rfl | exact y_pickF rfl rfl)) rfl ?_
                refine DL_nil ?_
                refine hK23 _ _ ?_
                refine T_true rfl ?_
                refine T_seq fun K24 hK24 => ?_
                refine T_region ?_
                refine L_y (y_move rfl) rfl ?_
                refine L_y (y_move rfl) rfl ?_
                refine L_y (y_move rfl) rfl ?_
                refine L_y (y_idx Try.underlying25 sz34 rfl rfl (S9.rd hl) (Nt.mk (by omega) : Nt _ (i)) (by omega)) rfl ?_
                refine L_y (y_ldp (f := pI) pI_len Try.underlying34 rfl sz34 rfl (S9.rd hl) (by omega) hp) rfl ?_
                refine L_o (o_bsl [_, _] te25 zz34 S9 rfl rfl rfl rfl rfl rfl rfl rfl fun b10 w10 S10 => ?_)
                refine L_o (o_app te25 S10 1 rfl rfl rfl (by first | exact S10.row 0 rfl | exact S10.row 1 rfl | exact S10.row 2 rfl) (by intro u hu; simp [pI] at hu; rcases hu with rfl | rfl <;> rfl) rfl (by omega) (by omega) fun A11 c11 w11 S11 => ?_)
                have S11d := S11.drop (rs' := [_, _]) (.cons_cons _ (.cons_cons _ (.cons _ (.refl _))))
                refine L_y (y_assign rfl) rfl ?_
                refine L_nil ?_
                refine hK24 _ _ ?_
                refine T_region ?_
                refine L_y (y_move rfl) rfl ?_
                refine L_y (y_sub rfl rfl (i64w (by omega))) rfl ?_
                refine L_y (y_assign rfl) rfl ?_
                refine L_nil ?_
                refine hK22 _ _ ?_
                refine T_region ?_
                refine L_y (y_move rfl) rfl ?_
                refine L_y (y_add rfl rfl (i64w (by omega))) rfl ?_
                refine L_y (y_assign rfl) rfl ?_
                refine L_nil ?_
                have hsl := sel_hit (w := wn) (out := out) hp hmi (by have := h83; omega) (by first | exact okL_nil h91 | (rw [okL_last hq]; exact decide_eq_true h106))
                rw [hsel] at hsl
                have S92 := S11d.rowc 1 rfl (n' := (out ++ [p]).length) (xs' := (out ++ [p]).flatMap pI) (by simp) (pIs_snoc _ _)
                refine ⟨i + 1, (wn - 1), _, _, (out ++ [p]), by omega, ⟨⟨by omega, by first | omega | (simp; omega), hsl⟩, S92⟩, ?_⟩
                exact (Sub.cons rfl (by first | rfl | exact congrArg (Value.int _) (by omega)) (Sub.cons rfl (by first | rfl | (rw [List.length_append]; rfl)) (Sub.cons rfl (by first | rfl | exact congrArg (Value.int _) (by omega)) (Sub.cons rfl rfl (Sub.cons rfl rfl (Sub.nil _))))))
              ·
                obtain ⟨q, hq⟩ : ∃ q, out[out.length - 1]? = some q := ⟨_, List.getElem?_eq_getElem (by omega)⟩
                refine DL_gyes rfl rfl rfl (y_move rfl) rfl ?_
                refine DL_gyes rfl rfl rfl (y_move rfl) rfl ?_
                refine DL_gyes rfl rfl rfl (y_idx Try.underlying25 sz34 rfl rfl (S9.rd hl) (Nt.mk (by omega) : Nt _ (i)) (by omega)) rfl ?_
                refine DL_gyes rfl rfl rfl (y_fieldR 1 Try.underlying34 rfl sz3 rfl rfl (S9.rd hl) (by omega) rfl) rfl ?_
                refine DL_gyes rfl rfl rfl (y_ldf Try.underlying3 rfl rfl (S9.rd hl) (by omega) (pI_get _ _ _ hp).2) rfl ?_
                refine DL_gyes rfl rfl rfl (y_move rfl) rfl ?_
                refine DL_gyes rfl rfl rfl (y_move rfl) rfl ?_
                refine DL_gyes rfl rfl rfl (y_len Try.underlying25 rfl) rfl ?_
                refine DL_gyes rfl rfl rfl (y_sub rfl rfl (i64w (by omega))) rfl ?_
                refine DL_gyes rfl rfl rfl (y_idx Try.underlying25 sz34 rfl rfl (S9.row 1 rfl) (Nt.mk (by omega) : Nt _ (out.length - 1)) (by omega)) rfl ?_
                refine DL_gyes rfl rfl rfl (y_fieldR 1 Try.underlying34 rfl sz3 rfl rfl (S9.row 1 rfl) (by omega) rfl) rfl ?_
                refine DL_gyes rfl rfl rfl (y_ldf Try.underlying3 rfl rfl (S9.row 1 rfl) (by omega) (pI_get _ _ _ hq).2) rfl ?_
                refine DL_gyes rfl rfl rfl (y_gtr rfl rfl) rfl ?_
                refine DL_gyes rfl rfl rfl ((by first | exact y_pickT rfl rfl | exact y_pickF rfl rfl)) rfl ?_
                refine DL_y rfl ((by first | exact y_pickT rfl rfl | exact y_pickF rfl rfl)) rfl ?_
                refine DL_nil ?_
                refine hK23 _ _ ?_
                refine T_cond rfl (fun h106 => ?_) (fun h106 => ?_)
                ·
                  refine T_seq fun K25 hK25 => ?_
                  refine T_region ?_
                  refine L_y (y_move rfl) rfl ?_
                  refine L_y (y_move rfl) rfl ?_
                  refine L_y (y_move rfl) rfl ?_
                  refine L_y (y_idx Try.underlying25 sz34 rfl rfl (S9.rd hl) (Nt.mk (by omega) : Nt _ (i)) (by omega)) rfl ?_
                  refine L_y (y_ldp (f := pI) pI_len Try.underlying34 rfl sz34 rfl (S9.rd hl) (by omega) hp) rfl ?_
                  refine L_o (o_bsl [_, _] te25 zz34 S9 rfl rfl rfl rfl rfl rfl rfl rfl fun b12 w12 S12 => ?_)
                  refine L_o (o_app te25 S12 1 rfl rfl rfl (by first | exact S12.row 0 rfl | exact S12.row 1 rfl | exact S12.row 2 rfl) (by intro u hu; simp [pI] at hu; rcases hu with rfl | rfl <;> rfl) rfl (by omega) (by omega) fun A13 c13 w13 S13 => ?_)
                  have S13d := S13.drop (rs' := [_, _]) (.cons_cons _ (.cons_cons _ (.cons _ (.refl _))))
                  refine L_y (y_assign rfl) rfl ?_
                  refine L_nil ?_
                  refine hK25 _ _ ?_
                  refine T_region ?_
                  refine L_y (y_move rfl) rfl ?_
                  refine L_y (y_sub rfl rfl (i64w (by omega))) rfl ?_
                  refine L_y (y_assign rfl) rfl ?_
                  refine L_nil ?_
                  refine hK22 _ _ ?_
                  refine T_region ?_
                  refine L_y (y_move rfl) rfl ?_
                  refine L_y (y_add rfl rfl (i64w (by omega))) rfl ?_
                  refine L_y (y_assign rfl) rfl ?_
                  refine L_nil ?_
                  have hsl := sel_hit (w := wn) (out := out) hp hmi (by have := h83; omega) (by first | exact okL_nil h91 | (rw [okL_last hq]; exact decide_eq_true h106))
                  rw [hsel] at hsl
                  have S92 := S13d.rowc 1 rfl (n' := (out ++ [p]).length) (xs' := (out ++ [p]).flatMap pI) (by simp) (pIs_snoc _ _)
                  refine ⟨i + 1, (wn - 1), _, _, (out ++ [p]), by omega, ⟨⟨by omega, by first | omega | (simp; omega), hsl⟩, S92⟩, ?_⟩
                  exact (Sub.cons rfl (by first | rfl | exact congrArg (Value.int _) (by omega)) (Sub.cons rfl (by first | rfl | (rw [List.length_append]; rfl)) (Sub.cons rfl (by first | rfl | exact congrArg (Value.int _) (by omega)) (Sub.cons rfl rfl (Sub.cons rfl rfl (Sub.nil _))))))
                ·
                  refine T_skip ?_
                  refine hK22 _ _ ?_
                  refine T_region ?_
                  refine L_y (y_move rfl) rfl ?_
                  refine L_y (y_add rfl rfl (i64w (by omega))) rfl ?_
                  refine L_y (y_assign rfl) rfl ?_
                  refine L_nil ?_
                  have hsl := sel_miss (w := wn) (out := out) hp hmi (by first | exact fun h => h83 (by have := h.1; omega) | exact fun h => (by have h8 := h.1; have := h83; omega) | exact fun h => by have h9 := h.2; rw [okL_last hq] at h9; exact h106 (of_decide_eq_true h9))
                  rw [hsel] at hsl
                  have S92 := S9.rowc 1 rfl (n' := out.length) (xs' := out.flatMap pI) (by simp) rfl
                  refine ⟨i + 1, wn, _, _, out, by omega, ⟨⟨by omega, by first | omega | (simp; omega), hsl⟩, S92⟩, ?_⟩
                  exact (Sub.cons rfl (by first | rfl | exact congrArg (Value.int _) (by omega)) (Sub.cons rfl (by first | rfl | (rw [List.length_append]; rfl)) (Sub.cons rfl (by first | rfl | exact congrArg (Value.int _) (by omega)) (Sub.cons rfl rfl (Sub.cons rfl rfl (Sub.nil _))))))
            ·
              refine DL_gno rfl rfl rfl rfl ?_
              refine DL_gno rfl rfl rfl rfl ?_
              refine DL_gno rfl rfl rfl rfl ?_
              refine DL_gno rfl rfl rfl rfl ?_
              refine DL_gnu rfl rfl rfl rfl ?_
              refine DL_gnu rfl rfl rfl rfl ?_
              refine DL_gnu rfl rfl rfl rfl ?_
              refine DL_gnu rfl rfl rfl rfl ?_
              refine DL_gnu rfl rfl rfl rfl ?_
              refine DL_gnu rfl rfl rfl rfl ?_
              refine DL_gnu rfl rfl rfl rfl ?_
              refine DL_gnu rfl rfl rfl rfl ?_
              refine DL_gnu rfl rfl rfl rfl ?_
              refine DL_gnu rfl rfl rfl rfl ?_
              refine DL_gnu rfl rfl rfl rfl ?_
              refine DL_gnu rfl rfl rfl rfl ?_
              refine DL_gnu rfl rfl rfl rfl ?_
              refine DL_gno rfl rfl rfl rfl ?_
              refine DL_y rfl ((by first | exact y_pickT rfl rfl | exact y_pickF rfl rfl)) rfl ?_
              refine DL_nil ?_
              refine hK23 _ _ ?_
              refine T_false rfl ?_
              refine T_skip ?_
              refine hK22 _ _ ?_
              refine T_region ?_
              refine L_y (y_move rfl) rfl ?_
              refine L_y (y_add rfl rfl (i64w (by omega))) rfl ?_
              refine L_y (y_assign rfl) rfl ?_
              refine L_nil ?_
              have hsl := sel_miss (w := wn) (out := out) hp hmi (by first | exact fun h => h83 (by have := h.1; omega) | exact fun h => (by have h8 := h.1; have := h83; omega) | exact fun h => by have h9 := h.2; rw [okL_last hq] at h9; exact h106 (of_decide_eq_true h9))
              rw [hsel] at hsl
              have S92 := S9.rowc 1 rfl (n' := out.length) (xs' := out.flatMap pI) (by simp) rfl
              refine ⟨i + 1, wn, _, _, out, by omega, ⟨⟨by omega, by first | omega | (simp; omega), hsl⟩, S92⟩, ?_⟩
              exact (Sub.cons rfl (by first | rfl | exact congrArg (Value.int _) (by omega)) (Sub.cons rfl (by first | rfl | (rw [List.length_append]; rfl)) (Sub.cons rfl (by first | rfl | exact congrArg (Value.int _) (by omega)) (Sub.cons rfl rfl (Sub.cons rfl rfl (Sub.nil _))))))
          ·
            refine DL_gno rfl rfl rfl rfl ?_
            refine DL_gno rfl rfl rfl rfl ?_
            refine DL_y rfl ((by first | exact y_pickT rfl rfl | exact y_pickF rfl rfl)) rfl ?_
            refine DL_y rfl (y_move rfl) rfl ?_
            refine DL_gno rfl rfl rfl rfl ?_
            refine DL_gno rfl rfl rfl rfl ?_
            refine DL_gno rfl rfl rfl rfl ?_
            refine DL_gno rfl rfl rfl rfl ?_
            refine DL_gnu rfl rfl rfl rfl ?_
            refine DL_gnu rfl rfl rfl rfl ?_
            refine DL_gnu rfl rfl rfl rfl ?_
            refine DL_gnu rfl rfl rfl rfl ?_
            refine DL_gnu rfl rfl rfl rfl ?_
            refine DL_gnu rfl rfl rfl rfl ?_
            refine DL_gnu rfl rfl rfl rfl ?_
            refine DL_gnu rfl rfl rfl rfl ?_
            refine DL_gnu rfl rfl rfl rfl ?_
            refine DL_gnu rfl rfl rfl rfl ?_
            refine DL_gnu rfl rfl rfl rfl ?_
            refine DL_gnu rfl rfl rfl rfl ?_
            refine DL_gnu rfl rfl rfl rfl ?_
            refine DL_gno rfl rfl rfl rfl ?_
            refine DL_y rfl ((by first | exact y_pickT rfl rfl | exact y_pickF rfl rfl)) rfl ?_
            refine DL_nil ?_
            refine hK23 _ _ ?_
            refine T_false rfl ?_
            refine T_skip ?_
            refine hK22 _ _ ?_
            refine T_region ?_
            refine L_y (y_move rfl) rfl ?_
            refine L_y (y_add rfl rfl (i64w (by omega))) rfl ?_
            refine L_y (y_assign rfl) rfl ?_
            refine L_nil ?_
            have hsl := sel_miss (w := wn) (out := out) hp hmi (by first | exact fun h => h83 (by have := h.1; omega) | exact fun h => (by have h8 := h.1; have := h83; omega) | exact fun h => by have h9 := h.2; rw [okL_last hq] at h9; exact h106 (of_decide_eq_true h9))
            rw [hsel] at hsl
            have S92 := S9.rowc 1 rfl (n' := out.length) (xs' := out.flatMap pI) (by simp) rfl
            refine ⟨i + 1, wn, _, _, out, by omega, ⟨⟨by omega, by first | omega | (simp; omega), hsl⟩, S92⟩, ?_⟩
            exact (Sub.cons rfl (by first | rfl | exact congrArg (Value.int _) (by omega)) (Sub.cons rfl (by first | rfl | (rw [List.length_append]; rfl)) (Sub.cons rfl (by first | rfl | exact congrArg (Value.int _) (by omega)) (Sub.cons rfl rfl (Sub.cons rfl rfl (Sub.nil _))))))
        ·
          refine T_exit ?_
          refine hK18 _ _ ?_
          refine T_seq fun K26 hK26 => ?_
          refine T_region ?_
          refine L_y (y_move rfl) rfl ?_
          refine L_y (y_assign rfl) rfl ?_
          refine L_nil ?_
          refine hK26 _ _ ?_
          refine T_ret ?_
          repeat (first | with_reducible refine up_then ?_ | with_reducible refine up_in ?_)
          refine ret1 rfl rfl ?_
          have hse := sel_end (w := wn) (out := out) (ns := lens l) (l := l) (i := i) (by omega)
          rw [hsel] at hse
          rw [hse]
          exact ⟨_, rfl, S8.like0, _, _, _, rfl, S8.own 1 rfl⟩
end Go.Proofs.Ytbbmkgpgiacdeaa

/-
  Regions that draw their order and make two variables in either order. General; nothing here names a program.
-/
namespace Go.Proofs.Ytbbmkgpgiacdeaa.Zx
open Go.RowKit Zk
set_option linter.unusedVariables false
set_option linter.unusedSimpArgs false

theorem St.perm {w0 w : World} {M : Nat → Prop} {rs rs' : List Res} (S : St w0 M rs w) (h : rs.Perm rs') : St w0 M rs' w :=
  ⟨S.os, S.tape, S.output, S.size, S.old, fun r hr => S.res r (h.mem_iff.2 hr), (h.pairwise_iff (by intro a b hab i hi hj; exact hab i hj hi)).1 S.apart⟩
section
variable {P : Program} {N : Nat} {Q : Post} {env : Env} {w w0 : World} {M : Nat → Prop} {rs : List Res} {S : World → Prop} {ops : Array Oper} {listed : Array Bool} {fuel : Nat}
theorem y_of {o : Oper} {v : Value} (h : ∀ w, S w → Y P (Like w) env o v) : Y P S env o v := fun N a w' ha hw => h w' hw N a w' ha (Like.refl w')
def DX (P : Program) (N : Nat) (ops : Array Oper) (Q : Post) (S : World → Prop) (listed : Array Bool) (fuel : Nat) (env : Env) (w : World) : Prop :=
  Region.noSelect ops = true → S w → ∀ a, Fits N env a → wpAnyH P .any ops (lift N Q) S fuel listed a w
theorem T_drawnX {id : Nat} {l : List Oper} (S : World → Prop) (hm : P.follows .mixedOrders = true) (hB : Region.noSelect l.toArray = true) (hS : ∀ w1, Like w w1 → S w1)
    (h : ∀ w1, Like w w1 → DX P N l.toArray Q S (Array.replicate l.toArray.size false) l.toArray.size env w1) : T P N (.region id l.toArray true) Q env w := fun a ha =>
  wp_region_held hm (h _ (Like.drew w) hB (hS _ (Like.drew w)) a ha)
theorem DX_y {d : Tmp} {op : Op} {ty : TypeId} {pos : String} {after : Array Edge} {v : Value} (i : Nat) (hr : ((Region.ready .any ops listed).contains i && Region.free .any ops listed i) = true) (hi : ops[i]? = some ⟨some d, op, ty, pos, after, none⟩)
    (hy : Y P S env ⟨some d, op, ty, pos, after, none⟩ v) (hd : Nat.blt d N = true) (h : DX P N ops Q S (listed.setIfInBounds i true) fuel ((d, v) :: env) w) : DX P N ops Q S listed (fuel + 1) env w := fun hs hS a ha => by
  simp only [Bool.and_eq_true] at hr
  exact wpAnyH_take hi hs hr.2 hr.1 (fun c a w hq => hq.elim) (.inl ⟨by simp [Region.wanted], fun w hw => hy N a w ha hw⟩) hS (h hs hS _ (ha.put d v hd))
theorem DX_DL (order : List (Nat × Bool)) (hB : ordB ops fuel listed order = true) (h : DL P N ops Q S order env w) : DX P N ops Q S listed fuel env w := fun hs hS a ha => h hs hS a ha fuel listed hB
theorem sub_swap {d1 d2 : Nat} (v1 v2 : Value) (hne : d1 ≠ d2) (h1 : Nat.blt d1 1000000 = true) (h2 : Nat.blt d2 1000000 = true) : Sub ((d2, v2) :: (d1, v1) :: env) ((d1, v1) :: (d2, v2) :: env) := by
  have e1 : d1 < 1000000 := by rw [← Nat.blt_eq]; exact h1
  have e2 : d2 < 1000000 := by rw [← Nat.blt_eq]; exact h2
  have f1 : Nat.beq d1 1000000 = false := by cases h : Nat.beq d1 1000000; rfl; have := Nat.eq_of_beq_eq_true h; omega
  have f2 : Nat.beq d2 1000000 = false := by cases h : Nat.beq d2 1000000; rfl; have := Nat.eq_of_beq_eq_true h; omega
  refine ⟨?_, fun i v h => ?_⟩
  · simp only [dfs, f1, f2, cond_false]
  · simp only [look, f1, f2, cond_false] at h ⊢
    cases h1 : Nat.beq d1 i <;> cases h2 : Nat.beq d2 i <;> simp only [h1, h2, cond_false, cond_true] at h ⊢ <;> first | exact h | (have := Nat.eq_of_beq_eq_true h1; have := Nat.eq_of_beq_eq_true h2; omega)
/-- Two variables, made in either order. -/
theorem DX_allocs {d1 d2 : Tmp} {t1 t2 : TypeId} {z1 z2 : Value} {ty1 ty2 : TypeId} {pos1 pos2 : String} {after1 after2 : Array Edge} (i j : Nat)
    (hr : Region.ready .any ops listed = [i, j]) (hri : Region.ready .any ops (listed.setIfInBounds i true) = [j]) (hrj : Region.ready .any ops (listed.setIfInBounds j true) = [i])
    (hi : ops[i]? = some ⟨some d1, .alloc t1, ty1, pos1, after1, none⟩) (hj : ops[j]? = some ⟨some d2, .alloc t2, ty2, pos2, after2, none⟩) (hij : i ≠ j) (hdd : d1 ≠ d2) (h1 : Nat.blt d1 1000000 = true) (h2 : Nat.blt d2 1000000 = true)
    (hz1 : ∀ W, (zeroValue t1).run P W = .ok z1 W) (hz2 : ∀ W, (zeroValue t2).run P W = .ok z2 W) (S0 : St w0 M rs w) (hd1 : Nat.blt d1 N = true) (hd2 : Nat.blt d2 N = true) (hS : ∀ w', St w0 M rs w' → S w')
    (h : ∀ b1 b2 w', w0.heap.size ≤ b1 → w0.heap.size ≤ b2 → St w0 M (rs ++ [blk b1 t1 z1.cells] ++ [blk b2 t2 z2.cells]) w' →
      DX P N ops Q S ((listed.setIfInBounds i true).setIfInBounds j true) fuel ((d2, .pointer (some ⟨b2, 0, none⟩)) :: (d1, .pointer (some ⟨b1, 0, none⟩)) :: env) w') :
    DX P N ops Q S listed (fuel + 2) env w := fun hs hSw a ha => by
  have sub1 : ∀ (r : Res), rs.Sublist (rs ++ [r]) := fun r => List.sublist_append_left _ _
  refine wpAnyH_all hr (by simp) fun q hq => ?_
  have hq' : q = i ∨ q = j := by simpa using hq
  rcases hq' with rfl | rfl
  · unfold wpOp
    simp only [hi, Region.wanted, if_true]
    refine .inl (Oper.wp_mono (fun a' w' ⟨e', h3, b1, hb1, SS, he'⟩ => ?_) ((o_alloc (K := fun e' w' => ∃ b1, w0.heap.size ≤ b1 ∧ St w0 M (rs ++ [blk b1 t1 z1.cells]) w' ∧ e' = (d1, .pointer (some ⟨b1, 0, none⟩)) :: env) hz1 S0 hd1 fun b w' hb SS => ⟨b, hb, SS, rfl⟩) a ha))
    subst he'
    refine ⟨hS _ (SS.drop (sub1 _)), ?_⟩
    refine wpAnyH_all hri (by simp) fun q' hq' => ?_
    obtain rfl := List.mem_singleton.1 hq'
    unfold wpOp
    simp only [hj, Region.wanted, if_true]
    refine .inl (Oper.wp_mono (fun a2 w2 ⟨e2, h4, b2, hb2, SS2, he2⟩ => ?_) ((o_alloc (K := fun e2 w2 => ∃ b2, w0.heap.size ≤ b2 ∧ St w0 M (rs ++ [blk b1 t1 z1.cells] ++ [blk b2 t2 z2.cells]) w2 ∧ e2 = (d2, .pointer (some ⟨b2, 0, none⟩)) :: (d1, .pointer (some ⟨b1, 0, none⟩)) :: env) hz2 SS hd2 fun b w' hb SS => ⟨b, hb, SS, rfl⟩) a' h3))
    subst he2
    have hS2 : S w2 := hS _ ((SS2.drop (sub1 _ |>.trans (List.sublist_append_left _ _))))
    exact ⟨hS2, h b1 b2 w2 hb1 hb2 SS2 hs hS2 a2 h4⟩
  · unfold wpOp
    simp only [hj, Region.wanted, if_true]
    refine .inl (Oper.wp_mono (fun a' w' ⟨e', h3, b2, hb2, SS, he'⟩ => ?_) ((o_alloc (K := fun e' w' => ∃ b2, w0.heap.size ≤ b2 ∧ St w0 M (rs ++ [blk b2 t2 z2.cells]) w' ∧ e' = (d2, .pointer (some ⟨b2, 0, none⟩)) :: env) hz2 S0 hd2 fun b w' hb SS => ⟨b, hb, SS, rfl⟩) a ha))
    subst he'
    refine ⟨hS _ (SS.drop (sub1 _)), ?_⟩
    refine wpAnyH_all hrj (by simp) fun q' hq' => ?_
    obtain rfl := List.mem_singleton.1 hq'
    unfold wpOp
    simp only [hi, Region.wanted, if_true]
    refine .inl (Oper.wp_mono (fun a2 w2 ⟨e2, h4, b1, hb1, SS2, he2⟩ => ?_) ((o_alloc (K := fun e2 w2 => ∃ b1, w0.heap.size ≤ b1 ∧ St w0 M (rs ++ [blk b2 t2 z2.cells] ++ [blk b1 t1 z1.cells]) w2 ∧ e2 = (d1, .pointer (some ⟨b1, 0, none⟩)) :: (d2, .pointer (some ⟨b2, 0, none⟩)) :: env) hz1 SS hd1 fun b w' hb SS => ⟨b, hb, SS, rfl⟩) a' h3))
    subst he2
    have hS2 : S w2 := hS _ ((SS2.drop (sub1 _ |>.trans (List.sublist_append_left _ _))))
    refine ⟨hS2, ?_⟩
    have := h b1 b2 w2 hb1 hb2 (SS2.perm (by
      rw [List.append_assoc, List.append_assoc]
      exact List.Perm.append_left _ (List.Perm.swap _ _ _))) hs hS2 a2 (h4.sub (sub_swap _ _ hdd h1 h2))
    rwa [Array.setIfInBounds_comm _ _ hij] at this
end
end Go.Proofs.Ytbbmkgpgiacdeaa.Zx

/-
  Maps whose keys are bytes in arrays; families of pieces; a choice of pieces. General; nothing here names a program.
-/
namespace Go.Proofs.Ytbbmkgpgiacdeaa.Zx
open Go.RowKit Zk
set_option linter.unusedVariables false
set_option linter.unusedSimpArgs false
section
variable {w w0 : World} {M : Nat → Prop} {rs : List Res}
/-- Pieces, chosen by their numbers. -/
theorem St.sel (S : St w0 M rs w) (ix : List Nat) (hnd : ix.Nodup) : St w0 M (ix.filterMap (rs[·]?)) w := by
  refine ⟨S.os, S.tape, S.output, S.size, S.old, fun r hr => ?_, ?_⟩
  · obtain ⟨i, _, hi⟩ := List.mem_filterMap.1 hr
    exact S.res r (List.mem_of_getElem? hi)
  · rw [List.pairwise_filterMap]
    refine List.Pairwise.imp ?_ hnd
    intro i j hij a ha b hb x hx hy
    have hp := List.pairwise_iff_getElem.1 S.apart
    obtain ⟨h1, h2⟩ := List.getElem?_eq_some_iff.1 ha
    obtain ⟨h3, h4⟩ := List.getElem?_eq_some_iff.1 hb
    rcases Nat.lt_or_gt_of_ne hij with h | h
    · exact hp i j h1 h3 h x (by rw [h2]; exact hx) (by rw [h4]; exact hy)
    · exact hp j i h3 h1 h x (by rw [h4]; exact hy) (by rw [h2]; exact hx)
/-- Many pieces as one. -/
def fam (L : List Res) : Res where
  dom i := ∃ r ∈ L, r.dom i
  holds w := (∀ r ∈ L, r.holds w) ∧ L.Pairwise fun (r s : Res) => ∀ i, r.dom i → ¬ s.dom i
  stable w w' h hh := ⟨fun r hr => r.stable w w' (fun i hi => h i ⟨r, hr, hi⟩) (hh.1 r hr), hh.2⟩
theorem St.fam0 (S : St w0 M rs w) : St w0 M (rs ++ [fam []]) w := by
  refine ⟨S.os, S.tape, S.output, S.size, S.old, fun r hr => ?_, ?_⟩
  · rcases List.mem_append.1 hr with hr | hr
    · exact S.res r hr
    · obtain rfl := List.mem_singleton.1 hr
      exact ⟨⟨fun r hr => (List.not_mem_nil hr).elim, List.Pairwise.nil⟩, fun i ⟨r, hr, _⟩ => (List.not_mem_nil hr).elim⟩
  · rw [List.pairwise_append]
    exact ⟨S.apart, List.pairwise_singleton _ _, fun a _ b hb i _ hi => by
      obtain rfl := List.mem_singleton.1 hb
      obtain ⟨r, hr, _⟩ := hi
      cases hr⟩
theorem St.famIn {L1 L2 : List Res} {r : Res} (S : St w0 M (rs ++ [fam (L1 ++ L2), r]) w) : St w0 M (rs ++ [fam (L1 ++ r :: L2)]) w := by
  have hap := S.apart
  rw [List.pairwise_append] at hap
  obtain ⟨a1, a2, a3⟩ := hap
  have hfr := (List.pairwise_cons.1 a2).1 r (by simp)
  have hf := S.res (fam (L1 ++ L2)) (by simp)
  have hr := S.res r (by simp)
  refine ⟨S.os, S.tape, S.output, S.size, S.old, fun q hq => ?_, ?_⟩
  · rcases List.mem_append.1 hq with hq | hq
    · exact S.res q (by simp [hq])
    · obtain rfl := List.mem_singleton.1 hq
      refine ⟨⟨fun q hq => ?_, ?_⟩, fun i ⟨q, hq, hi⟩ => ?_⟩
      · rcases List.mem_append.1 hq with h | h
        · exact hf.1.1 q (by simp [h])
        · rcases List.mem_cons.1 h with rfl | h
          · exact hr.1
          · exact hf.1.1 q (by simp [h])
      · have h2 := hf.1.2
        rw [List.pairwise_append] at h2 ⊢
        refine ⟨h2.1, List.pairwise_cons.2 ⟨fun q hq i hi hqi => hfr i ⟨q, by simp [hq], hqi⟩ hi, h2.2.1⟩, fun a ha b hb i hi hbi => ?_⟩
        rcases List.mem_cons.1 hb with rfl | hb
        · exact hfr i ⟨a, by simp [ha], hi⟩ hbi
        · exact h2.2.2 a ha b hb i hi hbi
      · rcases List.mem_append.1 hq with h | h
        · exact hf.2 i ⟨q, by simp [h], hi⟩
        · rcases List.mem_cons.1 h with rfl | h
          · exact hr.2 i hi
          · exact hf.2 i ⟨q, by simp [h], hi⟩
  · rw [List.pairwise_append]
    refine ⟨a1, List.pairwise_singleton _ _, fun a ha b hb i hi hbi => ?_⟩
    obtain rfl := List.mem_singleton.1 hb
    obtain ⟨q, hq, hqi⟩ := hbi
    rcases List.mem_append.1 hq with h | h
    · exact a3 a ha (fam (L1 ++ L2)) (by simp) i hi ⟨q, by simp [h], hqi⟩
    · rcases List.mem_cons.1 h with rfl | h
      · exact a3 a ha q (by simp) i hi hqi
      · exact a3 a ha (fam (L1 ++ L2)) (by simp) i hi ⟨q, by simp [h], hqi⟩
theorem St.famOut {L1 L2 : List Res} {r : Res} (S : St w0 M (rs ++ [fam (L1 ++ r :: L2)]) w) : St w0 M (rs ++ [fam (L1 ++ L2), r]) w := by
  have hap := S.apart
  rw [List.pairwise_append] at hap
  obtain ⟨a1, _, a3⟩ := hap
  have hf := S.res (fam (L1 ++ r :: L2)) (by simp)
  have hp := hf.1.2
  rw [List.pairwise_append, List.pairwise_cons] at hp
  have hsub : ∀ q, q ∈ L1 ++ L2 → q ∈ L1 ++ r :: L2 := fun q hq => by
    rcases List.mem_append.1 hq with h | h
    · simp [h]
    · simp [h]
  have hfr : ∀ i, (fam (L1 ++ L2)).dom i → ¬ r.dom i := fun i ⟨q, hq, hqi⟩ hri => by
    rcases List.mem_append.1 hq with h | h
    · exact hp.2.2 q h r (by simp) i hqi hri
    · exact hp.2.1.1 q h i hri hqi
  refine ⟨S.os, S.tape, S.output, S.size, S.old, fun q hq => ?_, ?_⟩
  · rcases List.mem_append.1 hq with hq | hq
    · exact S.res q (by simp [hq])
    · rcases List.mem_cons.1 hq with rfl | hq
      · refine ⟨⟨fun q hq => hf.1.1 q (hsub q hq), ?_⟩, fun i ⟨q, hq, hi⟩ => hf.2 i ⟨q, hsub q hq, hi⟩⟩
        rw [List.pairwise_append]
        exact ⟨hp.1, hp.2.1.2, fun a ha b hb => hp.2.2 a ha b (by simp [hb])⟩
      · obtain rfl := List.mem_singleton.1 hq
        exact ⟨hf.1.1 q (by simp), fun i hi => hf.2 i ⟨q, by simp, hi⟩⟩
  · rw [List.pairwise_append]
    refine ⟨a1, List.pairwise_cons.2 ⟨fun b hb => by rw [List.mem_singleton.1 hb]; exact hfr, List.pairwise_singleton _ _⟩, fun a ha b hb i hi hbi => ?_⟩
    rcases List.mem_cons.1 hb with rfl | hb
    · obtain ⟨q, hq, hqi⟩ := hbi
      exact a3 a ha (fam (L1 ++ r :: L2)) (by simp) i hi ⟨q, hsub q hq, hqi⟩
    · rw [List.mem_singleton.1 hb] at hbi
      exact a3 a ha (fam (L1 ++ r :: L2)) (by simp) i hi ⟨r, by simp, hbi⟩
end
section
variable {P : Program}
theorem run_equalB {t e : TypeId} {n : Nat} (ht : P.underlying t = some (.array n e)) (he : P.underlying e = some (.int .u8)) (hs : (P.info? e).map (·.size) = some 1) (a b : List UInt8) (ha : a.length = n) (hb : b.length = n) (w : World) :
    (Op.equal t (.agg (bA a)) (.agg (bA b))).run P w = .ok (a == b) w := by
  unfold Op.equal
  exact run_equalIn_bytes w 9998 ht he hs a b ha hb _ _ (bA_get a) (bA_get b)
theorem run_checkB {t e : TypeId} {n : Nat} (ht : P.underlying t = some (.array n e)) (he : P.underlying e = some (.int .u8)) (hs : (P.info? e).map (·.size) = some 1) (a : List UInt8) (ha : a.length = n) (w : World) (b : Bool) :
    (Instr.checkKey b 10000 t (.agg (bA a))).run P w = .ok () w := by
  have hel : ∀ v, (Instr.checkKey b 9999 e v).run P w = .ok () w := fun v => by
    unfold Instr.checkKey
    simp only [Sem.run_bind, run_underlying he, Result.andThen_ok]
    rfl
  have hsz : (sizeOf e).run P w = .ok 1 w := sizeOf_run hs w
  have hpart : ∀ i, i < n → ∃ v, (part e (bA a) (i * 1)).run P w = .ok v w := fun i hi => by
    have hg : (bA a)[i]? = some (.int .u8 (a[i].toNat : Int)) := bA_get a i _ (List.getElem?_eq_getElem (by omega))
    have hagg : (isAgg e).run P w = .ok false w := by
      unfold isAgg
      rw [Sem.run_bind, run_underlying he w]
      rfl
    exact ⟨.int .u8 (a[i].toNat : Int), by simp [part, Sem.run_bind, hagg, hg]⟩
  have key : ∀ (m s : Nat), s + m ≤ n → (forIn (m := Sem) (List.range' s m) PUnit.unit fun i _ => do
      Instr.checkKey b 9999 e (← part e (bA a) (i * (← sizeOf e)))
      pure (ForInStep.yield PUnit.unit)).run P w = .ok PUnit.unit w := by
    intro m
    induction m with
    | zero => intro s _; simp
    | succ m ih =>
      intro s hs
      obtain ⟨v, hv⟩ := hpart s (by omega)
      simp only [List.range'_succ, List.forIn_cons, Sem.run_bind, hsz, Result.andThen_ok, hv, hel, Sem.run_pure]
      exact ih (s + 1) (by omega)
  unfold Instr.checkKey
  simp only [Sem.run_bind, run_underlying ht, Result.andThen_ok]
  have h := key n 0 (by omega)
  rw [Std.Legacy.Range.forIn_eq_forIn_range']
  have hr : [:n].size = n := by simp [Std.Legacy.Range.size]
  rw [hr]
  rw [h]
  rfl

/-- The entries of a map whose keys are bytes, in the order in which they came. -/
def entB (D : List (List UInt8 × Value)) : List MapEntry := D.zipIdx.map fun p => ⟨.agg (bA p.1.1), p.1.2, p.2⟩
theorem entB_len (D : List (List UInt8 × Value)) : (entB D).length = D.length := by simp [entB]
theorem entB_get (D : List (List UInt8 × Value)) (i : Nat) : (entB D)[i]? = D[i]?.map fun p => ⟨.agg (bA p.1), p.2, i⟩ := by
  unfold entB
  rw [List.getElem?_map, List.getElem?_zipIdx, Option.map_map]
  cases D[i]? <;> simp
/-- Where a key stands. -/
def posB (a : List UInt8) : List (List UInt8 × Value) → Nat → Option (Nat × Value)
  | [], _ => none
  | p :: r, i => if a == p.1 then some (i, p.2) else posB a r (i + 1)
theorem posB_some {a : List UInt8} : ∀ {D : List (List UInt8 × Value)} {i j : Nat} {v : Value}, posB a D i = some (j, v) → i ≤ j ∧ D[j - i]? = some (a, v)
  | [], i, j, v, h => by cases h
  | p :: r, i, j, v, h => by
    unfold posB at h
    split at h
    · rename_i e
      cases h
      have e2 : a = p.1 := by simpa using e
      refine ⟨Nat.le_refl _, ?_⟩
      rw [Nat.sub_self, e2]
      rfl
    · obtain ⟨h1, h2⟩ := posB_some h
      refine ⟨by omega, ?_⟩
      rw [show j - i = j - (i + 1) + 1 by omega, List.getElem?_cons_succ]
      exact h2
theorem posB_none {a : List UInt8} : ∀ {D : List (List UInt8 × Value)} {i : Nat}, posB a D i = none → ∀ p ∈ D, p.1 ≠ a
  | [], i, h => by intro p hp; cases hp
  | q :: r, i, h => by
    unfold posB at h
    split at h
    · cases h
    · rename_i e
      intro p hp
      rcases List.mem_cons.1 hp with rfl | hp
      · intro e2; exact e (by simp [e2])
      · exact posB_none h p hp
theorem findNow_arr {n : Nat} {e : TypeId} (a : List UInt8) (m : MapEntry) (es : List MapEntry) (i : Nat) : Instr.findNow (.array n e) (.agg (bA a)) (m :: es) i = none := rfl
theorem run_asking {t e : TypeId} {n : Nat} (ht : P.underlying t = some (.array n e)) (he : P.underlying e = some (.int .u8)) (hs : (P.info? e).map (·.size) = some 1) (a : List UInt8) (ha : a.length = n) (w : World) :
    ∀ (D : List (List UInt8 × Value)) (i : Nat), (∀ p ∈ D, p.1.length = n) → ∀ es : List MapEntry, es.map (fun m => (m.key, m.val)) = D.map (fun p => (.agg (bA p.1), p.2)) → (Instr.findAsking t (.agg (bA a)) es i).run P w = .ok (posB a D i) w
  | [], i, _, es, h => by
    have : es = [] := by simpa using h
    subst this
    rfl
  | p :: D, i, hD, es, h => by
    cases es with
    | nil => cases h
    | cons m es =>
      simp only [List.map_cons, List.cons.injEq, Prod.mk.injEq] at h
      obtain ⟨⟨h1, h2⟩, h3⟩ := h
      unfold Instr.findAsking posB
      rw [h1, Sem.run_bind, run_equalB ht he hs a p.1 ha (hD p (by simp)) w, Result.andThen_ok]
      cases hap : a == p.1 with
      | true => simp [h2]
      | false =>
        simp only [Bool.false_eq_true, if_false]
        exact run_asking ht he hs a ha w D (i + 1) (fun q hq => hD q (by simp [hq])) es h3
theorem run_findB {t e : TypeId} {n : Nat} (ht : P.underlying t = some (.array n e)) (he : P.underlying e = some (.int .u8)) (hs : (P.info? e).map (·.size) = some 1) (a : List UInt8) (ha : a.length = n) (w : World) (D : List (List UInt8 × Value)) (hD : ∀ p ∈ D, p.1.length = n) :
    (Instr.findKey t (.agg (bA a)) (entB D)).run P w = .ok (posB a D 0) w := by
  have hk := run_asking ht he hs a ha w D 0 hD (entB D) (by
    unfold entB
    rw [List.map_map]
    apply List.ext_getElem?
    intro i
    rw [List.getElem?_map, List.getElem?_map, List.getElem?_zipIdx]
    cases D[i]? <;> simp)
  unfold Instr.findKey
  simp only [Sem.run_bind, run_underlying ht, Result.andThen_ok]
  cases D with
  | nil => rfl
  | cons p D =>
    rw [show entB (p :: D) = ⟨.agg (bA p.1), p.2, 0⟩ :: (entB (p :: D)).tail from rfl, findNow_arr]
    exact hk
def mapB (n b : Nat) (D : List (List UInt8 × Value)) : Res where
  dom i := i = b
  holds w := w.heap[b]? = some (.map (entB D).toArray D.length) ∧ ∀ p ∈ D, p.1.length = n
  stable w w' h hh := ⟨(h b rfl).trans hh.1, hh.2⟩
def getB (a : List UInt8) (D : List (List UInt8 × Value)) (z : Value) : Value := (posB a D 0).elim z (·.2)
end
section
variable {P : Program} {N : Nat} {Q : Post} {env : Env} {w w0 : World} {M : Nat → Prop} {rs : List Res} {K : Env → World → Prop} {d : Tmp} {ty : TypeId} {pos : String} {after : Array Edge} {g : Option (Nat × Bool)} {dst : Option Tmp}
theorem getM {r : Nat} {es : Array MapEntry} {clock : Nat} (hb : w.heap[r]? = some (.map es clock)) : (getObj r).run P w = .ok (.map es clock) w := by
  simp [getObj, Sem.run, hb]
theorem setM {r : Nat} {es : Array MapEntry} {clock : Nat} (o : Obj) (hb : w.heap[r]? = some (.map es clock)) : (setObj r o).run P w = .ok () { w with heap := w.heap.setIfInBounds r o } := by
  simp [setObj, Sem.run, hb]
theorem y_lookB {t k e u : TypeId} {n b : Nat} {D : List (List UInt8 × Value)} {m x : Operand} {a : List UInt8} {z : Value} (hw : (mapB n b D).holds w) (ht : P.underlying t = some (.map k e)) (hk : P.underlying k = some (.array n u)) (hu : P.underlying u = some (.int .u8)) (hs : (P.info? u).map (·.size) = some 1)
    (hz : ∀ W, (zeroValue e).run P W = .ok z W) (hm : ev env m = some (.map (some b))) (hx : ev env x = some (.agg (bA a))) (ha : a.length = n) :
    Y P (Like w) env ⟨dst, .lookup t m x false, ty, pos, after, g⟩ (getB a D z) := fun N c w' hc hl => by
  have hh : w'.heap[b]? = some (.map (entB D).toArray D.length) := by
    have hb : b < w.heap.size := by
      rcases Nat.lt_or_ge b w.heap.size with q | q
      · exact q
      · have := hw.1; rw [Array.getElem?_eq_none q] at this; cases this
    rw [hl.block b hb]; exact hw.1
  have hf := run_findB (P := P) hk hu hs a ha w' D hw.2
  simp only [execOp, hc.eval hm, hc.eval hx, Instr.lookup, Sem.run_bind, run_underlying ht, Result.andThen_ok, getM hh, Sem.run_pure, run_checkB hk hu hs a ha w', hf]
  unfold getB
  cases posB a D 0 with
  | none => simp [hz]
  | some p => rfl
theorem o_makeMapB {t n : Nat} (S : St w0 M rs w) (hd : Nat.blt d N = true)
    (h : ∀ b w', w0.heap.size ≤ b → St w0 M (rs ++ [mapB n b []]) w' → K ((d, .map (some b)) :: env) w') :
    O P N Q ⟨some d, .makeMap t none, ty, pos, after, g⟩ env w K := fun a ha => by
  unfold Oper.wp execOp
  simp only [run_makeMap, Option.map_none, Sem.run_bind, Sem.run_pure, Result.andThen_ok]
  refine ⟨_, ha.put d _ hd, h _ _ S.size (S.new (like_alloc w _) _ ⟨heap_alloc_new w _, fun p hp => by cases hp⟩ fun i hi => ?_)⟩
  have hi' : i = w.heap.size := hi
  subst hi'
  exact ⟨Nat.le_refl _, by simp⟩
theorem set_map_other (w : World) (b : Nat) (o : Obj) (i : Nat) (h : i ≠ b) : ({ w with heap := w.heap.setIfInBounds b o } : World).heap[i]? = w.heap[i]? := by
  show (w.heap.setIfInBounds b o)[i]? = _
  rw [Array.getElem?_setIfInBounds_ne (Ne.symm h)]
theorem same_bits (a : List UInt8) : Instr.sameBits 10000 (.agg (bA a)) (.agg (bA a)) = true := by
  unfold Instr.sameBits
  simp only [BEq.rfl, Bool.true_and]
  rw [List.all_eq_true]
  intro p hp
  obtain ⟨i, hi, rfl⟩ := List.getElem_of_mem hp
  rw [List.getElem_zip]
  have h1 : i < (bA a).toList.length := by rw [List.length_zip] at hi; omega
  have hx : (bA a).toList[i] = .int .u8 ((a[i]'(by simpa [bA, bL] using h1)).toNat : Int) := by simp [bA, bL, bV]
  rw [hx]
  simp [Instr.sameBits]
/-- 'm[k]' as a place: what stood there, and its mark. -/
theorem o_entryB {t k e u : TypeId} {n b : Nat} {D : List (List UInt8 × Value)} {m x : Operand} {a : List UInt8} {z : Value} (S : St w0 M rs w) (j : Nat) (hj : rs[j]? = some (mapB n b D)) (ht : P.underlying t = some (.map k e)) (hk : P.underlying k = some (.array n u)) (hu : P.underlying u = some (.int .u8)) (hs : (P.info? u).map (·.size) = some 1)
    (hz : ∀ W, (zeroValue e).run P W = .ok z W) (hm : ev env m = some (.map (some b))) (hx : ev env x = some (.agg (bA a))) (ha : a.length = n) (hd : Nat.blt d N = true)
    (h1 : ∀ i v, posB a D 0 = some (i, v) → St w0 M rs w → K ((d, .tuple #[v, .int .i64 (i : Int)]) :: env) w)
    (h2 : posB a D 0 = none → ∀ w', St w0 M (rs.set j (mapB n b (D ++ [(a, z)]))) w' → K ((d, .tuple #[z, .int .i64 (D.length : Int)]) :: env) w') :
    O P N Q ⟨some d, .mapEntry t m x, ty, pos, after, g⟩ env w K := fun c hc => by
  have hw := S.get j hj
  have hf := run_findB (P := P) hk hu hs a ha w D hw.2
  unfold Oper.wp execOp
  simp only [hc.eval hm, hc.eval hx, Instr.mapEntry, Sem.run_bind, run_underlying ht, Result.andThen_ok, getM hw.1, Sem.run_pure, run_checkB hk hu hs a ha w, hf]
  cases hp : posB a D 0 with
  | some p =>
    obtain ⟨i, v⟩ := p
    obtain ⟨_, hi⟩ := posB_some hp
    rw [Nat.sub_zero] at hi
    have hg : (entB D).toArray[i]? = some ⟨.agg (bA a), v, i⟩ := by rw [List.getElem?_toArray, entB_get, hi]; rfl
    have hil := (Array.getElem?_eq_some_iff.1 hg).1
    have hget := (Array.getElem?_eq_some_iff.1 hg).2
    have hmod : ((entB D).toArray.modify i fun e => { e with key := Value.agg (bA a) }) = (entB D).toArray := by
      apply Array.ext_getElem?
      intro q
      rw [Array.getElem?_modify]
      split
      · rename_i e; subst e; rw [hg]; rfl
      · rfl
    have hsame : ({ w with heap := w.heap.setIfInBounds b (.map (entB D).toArray D.length) } : World) = w := by
      have : w.heap.setIfInBounds b (.map (entB D).toArray D.length) = w.heap := by
        apply Array.ext_getElem?
        intro q
        by_cases e : q = b
        · subst e
          have hq : q < w.heap.size := (Array.getElem?_eq_some_iff.1 hw.1).1
          rw [Array.getElem?_setIfInBounds_self_of_lt hq, hw.1]
        · rw [Array.getElem?_setIfInBounds_ne (Ne.symm e)]
      rw [this]
    simp only [hg, Option.map_some, Option.getD_some, Instr.keyThatStays, same_bits, if_true, Sem.run_pure, Sem.run_bind, Result.andThen_ok, hmod, setM _ hw.1, hsame]
    exact ⟨_, hc.put d _ hd, h1 i v hp S⟩
  | none =>
    have hnew : (entB D).toArray.push { key := Value.agg (bA a), val := z, born := D.length } = (entB (D ++ [(a, z)])).toArray := by
      unfold entB
      rw [List.zipIdx_append, List.map_append]
      simp
    simp only [hz, Sem.run_bind, Sem.run_pure, Result.andThen_ok, setM _ hw.1, hnew]
    refine ⟨_, hc.put d _ hd, h2 hp _ (S.upd j hj rfl rfl rfl (by simp) (fun i hi hn => set_map_other w b _ i hn) ⟨?_, fun p hp => ?_⟩ fun i hi => .inl hi)⟩
    · have hq : b < w.heap.size := (Array.getElem?_eq_some_iff.1 hw.1).1
      show (w.heap.setIfInBounds b _)[b]? = _
      rw [Array.getElem?_setIfInBounds_self_of_lt hq, List.length_append]
      rfl
    · rcases List.mem_append.1 hp with hp | hp
      · exact hw.2 p hp
      · obtain rfl := List.mem_singleton.1 hp
        exact ha
/-- What the place gets. -/
theorem o_entryStB {t : TypeId} {n b i : Nat} {D : List (List UInt8 × Value)} {m x v : Operand} {a : List UInt8} {old new : Value} (S : St w0 M rs w) (j : Nat) (hj : rs[j]? = some (mapB n b D)) (hi : D[i]? = some (a, old)) (hm : ev env m = some (.map (some b))) (hx : ev env x = some (.int .i64 (i : Int))) (hv : ev env v = some new)
    (h : ∀ w', St w0 M (rs.set j (mapB n b (D.set i (a, new)))) w' → K env w') :
    O P N Q ⟨none, .entryStore t m x v, ty, pos, after, g⟩ env w K := fun c hc => by
  have hw := S.get j hj
  have hil : i < D.length := (List.getElem?_eq_some_iff.1 hi).1
  have hfind : (entB D).toArray.findIdx? (fun e => ((e.born : Int) == (i : Int))) = some i := by
    rw [Array.findIdx?_eq_some_iff_getElem]
    have hg : ∀ q (hq : q < (entB D).toArray.size), ((entB D).toArray[q]).born = q := fun q hq => by
      have h1 : (entB D).toArray[q]? = some (entB D).toArray[q] := Array.getElem?_eq_getElem hq
      rw [List.getElem?_toArray, entB_get] at h1
      cases hD : D[q]? with
      | none => rw [hD] at h1; cases h1
      | some p => rw [hD] at h1; have h2 := Option.some.inj h1; rw [← h2]
    have hes : (entB D).toArray.size = D.length := by simp [entB_len]
    refine ⟨by omega, by rw [hg i (by omega)]; simp, fun q hq => ?_⟩
    rw [hg q (by omega)]
    simp
    omega
  have hnew : ((entB D).toArray.modify i fun e => { e with val := new }) = (entB (D.set i (a, new))).toArray := by
    apply Array.ext_getElem?
    intro q
    rw [Array.getElem?_modify, List.getElem?_toArray, List.getElem?_toArray, entB_get, entB_get, List.getElem?_set]
    split
    · rename_i e; subst e; first | (rw [if_pos hil, hi]; rfl) | (rw [hi]; rfl)
    · rfl
  have hai : (asInt (.int .i64 (i : Int))).run P w = .ok (i : Int) w := rfl
  unfold Oper.wp execOp
  simp only [hc.eval hm, hc.eval hx, hc.eval hv, Instr.entryStore, Sem.run_bind, getM hw.1, Result.andThen_ok, hai, Sem.run_pure, hfind, setM _ hw.1, hnew]
  refine ⟨env, hc, h _ (S.upd j hj rfl rfl rfl (by simp) (fun i hi hn => set_map_other w b _ i hn) ⟨?_, fun p hp => ?_⟩ fun i hi => .inl hi)⟩
  · have hq : b < w.heap.size := (Array.getElem?_eq_some_iff.1 hw.1).1
    show (w.heap.setIfInBounds b _)[b]? = _
    rw [Array.getElem?_setIfInBounds_self_of_lt hq, List.length_set]
  · rcases List.mem_or_eq_of_mem_set hp with hp | rfl
    · exact hw.2 p hp
    · exact hw.2 (a, old) (List.mem_of_getElem? hi)
/-- A slice as a pointer to an array. -/
theorem y_arrAt {t e : TypeId} {n m c : Nat} {A : Option Addr} {x : Operand} {S : World → Prop} (ht : P.underlying t = some (.array n e)) (hx : ev env x = some (.slice A m c)) (hn : n ≤ m) :
    Y P S env ⟨dst, .sliceToArrayPointer t x, ty, pos, after, g⟩ (.pointer A) := fun N c w hc _ => by
  simp only [execOp, hc.eval hx, Instr.arrayAt, Sem.run_bind, run_underlying ht, Result.andThen_ok]
  rw [if_neg (by omega)]
  simp only [Sem.run_bind, Sem.run_pure, Result.andThen_ok]
end
end Go.Proofs.Ytbbmkgpgiacdeaa.Zx

/-
  Many pieces handed to a callee at once. General; nothing here names a program.
-/
namespace Go.Proofs.Ytbbmkgpgiacdeaa.Zx
open Go.RowKit Zk
set_option linter.unusedVariables false
set_option linter.unusedSimpArgs false
def apartL (rs : List Res) : Prop := rs.Pairwise fun r s => ∀ i, r.dom i → ¬ s.dom i
/-- Pieces apart from one another, as one. -/
def sepL (rs : List Res) : Res where
  dom i := ∃ r ∈ rs, r.dom i
  holds w := (∀ r ∈ rs, r.holds w ∧ ∀ i, r.dom i → i < w.heap.size) ∧ apartL rs
  stable w w' h hh := ⟨fun r hr => ⟨r.stable w w' (fun i hi => h i ⟨r, hr, hi⟩) (hh.1 r hr).1, fun i hi => by
    have h1 := (hh.1 r hr).2 i hi
    have h2 := h i ⟨r, hr, hi⟩
    rw [Array.getElem?_eq_getElem h1] at h2
    exact (Array.getElem?_eq_some_iff.1 h2).1⟩, hh.2⟩
section
variable {w0 w w' : World} {M : Nat → Prop} {rs ps rs' : List Res}
theorem St.borrowL (h : (sepL rs).holds w) : St w (sepL rs).dom rs w :=
  ⟨rfl, rfl, rfl, Nat.le_refl _, fun _ _ _ => rfl, fun q hq => ⟨(h.1 q hq).1, fun i hi => ⟨(h.1 q hq).2 i hi, .inr ⟨q, hq, hi⟩⟩⟩, h.2⟩
theorem St.getL (S : St w0 M (ps ++ rs) w) : (sepL rs).holds w :=
  ⟨fun r hr => ⟨(S.res r (List.mem_append_right _ hr)).1, fun i hi => ((S.res r (List.mem_append_right _ hr)).2 i hi).1⟩, (List.pairwise_append.1 S.apart).2.1⟩
theorem St.turnedL {r0 : List Res} (S : St w0 (sepL r0).dom rs w) : Turned w0 w (sepL r0) (sepL rs) :=
  ⟨S.os, S.tape, S.output, S.size, S.old, St.getL (ps := []) S, fun i ⟨r, hr, hi⟩ => by
    have h := (S.res r hr).2 i hi
    rcases h.2 with h2 | h2
    · exact .inr ⟨h2, h.1⟩
    · exact .inl h2⟩
theorem St.turnL (S : St w0 M (ps ++ rs) w) (T : Turned w w' (sepL rs) (sepL rs')) : St w0 M (ps ++ rs') w' := by
  have hap := List.pairwise_append.1 S.apart
  refine ⟨T.os.trans S.os, T.tape.trans S.tape, T.output.trans S.output, Nat.le_trans S.size T.size, fun i hi hm => ?_, fun q hq => ?_, ?_⟩
  · rw [T.old i (Nat.lt_of_lt_of_le hi S.size) fun ⟨r, hr, hd⟩ => by
      rcases ((S.res r (List.mem_append_right _ hr)).2 i hd).2 with h | h
      · omega
      · exact hm h]
    exact S.old i hi hm
  · rcases List.mem_append.1 hq with hq | hq
    · have h := S.res q (List.mem_append_left _ hq)
      refine ⟨q.stable w w' (fun i hi => T.old i (h.2 i hi).1 fun ⟨r, hr, hd⟩ => hap.2.2 q hq r hr i hi hd) h.1, fun i hi => ⟨Nat.lt_of_lt_of_le (h.2 i hi).1 T.size, (h.2 i hi).2⟩⟩
    · have h := T.holds.1 q hq
      refine ⟨h.1, fun i hi => ⟨h.2 i hi, ?_⟩⟩
      rcases T.dom i ⟨q, hq, hi⟩ with ⟨r, hr, hd⟩ | h2
      · exact ((S.res r (List.mem_append_right _ hr)).2 i hd).2
      · exact .inl (Nat.le_trans S.size h2.1)
  · rw [List.pairwise_append]
    refine ⟨hap.1, T.holds.2, fun a ha b hb i hi hbi => ?_⟩
    rcases T.dom i ⟨b, hb, hbi⟩ with ⟨r, hr, hd⟩ | h2
    · exact hap.2.2 a ha r hr i hi hd
    · have := ((S.res a (List.mem_append_left _ ha)).2 i hi).1
      omega
/-- A callee that makes memory, too, all of it at the end of the list. -/
theorem St.getAll (S : St w0 M rs w) : (sepL rs).holds w := St.getL (ps := []) S
end
end Go.Proofs.Ytbbmkgpgiacdeaa.Zx

/-
  The work: keep.
-/
namespace Go.Proofs.Ytbbmkgpgiacdeaa
open Go.RowKit Zk Zx
set_option linter.unusedVariables false
set_option linter.unusedSimpArgs false

theorem dg_snoc (i k j : Nat) : dg i k (j + 1) = dg i k j ++ [(i + j, k + j)] := by
  unfold dg
  rw [List.range_succ, List.map_append]
  rfl
theorem dg_len (i k n : Nat) : (dg i k n).length = n := by simp [dg]
theorem ks_step (ks : List (Nat × Nat)) (i k j : Nat) : (ks ++ dg i k j).flatMap pf ++ [Value.int .i64 ((i : Int) + (j : Int)), Value.int .i64 ((k : Int) + (j : Int))] = (ks ++ dg i k (j + 1)).flatMap pf := by
  rw [dg_snoc, ← List.append_assoc, List.flatMap_append (xs := ks ++ dg i k j)]
  rfl
theorem ks_len (ks : List (Nat × Nat)) (i k j : Nat) : (ks ++ dg i k j).length + 1 = (ks ++ dg i k (j + 1)).length := by
  rw [dg_snoc]
  simp only [List.length_append, List.length_cons, List.length_nil]
  omega
/-- The work's cells, and what is kept. -/
def wkC (V0 V1 V2 : Value) (KA : Option Addr) (m kc : Nat) : Array Value := #[V0, V1, V2, .slice KA m kc]
def kR (KA : Option Addr) (kc : Nat) (ks : List (Nat × Nat)) : Res := Zx.row 34 2 KA ks.length kc (ks.flatMap pf)
theorem kR_of {KA : Option Addr} {m c : Nat} {xs : List Value} {ks : List (Nat × Nat)} (h1 : m = ks.length) (h2 : xs = ks.flatMap pf) : Zx.row 34 2 KA m c xs = kR KA c ks := by
  subst h1 h2
  rfl


set_option maxRecDepth 100000 in
theorem wkeep (g : Nat) (V0 V1 V2 : Value) (KA : Option Addr) (kc : Nat) (ks : List (Nat × Nat)) (i k n : Nat) (w0 : World) (hw : (sepL [Zx.blk g 74 (wkC V0 V1 V2 KA ks.length kc), kR KA kc ks]).holds w0) (hin : i + n ≤ 1048576) (hkn : k + n ≤ 1048576) (hks : ks.length + n ≤ 1048576) :
    Calls Try.prog 63 #[.pointer (some ⟨g, 0, none⟩), .int .i64 (i : Int), .int .i64 (k : Int), .int .i64 (n : Int)] w0 fun e w' => ∃ u, e = .returned u ∧ ∃ K1 c1, u = .tuple #[] ∧ Turned w0 w' (sepL [Zx.blk g 74 (wkC V0 V1 V2 KA ks.length kc), kR KA kc ks]) (sepL [Zx.blk g 74 (wkC V0 V1 V2 K1 (ks ++ dg i k n).length c1), kR K1 c1 (ks ++ dg i k n)]) := by
  refine enter1 (env := [(0, .pointer (some ⟨g, 0, none⟩)), (1, .int .i64 (i : Int)), (2, .int .i64 (k : Int)), (3, .int .i64 (n : Int))]) [.pointer (some ⟨g, 0, none⟩), .int .i64 (i : Int), .int .i64 (k : Int), .int .i64 (n : Int)] Try.func63 rfl Try.ntmps63 rfl rfl ?_
  have S0 := St.borrowL hw
  refine T_seq fun K1 hK1 => ?_
  refine T_region ?_
  refine L_y (y_move rfl) rfl ?_
  refine L_y (y_move rfl) rfl ?_
  refine L_nil ?_
  refine hK1 _ _ ?_
  refine T_block ?_
  refine T_loop3 [(0, _), (1, _), (2, _), (9, _)] (fun (j : Nat) (K1 : Option Addr) (c1 : Nat) => [(10, .int .i64 (j : Int))]) (fun (j : Nat) (K1 : Option Addr) (c1 : Nat) => n - j) (fun (j : Nat) (K1 : Option Addr) (c1 : Nat) (w : World) => j ≤ n ∧ St w0 (sepL [Zx.blk g 74 (wkC V0 V1 V2 KA ks.length kc), kR KA kc ks]).dom [blk g 74 #[V0, V1, V2, .slice K1 (ks ++ dg i k j).length c1], row 34 2 K1 (ks ++ dg i k j).length c1 ((ks ++ dg i k j).flatMap pf)] w) 0 KA kc (Sub.cons rfl (by first | rfl | exact congrArg (Value.int _) (by omega)) (Sub.nil _)) (Sub.cons rfl rfl (Sub.cons rfl rfl (Sub.cons rfl rfl (Sub.cons rfl rfl (Sub.nil _))))) ?_ ?_
  ·
    have hd0 : ks ++ dg i k 0 = ks := List.append_nil ks
    exact ⟨Nat.zero_le _, by rw [hd0]; exact S0⟩
  ·
    intro j K1 c1 w1 hrel
    obtain ⟨hj, S1⟩ := hrel
    have hjl : (ks ++ dg i k j).length = ks.length + j := by rw [List.length_append, dg_len]
    refine T_seq fun K2 hK2 => ?_
    refine T_region ?_
    refine L_y (y_lss rfl rfl) rfl ?_
    refine L_nil ?_
    refine hK2 _ _ ?_
    refine T_seq fun K3 hK3 => ?_
    refine T_cond rfl (fun h11 => ?_) (fun h11 => ?_)
    ·
      refine T_skip ?_
      refine hK3 _ _ ?_
      refine T_seq fun K4 hK4 => ?_
      refine T_block ?_
      refine T_seq fun K5 hK5 => ?_
      refine T_region ?_
      refine L_y (y_move rfl) rfl ?_
      refine L_y (y_assign rfl) rfl ?_
      refine L_nil ?_
      refine hK5 _ _ ?_
      refine T_region ?_
      refine L_y (y_move rfl) rfl ?_
      refine L_y (y_move rfl) rfl ?_
      refine L_y (y_nilp rfl) rfl ?_
      refine L_y (y_fieldA 3 Try.underlying74 rfl sz25 rfl rfl rfl) rfl ?_
      refine L_y (y_ldc Try.underlying25 rfl rfl (((S1.blk 0 rfl).cell _).trans (by rfl))) rfl ?_
      refine L_y (y_move rfl) rfl ?_
      refine L_y (y_move rfl) rfl ?_
      refine L_y (y_add rfl rfl (i64w (by omega))) rfl ?_
      refine L_y (y_move rfl) rfl ?_
      refine L_y (y_move rfl) rfl ?_
      refine L_y (y_add rfl rfl (i64w (by omega))) rfl ?_
      refine L_y (y_build rfl (show _ = some #[Value.int .i64 ((i : Int) + (j : Int)), Value.int .i64 ((k : Int) + (j : Int))] by kernel_rfl)) rfl ?_
      refine L_o (o_bsl [_, _] te25 zz34 S1 rfl rfl rfl rfl rfl rfl rfl rfl fun b2 w2 S2 => ?_)
      refine L_o (o_app te25 S2 1 rfl rfl rfl (by first | exact S2.row 1 rfl | exact S2.row 2 rfl) (by intro u hu; simp at hu; rcases hu with rfl | rfl <;> rfl) rfl (by omega) (by omega) fun A3 c3 w3 S3 => ?_)
      have S3d := S3.drop (rs' := [_, _]) (.cons_cons _ (.cons_cons _ (.cons _ (.refl _))))
      refine L_y (y_nilp rfl) rfl ?_
      refine L_y (y_fieldA 3 Try.underlying74 rfl sz25 rfl rfl rfl) rfl ?_
      refine L_o (o_st1 S3d 0 rfl rfl rfl rfl sz25 (by simp; done) fun w4 S4 => ?_)
      refine L_nil ?_
      refine hK4 _ _ ?_
      refine T_region ?_
      refine L_y (y_add rfl rfl (i64w (by omega))) rfl ?_
      refine L_y (y_move rfl) rfl ?_
      refine L_nil ?_
      have S91 := S4.rowc 1 rfl (n' := (ks ++ dg i k (j + 1)).length) (xs' := (ks ++ dg i k (j + 1)).flatMap pf) (ks_len ks i k j) (ks_step ks i k j)
      have S92 := S91.blkc 0 rfl (cs' := #[V0, V1, V2, .slice _ (ks ++ dg i k (j + 1)).length _]) (by rw [← ks_len]; rfl)
      refine ⟨j + 1, _, _, by omega, ⟨by omega, S92⟩, ?_⟩
      exact (Sub.cons rfl (by first | rfl | exact congrArg (Value.int _) (by omega)) (Sub.cons rfl rfl (Sub.cons rfl rfl (Sub.cons rfl rfl (Sub.cons rfl rfl (Sub.nil _))))))
    ·
      refine T_exit ?_
      first | refine end0 (fn := Try.f63) rfl ?_ | (simp only [thenQ, inB, if_true]; refine end0 (fn := Try.f63) rfl ?_)
      have hjn : j = n := by omega
      subst hjn
      exact ⟨_, rfl, K1, c1, rfl, St.turnedL S1⟩
end Go.Proofs.Ytbbmkgpgiacdeaa

/-
  What is left of two lists, as blocks: plain laws.
-/
namespace Go.Proofs.Ytbbmkgpgiacdeaa
set_option linter.unusedVariables false
set_option linter.unusedSimpArgs false
def sub (l : List Int) (i u : Nat) : List Int := (l.take u).drop i
theorem sub_len {l : List Int} {i u : Nat} (h : u ≤ l.length) : (sub l i u).length = u - i := by
  unfold sub
  rw [List.length_drop, List.length_take]
  omega
theorem sub_sub {l : List Int} {i u p q : Nat} (h : i + q ≤ u) : sub (sub l i u) p q = sub l (i + p) (i + q) := by
  unfold sub
  apply List.ext_getElem?
  intro j
  rw [List.getElem?_drop, List.getElem?_take, List.getElem?_drop, List.getElem?_drop, List.getElem?_take, List.getElem?_take]
  by_cases h1 : p + j < q
  · rw [if_pos h1, if_pos (by omega), if_pos (by omega), Nat.add_assoc]
  · rw [if_neg h1, if_neg (by omega)]
theorem mid_sub {l : List Int} {i u f t : Nat} (h : u ≤ l.length) (h2 : f + t ≤ u - i) (hi : i ≤ u) : mid (sub l i u) f t = sub l (i + f) (u - t) := by
  have h3 := sub_len (l := l) (i := i) h
  show sub (sub l i u) f ((sub l i u).length - t) = _
  rw [h3, sub_sub (by omega), show i + (u - i - t) = u - t by omega]
theorem sub_all (l : List Int) : sub l 0 l.length = l := by unfold sub; simp
theorem mv_mv (i k a b : Nat) (l : List (Nat × Nat)) : mv i k (mv a b l) = mv (i + a) (k + b) l := by
  unfold mv
  rw [List.map_map]
  apply List.map_congr_left
  intro p _
  show (p.1 + a + i, p.2 + b + k) = (p.1 + (i + a), p.2 + (k + b))
  congr 1 <;> omega
theorem mv_app (i k : Nat) (l m : List (Nat × Nat)) : mv i k (l ++ m) = mv i k l ++ mv i k m := List.map_append
theorem mv_nil (i k : Nat) : mv i k [] = [] := rfl
theorem mv_zero (l : List (Nat × Nat)) : mv 0 0 l = l := by
  unfold mv
  simp
theorem mv_dg (i k a b n : Nat) : mv i k (dg a b n) = dg (i + a) (k + b) n := by
  unfold mv dg
  rw [List.map_map]
  apply List.map_congr_left
  intro j _
  show (a + j + i, b + j + k) = (i + a + j, k + b + j)
  congr 1 <;> omega
theorem mv_len (i k : Nat) (l : List (Nat × Nat)) : (mv i k l).length = l.length := by simp [mv]
structure BK where
  a : Nat
  an : Nat
  b : Nat
  bn : Nat
/-- A block of two lists of these lengths. -/
def BKok (n m : Nat) (x : BK) : Prop := x.a ≤ x.an ∧ x.an ≤ n ∧ x.b ≤ x.bn ∧ x.bn ≤ m
def wt (x : BK) : Nat := (x.an - x.a) + (x.bn - x.b) + 1
def Wt (ps : List BK) : Nat := (ps.map wt).sum
theorem Wt_snoc (ps : List BK) (x : BK) : Wt (ps ++ [x]) = Wt ps + wt x := by simp [Wt]
theorem Wt_len : ∀ ps : List BK, ps.length ≤ Wt ps
  | [] => Nat.zero_le _
  | x :: ps => by
    have := Wt_len ps
    have h2 : Wt (x :: ps) = wt x + Wt ps := by simp [Wt]
    have h3 : 1 ≤ wt x := by unfold wt; omega
    rw [h2, List.length_cons]
    omega
section
variable (K : List Int → List Int → List (Nat × Nat)) (la lb : List Int)
/-- What is kept of a block. -/
def DB (x : BK) : List (Nat × Nat) := mv x.a x.b (DP K (sub la x.a x.an) (sub lb x.b x.bn))
variable {K la lb}
theorem DB_eq {x : BK} (h : BKok la.length lb.length x) {f t : Nat} (hf : pre (sub la x.a x.an) (sub lb x.b x.bn) = f) (ht : suf (sub la x.a x.an) (sub lb x.b x.bn) = t) :
    DB K la lb x = dg x.a x.b f ++ (mv (x.a + f) (x.b + f) (core K (DP K) (sub la (x.a + f) (x.an - t)) (sub lb (x.b + f) (x.bn - t))) ++ dg (x.an - t) (x.bn - t) t) ∧ x.a + f + t ≤ x.an ∧ x.b + f + t ≤ x.bn := by
  obtain ⟨h1, h2, h3, h4⟩ := h
  have e1 := sub_len (l := la) (i := x.a) h2
  have e2 := sub_len (l := lb) (i := x.b) h4
  have hle := pre_le (sub la x.a x.an) (sub lb x.b x.bn)
  have hsl := suf_le (sub la x.a x.an) (sub lb x.b x.bn)
  rw [hf] at hle
  rw [ht, hf] at hsl
  refine ⟨?_, by omega, by omega⟩
  unfold DB
  rw [DP_eq, hf, ht, mid_sub h2 (by omega) h1, mid_sub h4 (by omega) h3, mv_app, mv_app, mv_dg, mv_dg, mv_mv, e1, e2, List.append_assoc]
  rw [Nat.add_zero, Nat.add_zero, show x.a + (x.an - x.a - t) = x.an - t by omega, show x.b + (x.bn - x.b - t) = x.bn - t by omega]
/-- One link of a chain. -/
theorem segs_link {i0 an k0 bn i k : Nat} {p : Nat × Nat} {c : List (Nat × Nat)} (h1 : i0 + p.1 ≤ an) (h2 : k0 + p.2 ≤ bn) :
    mv i0 k0 (segs (DP K) (sub la i0 an) (sub lb k0 bn) i k (p :: c)) = DB K la lb ⟨i0 + i, i0 + p.1, k0 + k, k0 + p.2⟩ ++ (i0 + p.1, k0 + p.2) :: mv i0 k0 (segs (DP K) (sub la i0 an) (sub lb k0 bn) (p.1 + 1) (p.2 + 1) c) := by
  rw [segs, mv_app, mv_mv]
  have e1 : ((sub la i0 an).take p.1).drop i = sub la (i0 + i) (i0 + p.1) := sub_sub h1
  have e2 : ((sub lb k0 bn).take p.2).drop k = sub lb (k0 + k) (k0 + p.2) := sub_sub h2
  rw [e1, e2]
  show _ ++ (p.1 + i0, p.2 + k0) :: _ = _
  rw [Nat.add_comm p.1, Nat.add_comm p.2]
  rfl
theorem segs_last {i0 an k0 bn i k : Nat} (h1 : i0 ≤ an) (h2 : an ≤ la.length) (h3 : k0 ≤ bn) (h4 : bn ≤ lb.length) :
    mv i0 k0 (segs (DP K) (sub la i0 an) (sub lb k0 bn) i k []) = DB K la lb ⟨i0 + i, an, k0 + k, bn⟩ := by
  rw [segs, mv_mv]
  have e1 : (sub la i0 an).drop i = sub la (i0 + i) an := by unfold sub; rw [List.drop_drop]
  have e2 : (sub lb k0 bn).drop k = sub lb (k0 + k) bn := by unfold sub; rw [List.drop_drop]
  rw [e1, e2]
  rfl
end
theorem perm_one {α : Type} (ks A M C P : List α) : (((ks ++ A) ++ C) ++ (P ++ M)).Perm (ks ++ ((A ++ (M ++ C)) ++ P)) := by
  simp only [List.append_assoc]
  refine List.Perm.append_left ks (List.Perm.append_left A ?_)
  have h1 : (C ++ (P ++ M)).Perm ((P ++ M) ++ C) := List.perm_append_comm
  refine h1.trans ?_
  rw [List.append_assoc]
  have h2 : (P ++ (M ++ C)).Perm ((M ++ C) ++ P) := List.perm_append_comm
  rwa [List.append_assoc] at h2
theorem perm_link {α : Type} (ks P B R : List α) (q : α) : ((ks ++ [q]) ++ ((P ++ B) ++ R)).Perm (ks ++ (P ++ (B ++ q :: R))) := by
  simp only [List.append_assoc]
  refine List.Perm.append_left ks ?_
  rw [← List.append_assoc, ← List.append_assoc, List.singleton_append]
  have h := (List.perm_middle (a := q) (l₁ := P ++ B) (l₂ := R)).symm
  rw [← List.append_assoc]
  exact h
theorem perm_len {α : Type} {ks R T : List α} (h : (ks ++ R).Perm T) : ks.length + R.length = T.length := by
  have := h.length_eq
  rwa [List.length_append] at this
end Go.Proofs.Ytbbmkgpgiacdeaa

/-
  The work: one block.
-/
namespace Go.Proofs.Ytbbmkgpgiacdeaa
open Go.RowKit Zk Zx
set_option linter.unusedVariables false
set_option linter.unusedSimpArgs false

theorem pchainN (A : Option Addr) (n ca : Nat) (l : List (Nat × Nat)) (w0 : World) (hl : Rs w0 2 A n ca (l.flatMap pf)) (hn9 : n ≤ 1048576) :
    Calls Try.prog 27 #[.slice A n ca] w0 fun e w' => ∃ u, e = .returned u ∧ Like w0 w' ∧ ∃ A m c, u = .slice A m c ∧ w'.ownsRow w0.heap.size 34 2 (.slice A m c) m ((chainN l).flatMap pf) := by
  have h := pchain A n ca (l.map cI) w0 (pf_pI l ▸ hl) hn9
  rw [← chainN_I, ← pf_pI] at h
  exact h
theorem chain_len (x y : List Int) : (chainN (once x y)).length ≤ x.length := by
  have h1 := (chainN_sub (once x y)).length_le
  have h2 := once_len x y x.length
  exact Nat.le_trans h1 h2
theorem pf_len1 (p : Nat × Nat) : (pf p).length = 2 := rfl
theorem pf_one1 (p : Nat × Nat) : ∀ u ∈ (pf p).toArray.toList, u.oneCell' = true := fun u hu => pf_one [p] u (by simpa using hu)
theorem i64e {z : Int} {k : Nat} (h : z = (k : Int) ∧ k ≤ 9223372036854775807) : IntKind.i64.wrap z = (k : Int) := by
  rw [h.1]
  exact i64w (by omega)
/-- Old cells that the call does not write to. -/
def RsM (w : World) (M : Nat → Prop) (A : Option Addr) (n c : Nat) (l : List Int) : Prop := Rs w 1 A n c (iL l) ∧ ∀ ad, 0 < n → A = some ad → ¬ M ad.block
theorem Zx.St.rdN {w0 w : World} {M : Nat → Prop} {rs : List Res} {A : Option Addr} {n c : Nat} {l : List Int} (S : Zx.St w0 M rs w) (h : RsM w0 M A n c l) : Rs w 1 A n c (iL l) := S.rdM h.1 h.2
theorem cutI {w : World} {A : Option Addr} {n c : Nat} {l : List Int} (h : Rs w 1 A n c (iL l)) {i u : Nat} (h1 : i ≤ u) (h2 : u ≤ n) : Rs w 1 (cutA A c i 1) (u - i) (c - i) (iL (sub l i u)) := by
  have h3 := h.cut h1 h2
  rw [Nat.mul_one, Nat.mul_one] at h3
  have e : ((iL l).drop i).take (u - i) = iL (sub l i u) := by
    unfold sub iL
    rw [List.map_drop, List.map_take, List.drop_take]
  rwa [e] at h3
theorem RsM.cut {w : World} {M : Nat → Prop} {A : Option Addr} {n c : Nat} {l : List Int} (h : RsM w M A n c l) {i u : Nat} (h1 : i ≤ u) (h2 : u ≤ n) : RsM w M (cutA A c i 1) (u - i) (c - i) (sub l i u) := by
  refine ⟨cutI h.1 h1 h2, fun ad h3 e => ?_⟩
  unfold cutA at e
  split at e
  · exact h.2 ad (by omega) e
  · cases A with
    | none => cases e
    | some a =>
      simp only [Option.map_some, Option.some.injEq] at e
      subst e
      rw [block_of_add]
      exact h.2 a (by omega) rfl
theorem mem_sub {l : List Int} {i u : Nat} {x : Int} (h : x ∈ sub l i u) : x ∈ l := List.mem_of_mem_take (List.mem_of_mem_drop h)
def bf (x : BK) : List Value := [.int .i64 (x.a : Int), .int .i64 (x.an : Int), .int .i64 (x.b : Int), .int .i64 (x.bn : Int)]
def pR_ (PA : Option Addr) (pc : Nat) (ps : List BK) : Res := Zx.row 71 4 PA ps.length pc (ps.flatMap bf)
/-- The work as the caller holds it. -/
def wkR (g : Nat) (A : Option Addr) (n ca : Nat) (B : Option Addr) (m cb : Nat) (PA : Option Addr) (pc : Nat) (ps : List BK) (KA : Option Addr) (kc : Nat) (ks : List (Nat × Nat)) : Res :=
  sepL [Zx.blk g 74 (wkC (.slice A n ca) (.slice B m cb) (.slice PA ps.length pc) KA ks.length kc), pR_ PA pc ps, kR KA kc ks]
def KM (x y : List Int) : List (Nat × Nat) := keepT x y 0 0
theorem bf_len (x : BK) : (bf x).length = 4 := rfl
theorem bf_snoc (ps : List BK) (a an b bn : Nat) : ps.flatMap bf ++ [Value.int .i64 (a : Int), Value.int .i64 (an : Int), Value.int .i64 (b : Int), Value.int .i64 (bn : Int)] = (ps ++ [(⟨a, an, b, bn⟩ : BK)]).flatMap bf := by
  rw [List.flatMap_append]
  rfl
theorem dg_one (i k : Nat) : dg i k 1 = [(i, k)] := rfl
theorem mv_snoc {l : List (Nat × Nat)} {j : Nat} {p : Nat × Nat} (h : l[j]? = some p) (i k : Nat) : mv i k (l.take (j + 1)) = mv i k (l.take j) ++ [(i + p.1, k + p.2)] := by
  rw [tk h, mv_app]
  show _ ++ [(p.1 + i, p.2 + k)] = _
  rw [Nat.add_comm p.1, Nat.add_comm p.2]
theorem perm_tail {α : Type} (ks M P : List α) : ((ks ++ M) ++ P).Perm (ks ++ (P ++ M)) := by
  rw [List.append_assoc]
  exact List.Perm.append_left ks List.perm_append_comm


set_option maxRecDepth 100000 in
set_option maxHeartbeats 2000000 in
theorem wone (g : Nat) (A : Option Addr) (n ca : Nat) (B : Option Addr) (m cb : Nat) (PA : Option Addr) (pc : Nat) (ps : List BK) (KA : Option Addr) (kc : Nat) (ks : List (Nat × Nat)) (la lb : List Int) (a an b bn : Nat) (w0 : World) (hw : (wkR g A n ca B m cb PA pc ps KA kc ks).holds w0) (hA : RsM w0 (wkR g A n ca B m cb PA pc ps KA kc ks).dom A n ca la) (hB : RsM w0 (wkR g A n ca B m cb PA pc ps KA kc ks).dom B m cb lb) (hwa : ∀ x ∈ la, I64 x) (hwb : ∀ x ∈ lb, I64 x) (hn9 : n ≤ 800) (hm9 : m ≤ 800) (hbk0 : ∀ z ∈ ps, BKok la.length lb.length z) (h1 : a ≤ an) (h2 : an ≤ n) (h3 : b ≤ bn) (h4 : bn ≤ m) (hW0 : Wt ps ≤ 4096) (hT : (ks ++ (DB KM la lb ⟨a, an, b, bn⟩ ++ (ps.flatMap (DB KM la lb)))).length ≤ 4096) :
    Calls Try.prog 48 #[.pointer (some ⟨g, 0, none⟩), .agg #[.int .i64 (a : Int), .int .i64 (an : Int), .int .i64 (b : Int), .int .i64 (bn : Int)]] w0 fun e w' => ∃ u, e = .returned u ∧ ∃ PA' pc' ps' KA' kc' ks', u = .tuple #[] ∧ Turned w0 w' (wkR g A n ca B m cb PA pc ps KA kc ks) (wkR g A n ca B m cb PA' pc' ps' KA' kc' ks') ∧ (∀ z ∈ ps', BKok la.length lb.length z) ∧ Wt ps' < Wt ps + wt ⟨a, an, b, bn⟩ ∧ (ks' ++ ps'.flatMap (DB KM la lb)).Perm (ks ++ (DB KM la lb ⟨a, an, b, bn⟩ ++ (ps.flatMap (DB KM la lb)))) := by
  refine enter1 (env := [(0, .pointer (some ⟨g, 0, none⟩)), (1, .agg #[.int .i64 (a : Int), .int .i64 (an : Int), .int .i64 (b : Int), .int .i64 (bn : Int)])]) [.pointer (some ⟨g, 0, none⟩), .agg #[.int .i64 (a : Int), .int .i64 (an : Int), .int .i64 (b : Int), .int .i64 (bn : Int)]] Try.func48 rfl Try.ntmps48 rfl rfl ?_
  have hla := lenI hA.1; have hlb := lenI hB.1; have hcap := hA.1.cap; have hcap2 := hB.1.cap; have hmax := hA.1.max; have hmax2 := hB.1.max; have S0 := St.borrowL hw
  refine T_seq fun K1 hK1 => ?_
  refine T_region ?_
  refine L_o (o_box rfl S0 rfl fun b1 w1 hb1 S1 => ?_)
  have S2 : St w0 _ [blk g 74 #[.slice A n ca, .slice B m cb, .slice PA (ps).length pc, .slice KA (ks).length kc], row 71 4 PA (ps).length pc ((ps).flatMap bf), row 34 2 KA (ks).length kc ((ks).flatMap pf), _] w1 := S1
  refine L_nil ?_
  refine hK1 _ _ ?_
  refine T_seq fun K2 hK2 => ?_
  refine T_drawnL [(0, true), (1, true), (2, true), (3, true), (4, true), (5, true), (6, true), (7, true), (8, true), (9, true), (10, true), (11, true), (12, true), (13, true), (14, true), (15, true), (16, true), (17, true), (18, true), (19, true)] hmix (by kernel_rfl) fun w3 l3 => ?_
  have S3 := S2.like l3
  refine DL_y rfl (y_move rfl) rfl ?_
  refine DL_y rfl (y_nilp rfl) rfl ?_
  refine DL_y rfl (y_fieldA 0 Try.underlying74 rfl sz22 rfl rfl rfl) rfl ?_
  refine DL_y rfl (y_ldc Try.underlying22 rfl rfl (((S3.blk 0 rfl).cell _).trans (by rfl))) rfl ?_
  refine DL_y rfl (y_fieldA 0 Try.underlying71 rfl sz3 rfl rfl rfl) rfl ?_
  refine DL_y rfl (y_ldc Try.underlying3 rfl rfl (((S3.blk 3 rfl).cell _).trans (by rfl))) rfl ?_
  refine DL_y rfl (y_fieldA 1 Try.underlying71 rfl sz3 rfl rfl rfl) rfl ?_
  refine DL_y rfl (y_ldc Try.underlying3 rfl rfl (((S3.blk 3 rfl).cell _).trans (by rfl))) rfl ?_
  refine DL_y rfl (y_slice Try.underlying22 sz3 rfl rfl rfl inferInstance inferInstance (by omega) (by omega)) rfl ?_
  refine DL_y rfl (y_move rfl) rfl ?_
  refine DL_y rfl (y_nilp rfl) rfl ?_
  refine DL_y rfl (y_fieldA 1 Try.underlying74 rfl sz22 rfl rfl rfl) rfl ?_
  refine DL_y rfl (y_ldc Try.underlying22 rfl rfl (((S3.blk 0 rfl).cell _).trans (by rfl))) rfl ?_
  refine DL_y rfl (y_fieldA 2 Try.underlying71 rfl sz3 rfl rfl rfl) rfl ?_
  refine DL_y rfl (y_ldc Try.underlying3 rfl rfl (((S3.blk 3 rfl).cell _).trans (by rfl))) rfl ?_
  refine DL_y rfl (y_fieldA 3 Try.underlying71 rfl sz3 rfl rfl rfl) rfl ?_
  refine DL_y rfl (y_ldc Try.underlying3 rfl rfl (((S3.blk 3 rfl).cell _).trans (by rfl))) rfl ?_
  refine DL_y rfl (y_slice Try.underlying22 sz3 rfl rfl rfl inferInstance inferInstance (by omega) (by omega)) rfl ?_
  refine DL_y rfl (y_assign rfl) rfl ?_
  refine DL_y rfl (y_assign rfl) rfl ?_
  refine DL_nil ?_
  refine hK2 _ _ ?_
  refine T_seq fun K3 hK3 => ?_
  refine T_region ?_
  refine L_y (y_move rfl) rfl ?_
  refine L_y (y_move rfl) rfl ?_
  refine L_o (o_call Try.func52 rfl rfl (pends _ _ _ _ _ _ (sub la a an) (sub lb b bn) w3 (cutI (S3.rdN hA) h1 (by omega)) (cutI (S3.rdN hB) h3 (by omega))) rfl rfl ?_)
  rintro e4 w4 ⟨v4, rfl, l4, rfl⟩
  refine ⟨_, rfl, ?_⟩
  have S4 := S3.like l4
  generalize hf : pre (sub la a an) (sub lb b bn) = f
  generalize ht : suf (sub la a an) (sub lb b bn) = t
  have hDD : DB KM la lb ⟨a, an, b, bn⟩ = dg a b f ++ ((mv (a + f) (b + f) (core KM (DP KM) (sub la (a + f) (an - t)) (sub lb (b + f) (bn - t)))) ++ dg (an - t) (bn - t) t) ∧ a + f + t ≤ an ∧ b + f + t ≤ bn := DB_eq (x := ⟨a, an, b, bn⟩) ⟨h1, (by show an ≤ la.length; omega), h3, (by show bn ≤ lb.length; omega)⟩ hf ht
  obtain ⟨hDB, hf1, hf2⟩ := hDD
  have hT2 : ks.length + (f + ((mv (a + f) (b + f) (core KM (DP KM) (sub la (a + f) (an - t)) (sub lb (b + f) (bn - t)))).length + t)) + (ps.flatMap (DB KM la lb)).length ≤ 4096 := by rw [hDB] at hT; simp only [List.length_append, dg_len] at hT; omega
  have hXl : (sub la (a + f) (an - t)).length = an - t - (a + f) := sub_len (by omega)
  have hYl : (sub lb (b + f) (bn - t)).length = bn - t - (b + f) := sub_len (by omega)
  refine L_y (y_move rfl) rfl ?_
  refine L_y (y_extract rfl rfl) rfl ?_
  refine L_y (y_extract rfl rfl) rfl ?_
  refine L_y (y_assign rfl) rfl ?_
  refine L_y (y_assign rfl) rfl ?_
  refine L_nil ?_
  refine hK3 _ _ ?_
  refine T_seq fun K4 hK4 => ?_
  have S5 : St w0 _ [_, _, _, _] w4 := S4.sel [1, 3, 0, 2] (by decide)
  refine T_region ?_
  refine L_y (y_move rfl) rfl ?_
  refine L_y (y_fieldA 0 Try.underlying71 rfl sz3 rfl rfl rfl) rfl ?_
  refine L_y (y_ldc Try.underlying3 rfl rfl (((S5.blk 1 rfl).cell _).trans (by rfl))) rfl ?_
  refine L_y (y_fieldA 2 Try.underlying71 rfl sz3 rfl rfl rfl) rfl ?_
  refine L_y (y_ldc Try.underlying3 rfl rfl (((S5.blk 1 rfl).cell _).trans (by rfl))) rfl ?_
  refine L_y (y_move rfl) rfl ?_
  refine L_o (o_call Try.func63 rfl rfl (wkeep g _ _ _ KA kc (ks) (a) (b) (f) w4 (St.getL (ps := [_, _]) (rs := [_, _]) S5) (by omega) (by omega) (by first | omega | (simp only [List.length_append, dg_len, mv_len, List.length_take]; omega))) rfl rfl ?_)
  rintro e6 w6 ⟨v6, rfl, KK6, kc6, rfl, T6⟩
  refine ⟨_, rfl, ?_⟩
  have S6 := St.turnL (ps := [_, _]) S5 T6
  have S7 : St w0 _ [_, _, blk g 74 #[.slice A n ca, .slice B m cb, .slice PA (ps).length pc, .slice KK6 (ks ++ dg (a) (b) (f)).length kc6], row 34 2 KK6 (ks ++ dg (a) (b) (f)).length kc6 ((ks ++ dg (a) (b) (f)).flatMap pf)] w6 := S6
  refine L_nil ?_
  refine hK4 _ _ ?_
  refine T_seq fun K5 hK5 => ?_
  have S8 : St w0 _ [_, _, _, _] w6 := S7.sel [0, 1, 2, 3] (by decide)
  refine T_region ?_
  refine L_y (y_move rfl) rfl ?_
  refine L_y (y_fieldA 1 Try.underlying71 rfl sz3 rfl rfl rfl) rfl ?_
  refine L_y (y_ldc Try.underlying3 rfl rfl (((S8.blk 1 rfl).cell _).trans (by rfl))) rfl ?_
  refine L_y (y_move rfl) rfl ?_
  refine L_y (y_sub rfl rfl (i64e (k := an - t) (by omega))) rfl ?_
  refine L_y (y_fieldA 3 Try.underlying71 rfl sz3 rfl rfl rfl) rfl ?_
  refine L_y (y_ldc Try.underlying3 rfl rfl (((S8.blk 1 rfl).cell _).trans (by rfl))) rfl ?_
  refine L_y (y_move rfl) rfl ?_
  refine L_y (y_sub rfl rfl (i64e (k := bn - t) (by omega))) rfl ?_
  refine L_y (y_move rfl) rfl ?_
  refine L_o (o_call Try.func63 rfl rfl (wkeep g _ _ _ KK6 kc6 (ks ++ dg (a) (b) (f)) (an - t) (bn - t) (t) w6 (St.getL (ps := [_, _]) (rs := [_, _]) S8) (by omega) (by omega) (by first | omega | (simp only [List.length_append, dg_len, mv_len, List.length_take]; omega))) rfl rfl ?_)
  rintro e9 w9 ⟨v9, rfl, KK9, kc9, rfl, T9⟩
  refine ⟨_, rfl, ?_⟩
  have S9 := St.turnL (ps := [_, _]) S8 T9
  have S10 : St w0 _ [_, _, blk g 74 #[.slice A n ca, .slice B m cb, .slice PA (ps).length pc, .slice KK9 (ks ++ dg (a) (b) (f) ++ dg (an - t) (bn - t) (t)).length kc9], row 34 2 KK9 (ks ++ dg (a) (b) (f) ++ dg (an - t) (bn - t) (t)).length kc9 ((ks ++ dg (a) (b) (f) ++ dg (an - t) (bn - t) (t)).flatMap pf)] w9 := S9
  refine L_nil ?_
  refine hK5 _ _ ?_
  refine T_seq fun K6 hK6 => ?_
  refine T_region ?_
  refine L_y (y_fieldA 0 Try.underlying71 rfl sz3 rfl rfl rfl) rfl ?_
  refine L_y (y_ldc Try.underlying3 rfl rfl (((S10.blk 1 rfl).cell _).trans (by rfl))) rfl ?_
  refine L_y (y_move rfl) rfl ?_
  refine L_y (y_add rfl rfl (i64e (k := a + f) (by omega))) rfl ?_
  refine L_y (y_fieldA 1 Try.underlying71 rfl sz3 rfl rfl rfl) rfl ?_
  refine L_y (y_ldc Try.underlying3 rfl rfl (((S10.blk 1 rfl).cell _).trans (by rfl))) rfl ?_
  refine L_y (y_move rfl) rfl ?_
  refine L_y (y_sub rfl rfl (i64e (k := an - t) (by omega))) rfl ?_
  refine L_y (y_fieldA 2 Try.underlying71 rfl sz3 rfl rfl rfl) rfl ?_
  refine L_y (y_ldc Try.underlying3 rfl rfl (((S10.blk 1 rfl).cell _).trans (by rfl))) rfl ?_
  refine L_y (y_move rfl) rfl ?_
  refine L_y (y_add rfl rfl (i64e (k := b + f) (by omega))) rfl ?_
  refine L_y (y_fieldA 3 Try.underlying71 rfl sz3 rfl rfl rfl) rfl ?_
  refine L_y (y_ldc Try.underlying3 rfl rfl (((S10.blk 1 rfl).cell _).trans (by rfl))) rfl ?_
  refine L_y (y_move rfl) rfl ?_
  refine L_y (y_sub rfl rfl (i64e (k := bn - t) (by omega))) rfl ?_
  refine L_y (y_build rfl (show _ = some #[.int .i64 ((a + f : Nat) : Int), .int .i64 ((an - t : Nat) : Int), .int .i64 ((b + f : Nat) : Int), .int .i64 ((bn - t : Nat) : Int)] by rfl)) rfl ?_
  refine L_o (o_stW S10 1 rfl rfl rfl sz71 (by rfl) (by intro u hu; simp at hu; rcases hu with rfl | rfl | rfl | rfl <;> rfl) fun w11 S11 => ?_)
  have S12 : St w0 _ [_, blk b1 71 #[.int .i64 ((a + f : Nat) : Int), .int .i64 ((an - t : Nat) : Int), .int .i64 ((b + f : Nat) : Int), .int .i64 ((bn - t : Nat) : Int)], _, _] w11 := S11
  refine L_nil ?_
  refine hK6 _ _ ?_
  refine T_seq fun K7 hK7 => ?_
  refine T_drawnL [(0, true), (1, true), (2, true), (3, true), (4, true), (5, true), (6, true), (7, true), (8, true), (9, true), (10, true), (11, true), (12, true), (13, true), (14, true), (15, true), (16, true), (17, true), (18, true), (19, true)] hmix (by kernel_rfl) fun w13 l13 => ?_
  have S13 := S12.like l13
  refine DL_y rfl (y_move rfl) rfl ?_
  refine DL_y rfl (y_nilp rfl) rfl ?_
  refine DL_y rfl (y_fieldA 0 Try.underlying74 rfl sz22 rfl rfl rfl) rfl ?_
  refine DL_y rfl (y_ldc Try.underlying22 rfl rfl (((S13.blk 2 rfl).cell _).trans (by rfl))) rfl ?_
  refine DL_y rfl (y_fieldA 0 Try.underlying71 rfl sz3 rfl rfl rfl) rfl ?_
  refine DL_y rfl (y_ldc Try.underlying3 rfl rfl (((S13.blk 1 rfl).cell _).trans (by rfl))) rfl ?_
  refine DL_y rfl (y_fieldA 1 Try.underlying71 rfl sz3 rfl rfl rfl) rfl ?_
  refine DL_y rfl (y_ldc Try.underlying3 rfl rfl (((S13.blk 1 rfl).cell _).trans (by rfl))) rfl ?_
  refine DL_y rfl (y_slice Try.underlying22 sz3 rfl rfl rfl inferInstance inferInstance (by omega) (by omega)) rfl ?_
  refine DL_y rfl (y_move rfl) rfl ?_
  refine DL_y rfl (y_nilp rfl) rfl ?_
  refine DL_y rfl (y_fieldA 1 Try.underlying74 rfl sz22 rfl rfl rfl) rfl ?_
  refine DL_y rfl (y_ldc Try.underlying22 rfl rfl (((S13.blk 2 rfl).cell _).trans (by rfl))) rfl ?_
  refine DL_y rfl (y_fieldA 2 Try.underlying71 rfl sz3 rfl rfl rfl) rfl ?_
  refine DL_y rfl (y_ldc Try.underlying3 rfl rfl (((S13.blk 1 rfl).cell _).trans (by rfl))) rfl ?_
  refine DL_y rfl (y_fieldA 3 Try.underlying71 rfl sz3 rfl rfl rfl) rfl ?_
  refine DL_y rfl (y_ldc Try.underlying3 rfl rfl (((S13.blk 1 rfl).cell _).trans (by rfl))) rfl ?_
  refine DL_y rfl (y_slice Try.underlying22 sz3 rfl rfl rfl inferInstance inferInstance (by omega) (by omega)) rfl ?_
  refine DL_y rfl (y_assign rfl) rfl ?_
  refine DL_y rfl (y_assign rfl) rfl ?_
  refine DL_nil ?_
  refine hK7 _ _ ?_
  refine T_seq fun K8 hK8 => ?_
  refine T_seq fun K9 hK9 => ?_
  refine T_region ?_
  refine L_y (y_move rfl) rfl ?_
  refine L_y (y_len Try.underlying22 rfl) rfl ?_
  refine L_y (y_eql rfl rfl) rfl ?_
  refine L_y (y_move rfl) rfl ?_
  refine L_split 98 rfl (fun h98 => ?_) (fun h98 => ?_)
  ·
    have hemp : (sub la (a + f) (an - t)) = [] ∨ (sub lb (b + f) (bn - t)) = [] := .inl (List.eq_nil_of_length_eq_zero (by omega))
    refine L_gno rfl rfl rfl ?_
    refine L_gno rfl rfl rfl ?_
    refine L_gno rfl rfl rfl ?_
    refine L_y ((by first | exact y_pickT rfl rfl | exact y_pickF rfl rfl)) rfl ?_
    refine L_nil ?_
    refine hK9 _ _ ?_
    refine T_true rfl ?_
    refine T_ret ?_
    repeat (first | with_reducible refine up_then ?_ | with_reducible refine up_in ?_)
    have S15 : St w0 _ [_, _, _] w13 := S13.sel [2, 0, 3] (by decide)
    refine ret0 rfl ?_
    have hM : (mv (a + f) (b + f) (core KM (DP KM) (sub la (a + f) (an - t)) (sub lb (b + f) (bn - t)))) = [] := by unfold core; rw [if_pos hemp]; rfl
    have hfin : (∀ z ∈ ps, BKok la.length lb.length z) ∧ Wt ps < Wt ps + wt ⟨a, an, b, bn⟩ ∧ (((ks ++ dg a b f) ++ dg (an - t) (bn - t) t) ++ (ps.flatMap (DB KM la lb))).Perm (ks ++ (DB KM la lb ⟨a, an, b, bn⟩ ++ (ps.flatMap (DB KM la lb)))) := ⟨hbk0, by have : 1 ≤ wt ⟨a, an, b, bn⟩ := Nat.le_add_left _ _; omega, by
      rw [hDB]
      have h := perm_one ks (dg a b f) (mv (a + f) (b + f) (core KM (DP KM) (sub la (a + f) (an - t)) (sub lb (b + f) (bn - t)))) (dg (an - t) (bn - t) t) (ps.flatMap (DB KM la lb))
      rw [hM, List.append_nil] at h
      rw [hM]
      exact h⟩
    exact ⟨_, rfl, _, _, _, _, _, _, rfl, St.turnedL S15, hfin⟩
  ·
    refine L_gyes rfl rfl ?_
    refine L_y (y_move rfl) rfl ?_
    refine L_gyes rfl rfl ?_
    refine L_y (y_len Try.underlying22 rfl) rfl ?_
    refine L_gyes rfl rfl ?_
    refine L_y (y_eql rfl rfl) rfl ?_
    refine L_y ((by first | exact y_pickT rfl rfl | exact y_pickF rfl rfl)) rfl ?_
    refine L_nil ?_
    refine hK9 _ _ ?_
    refine T_cond rfl (fun h102 => ?_) (fun h102 => ?_)
    ·
      have hemp : (sub la (a + f) (an - t)) = [] ∨ (sub lb (b + f) (bn - t)) = [] := .inr (List.eq_nil_of_length_eq_zero (by omega))
      refine T_ret ?_
      repeat (first | with_reducible refine up_then ?_ | with_reducible refine up_in ?_)
      have S16 : St w0 _ [_, _, _] w13 := S13.sel [2, 0, 3] (by decide)
      refine ret0 rfl ?_
      have hM : (mv (a + f) (b + f) (core KM (DP KM) (sub la (a + f) (an - t)) (sub lb (b + f) (bn - t)))) = [] := by unfold core; rw [if_pos hemp]; rfl
      have hfin : (∀ z ∈ ps, BKok la.length lb.length z) ∧ Wt ps < Wt ps + wt ⟨a, an, b, bn⟩ ∧ (((ks ++ dg a b f) ++ dg (an - t) (bn - t) t) ++ (ps.flatMap (DB KM la lb))).Perm (ks ++ (DB KM la lb ⟨a, an, b, bn⟩ ++ (ps.flatMap (DB KM la lb)))) := ⟨hbk0, by have : 1 ≤ wt ⟨a, an, b, bn⟩ := Nat.le_add_left _ _; omega, by
        rw [hDB]
        have h := perm_one ks (dg a b f) (mv (a + f) (b + f) (core KM (DP KM) (sub la (a + f) (an - t)) (sub lb (b + f) (bn - t)))) (dg (an - t) (bn - t) t) (ps.flatMap (DB KM la lb))
        rw [hM, List.append_nil] at h
        rw [hM]
        exact h⟩
      exact ⟨_, rfl, _, _, _, _, _, _, rfl, St.turnedL S16, hfin⟩
    ·
      have hne : ¬ ((sub la (a + f) (an - t)) = [] ∨ (sub lb (b + f) (bn - t)) = []) := fun h => by rcases h with h | h <;> (have h9 := congrArg List.length h; rw [List.length_nil] at h9; omega)
      refine T_skip ?_
      refine hK8 _ _ ?_
      refine T_seq fun K10 hK10 => ?_
      refine T_region ?_
      refine L_y (y_move rfl) rfl ?_
      refine L_y (y_move rfl) rfl ?_
      refine L_o (o_call Try.func25 rfl rfl (ponce _ _ _ _ _ _ (sub la (a + f) (an - t)) (sub lb (b + f) (bn - t)) w13 (cutI (S13.rdN hA) (by omega) (by omega)) (cutI (S13.rdN hB) (by omega) (by omega)) (fun x hx => hwa x (mem_sub hx)) (fun x hx => hwb x (mem_sub hx)) (by omega)) rfl rfl ?_)
      rintro e17 w17 ⟨v17, rfl, l17, A17, n17, c17, rfl, O17⟩
      refine ⟨_, rfl, ?_⟩
      have S17 := S13.adopt l17 O17
      have hol := once_len (sub la (a + f) (an - t)) (sub lb (b + f) (bn - t)) (sub la (a + f) (an - t)).length; have hon : n17 = (once (sub la (a + f) (an - t)) (sub lb (b + f) (bn - t))).length := pf_n (S17.row 4 rfl); unfold once at hon
      refine L_o (o_call Try.func27 rfl rfl (pchainN _ _ _ _ w17 (S17.row 4 rfl) (by omega)) rfl rfl ?_)
      rintro e18 w18 ⟨v18, rfl, l18, A18, n18, c18, rfl, O18⟩
      refine ⟨_, rfl, ?_⟩
      have S18 := S17.adopt l18 O18
      have hcn : n18 = (chainN (once (sub la (a + f) (an - t)) (sub lb (b + f) (bn - t)))).length := pf_n (S18.row 5 rfl); have hcl := chain_len (sub la (a + f) (an - t)) (sub lb (b + f) (bn - t)); have hCC := CH_chain (sub la (a + f) (an - t)) (sub lb (b + f) (bn - t))
      refine L_y (y_assign rfl) rfl ?_
      refine L_nil ?_
      refine hK10 _ _ ?_
      refine T_seq fun K11 hK11 => ?_
      refine T_seq fun K12 hK12 => ?_
      refine T_region ?_
      refine L_y (y_move rfl) rfl ?_
      refine L_y (y_len Try.underlying25 rfl) rfl ?_
      refine L_y (y_eql rfl rfl) rfl ?_
      refine L_nil ?_
      refine hK12 _ _ ?_
      refine T_cond rfl (fun h109 => ?_) (fun h109 => ?_)
      ·
        have hc0 : (chainN (once (sub la (a + f) (an - t)) (sub lb (b + f) (bn - t)))) = [] := List.eq_nil_of_length_eq_zero (by omega)
        refine T_seq fun K13 hK13 => ?_
        refine T_region ?_
        refine L_y (y_move rfl) rfl ?_
        refine L_y (y_move rfl) rfl ?_
        refine L_o (o_call Try.func53 rfl rfl (fdiff _ _ _ _ _ _ (sub la (a + f) (an - t)) (sub lb (b + f) (bn - t)) w18 (cutI (S18.rdN hA) (by omega) (by omega)) (cutI (S18.rdN hB) (by omega) (by omega)) (by omega) (by omega)) rfl rfl ?_)
        rintro e19 w19 ⟨v19, rfl, l19, A19, n19, c19, rfl, O19⟩
        refine ⟨_, rfl, ?_⟩
        have S19 := S18.adopt l19 O19
        have hdn : n19 = (KM (sub la (a + f) (an - t)) (sub lb (b + f) (bn - t))).length := pf_n (S19.row 6 rfl); have hml : (mv (a + f) (b + f) (core KM (DP KM) (sub la (a + f) (an - t)) (sub lb (b + f) (bn - t)))).length = (KM (sub la (a + f) (an - t)) (sub lb (b + f) (bn - t))).length := by unfold core; rw [if_neg hne, if_pos hc0, mv_len]
        refine L_y (y_move rfl) rfl ?_
        refine L_y (y_extract rfl rfl) rfl ?_
        refine L_y (y_extract rfl rfl) rfl ?_
        refine L_y (y_assign rfl) rfl ?_
        refine L_y (y_assign rfl) rfl ?_
        refine L_nil ?_
        refine hK13 _ _ ?_
        refine T_seq fun K14 hK14 => ?_
        refine T_seq fun K15 hK15 => ?_
        have S20 : St w0 _ [_, _, _, _, _] w19 := S19.sel [0, 1, 6, 2, 3] (by decide)
        refine T_region ?_
        refine L_y (y_move rfl) rfl ?_
        refine L_y (y_len Try.underlying25 rfl) rfl ?_
        refine L_y (y_move rfl) rfl ?_
        refine L_nil ?_
        refine hK15 _ _ ?_
        refine T_block ?_
        refine T_loop3 [(0, _), (3, _), (116, _), (117, _)] (fun (j : Nat) (K1 : Option Addr) (c1 : Nat) => [(118, .int .i64 (j : Int))]) (fun (j : Nat) (K1 : Option Addr) (c1 : Nat) => (KM (sub la (a + f) (an - t)) (sub lb (b + f) (bn - t))).length - j) (fun (j : Nat) (K1 : Option Addr) (c1 : Nat) (w : World) => j ≤ (KM (sub la (a + f) (an - t)) (sub lb (b + f) (bn - t))).length ∧ St w0 (wkR g A n ca B m cb PA pc ps KA kc ks).dom [row 71 4 PA (ps).length pc ((ps).flatMap bf), blk b1 71 #[.int .i64 ((a + f : Nat) : Int), .int .i64 ((an - t : Nat) : Int), .int .i64 ((b + f : Nat) : Int), .int .i64 ((bn - t : Nat) : Int)], row 34 2 A19 n19 c19 ((KM (sub la (a + f) (an - t)) (sub lb (b + f) (bn - t))).flatMap pf), blk g 74 #[.slice A n ca, .slice B m cb, .slice PA (ps).length pc, .slice K1 (((ks ++ dg a b f) ++ dg (an - t) (bn - t) t) ++ mv (a + f) (b + f) ((KM (sub la (a + f) (an - t)) (sub lb (b + f) (bn - t))).take j)).length c1], row 34 2 K1 (((ks ++ dg a b f) ++ dg (an - t) (bn - t) t) ++ mv (a + f) (b + f) ((KM (sub la (a + f) (an - t)) (sub lb (b + f) (bn - t))).take j)).length c1 ((((ks ++ dg a b f) ++ dg (an - t) (bn - t) t) ++ mv (a + f) (b + f) ((KM (sub la (a + f) (an - t)) (sub lb (b + f) (bn - t))).take j)).flatMap pf)] w) 0 KK9 kc9 (Sub.cons rfl (by first | rfl | exact congrArg (Value.int _) (by omega)) (Sub.nil _)) (Sub.cons rfl rfl (Sub.cons rfl rfl (Sub.cons rfl rfl (Sub.cons rfl rfl (Sub.nil _))))) ?_ ?_
        ·
          exact ⟨Nat.zero_le _, by rw [List.take_zero, mv_nil, List.append_nil]; exact S20⟩
        ·
          intro j K1 c1 w21 hrel
          obtain ⟨hj, S21⟩ := hrel
          have hjl : ((KM (sub la (a + f) (an - t)) (sub lb (b + f) (bn - t))).take j).length = j := by rw [List.length_take]; omega
          refine T_seq fun K16 hK16 => ?_
          refine T_region ?_
          refine L_y (y_lss rfl rfl) rfl ?_
          refine L_nil ?_
          refine hK16 _ _ ?_
          refine T_seq fun K17 hK17 => ?_
          refine T_cond rfl (fun h119 => ?_) (fun h119 => ?_)
          ·
            obtain ⟨p, hp⟩ : ∃ p, (KM (sub la (a + f) (an - t)) (sub lb (b + f) (bn - t)))[j]? = some p := ⟨_, List.getElem?_eq_getElem (by omega)⟩
            have hpb := (keep_ok (sub la (a + f) (an - t)) (sub lb (b + f) (bn - t)) _ 0 0 rfl).1 p (List.mem_of_getElem? hp)
            refine T_skip ?_
            refine hK17 _ _ ?_
            refine T_seq fun K18 hK18 => ?_
            refine T_block ?_
            refine T_seq fun K19 hK19 => ?_
            refine T_region ?_
            refine L_y (y_idx Try.underlying25 sz34 rfl rfl (S21.row 2 rfl) (Nt.mk rfl : Nt _ (j)) (by omega)) rfl ?_
            refine L_y (y_ldp (f := pf) pf_len1 Try.underlying34 rfl sz34 rfl (S21.row 2 rfl) (by omega) hp) rfl ?_
            refine L_o (o_alloc zz34 S21 rfl fun b22 w22 hb22 S22 => ?_)
            refine L_o (o_stW S22 5 rfl rfl rfl sz34 (by rfl) (pf_one1 p) fun w23 S23 => ?_)
            refine L_nil ?_
            refine hK19 _ _ ?_
            have S24 : St w0 _ [_, _, _, _, _, _] w23 := S23.sel [0, 1, 2, 5, 3, 4] (by decide)
            refine T_region ?_
            refine L_y (y_move rfl) rfl ?_
            refine L_y (y_fieldA 0 Try.underlying71 rfl sz3 rfl rfl rfl) rfl ?_
            refine L_y (y_ldc Try.underlying3 rfl rfl (((S24.blk 1 rfl).cell _).trans (by rfl))) rfl ?_
            refine L_y (y_fieldA 0 Try.underlying34 rfl sz3 rfl rfl rfl) rfl ?_
            refine L_y (y_ldc Try.underlying3 rfl rfl (((S24.blk 3 rfl).cell _).trans (by rfl))) rfl ?_
            refine L_y (y_add rfl rfl (i64e (k := a + f + p.1) (by omega))) rfl ?_
            refine L_y (y_fieldA 2 Try.underlying71 rfl sz3 rfl rfl rfl) rfl ?_
            refine L_y (y_ldc Try.underlying3 rfl rfl (((S24.blk 1 rfl).cell _).trans (by rfl))) rfl ?_
            refine L_y (y_fieldA 1 Try.underlying34 rfl sz3 rfl rfl rfl) rfl ?_
            refine L_y (y_ldc Try.underlying3 rfl rfl (((S24.blk 3 rfl).cell _).trans (by rfl))) rfl ?_
            refine L_y (y_add rfl rfl (i64e (k := b + f + p.2) (by omega))) rfl ?_
            refine L_o (o_call Try.func63 rfl rfl (wkeep g _ _ _ K1 c1 (((ks ++ dg a b f) ++ dg (an - t) (bn - t) t) ++ mv (a + f) (b + f) ((KM (sub la (a + f) (an - t)) (sub lb (b + f) (bn - t))).take j)) (a + f + p.1) (b + f + p.2) (1) w23 (St.getL (ps := [_, _, _, _]) (rs := [_, _]) S24) (by omega) (by omega) (by first | omega | (simp only [List.length_append, dg_len, mv_len, List.length_take]; omega))) rfl rfl ?_)
            rintro e25 w25 ⟨v25, rfl, KK25, kc25, rfl, T25⟩
            refine ⟨_, rfl, ?_⟩
            have S25 := St.turnL (ps := [_, _, _, _]) S24 T25
            have S26 : St w0 _ [_, _, _, _, blk g 74 #[.slice A n ca, .slice B m cb, .slice PA (ps).length pc, .slice KK25 (((ks ++ dg a b f) ++ dg (an - t) (bn - t) t) ++ mv (a + f) (b + f) ((KM (sub la (a + f) (an - t)) (sub lb (b + f) (bn - t))).take j) ++ dg (a + f + p.1) (b + f + p.2) (1)).length kc25], row 34 2 KK25 (((ks ++ dg a b f) ++ dg (an - t) (bn - t) t) ++ mv (a + f) (b + f) ((KM (sub la (a + f) (an - t)) (sub lb (b + f) (bn - t))).take j) ++ dg (a + f + p.1) (b + f + p.2) (1)).length kc25 ((((ks ++ dg a b f) ++ dg (an - t) (bn - t) t) ++ mv (a + f) (b + f) ((KM (sub la (a + f) (an - t)) (sub lb (b + f) (bn - t))).take j) ++ dg (a + f + p.1) (b + f + p.2) (1)).flatMap pf)] w25 := S25
            refine L_nil ?_
            refine hK18 _ _ ?_
            have S27 : St w0 _ [_, _, _, _, _] w25 := S26.sel [0, 1, 2, 4, 5] (by decide)
            refine T_region ?_
            refine L_y (y_add rfl rfl (i64w (by omega))) rfl ?_
            refine L_y (y_move rfl) rfl ?_
            refine L_nil ?_
            rw [List.append_assoc, dg_one, ← mv_snoc hp (a + f) (b + f)] at S27
            refine ⟨j + 1, _, _, by omega, ⟨by omega, S27⟩, ?_⟩
            exact (Sub.cons rfl (by first | rfl | exact congrArg (Value.int _) (by omega)) (Sub.cons rfl rfl (Sub.cons rfl rfl (Sub.cons rfl rfl (Sub.cons rfl rfl (Sub.nil _))))))
          ·
            refine T_exit ?_
            refine hK14 _ _ ?_
            refine T_ret ?_
            repeat (first | with_reducible refine up_then ?_ | with_reducible refine up_in ?_)
            have S28 : St w0 _ [_, _, _] w21 := S21.sel [3, 0, 4] (by decide)
            refine ret0 rfl ?_
            have hje : j = (KM (sub la (a + f) (an - t)) (sub lb (b + f) (bn - t))).length := by omega
            subst hje
            have hM : (mv (a + f) (b + f) (core KM (DP KM) (sub la (a + f) (an - t)) (sub lb (b + f) (bn - t)))) = mv (a + f) (b + f) (KM (sub la (a + f) (an - t)) (sub lb (b + f) (bn - t))) := by unfold core; rw [if_neg hne, if_pos hc0]
            have hfin : (∀ z ∈ ps, BKok la.length lb.length z) ∧ Wt ps < Wt ps + wt ⟨a, an, b, bn⟩ ∧ ((((ks ++ dg a b f) ++ dg (an - t) (bn - t) t) ++ mv (a + f) (b + f) ((KM (sub la (a + f) (an - t)) (sub lb (b + f) (bn - t))).take (KM (sub la (a + f) (an - t)) (sub lb (b + f) (bn - t))).length)) ++ (ps.flatMap (DB KM la lb))).Perm (ks ++ (DB KM la lb ⟨a, an, b, bn⟩ ++ (ps.flatMap (DB KM la lb)))) := ⟨hbk0, by have : 1 ≤ wt ⟨a, an, b, bn⟩ := Nat.le_add_left _ _; omega, by
              rw [List.take_length, ← hM, hDB]
              exact (perm_tail _ _ _).trans (perm_one _ _ _ _ _)⟩
            exact ⟨_, rfl, _, _, _, _, _, _, rfl, St.turnedL S28, hfin⟩
      ·
        refine T_skip ?_
        refine hK11 _ _ ?_
        refine T_seq fun K20 hK20 => ?_
        refine T_region ?_
        refine L_y (y_ldW Try.underlying71 rfl sz71 rfl (S18.blk 1 rfl) (show _ = [Value.int .i64 ((a + f : Nat) : Int), Value.int .i64 ((an - t : Nat) : Int), Value.int .i64 ((b + f : Nat) : Int), Value.int .i64 ((bn - t : Nat) : Int)] ∧ _ from ⟨rfl, rfl⟩)) rfl ?_
        refine L_o (o_alloc zz71 S18 rfl fun b29 w29 hb29 S29 => ?_)
        refine L_o (o_stW S29 6 rfl rfl rfl sz71 (by rfl) (by intro u hu; simp at hu; rcases hu with rfl | rfl | rfl | rfl <;> rfl) fun w30 S30 => ?_)
        refine L_nil ?_
        refine hK20 _ _ ?_
        refine T_seq fun K21 hK21 => ?_
        refine T_seq fun K22 hK22 => ?_
        have S31 : St w0 _ [_, _, _, _, _, _] w30 := S30.sel [1, 6, 5, 2, 0, 3] (by decide)
        refine T_region ?_
        refine L_y (y_move rfl) rfl ?_
        refine L_y (y_len Try.underlying25 rfl) rfl ?_
        refine L_y (y_move rfl) rfl ?_
        refine L_nil ?_
        refine hK22 _ _ ?_
        refine T_block ?_
        refine T_loop9 [(0, _), (3, _), (13, _), (136, _), (137, _)] (fun (j : Nat) (K1 : Option Addr) (c1 : Nat) (ks1 : List (Nat × Nat)) (P1 : Option Addr) (pc1 : Nat) (ps1 : List BK) (i : Nat) (k : Nat) => [(138, .int .i64 (j : Int))]) (fun (j : Nat) (K1 : Option Addr) (c1 : Nat) (ks1 : List (Nat × Nat)) (P1 : Option Addr) (pc1 : Nat) (ps1 : List BK) (i : Nat) (k : Nat) => (chainN (once (sub la (a + f) (an - t)) (sub lb (b + f) (bn - t)))).length - j) (fun (j : Nat) (K1 : Option Addr) (c1 : Nat) (ks1 : List (Nat × Nat)) (P1 : Option Addr) (pc1 : Nat) (ps1 : List BK) (i : Nat) (k : Nat) (w : World) => ((j ≤ (chainN (once (sub la (a + f) (an - t)) (sub lb (b + f) (bn - t)))).length ∧ CH (sub la (a + f) (an - t)).length (sub lb (b + f) (bn - t)).length i k ((chainN (once (sub la (a + f) (an - t)) (sub lb (b + f) (bn - t)))).drop j) ∧ (∀ z ∈ ps1, BKok la.length lb.length z) ∧ Wt ps1 + ((sub la (a + f) (an - t)).length - i) + ((sub lb (b + f) (bn - t)).length - k) + j ≤ Wt ps + (sub la (a + f) (an - t)).length + (sub lb (b + f) (bn - t)).length) ∧ (ks1 ++ (ps1.flatMap (DB KM la lb) ++ mv (a + f) (b + f) (segs (DP KM) (sub la (a + f) (an - t)) (sub lb (b + f) (bn - t)) i k ((chainN (once (sub la (a + f) (an - t)) (sub lb (b + f) (bn - t)))).drop j)))).Perm (((ks ++ dg a b f) ++ dg (an - t) (bn - t) t) ++ ((ps.flatMap (DB KM la lb)) ++ (mv (a + f) (b + f) (core KM (DP KM) (sub la (a + f) (an - t)) (sub lb (b + f) (bn - t))))))) ∧ St w0 (wkR g A n ca B m cb PA pc ps KA kc ks).dom [blk b1 71 #[.int .i64 ((a + f : Nat) : Int), .int .i64 ((an - t : Nat) : Int), .int .i64 ((b + f : Nat) : Int), .int .i64 ((bn - t : Nat) : Int)], blk b29 71 #[.int .i64 ((a + f + i : Nat) : Int), .int .i64 ((an - t : Nat) : Int), .int .i64 ((b + f + k : Nat) : Int), .int .i64 ((bn - t : Nat) : Int)], row 34 2 A18 n18 c18 ((chainN (once (sub la (a + f) (an - t)) (sub lb (b + f) (bn - t)))).flatMap pf), blk g 74 #[.slice A n ca, .slice B m cb, .slice P1 (ps1).length pc1, .slice K1 (ks1).length c1], row 71 4 P1 (ps1).length pc1 ((ps1).flatMap bf), row 34 2 K1 (ks1).length c1 ((ks1).flatMap pf)] w) 0 KK9 kc9 (ks ++ dg (a) (b) (f) ++ dg (an - t) (bn - t) (t)) PA pc ps 0 0 (Sub.cons rfl (by first | rfl | exact congrArg (Value.int _) (by omega)) (Sub.nil _)) (Sub.cons rfl rfl (Sub.cons rfl rfl (Sub.cons rfl rfl (Sub.cons rfl rfl (Sub.cons rfl rfl (Sub.nil _)))))) ?_ ?_
        ·
          have hMc : (mv (a + f) (b + f) (core KM (DP KM) (sub la (a + f) (an - t)) (sub lb (b + f) (bn - t)))) = mv (a + f) (b + f) (segs (DP KM) (sub la (a + f) (an - t)) (sub lb (b + f) (bn - t)) 0 0 (chainN (once (sub la (a + f) (an - t)) (sub lb (b + f) (bn - t))))) := by unfold core; rw [if_neg hne, if_neg (fun h => h109 (by rw [hcn, h]; rfl))]
          refine ⟨⟨⟨Nat.zero_le _, hCC, hbk0, by omega⟩, ?_⟩, S31⟩
          rw [hMc]
          exact List.Perm.refl _
        ·
          intro j K1 c1 ks1 P1 pc1 ps1 i k w32 hrel
          obtain ⟨⟨⟨hj, hch, hbk1, hW⟩, hpm⟩, S32⟩ := hrel
          have hpl := hpm.length_eq
          simp only [List.length_append, dg_len, mv_len] at hpl
          have hWl := Wt_len ps1
          simp only [mv_len] at hT2
          refine T_seq fun K23 hK23 => ?_
          refine T_region ?_
          refine L_y (y_lss rfl rfl) rfl ?_
          refine L_nil ?_
          refine hK23 _ _ ?_
          refine T_seq fun K24 hK24 => ?_
          refine T_cond rfl (fun h139 => ?_) (fun h139 => ?_)
          ·
            obtain ⟨p, hp⟩ : ∃ p, (chainN (once (sub la (a + f) (an - t)) (sub lb (b + f) (bn - t))))[j]? = some p := ⟨_, List.getElem?_eq_getElem (by omega)⟩
            have hdrop := drop_cons hp
            rw [hdrop] at hch
            obtain ⟨hpi, hch2⟩ := hch
            refine T_skip ?_
            refine hK24 _ _ ?_
            refine T_seq fun K25 hK25 => ?_
            refine T_block ?_
            refine T_seq fun K26 hK26 => ?_
            refine T_region ?_
            refine L_y (y_idx Try.underlying25 sz34 rfl rfl (S32.row 2 rfl) (Nt.mk rfl : Nt _ (j)) (by omega)) rfl ?_
            refine L_y (y_ldp (f := pf) pf_len1 Try.underlying34 rfl sz34 rfl (S32.row 2 rfl) (by omega) hp) rfl ?_
            refine L_o (o_alloc zz34 S32 rfl fun b33 w33 hb33 S33 => ?_)
            refine L_o (o_stW S33 6 rfl rfl rfl sz34 (by rfl) (pf_one1 p) fun w34 S34 => ?_)
            refine L_nil ?_
            refine hK26 _ _ ?_
            refine T_seq fun K27 hK27 => ?_
            refine T_drawnL [(0, true), (1, true), (2, true), (3, true), (4, true), (5, true), (6, true), (7, true), (8, true), (9, true), (10, true), (11, true)] hmix (by kernel_rfl) fun w35 l35 => ?_
            have S35 := S34.like l35
            refine DL_y rfl (y_fieldA 0 Try.underlying71 rfl sz3 rfl rfl rfl) rfl ?_
            refine DL_y rfl (y_ldc Try.underlying3 rfl rfl (((S35.blk 0 rfl).cell _).trans (by rfl))) rfl ?_
            refine DL_y rfl (y_fieldA 0 Try.underlying34 rfl sz3 rfl rfl rfl) rfl ?_
            refine DL_y rfl (y_ldc Try.underlying3 rfl rfl (((S35.blk 6 rfl).cell _).trans (by rfl))) rfl ?_
            refine DL_y rfl (y_add rfl rfl (i64e (k := a + f + p.1) (by omega))) rfl ?_
            refine DL_y rfl (y_fieldA 2 Try.underlying71 rfl sz3 rfl rfl rfl) rfl ?_
            refine DL_y rfl (y_ldc Try.underlying3 rfl rfl (((S35.blk 0 rfl).cell _).trans (by rfl))) rfl ?_
            refine DL_y rfl (y_fieldA 1 Try.underlying34 rfl sz3 rfl rfl rfl) rfl ?_
            refine DL_y rfl (y_ldc Try.underlying3 rfl rfl (((S35.blk 6 rfl).cell _).trans (by rfl))) rfl ?_
            refine DL_y rfl (y_add rfl rfl (i64e (k := b + f + p.2) (by omega))) rfl ?_
            refine DL_y rfl (y_assign rfl) rfl ?_
            refine DL_y rfl (y_assign rfl) rfl ?_
            refine DL_nil ?_
            refine hK27 _ _ ?_
            refine T_seq fun K28 hK28 => ?_
            have S36 : St w0 _ [_, _, _, _, _, _, _] w35 := S35.sel [0, 1, 2, 6, 4, 3, 5] (by decide)
            refine T_region ?_
            refine L_y (y_move rfl) rfl ?_
            refine L_y (y_move rfl) rfl ?_
            refine L_y (y_move rfl) rfl ?_
            refine L_o (o_call Try.func63 rfl rfl (wkeep g _ _ _ K1 c1 (ks1) (a + f + p.1) (b + f + p.2) (1) w35 (St.getL (ps := [_, _, _, _, _]) (rs := [_, _]) S36) (by omega) (by omega) (by first | omega | (simp only [List.length_append, dg_len, mv_len, List.length_take]; omega))) rfl rfl ?_)
            rintro e37 w37 ⟨v37, rfl, KK37, kc37, rfl, T37⟩
            refine ⟨_, rfl, ?_⟩
            have S37 := St.turnL (ps := [_, _, _, _, _]) S36 T37
            have S38 : St w0 _ [_, _, _, _, _, blk g 74 #[.slice A n ca, .slice B m cb, .slice P1 (ps1).length pc1, .slice KK37 (ks1 ++ dg (a + f + p.1) (b + f + p.2) (1)).length kc37], row 34 2 KK37 (ks1 ++ dg (a + f + p.1) (b + f + p.2) (1)).length kc37 ((ks1 ++ dg (a + f + p.1) (b + f + p.2) (1)).flatMap pf)] w37 := S37
            refine L_nil ?_
            refine hK28 _ _ ?_
            refine T_seq fun K29 hK29 => ?_
            refine T_zed [1, 2, 3, 4, 5, 6, 7, 8, 9, 10, 11, 12] 13 [(0, 0), (1, 1), (2, 1), (3, 1), (4, 1), (5, 1), (6, 1), (7, 1), (8, 1), (9, 1), (10, 1), (11, 1), (12, 2), (13, 3), (14, 3), (15, 3), (16, 3)] hmix (by kernel_rfl) fun w39 l39 => ?_
            have S39 := S38.like l39
            refine ZA_y rfl (y_move rfl) rfl ?_
            refine ZA_B (Like w39) (Like.refl _) ?_
            refine ZB_y rfl (y_move rfl) rfl ?_
            refine ZB_y rfl (y_nilp rfl) rfl ?_
            refine ZB_y rfl (y_fieldA 2 Try.underlying74 rfl sz72 rfl rfl rfl) rfl ?_
            refine ZB_y rfl (y_ldc Try.underlying72 rfl rfl (((S39.blk 5 rfl).cell _).trans (by rfl))) rfl ?_
            refine ZB_y rfl (y_fieldA 0 Try.underlying71 rfl sz3 rfl rfl rfl) rfl ?_
            refine ZB_y rfl (y_ldc Try.underlying3 rfl rfl (((S39.blk 1 rfl).cell _).trans (by rfl))) rfl ?_
            refine ZB_y rfl (y_move rfl) rfl ?_
            refine ZB_y rfl (y_fieldA 2 Try.underlying71 rfl sz3 rfl rfl rfl) rfl ?_
            refine ZB_y rfl (y_ldc Try.underlying3 rfl rfl (((S39.blk 1 rfl).cell _).trans (by rfl))) rfl ?_
            refine ZB_y rfl (y_move rfl) rfl ?_
            refine ZB_y rfl (y_build rfl (show _ = some #[Value.int .i64 ((a + f + i : Nat) : Int), Value.int .i64 ((a + f + p.1 : Nat) : Int), Value.int .i64 ((b + f + k : Nat) : Int), Value.int .i64 ((b + f + p.2 : Nat) : Int)] by rfl)) rfl ?_
            refine ZB_o rfl (o_bslL [_, _, _, _] te72 zz71 S39 rfl rfl rfl rfl rfl rfl rfl rfl fun b40 w40 l40 S40 => ?_)
            have q40 := l40
            refine ⟨q40, ?_⟩
            refine ZB_c rfl (o_app te72 S40 4 rfl rfl rfl (by first | exact S40.row 2 rfl | exact S40.row 4 rfl | exact S40.row 6 rfl | exact S40.row 7 rfl) (by intro u hu; simp at hu; rcases hu with rfl | rfl | rfl | rfl <;> rfl) rfl (by omega) (by omega) fun A41 c41 w41 S41 => ?_)
            have S41d := S41.drop (rs' := [_, _, _, _, _, _, _]) (.cons_cons _ (.cons_cons _ (.cons_cons _ (.cons_cons _ (.cons_cons _ (.cons_cons _ (.cons_cons _ (.cons _ (.refl _)))))))))
            refine ZA_oy rfl (y_nilp rfl) rfl ?_
            refine ZA_oy rfl (y_fieldA 2 Try.underlying74 rfl sz72 rfl rfl rfl) rfl ?_
            refine ZA_o rfl (o_st1 S41d 5 rfl rfl rfl rfl sz72 (by simp; done) fun w42 S42 => ?_)
            refine ZA_nil ?_
            refine hK29 _ _ ?_
            have S43 := S42.rowc 4 rfl (n' := (ps1 ++ [(⟨a + f + i, a + f + p.1, b + f + k, b + f + p.2⟩ : BK)]).length) (xs' := (ps1 ++ [(⟨a + f + i, a + f + p.1, b + f + k, b + f + p.2⟩ : BK)]).flatMap bf) (by simp) (bf_snoc _ _ _ _ _)
            have S44 := S43.blkc 5 rfl (cs' := #[.slice A n ca, .slice B m cb, .slice A41 ((ps1 ++ [(⟨a + f + i, a + f + p.1, b + f + k, b + f + p.2⟩ : BK)])).length c41, .slice KK37 (ks1 ++ dg (a + f + p.1) (b + f + p.2) (1)).length kc37]) (by rw [show (ps1 ++ [(⟨a + f + i, a + f + p.1, b + f + k, b + f + p.2⟩ : BK)]).length = ps1.length + 1 from List.length_append]; rfl)
            have S45 : St w0 _ [_, _, _, _, row 71 4 A41 ((ps1 ++ [(⟨a + f + i, a + f + p.1, b + f + k, b + f + p.2⟩ : BK)])).length c41 (((ps1 ++ [(⟨a + f + i, a + f + p.1, b + f + k, b + f + p.2⟩ : BK)])).flatMap bf), blk g 74 #[.slice A n ca, .slice B m cb, .slice A41 ((ps1 ++ [(⟨a + f + i, a + f + p.1, b + f + k, b + f + p.2⟩ : BK)])).length c41, .slice KK37 (ks1 ++ dg (a + f + p.1) (b + f + p.2) (1)).length kc37], _] w42 := S44
            refine T_region ?_
            refine L_y (y_move rfl) rfl ?_
            refine L_y (y_add rfl rfl (i64e (k := a + f + (p.1 + 1)) (by omega))) rfl ?_
            refine L_y (y_move rfl) rfl ?_
            refine L_y (y_add rfl rfl (i64e (k := b + f + (p.2 + 1)) (by omega))) rfl ?_
            refine L_y (y_fieldA 0 Try.underlying71 rfl sz3 rfl rfl rfl) rfl ?_
            refine L_o (o_st1 S45 1 rfl rfl rfl rfl sz3 (by simp; done) fun w46 S46 => ?_)
            refine L_y (y_fieldA 2 Try.underlying71 rfl sz3 rfl rfl rfl) rfl ?_
            refine L_o (o_st1 S46 1 rfl rfl rfl rfl sz3 (by simp; done) fun w47 S47 => ?_)
            refine L_nil ?_
            refine hK25 _ _ ?_
            have S48 : St w0 _ [_, _, _, _, _, _] w47 := S47.sel [0, 1, 2, 5, 4, 6] (by decide)
            refine T_region ?_
            refine L_y (y_add rfl rfl (i64w (by omega))) rfl ?_
            refine L_y (y_move rfl) rfl ?_
            refine L_nil ?_
            have hW2 := Wt_snoc ps1 ⟨a + f + i, a + f + p.1, b + f + k, b + f + p.2⟩
            have hwt : wt ⟨a + f + i, a + f + p.1, b + f + k, b + f + p.2⟩ = (a + f + p.1 - (a + f + i)) + (b + f + p.2 - (b + f + k)) + 1 := rfl
            have hbk : ∀ z ∈ ps1 ++ [(⟨a + f + i, a + f + p.1, b + f + k, b + f + p.2⟩ : BK)], BKok la.length lb.length z := fun z hz => by
              rcases List.mem_append.1 hz with hz | hz
              · exact hbk1 z hz
              · obtain rfl := List.mem_singleton.1 hz
                exact ⟨by show a + f + i ≤ a + f + p.1; omega, by show a + f + p.1 ≤ _; omega, by show b + f + k ≤ b + f + p.2; omega, by show b + f + p.2 ≤ _; omega⟩
            have hq1 : a + f + p.1 ≤ an - t := by omega
            have hq2 : b + f + p.2 ≤ bn - t := by omega
            have hpm2 : ((ks1 ++ dg (a + f + p.1) (b + f + p.2) 1) ++ ((ps1 ++ [(⟨a + f + i, a + f + p.1, b + f + k, b + f + p.2⟩ : BK)]).flatMap (DB KM la lb) ++ mv (a + f) (b + f) (segs (DP KM) (sub la (a + f) (an - t)) (sub lb (b + f) (bn - t)) (p.1 + 1) (p.2 + 1) ((chainN (once (sub la (a + f) (an - t)) (sub lb (b + f) (bn - t)))).drop (j + 1))))).Perm (((ks ++ dg a b f) ++ dg (an - t) (bn - t) t) ++ ((ps.flatMap (DB KM la lb)) ++ (mv (a + f) (b + f) (core KM (DP KM) (sub la (a + f) (an - t)) (sub lb (b + f) (bn - t)))))) := by
              rw [dg_one, List.flatMap_append, List.flatMap_singleton]
              refine (perm_link ks1 (ps1.flatMap (DB KM la lb)) _ _ _).trans ?_
              rw [← segs_link hq1 hq2, ← hdrop]
              exact hpm
            refine ⟨j + 1, _, _, _, _, _, _, p.1 + 1, p.2 + 1, by omega, ⟨⟨⟨by omega, hch2, hbk, by omega⟩, hpm2⟩, S48⟩, ?_⟩
            exact (Sub.cons rfl (by first | rfl | exact congrArg (Value.int _) (by omega)) (Sub.cons rfl rfl (Sub.cons rfl rfl (Sub.cons rfl rfl (Sub.cons rfl rfl (Sub.cons rfl rfl (Sub.nil _)))))))
          ·
            refine T_exit ?_
            refine hK21 _ _ ?_
            refine T_zed [1, 2, 3, 4, 5, 6] 7 [(0, 0), (1, 1), (2, 1), (3, 1), (4, 1), (5, 1), (6, 2), (7, 3), (8, 3), (9, 3), (10, 3)] hmix (by kernel_rfl) fun w49 l49 => ?_
            have S49 := S32.like l49
            refine ZA_y rfl (y_move rfl) rfl ?_
            refine ZA_B (Like w49) (Like.refl _) ?_
            refine ZB_y rfl (y_move rfl) rfl ?_
            refine ZB_y rfl (y_nilp rfl) rfl ?_
            refine ZB_y rfl (y_fieldA 2 Try.underlying74 rfl sz72 rfl rfl rfl) rfl ?_
            refine ZB_y rfl (y_ldc Try.underlying72 rfl rfl (((S49.blk 3 rfl).cell _).trans (by rfl))) rfl ?_
            refine ZB_y rfl (y_ldW Try.underlying71 rfl sz71 rfl (S49.blk 1 rfl) (show _ = [Value.int .i64 ((a + f + i : Nat) : Int), Value.int .i64 ((an - t : Nat) : Int), Value.int .i64 ((b + f + k : Nat) : Int), Value.int .i64 ((bn - t : Nat) : Int)] ∧ _ from ⟨rfl, rfl⟩)) rfl ?_
            refine ZB_o rfl (o_bslL [_, _, _, _] te72 zz71 S49 rfl rfl rfl rfl rfl rfl rfl rfl fun b50 w50 l50 S50 => ?_)
            have q50 := l50
            refine ⟨q50, ?_⟩
            refine ZB_c rfl (o_app te72 S50 4 rfl rfl rfl (by first | exact S50.row 2 rfl | exact S50.row 4 rfl | exact S50.row 5 rfl | exact S50.row 6 rfl) (by intro u hu; simp at hu; rcases hu with rfl | rfl | rfl | rfl <;> rfl) rfl (by omega) (by omega) fun A51 c51 w51 S51 => ?_)
            have S51d := S51.drop (rs' := [_, _, _, _, _, _]) (.cons_cons _ (.cons_cons _ (.cons_cons _ (.cons_cons _ (.cons_cons _ (.cons_cons _ (.cons _ (.refl _))))))))
            refine ZA_oy rfl (y_nilp rfl) rfl ?_
            refine ZA_oy rfl (y_fieldA 2 Try.underlying74 rfl sz72 rfl rfl rfl) rfl ?_
            refine ZA_o rfl (o_st1 S51d 3 rfl rfl rfl rfl sz72 (by simp; done) fun w52 S52 => ?_)
            refine ZA_nil ?_
            first | refine end0 (fn := Try.f48) rfl ?_ | (simp only [thenQ, inB, if_true]; refine end0 (fn := Try.f48) rfl ?_)
            have S53 := S52.rowc 4 rfl (n' := (ps1 ++ [(⟨a + f + i, an - t, b + f + k, bn - t⟩ : BK)]).length) (xs' := (ps1 ++ [(⟨a + f + i, an - t, b + f + k, bn - t⟩ : BK)]).flatMap bf) (by simp) (bf_snoc _ _ _ _ _)
            have S54 := S53.blkc 3 rfl (cs' := #[.slice A n ca, .slice B m cb, .slice A51 ((ps1 ++ [(⟨a + f + i, an - t, b + f + k, bn - t⟩ : BK)])).length c51, .slice K1 (ks1).length c1]) (by rw [show (ps1 ++ [(⟨a + f + i, an - t, b + f + k, bn - t⟩ : BK)]).length = ps1.length + 1 from List.length_append]; rfl)
            have S55 : St w0 _ [_, _, _, blk g 74 #[.slice A n ca, .slice B m cb, .slice A51 ((ps1 ++ [(⟨a + f + i, an - t, b + f + k, bn - t⟩ : BK)])).length c51, .slice K1 (ks1).length c1], row 71 4 A51 ((ps1 ++ [(⟨a + f + i, an - t, b + f + k, bn - t⟩ : BK)])).length c51 (((ps1 ++ [(⟨a + f + i, an - t, b + f + k, bn - t⟩ : BK)])).flatMap bf), _] w52 := S54
            have S56 : St w0 _ [_, _, _] w52 := S55.sel [3, 4, 5] (by decide)
            have hje : j = _ := Nat.le_antisymm hj (by omega)
            subst hje
            have hW2 := Wt_snoc ps1 ⟨a + f + i, an - t, b + f + k, bn - t⟩
            have hwt : wt ⟨a + f + i, an - t, b + f + k, bn - t⟩ = (an - t - (a + f + i)) + (bn - t - (b + f + k)) + 1 := rfl
            have hwx : wt ⟨a, an, b, bn⟩ = (an - a) + (bn - b) + 1 := rfl
            rw [List.drop_length] at hpm hch
            have hch3 : i ≤ (sub la (a + f) (an - t)).length ∧ k ≤ (sub lb (b + f) (bn - t)).length := hch
            obtain ⟨hi3, hk3⟩ := hch3
            clear hch
            have hfin : (∀ z ∈ ps1 ++ [(⟨a + f + i, an - t, b + f + k, bn - t⟩ : BK)], BKok la.length lb.length z) ∧ Wt (ps1 ++ [(⟨a + f + i, an - t, b + f + k, bn - t⟩ : BK)]) < Wt ps + wt ⟨a, an, b, bn⟩ ∧ (ks1 ++ (ps1 ++ [(⟨a + f + i, an - t, b + f + k, bn - t⟩ : BK)]).flatMap (DB KM la lb)).Perm (ks ++ (DB KM la lb ⟨a, an, b, bn⟩ ++ (ps.flatMap (DB KM la lb)))) := ⟨fun z hz => by
              rcases List.mem_append.1 hz with hz | hz
              · exact hbk1 z hz
              · obtain rfl := List.mem_singleton.1 hz
                exact ⟨by show a + f + i ≤ an - t; omega, by show an - t ≤ _; omega, by show b + f + k ≤ bn - t; omega, by show bn - t ≤ _; omega⟩, by omega, by
              rw [List.flatMap_append, List.flatMap_singleton, ← segs_last (by omega) (by omega) (by omega) (by omega), hDB]
              exact hpm.trans (perm_one _ _ _ _ _)⟩
            exact ⟨_, rfl, _, _, _, _, _, _, rfl, St.turnedL S56, hfin⟩
end Go.Proofs.Ytbbmkgpgiacdeaa

/-
  What the library's sort leaves behind, as a row of the call's own. General; nothing here names a program.
-/
namespace Go.Proofs.Ytbbmkgpgiacdeaa.Zx
open Go.RowKit Zk Go.Sort
set_option linter.unusedVariables false
set_option linter.unusedSimpArgs false
set_option linter.unusedSectionVars false
section
variable {α : Type} [Inhabited α]
theorem fm_get {f : α → List Value} {k : Nat} (hk : ∀ x, (f x).length = k) (k0 : 0 < k) : ∀ (l : List α) (t : Nat), (l.flatMap f)[t]? = (l[t / k]?).bind fun x => (f x)[t % k]?
  | [], t => by simp
  | x :: l, t => by
    rw [List.flatMap_cons]
    rcases Nat.lt_or_ge t k with h | h
    · rw [List.getElem?_append_left (by rw [hk]; exact h), Nat.div_eq_of_lt h, Nat.mod_eq_of_lt h]
      rfl
    · obtain ⟨s, rfl⟩ : ∃ s, t = k + s := ⟨t - k, by omega⟩
      rw [List.getElem?_append_right (by rw [hk]; omega), hk, Nat.add_sub_cancel_left, fm_get hk k0 l s, Nat.add_div_left _ k0, Nat.add_mod_left]
      rfl
theorem flat_flatMap {enc : α → List Value} {k : Nat} (hk : ∀ x, (enc x).length = k) (k0 : 0 < k) (d : Array α) : (flatK enc k d).toList = d.toList.flatMap enc := by
  apply List.ext_getElem?
  intro t
  rw [fm_get hk k0, Array.getElem?_toList, Array.getElem?_toList]
  unfold flatK
  rw [Array.getElem?_map]
  rcases Nat.lt_or_ge t (d.size * k) with h | h
  · have hd : t / k < d.size := (Nat.div_lt_iff_lt_mul k0).2 h
    have hm : t % k < (enc d[t / k]).length := by rw [hk]; exact Nat.mod_lt _ k0
    have e1 : (Array.range (d.size * k))[t]? = some t := by rw [Array.getElem?_eq_getElem (by simpa using h)]; simp
    rw [e1, Option.map_some, Array.getElem?_eq_getElem hd, Option.bind_some, getElem!_pos d (t / k) hd, getElem!_pos (enc d[t / k]) (t % k) hm, List.getElem?_eq_getElem hm]
  · have hd : d.size ≤ t / k := (Nat.le_div_iff_mul_le k0).2 h
    rw [Array.getElem?_eq_none (by simpa using h), Array.getElem?_eq_none hd]
    rfl
theorem own_cells {w : World} {e k b n c : Nat} {xs : List Value} (h : w.ownsRow 0 e k (.slice (some ⟨b, 0, none⟩) n c) n xs) : ∃ cur, Blk w b e cur ∧ n ≤ c ∧ c ≤ maxLen ∧ cur.size = c * k ∧ cur.toList.take (n * k) = xs := by
  rcases h.2 with ⟨h1, _⟩ | ⟨g, cap, cur, h1, _, hg, hnc, hcm, hcs, hx⟩
  · cases h1
  · cases h1
    exact ⟨cur, hg, hnc, hcm, hcs, hx⟩
theorem own_holds {w : World} {e k b n c : Nat} {enc : α → List Value} (hk : ∀ x, (enc x).length = k) (k0 : 0 < k) {d : Array α} (hd : d.size = n) (h : w.ownsRow 0 e k (.slice (some ⟨b, 0, none⟩) n c) n (d.toList.flatMap enc)) :
    HoldsK enc k w b 0 d ∧ b < w.heap.size := by
  obtain ⟨cur, hB, hnc, hcm, hcs, hx⟩ := own_cells h
  refine ⟨fun j hj => ⟨?_, ?_⟩, hB.lt⟩
  · rw [size_flatK] at hj
    have hf := flat_flatMap hk k0 d
    rw [Nat.zero_add, hB.cell]
    have e1 : cur[j]? = (cur.toList.take (n * k))[j]? := by rw [List.getElem?_take, if_pos (by rw [← hd]; exact hj), Array.getElem?_toList]
    have hj2 : j < (flatK enc k d).size := by rw [size_flatK]; exact hj
    rw [e1, hx, ← hf, Array.getElem?_toList, Array.getElem?_eq_getElem hj2, getElem!_pos (flatK enc k d) j hj2]
    rfl
  · rw [Nat.zero_add]; exact hB.frozen j
theorem own_sorted {w : World} {e k b n c : Nat} {enc : α → List Value} (hk : ∀ x, (enc x).length = k) (k0 : 0 < k) {xs : List Value} (h : w.ownsRow 0 e k (.slice (some ⟨b, 0, none⟩) n c) n xs) {d' : Array α} (hd : d'.size = n) (m : Nat) (os : Array Obj) :
    w.grownBy (sortWorldK enc k w b 0 m d' os) (some b) ∧ (sortWorldK enc k w b 0 m d' os).ownsRow 0 e k (.slice (some ⟨b, 0, none⟩) n c) n (d'.toList.flatMap enc) := by
  obtain ⟨cur, hB, hnc, hcm, hcs, hx⟩ := own_cells h
  have hlt := hB.lt
  have hf := flat_flatMap hk k0 d'
  have hsz : (putRowK enc k (Sort.ahead w m) b 0 d').heap.size = w.heap.size := by simp [putRowK]
  have hheap : ∀ i, i < w.heap.size → (sortWorldK enc k w b 0 m d' os).heap[i]? = (w.heap.modify b (onCells (putCells id 0 (flatK enc k d'))))[i]? := fun i hi => by
    unfold sortWorldK
    rw [heap_grow_old _ _ (by rw [hsz]; exact hi)]
    rfl
  have hblk : (sortWorldK enc k w b 0 m d' os).heap[b]? = some (.cells (putCells id 0 (flatK enc k d') cur) e (0, 0)) := by
    rw [hheap b hlt, Array.getElem?_modify, if_pos rfl]
    have hB' : w.heap[b]? = some (.cells cur e (0, 0)) := hB
    rw [hB']
    rfl
  refine ⟨⟨rfl, rfl, rfl, ?_, fun i hi hne => ?_⟩, ?_, .inr ⟨b, c, _, rfl, Nat.zero_le _, hblk, hnc, hcm, ?_, ?_⟩⟩
  · unfold sortWorldK
    rw [size_grow, hsz]
    omega
  · rw [hheap i hi, Array.getElem?_modify, if_neg (fun e => hne (by rw [e]))]
  · rw [← hf, Array.length_toList, size_flatK, hd]
  · unfold putCells
    rw [Array.size_mapIdx, hcs]
  · apply List.ext_getElem?
    intro t
    rw [← hf, List.getElem?_take, Array.getElem?_toList (xs := flatK enc k d')]
    rcases Nat.lt_or_ge t (n * k) with ht | ht
    · have hc : n * k ≤ c * k := Nat.mul_le_mul_right _ hnc
      have h1 : t < cur.size := by omega
      have h2 : t < (flatK enc k d').size := by rw [size_flatK, hd]; exact ht
      rw [if_pos ht, Array.getElem?_toList]
      unfold putCells
      rw [Array.getElem?_mapIdx, Array.getElem?_eq_getElem h1, Option.map_some, if_pos ⟨Nat.zero_le _, by omega⟩, Nat.sub_zero, getElem!_pos (flatK enc k d') t h2, Array.getElem?_eq_getElem h2]
      rfl
    · rw [if_neg (by omega), Array.getElem?_eq_none (by rw [size_flatK, hd]; exact ht)]
end
end Go.Proofs.Ytbbmkgpgiacdeaa.Zx

/-
  The library's sort, of pairs by their first numbers.
-/
namespace Go.Proofs
open Go.Shelf Go.RowKit Go.Lib Go.Sort
def Ytbbmkgpgiacdeaa.sortL_ren : Go.Shelf.Ren := ⟨fun | 6 => 33 | 15 => 55 | 14 => 54 | 28 => 74 | 29 => 75 | 20 => 66 | 21 => 67 | 22 => 68 | 23 => 69 | 24 => 70 | 25 => 71 | 26 => 72 | 27 => 73 | 46 => 79 | 47 => 80 | 48 => 81 | 49 => 82 | 50 => 83 | 57 => 88 | n => n, fun | 22 => 25 | 24 => 34 | 25 => 56 | 3 => 3 | 39 => 82 | 0 => 0 | 53 => 102 | 55 => 104 | 4 => 4 | 46 => 96 | 45 => 95 | 50 => 65 | 5 => 5 | 9 => 9 | 66 => 110 | 70 => 114 | 76 => 118 | 77 => 52 | n => n, fun | n => n⟩
theorem Ytbbmkgpgiacdeaa.sortL : Go.Proofs.SlLaysF0.n6 Try.prog Ytbbmkgpgiacdeaa.sortL_ren := {
  mixed := by kernel_rfl,
  f6 := ⟨Try.f33.name, by decide, Try.func33.trans (congrArg some (by kernel_rfl))⟩,
  f14 := ⟨Try.f54.name, by decide, Try.func54.trans (congrArg some (by kernel_rfl))⟩,
  f15 := Try.func55.trans (congrArg some (by kernel_rfl)),
  f20 := ⟨Try.f66.name, by decide, Try.func66.trans (congrArg some (by kernel_rfl))⟩,
  f21 := ⟨Try.f67.name, by decide, Try.func67.trans (congrArg some (by kernel_rfl))⟩,
  f22 := ⟨Try.f68.name, by decide, Try.func68.trans (congrArg some (by kernel_rfl))⟩,
  f23 := ⟨Try.f69.name, by decide, Try.func69.trans (congrArg some (by kernel_rfl))⟩,
  f24 := ⟨Try.f70.name, by decide, Try.func70.trans (congrArg some (by kernel_rfl))⟩,
  f25 := ⟨Try.f71.name, by decide, Try.func71.trans (congrArg some (by kernel_rfl))⟩,
  f26 := ⟨Try.f72.name, by decide, Try.func72.trans (congrArg some (by kernel_rfl))⟩,
  f27 := ⟨Try.f73.name, by decide, Try.func73.trans (congrArg some (by kernel_rfl))⟩,
  f28 := Try.func74.trans (congrArg some (by kernel_rfl)),
  f29 := Try.func75.trans (congrArg some (by kernel_rfl)),
  f46 := ⟨Try.f79.name, by decide, Try.func79.trans (congrArg some (by kernel_rfl))⟩,
  f47 := Try.func80.trans (congrArg some (by kernel_rfl)),
  f48 := Try.func81.trans (congrArg some (by kernel_rfl)),
  f49 := ⟨Try.f82.name, by decide, Try.func82.trans (congrArg some (by kernel_rfl))⟩,
  f50 := ⟨Try.f83.name, by decide, Try.func83.trans (congrArg some (by kernel_rfl))⟩,
  f57 := ⟨Try.f88.name, by decide, Try.func88.trans (congrArg some (by kernel_rfl))⟩,
  t0 := Try.underlying0,
  a0 := Try.isAgg0,
  z0 := Try.sizeOf0,
  v0 := Try.zeroValue0,
  t3 := Try.underlying3,
  a3 := Try.isAgg3,
  z3 := Try.sizeOf3,
  v3 := Try.zeroValue3,
  t4 := Try.underlying4,
  a4 := Try.isAgg4,
  z4 := Try.sizeOf4,
  v4 := Try.zeroValue4,
  t5 := Try.underlying5,
  a5 := Try.isAgg5,
  z5 := Try.sizeOf5,
  v5 := Try.zeroValue5,
  t9 := Try.underlying9,
  a9 := Try.isAgg9,
  z9 := Try.sizeOf9,
  v9 := Try.zeroValue9,
  t22 := Try.underlying25,
  a22 := Try.isAgg25,
  z22 := Try.sizeOf25,
  v22 := Try.zeroValue25,
  t25 := Try.underlying56,
  a25 := Try.isAgg56,
  z25 := Try.sizeOf56,
  v25 := Try.zeroValue56,
  t39 := Try.underlying82,
  a39 := Try.isAgg82,
  z39 := Try.sizeOf82,
  v39 := Try.zeroValue82,
  t45 := Try.underlying95,
  a45 := Try.isAgg95,
  z45 := Try.sizeOf95,
  v45 := Try.zeroValue95,
  t46 := Try.underlying96,
  a46 := Try.isAgg96,
  z46 := Try.sizeOf96,
  v46 := Try.zeroValue96,
  t50 := Try.underlying65,
  a50 := Try.isAgg65,
  z50 := Try.sizeOf65,
  v50 := Try.zeroValue65,
  t53 := Try.underlying102,
  a53 := Try.isAgg102,
  z53 := Try.sizeOf102,
  v53 := Try.zeroValue102,
  t55 := Try.underlying104,
  a55 := Try.isAgg104,
  z55 := Try.sizeOf104,
  v55 := Try.zeroValue104,
  t66 := Try.underlying110,
  a66 := Try.isAgg110,
  z66 := Try.sizeOf110,
  v66 := Try.zeroValue110,
  t70 := Try.underlying114,
  a70 := Try.isAgg114,
  z70 := Try.sizeOf114,
  v70 := Try.zeroValue114,
  t76 := Try.underlying118,
  a76 := Try.isAgg118,
  z76 := Try.sizeOf118,
  v76 := Try.zeroValue118,
  t77 := Try.underlying52,
  a77 := Try.isAgg52,
  z77 := Try.sizeOf52,
  v77 := Try.zeroValue52 }

namespace Ytbbmkgpgiacdeaa
open Zk Zx
set_option linter.unusedVariables false
set_option linter.unusedSimpArgs false
set_option maxHeartbeats 1000000 in
theorem isnan_exact (x : Int) (w : World) : Calls Try.prog 56 #[.int .i64 x] w fun e w' => e = .returned (.bool false) ∧ w' = w := by
  go_enter Try.func56, Try.ntmps56
  go_wp2
  go_ret
  exact ⟨by simp, rfl⟩
set_option maxHeartbeats 1000000 in
theorem cmp_exact (x y : Int) (w : World) : Calls Try.prog 35 #[.int .i64 x, .int .i64 y] w fun e w' => e = .returned (.int .i64 (Lib.compareInt x y)) ∧ w' = w := by
  have e56 : ∀ args w, (callFunc 56 args).run Try.prog w = .ok (.enter 56 args) w := enters_of Try.func56 (by kernel_rfl) rfl
  go_enter Try.func35, Try.ntmps35
  go_wp2_with (go_at_call 56; refine (isnan_exact _ _).mono ?_; rintro e w' ⟨rfl, hw⟩; rw [hw])
  all_goals (go_ret; refine ⟨?_, rfl⟩; unfold Lib.compareInt; (repeat' split) <;> first | rfl | (exfalso; omega))

set_option maxHeartbeats 1000000 in
theorem closureP (x y : Nat × Nat) (W : World) : Calls Try.prog 49 #[.agg (pf x).toArray, .agg (pf y).toArray] W fun e w' => e = .returned (.int .i64 (Lib.compareInt x.1 y.1)) ∧ ∃ q os', w' = grow (W.drewN q) os' := by
  have hcon := fun W' => cmp_exact (x.1 : Int) (y.1 : Int) W'
  show Calls Try.prog 49 #[.agg #[.int .i64 (x.1 : Int), .int .i64 (x.2 : Int)], .agg #[.int .i64 (y.1 : Int), .int .i64 (y.2 : Int)]] W _
  generalize Lib.compareInt x.1 y.1 = r at hcon ⊢
  go_enter Try.func49, Try.ntmps49
  go_wp2_with (go_at_call 35; refine (hcon _).mono ?_; rintro e w' ⟨rfl, hw⟩; rw [hw])
  go_ret
  exact ⟨rfl, 0, _, by rw [alloc_eq_grow, alloc_eq_grow, grow_grow]; rfl⟩

set_option maxHeartbeats 1000000 in
theorem closureH (x y : Nat × Nat) (W : World) : Calls Try.prog 34 #[.agg (pf x).toArray, .agg (pf y).toArray] W fun e w' => e = .returned (.int .i64 (Lib.compareInt x.1 y.1)) ∧ ∃ q os', w' = grow (W.drewN q) os' := by
  have hcon := fun W' => cmp_exact (x.1 : Int) (y.1 : Int) W'
  show Calls Try.prog 34 #[.agg #[.int .i64 (x.1 : Int), .int .i64 (x.2 : Int)], .agg #[.int .i64 (y.1 : Int), .int .i64 (y.2 : Int)]] W _
  generalize Lib.compareInt x.1 y.1 = r at hcon ⊢
  go_enter Try.func34, Try.ntmps34
  go_wp2_with (go_at_call 35; refine (hcon _).mono ?_; rintro e w' ⟨rfl, hw⟩; rw [hw])
  go_ret
  exact ⟨rfl, 0, _, by rw [alloc_eq_grow, alloc_eq_grow, grow_grow]; rfl⟩

theorem cmpI_lt (x y : Int) : Lib.compareInt x y < 0 ↔ x < y := by
  unfold Lib.compareInt
  (repeat' split) <;> omega
theorem swoN : SWO (ltOf fun x y : Nat × Nat => Lib.compareInt x.1 y.1) where
  irrefl x := by unfold ltOf; rw [decide_eq_false_iff_not, cmpI_lt]; omega
  trans x y z h1 h2 := by
    unfold ltOf at *
    rw [decide_eq_true_iff, cmpI_lt] at *
    omega
  ntrans x y z h1 h2 := by
    unfold ltOf at *
    rw [decide_eq_false_iff_not, cmpI_lt] at *
    omega
theorem pf_one2 (x : Nat × Nat) : ∀ v ∈ pf x, v.oneCell' = true := fun v hv => by
  simp only [pf, List.mem_cons, List.not_mem_nil, or_false] at hv
  rcases hv with rfl | rfl <;> rfl
theorem sortN0 {F : Nat} (eg : ∀ args w, (callFunc F args).run Try.prog w = .ok (.enter F args) w)
    (hcl : ∀ (x y : Nat × Nat) (W : World), Calls Try.prog F #[.agg (pf x).toArray, .agg (pf y).toArray] W fun e w' => e = .returned (.int .i64 (Lib.compareInt x.1 y.1)) ∧ ∃ q os', w' = grow (W.drewN q) os')
    (b n c : Nat) (ys : List (Nat × Nat)) (w0 : World) (hn : ys.length = n) (h : w0.ownsRow 0 34 2 (.slice (some ⟨b, 0, none⟩) n c) n (ys.flatMap pf)) (hsz : n < 4611686018427387904) :
    Calls Try.prog 33 #[.slice (some ⟨b, 0, none⟩) n c, .func (.func F) #[] #[]] w0 fun e w' => ∃ u, e = .returned u ∧ ∃ zs : List (Nat × Nat), zs.Perm ys ∧ (zs.Pairwise fun p q => p.1 ≤ q.1) ∧
      Turned w0 w' (row 34 2 (some ⟨b, 0, none⟩) n c (ys.flatMap pf)) (row 34 2 (some ⟨b, 0, none⟩) n c (zs.flatMap pf)) := by
  obtain ⟨hH, hb⟩ := own_holds (enc := pf) (k := 2) (d := ys.toArray) (fun _ => rfl) (by decide) (by simpa using hn) h
  have hcon := AnyQ.slices_SortFunc Ytbbmkgpgiacdeaa.sortL 2 Try.isAgg34 Try.sizeOf34 pf (fun _ => rfl) pf_one2 (fun x y => Lib.compareInt x.1 y.1) swoN F #[] b 0 c ys.toArray w0 eg (fun _ _ _ _ x y => hcl x y _) hH hb (by simpa using (by omega : ys.length < 4611686018427387904))
  have e1 : ys.toArray.size = n := by simpa using hn
  rw [e1] at hcon
  refine hcon.mono fun e w' ⟨he, d', m, os, hp, hs, hw⟩ => ⟨_, he, d'.toList, ?_, ?_, ?_⟩
  · have h3 := hp.2.2
    have h4 : d'.size = n := by rw [hp.1]; exact e1
    rw [show (d'.extract 0 n) = d' by rw [← h4]; simp, show ys.toArray.extract 0 n = ys.toArray by rw [← e1]; simp] at h3
    exact h3
  · have h4 : d'.size = n := by rw [hp.1]; exact e1
    rw [List.pairwise_iff_getElem]
    intro i j hi hj hij
    have h5 := hs i j (Nat.zero_le _) hij (by simpa [h4] using hj)
    unfold ltOf at h5
    rw [decide_eq_false_iff_not, cmpI_lt, getElem!_pos d' i (by simpa using hi), getElem!_pos d' j (by simpa using hj)] at h5
    simp only [Array.getElem_toList]
    omega
  · subst hw
    obtain ⟨hg, ho⟩ := own_sorted (enc := pf) (k := 2) (fun _ => rfl) (by decide) h (d' := d') (by rw [hp.1]; exact e1) m os
    exact ⟨hg.os, hg.tape, hg.output, hg.size, fun i hi hne => hg.block i hi (fun e => hne (by injection e with e; rw [e]; rfl)), ho, fun i hi => .inl hi⟩
theorem sortNA {F : Nat} (eg : ∀ args w, (callFunc F args).run Try.prog w = .ok (.enter F args) w)
    (hcl : ∀ (x y : Nat × Nat) (W : World), Calls Try.prog F #[.agg (pf x).toArray, .agg (pf y).toArray] W fun e w' => e = .returned (.int .i64 (Lib.compareInt x.1 y.1)) ∧ ∃ q os', w' = grow (W.drewN q) os')
    (A : Option Addr) (n c : Nat) (ys : List (Nat × Nat)) (w0 : World) (hn : ys.length = n) (h : w0.ownsRow 0 34 2 (.slice A n c) n (ys.flatMap pf)) (hsz : n < 4611686018427387904) :
    Calls Try.prog 33 #[.slice A n c, .func (.func F) #[] #[]] w0 fun e w' => ∃ u, e = .returned u ∧ ∃ zs : List (Nat × Nat), zs.Perm ys ∧ (zs.Pairwise fun p q => p.1 ≤ q.1) ∧
      Turned w0 w' (row 34 2 A n c (ys.flatMap pf)) (row 34 2 A n c (zs.flatMap pf)) := by
  rcases h.2 with ⟨h1, h2⟩ | ⟨b, cap, cur, h1, _⟩
  · cases h1
    have e0 : ys = [] := List.eq_nil_of_length_eq_zero (by omega)
    subst e0
    exact (AnyF.slices_SortFunc_none Ytbbmkgpgiacdeaa.sortL none 0 (.func (.func F) #[] #[]) w0).mono fun e w' ⟨he, hw⟩ => ⟨_, he, [], .refl _, List.Pairwise.nil, by subst hw; exact Turned.refl h⟩
  · cases h1
    exact sortN0 eg hcl b n c ys w0 hn h hsz
theorem enters49 (args : Array Value) (w : World) : (callFunc 49 args).run Try.prog w = .ok (.enter 49 args) w := enters_of Try.func49 (by kernel_rfl) rfl args w
theorem enters34 (args : Array Value) (w : World) : (callFunc 34 args).run Try.prog w = .ok (.enter 34 args) w := enters_of Try.func34 (by kernel_rfl) rfl args w
theorem sortP (A : Option Addr) (n c : Nat) (ys : List (Nat × Nat)) (w0 : World) (hn : ys.length = n) (h : w0.ownsRow 0 34 2 (.slice A n c) n (ys.flatMap pf)) (hsz : n < 4611686018427387904) :
    Calls Try.prog 33 #[.slice A n c, .func (.func 49) #[] #[]] w0 fun e w' => ∃ u, e = .returned u ∧ ∃ zs : List (Nat × Nat), zs.Perm ys ∧ (zs.Pairwise fun p q => p.1 ≤ q.1) ∧
      Turned w0 w' (row 34 2 A n c (ys.flatMap pf)) (row 34 2 A n c (zs.flatMap pf)) := sortNA enters49 closureP A n c ys w0 hn h hsz
theorem sortH (A : Option Addr) (n c : Nat) (ys : List (Nat × Nat)) (w0 : World) (hn : ys.length = n) (h : w0.ownsRow 0 34 2 (.slice A n c) n (ys.flatMap pf)) (hsz : n < 4611686018427387904) :
    Calls Try.prog 33 #[.slice A n c, .func (.func 34) #[] #[]] w0 fun e w' => ∃ u, e = .returned u ∧ ∃ zs : List (Nat × Nat), zs.Perm ys ∧ (zs.Pairwise fun p q => p.1 ≤ q.1) ∧
      Turned w0 w' (row 34 2 A n c (ys.flatMap pf)) (row 34 2 A n c (zs.flatMap pf)) := sortNA enters34 closureH A n c ys w0 hn h hsz
theorem asc_of {zs ds : List (Nat × Nat)} (hp : zs.Perm ds) (hz : zs.Pairwise fun p q => p.1 ≤ q.1) (hd : ds.Pairwise fun p q => p.1 < q.1) : zs = ds := by
  have hnd : zs.Pairwise fun p q => p.1 ≠ q.1 := by
    refine (hp.pairwise_iff (R := fun p q : Nat × Nat => p.1 ≠ q.1) fun {a b} h => Ne.symm h).2 (hd.imp fun {a b} h => by omega)
  have hz2 : zs.Pairwise fun p q => p.1 < q.1 := by
    have := List.pairwise_and_iff.2 ⟨hz, hnd⟩
    exact this.imp fun {a b} h => by omega
  exact hp.eq_of_pairwise (fun a b _ _ h1 h2 => by omega) hz2 hd
end Ytbbmkgpgiacdeaa
end Go.Proofs

/-
  What is kept by the patience way rises, and matches: plain laws.
-/
namespace Go.Proofs.Ytbbmkgpgiacdeaa
set_option linter.unusedVariables false
set_option linter.unusedSimpArgs false
/-- Pairs that rise within bounds and match. -/
def OkR (a b : List Int) (i u k v : Nat) (l : List (Nat × Nat)) : Prop :=
  (∀ p ∈ l, i ≤ p.1 ∧ p.1 < u ∧ k ≤ p.2 ∧ p.2 < v ∧ a[p.1]? = b[p.2]?) ∧ l.Pairwise fun p q => p.1 < q.1 ∧ p.2 < q.2
theorem OkR.nil (a b : List Int) (i u k v : Nat) : OkR a b i u k v [] := ⟨(fun p hp => by cases hp), List.Pairwise.nil⟩
theorem OkR.widen {a b : List Int} {i u k v i' u' k' v' : Nat} {l : List (Nat × Nat)} (h : OkR a b i u k v l) (h1 : i' ≤ i) (h2 : u ≤ u') (h3 : k' ≤ k) (h4 : v ≤ v') : OkR a b i' u' k' v' l :=
  ⟨fun p hp => by have := h.1 p hp; exact ⟨by omega, by omega, by omega, by omega, this.2.2.2.2⟩, h.2⟩
theorem OkR.app {a b : List Int} {i u k v z y : Nat} {l m : List (Nat × Nat)} (h : OkR a b i u k v l) (h2 : OkR a b u z v y m) (h3 : i ≤ u) (h4 : u ≤ z) (h5 : k ≤ v) (h6 : v ≤ y) : OkR a b i z k y (l ++ m) :=
  ⟨fun p hp => by
    rcases List.mem_append.1 hp with hp | hp
    · exact (h.widen (Nat.le_refl _) h4 (Nat.le_refl _) h6).1 p hp
    · exact (h2.widen h3 (Nat.le_refl _) h5 (Nat.le_refl _)).1 p hp, by
    rw [List.pairwise_append]
    refine ⟨h.2, h2.2, fun p hp q hq => ?_⟩
    have := h.1 p hp
    have := h2.1 q hq
    omega⟩
theorem OkR.one {a b : List Int} {p : Nat × Nat} (h : a[p.1]? = b[p.2]?) : OkR a b p.1 (p.1 + 1) p.2 (p.2 + 1) [p] :=
  ⟨fun q hq => by obtain rfl := List.mem_singleton.1 hq; exact ⟨Nat.le_refl _, by omega, Nat.le_refl _, by omega, h⟩, List.pairwise_singleton _ _⟩
theorem sub_get {l : List Int} {i u j : Nat} (h : i + j < u) : (sub l i u)[j]? = l[i + j]? := by
  unfold sub
  rw [List.getElem?_drop, List.getElem?_take, if_pos h]
theorem OkR.mv {a b : List Int} {i u k v n m : Nat} {l : List (Nat × Nat)} (h : OkR (sub a i u) (sub b k v) 0 n 0 m l) (h1 : n ≤ u - i) (h2 : m ≤ v - k) : OkR a b i u k v (mv i k l) :=
  ⟨fun p hp => by
    obtain ⟨q, hq, rfl⟩ := List.mem_map.1 hp
    have h3 := h.1 q hq
    refine ⟨Nat.le_add_left _ _, by show q.1 + i < u; omega, Nat.le_add_left _ _, by show q.2 + k < v; omega, ?_⟩
    have h4 := h3.2.2.2.2
    rw [sub_get (by omega), sub_get (by omega)] at h4
    show a[q.1 + i]? = b[q.2 + k]?
    rw [Nat.add_comm q.1, Nat.add_comm q.2]
    exact h4, by
    unfold Go.Proofs.Ytbbmkgpgiacdeaa.mv
    rw [List.pairwise_map]
    exact h.2.imp fun {p q} h => by
      show p.1 + i < q.1 + i ∧ p.2 + k < q.2 + k
      omega⟩
theorem dg_get {i k n j : Nat} (h : j < n) : (dg i k n)[j]? = some (i + j, k + j) := by
  unfold dg
  rw [List.getElem?_map, List.getElem?_range h]
  rfl
theorem OkR.dg {a b : List Int} {i k n : Nat} (h : ∀ j, j < n → a[i + j]? = b[k + j]?) : OkR a b i (i + n) k (k + n) (dg i k n) :=
  ⟨fun p hp => by
    obtain ⟨j, hj, rfl⟩ := List.mem_map.1 hp
    rw [List.mem_range] at hj
    exact ⟨Nat.le_add_right _ _, by show i + j < i + n; omega, Nat.le_add_right _ _, by show k + j < k + n; omega, h j hj⟩, by
    unfold Go.Proofs.Ytbbmkgpgiacdeaa.dg
    rw [List.pairwise_map]
    exact List.pairwise_lt_range.imp fun {p q} h => by
      show i + p < i + q ∧ k + p < k + q
      omega⟩
def OkF (D : List Int → List Int → List (Nat × Nat)) : Prop := ∀ a b : List Int, OkR a b 0 a.length 0 b.length (D a b)
theorem sub_drop (l : List Int) (i : Nat) : sub l i l.length = l.drop i := by unfold sub; rw [List.take_length]
theorem segs_ok {D : List Int → List Int → List (Nat × Nat)} (hD : OkF D) {x y : List Int} : ∀ (c : List (Nat × Nat)) (i k : Nat), CH x.length y.length i k c → (∀ p ∈ c, x[p.1]? = y[p.2]?) → OkR x y i x.length k y.length (segs D x y i k c)
  | [], i, k, hc, _ => by
    rw [segs]
    have h := hD (x.drop i) (y.drop k)
    rw [← sub_drop, ← sub_drop] at h ⊢
    obtain ⟨h1, h2⟩ : i ≤ x.length ∧ k ≤ y.length := hc
    exact h.mv (Nat.le_of_eq (sub_len (Nat.le_refl _))) (Nat.le_of_eq (sub_len (Nat.le_refl _)))
  | p :: c, i, k, hc, hm => by
    obtain ⟨hp, hc⟩ := hc
    rw [segs]
    have h : OkR (sub x i p.1) (sub y k p.2) 0 (sub x i p.1).length 0 (sub y k p.2).length (D (sub x i p.1) (sub y k p.2)) := hD _ _
    have h1 := h.mv (Nat.le_of_eq (sub_len (by omega))) (Nat.le_of_eq (sub_len (by omega)))
    have h2 := OkR.one (hm p List.mem_cons_self)
    have h3 := segs_ok hD c (p.1 + 1) (p.2 + 1) hc fun q hq => hm q (List.mem_cons_of_mem _ hq)
    have h4 := h2.app h3 (by omega) (by omega) (by omega) (by omega)
    exact h1.app h4 (by omega) (by omega) (by omega) (by omega)
theorem core_ok {K D : List Int → List Int → List (Nat × Nat)} (hK : OkF K) (hD : OkF D) : OkF (core K D) := fun x y => by
  unfold core
  split
  · exact OkR.nil _ _ _ _ _ _
  · split
    · exact hK x y
    · exact segs_ok hD _ 0 0 (CH_chain x y) fun p hp => (once_mem x y _ p ((chainN_sub _).subset hp)).2.2.2
theorem DPf_ok {K : List Int → List Int → List (Nat × Nat)} (hK : OkF K) : ∀ n, OkF (DPf K n)
  | 0 => fun a b => by rw [DPf]; exact OkR.nil _ _ _ _ _ _
  | n + 1 => fun a b => by
    rw [DPf]
    have hp := pre_le a b
    have hs := suf_le a b
    generalize hf : pre a b = f at hp hs
    generalize ht : suf a b = t at hs
    have h1 : OkR a b 0 (0 + f) 0 (0 + f) (dg 0 0 f) := OkR.dg fun j hj => by rw [Nat.zero_add]; exact pre_eq a b j (by omega)
    rw [Nat.zero_add] at h1
    have h2 : OkR a b f (a.length - t) f (b.length - t) (mv f f (core K (DPf K n) (mid a f t) (mid b f t))) :=
      OkR.mv (core_ok hK (DPf_ok hK n) (mid a f t) (mid b f t)) (Nat.le_of_eq (by rw [mid_len])) (Nat.le_of_eq (by rw [mid_len]))
    have h3 : OkR a b (a.length - t) (a.length - t + t) (b.length - t) (b.length - t + t) (dg (a.length - t) (b.length - t) t) := OkR.dg fun j hj => by
      have h := suf_eq (a := a) (b := b) (k := t - 1 - j) (by omega)
      rw [show a.length - t + j = a.length - 1 - (t - 1 - j) by omega, show b.length - t + j = b.length - 1 - (t - 1 - j) by omega]
      exact h
    rw [Nat.sub_add_cancel (by omega), Nat.sub_add_cancel (by omega)] at h3
    exact (h1.app h2 (by omega) (by omega) (by omega) (by omega)).app h3 (by omega) (by omega) (by omega) (by omega)
theorem DP_ok {K : List Int → List Int → List (Nat × Nat)} (hK : OkF K) : OkF (DP K) := fun a b => DPf_ok hK _ a b
theorem asc_len : ∀ (l : List (Nat × Nat)) (i u : Nat), (∀ p ∈ l, i ≤ p.1 ∧ p.1 < u) → (l.Pairwise fun p q => p.1 < q.1) → l.length ≤ u - i
  | [], i, u, _, _ => Nat.zero_le _
  | p :: l, i, u, h, hp => by
    rw [List.pairwise_cons] at hp
    have h1 := h p List.mem_cons_self
    have := asc_len l (p.1 + 1) u (fun q hq => ⟨hp.1 q hq, (h q (List.mem_cons_of_mem _ hq)).2⟩) hp.2
    rw [List.length_cons]
    omega
theorem OkR.len {a b : List Int} {i u k v : Nat} {l : List (Nat × Nat)} (h : OkR a b i u k v l) : l.length ≤ u - i := asc_len l i u (fun p hp => ⟨(h.1 p hp).1, (h.1 p hp).2.1⟩) (h.2.imp fun {p q} h => h.1)
end Go.Proofs.Ytbbmkgpgiacdeaa

/-
  The patience way: Diff.
-/
namespace Go.Proofs.Ytbbmkgpgiacdeaa
open Go.RowKit Zk Zx
set_option linter.unusedVariables false
set_option linter.unusedSimpArgs false

theorem KM_ok : OkF KM := fun x y => keep_ok x y _ 0 0 rfl
theorem DPK_len (a b : List Int) : (DP KM a b).length ≤ a.length := by
  have := (DP_ok KM_ok a b).len
  omega
theorem rsM_of {w0 w : World} {ps rs : List Res} {A : Option Addr} {n c : Nat} {l : List Int} (S : Zx.St w0 noM (ps ++ rs) w) (h : Rs w0 1 A n c (iL l)) : RsM w (sepL rs).dom A n c l :=
  ⟨S.rd h, fun ad hn e ⟨r, hr, hd⟩ => by
    have h1 := ((S.res r (List.mem_append_right _ hr)).2 _ hd).2
    obtain ⟨ad', e', hb, _⟩ := h.rd.2 hn
    have e2 := e.symm.trans e'
    cases e2
    rcases h1 with h1 | h1
    · omega
    · exact h1⟩
theorem bf_take (qs : List BK) (x : BK) : ((qs ++ [x]).flatMap bf).take (qs.length * 4) = qs.flatMap bf := by
  rw [flat_take bf bf_len, List.take_left]
theorem add_zero' (a : Addr) : a.add 0 = a := by
  cases a
  unfold Addr.add
  first | rfl | (split <;> rfl) | simp
theorem cutA_zero (A : Option Addr) (c k : Nat) : cutA A c 0 k = A := by
  unfold cutA
  split
  · rfl
  · rw [Nat.zero_mul]
    cases A with
    | none => rfl
    | some a => exact congrArg some (add_zero' a)
theorem perm_pop {α : Type} {ks ks' P D Q T : List α} (h1 : (ks' ++ P).Perm (ks ++ (D ++ Q))) (h2 : (ks ++ (Q ++ D)).Perm T) : (ks' ++ P).Perm T :=
  h1.trans ((List.Perm.append_left ks List.perm_append_comm).trans h2)
theorem bf_one2 (x : BK) : ∀ u ∈ (bf x).toArray.toList, u.oneCell' = true := fun u hu => by
  simp only [bf, List.mem_cons, List.not_mem_nil, or_false, List.toList_toArray] at hu
  rcases hu with rfl | rfl | rfl | rfl <;> rfl


set_option maxRecDepth 100000 in
set_option maxHeartbeats 2000000 in
theorem pdiff (A B : Option Addr) (n ca m cb : Nat) (la lb : List Int) (w0 : World) (ha : Rs w0 1 A n ca (iL la)) (hb : Rs w0 1 B m cb (iL lb)) (hwa : ∀ x ∈ la, I64 x) (hwb : ∀ x ∈ lb, I64 x) (hn9 : n ≤ 800) (hm9 : m ≤ 800) :
    Calls Try.prog 29 #[.slice A n ca, .slice B m cb] w0 fun e w' => ∃ u, e = .returned u ∧ Like w0 w' ∧ ∃ A m c, u = .tuple #[.slice A m c, .int .i64 0] ∧ w'.ownsRow w0.heap.size 34 2 (.slice A m c) m ((DP KM la lb).flatMap pf) := by
  refine enter1 (env := [(0, .slice A n ca), (1, .slice B m cb)]) [.slice A n ca, .slice B m cb] Try.func29 rfl Try.ntmps29 rfl rfl ?_
  have hla := lenI ha; have hlb := lenI hb; have hcap := ha.cap; have hmax := ha.max; have hcap2 := hb.cap; have hmax2 := hb.max; have S0 := St.start w0 noM
  refine T_seq fun K1 hK1 => ?_
  refine T_region ?_
  refine L_y (y_assign rfl) rfl ?_
  refine L_y (y_assign rfl) rfl ?_
  refine L_nil ?_
  refine hK1 _ _ ?_
  refine T_seq fun K2 hK2 => ?_
  refine T_seq fun K3 hK3 => ?_
  refine T_region ?_
  refine L_y (y_move rfl) rfl ?_
  refine L_y (y_len Try.underlying22 rfl) rfl ?_
  refine L_y (y_gtr rfl rfl) rfl ?_
  refine L_y (y_move rfl) rfl ?_
  refine L_split 12 rfl (fun h12 => ?_) (fun h12 => ?_)
  ·
    exact absurd h12 (by omega)
  ·
    refine L_gyes rfl rfl ?_
    refine L_y (y_move rfl) rfl ?_
    refine L_gyes rfl rfl ?_
    refine L_y (y_len Try.underlying22 rfl) rfl ?_
    refine L_gyes rfl rfl ?_
    refine L_y (y_gtr rfl rfl) rfl ?_
    refine L_y ((by first | exact y_pickT rfl rfl | exact y_pickF rfl rfl)) rfl ?_
    refine L_nil ?_
    refine hK3 _ _ ?_
    refine T_cond rfl (fun h16 => ?_) (fun h16 => ?_)
    ·
      exact absurd h16 (by omega)
    ·
      refine T_skip ?_
      refine hK2 _ _ ?_
      refine T_seq fun K4 hK4 => ?_
      refine T_region ?_
      refine L_y (y_move rfl) rfl ?_
      refine L_y (y_move rfl) rfl ?_
      refine L_y (y_move rfl) rfl ?_
      refine L_y (y_len Try.underlying22 rfl) rfl ?_
      refine L_y (y_move rfl) rfl ?_
      refine L_y (y_len Try.underlying22 rfl) rfl ?_
      refine L_y (y_build rfl (show _ = some #[Value.int .i64 0, Value.int .i64 (n : Int), Value.int .i64 0, Value.int .i64 (m : Int)] by rfl)) rfl ?_
      refine L_o (o_bsl [_, _, _, _] te72 zz71 S0 rfl rfl rfl rfl rfl rfl rfl rfl fun b2 w2 S2 => ?_)
      refine L_y (y_build rfl (show _ = some #[Value.slice A n ca, Value.slice B m cb, Value.slice (some ⟨b2, 0, none⟩) 1 1, Value.slice none 0 0] by kernel_rfl)) rfl ?_
      refine L_o (o_box rfl S2 rfl fun b3 w3 hb3 S3 => ?_)
      refine L_y (y_assign rfl) rfl ?_
      have S4 := S3.nilrow 34 2
      have S5 : St w0 _ [_, _, _] w3 := S4.sel [1, 0, 2] (by decide)
      refine L_nil ?_
      refine hK4 _ _ ?_
      refine T_seq fun K5 hK5 => ?_
      refine T_block ?_
      refine T_loop6 [(6, _)] (fun (PA : Option Addr) (pc : Nat) (ps : List BK) (KA : Option Addr) (kc : Nat) (ks : List (Nat × Nat)) => []) (fun (PA : Option Addr) (pc : Nat) (ps : List BK) (KA : Option Addr) (kc : Nat) (ks : List (Nat × Nat)) => Wt ps) (fun (PA : Option Addr) (pc : Nat) (ps : List BK) (KA : Option Addr) (kc : Nat) (ks : List (Nat × Nat)) (w : World) => ((∀ z ∈ ps, BKok la.length lb.length z) ∧ Wt ps ≤ n + m + 1 ∧ (ks ++ ps.flatMap (DB KM la lb)).Perm (DP KM la lb)) ∧ St w0 noM [blk b3 74 #[.slice A n ca, .slice B m cb, .slice PA (ps).length pc, .slice KA (ks).length kc], row 71 4 PA (ps).length pc ((ps).flatMap bf), row 34 2 KA (ks).length kc ((ks).flatMap pf)] w) (some ⟨b2, 0, none⟩) 1 [⟨0, n, 0, m⟩] none 0 [] (Sub.nil _) (Sub.cons rfl rfl (Sub.nil _)) ?_ ?_
      ·
        refine ⟨⟨fun z hz => by obtain rfl := List.mem_singleton.1 hz; exact ⟨Nat.zero_le _, (by show n ≤ la.length; omega), Nat.zero_le _, (by show m ≤ lb.length; omega)⟩, Nat.le_refl _, ?_⟩, S5⟩
        rw [List.nil_append, List.flatMap_singleton]
        unfold DB
        rw [mv_zero, show sub la 0 n = la by rw [← hla]; exact sub_all la, show sub lb 0 m = lb by rw [← hlb]; exact sub_all lb]
      ·
        intro PA pc ps KA kc ks w6 hrel
        obtain ⟨⟨hbk, hW, hpm⟩, S6⟩ := hrel
        have hWl := Wt_len ps
        have hpl := hpm.length_eq
        have hdl := DPK_len la lb
        have hpc := (S6.row 1 rfl).cap
        have hpx := (S6.row 1 rfl).max
        refine T_seq fun K6 hK6 => ?_
        refine T_seq fun K7 hK7 => ?_
        refine T_region ?_
        refine L_y (y_move rfl) rfl ?_
        refine L_y (y_nilp rfl) rfl ?_
        refine L_y (y_fieldA 2 Try.underlying74 rfl sz72 rfl rfl rfl) rfl ?_
        refine L_y (y_ldc Try.underlying72 rfl rfl (((S6.blk 0 rfl).cell _).trans (by rfl))) rfl ?_
        refine L_y (y_len Try.underlying72 rfl) rfl ?_
        refine L_y (y_gtr rfl rfl) rfl ?_
        refine L_nil ?_
        refine hK7 _ _ ?_
        refine T_cond rfl (fun h32 => ?_) (fun h32 => ?_)
        ·
          obtain ⟨qs, ⟨a, an, b, bn⟩, rfl⟩ : ∃ qs x, ps = qs ++ [x] := ⟨ps.dropLast, ps.getLast (fun e => by rw [e] at h32; exact absurd h32 (by decide)), (List.dropLast_concat_getLast _).symm⟩
          have hql : (qs ++ [(⟨a, an, b, bn⟩ : BK)]).length = qs.length + 1 := List.length_append
          have hbx := hbk ⟨a, an, b, bn⟩ (List.mem_append_right _ (List.mem_singleton_self _))
          have hb1 : a ≤ an := hbx.1
          have hb2 : an ≤ la.length := hbx.2.1
          have hb3 : b ≤ bn := hbx.2.2.1
          have hb4 : bn ≤ lb.length := hbx.2.2.2
          have hgx : (qs ++ [(⟨a, an, b, bn⟩ : BK)])[qs.length]? = some ⟨a, an, b, bn⟩ := by simp
          have hWs := Wt_snoc qs ⟨a, an, b, bn⟩
          refine T_skip ?_
          refine hK6 _ _ ?_
          refine T_block ?_
          refine T_seq fun K8 hK8 => ?_
          refine T_region ?_
          refine L_y (y_move rfl) rfl ?_
          refine L_y (y_nilp rfl) rfl ?_
          refine L_y (y_fieldA 2 Try.underlying74 rfl sz72 rfl rfl rfl) rfl ?_
          refine L_y (y_ldc Try.underlying72 rfl rfl (((S6.blk 0 rfl).cell _).trans (by rfl))) rfl ?_
          refine L_y (y_len Try.underlying72 rfl) rfl ?_
          refine L_y (y_sub rfl rfl (i64e (k := qs.length) (by omega))) rfl ?_
          refine L_y (y_assign rfl) rfl ?_
          refine L_nil ?_
          refine hK8 _ _ ?_
          refine T_seq fun K9 hK9 => ?_
          refine T_region ?_
          refine L_y (y_move rfl) rfl ?_
          refine L_y (y_nilp rfl) rfl ?_
          refine L_y (y_fieldA 2 Try.underlying74 rfl sz72 rfl rfl rfl) rfl ?_
          refine L_y (y_ldc Try.underlying72 rfl rfl (((S6.blk 0 rfl).cell _).trans (by rfl))) rfl ?_
          refine L_y (y_move rfl) rfl ?_
          refine L_y (y_idx Try.underlying72 sz71 rfl rfl (S6.row 1 rfl) (Nt.mk rfl : Nt _ (qs.length)) (by omega)) rfl ?_
          refine L_y (y_ldp (f := bf) bf_len Try.underlying71 rfl sz71 rfl (S6.row 1 rfl) (by omega) hgx) rfl ?_
          refine L_o (o_alloc zz71 S6 rfl fun b7 w7 hb7 S7 => ?_)
          refine L_o (o_stW S7 3 rfl rfl rfl sz71 (by rfl) (bf_one2 ⟨a, an, b, bn⟩) fun w8 S8 => ?_)
          refine L_nil ?_
          refine hK9 _ _ ?_
          refine T_seq fun K10 hK10 => ?_
          refine T_region ?_
          refine L_y (y_move rfl) rfl ?_
          refine L_y (y_move rfl) rfl ?_
          refine L_y (y_nilp rfl) rfl ?_
          refine L_y (y_fieldA 2 Try.underlying74 rfl sz72 rfl rfl rfl) rfl ?_
          refine L_y (y_ldc Try.underlying72 rfl rfl (((S8.blk 0 rfl).cell _).trans (by rfl))) rfl ?_
          refine L_y (y_move rfl) rfl ?_
          refine L_y (y_sliceH Try.underlying72 sz71 rfl rfl inferInstance (by omega)) rfl ?_
          refine L_y (y_nilp rfl) rfl ?_
          refine L_y (y_fieldA 2 Try.underlying74 rfl sz72 rfl rfl rfl) rfl ?_
          refine L_o (o_st1 S8 0 rfl rfl rfl rfl sz72 (by simp; done) fun w9 S9 => ?_)
          refine L_nil ?_
          refine hK10 _ _ ?_
          have S10 := S9.rowcut 1 rfl (m := qs.length) (by omega)
          have S11 := S10.rowc 1 rfl (n' := qs.length) (xs' := qs.flatMap bf) rfl (bf_take qs _)
          have S12 : St w0 _ [_, _, _, _] w9 := S11.sel [3, 0, 1, 2] (by decide)
          have S13 := S12.blkc 1 rfl (cs' := #[.slice A n ca, .slice B m cb, .slice PA (qs).length pc, .slice KA (ks).length kc]) (by rw [cutA_zero, Nat.sub_zero, Nat.sub_zero]; rfl)
          have S14 : St w0 _ [_, blk b3 74 #[.slice A n ca, .slice B m cb, .slice PA (qs).length pc, .slice KA (ks).length kc], row 71 4 PA (qs).length pc ((qs).flatMap bf), row 34 2 KA (ks).length kc ((ks).flatMap pf)] w9 := S13
          have hpm9 := hpm
          rw [List.flatMap_append, List.flatMap_singleton] at hpm9
          have hT9 : (ks ++ (DB KM la lb ⟨a, an, b, bn⟩ ++ qs.flatMap (DB KM la lb))).length ≤ 4096 := by
            have h9 := ((List.Perm.append_left ks List.perm_append_comm).trans hpm9).length_eq
            omega
          refine T_region ?_
          refine L_y (y_move rfl) rfl ?_
          refine L_y (y_ldW Try.underlying71 rfl sz71 rfl (S14.blk 0 rfl) (show _ = bf ⟨a, an, b, bn⟩ ∧ _ from ⟨rfl, rfl⟩)) rfl ?_
          refine L_o (o_call Try.func48 rfl rfl (wone b3 A n ca B m cb PA pc qs KA kc ks la lb a an b bn w9 (St.getL (ps := [_]) (rs := [_, _, _]) S14) (rsM_of (ps := [_]) (rs := [_, _, _]) S14 ha) (rsM_of (ps := [_]) (rs := [_, _, _]) S14 hb) hwa hwb hn9 hm9 (fun z hz => hbk z (List.mem_append_left _ hz)) hb1 (by omega) hb3 (by omega) (by omega) hT9) rfl rfl ?_)
          rintro e15 w15 ⟨v15, rfl, PA15, pc15, ps15, KK15, kc15, ks15, rfl, T15, hbk15, hW15, hpm15⟩
          refine ⟨_, rfl, ?_⟩
          have S15 := St.turnL (ps := [_]) (rs := [_, _, _]) (rs' := [_, _, _]) S14 T15
          have S16 : St w0 _ [_, _, _] w15 := S15.sel [1, 2, 3] (by decide)
          have S17 : St w0 _ [blk b3 74 #[.slice A n ca, .slice B m cb, .slice PA15 (ps15).length pc15, .slice KK15 (ks15).length kc15], row 71 4 PA15 (ps15).length pc15 ((ps15).flatMap bf), row 34 2 KK15 (ks15).length kc15 ((ks15).flatMap pf)] w15 := S16
          refine L_nil ?_
          have hW9 := Wt_snoc qs ⟨a, an, b, bn⟩
          refine ⟨_, _, ps15, _, _, ks15, by omega, ⟨⟨hbk15, by omega, perm_pop hpm15 hpm9⟩, S17⟩, ?_⟩
          exact (Sub.cons rfl rfl (Sub.nil _))
        ·
          refine T_exit ?_
          refine hK5 _ _ ?_
          refine T_seq fun K11 hK11 => ?_
          have hp0 : ps = [] := List.eq_nil_of_length_eq_zero (by omega)
          subst hp0
          rw [List.flatMap_nil, List.append_nil] at hpm hpl
          refine T_region ?_
          refine L_y (y_move rfl) rfl ?_
          refine L_y (y_nilp rfl) rfl ?_
          refine L_y (y_fieldA 3 Try.underlying74 rfl sz25 rfl rfl rfl) rfl ?_
          refine L_y (y_ldc Try.underlying25 rfl rfl (((S6.blk 0 rfl).cell _).trans (by rfl))) rfl ?_
          refine L_o (o_call Try.func33 rfl rfl (sortP KA ks.length kc ks w6 rfl (S6.get 2 rfl) (by omega)) rfl rfl ?_)
          rintro e18 w18 ⟨v18, rfl, zs, hzp, hzs, T18⟩
          refine ⟨_, rfl, ?_⟩
          have S18 := S6.turn 2 rfl T18
          have hze := asc_of (hzp.trans hpm) hzs ((DP_ok KM_ok la lb).2.imp fun {p q} h => h.1)
          subst hze
          refine L_nil ?_
          refine hK11 _ _ ?_
          refine T_seq fun K12 hK12 => ?_
          refine T_region ?_
          refine L_y (y_move rfl) rfl ?_
          refine L_y (y_nilp rfl) rfl ?_
          refine L_y (y_fieldA 3 Try.underlying74 rfl sz25 rfl rfl rfl) rfl ?_
          refine L_y (y_ldc Try.underlying25 rfl rfl (((S18.blk 0 rfl).cell _).trans (by rfl))) rfl ?_
          refine L_y (y_assign rfl) rfl ?_
          refine L_y (y_assign rfl) rfl ?_
          refine L_nil ?_
          refine hK12 _ _ ?_
          refine T_ret ?_
          repeat (first | with_reducible refine up_then ?_ | with_reducible refine up_in ?_)
          refine ret2 rfl rfl rfl ?_
          exact ⟨_, rfl, S18.like0, _, _, _, rfl, S18.own 2 rfl⟩


set_option maxRecDepth 100000 in
theorem pdiffL (A B : Option Addr) (n ca m cb : Nat) (la lb : List Int) (w0 : World) (ha : Rs w0 1 A n ca (iL la)) (hb : Rs w0 1 B m cb (iL lb)) (hlong : 800 < n ∨ 800 < m) :
    Calls Try.prog 29 #[.slice A n ca, .slice B m cb] w0 fun e w' => ∃ u, e = .returned u ∧ Like w0 w' ∧ u = .tuple #[.slice none 0 0, .int .i64 3] := by
  refine enter1 (env := [(0, .slice A n ca), (1, .slice B m cb)]) [.slice A n ca, .slice B m cb] Try.func29 rfl Try.ntmps29 rfl rfl ?_
  have hla := lenI ha; have hlb := lenI hb; have hcap := ha.cap; have hmax := ha.max; have hcap2 := hb.cap; have hmax2 := hb.max; have S0 := St.start w0 noM
  refine T_seq fun K1 hK1 => ?_
  refine T_region ?_
  refine L_y (y_assign rfl) rfl ?_
  refine L_y (y_assign rfl) rfl ?_
  refine L_nil ?_
  refine hK1 _ _ ?_
  refine T_seq fun K2 hK2 => ?_
  refine T_seq fun K3 hK3 => ?_
  refine T_region ?_
  refine L_y (y_move rfl) rfl ?_
  refine L_y (y_len Try.underlying22 rfl) rfl ?_
  refine L_y (y_gtr rfl rfl) rfl ?_
  refine L_y (y_move rfl) rfl ?_
  refine L_split 12 rfl (fun h12 => ?_) (fun h12 => ?_)
  ·
    refine L_gno rfl rfl rfl ?_
    refine L_gno rfl rfl rfl ?_
    refine L_gno rfl rfl rfl ?_
    refine L_y ((by first | exact y_pickT rfl rfl | exact y_pickF rfl rfl)) rfl ?_
    refine L_nil ?_
    refine hK3 _ _ ?_
    refine T_true rfl ?_
    refine T_seq fun K4 hK4 => ?_
    refine T_region ?_
    refine L_y (y_assign rfl) rfl ?_
    refine L_y (y_assign rfl) rfl ?_
    refine L_nil ?_
    refine hK4 _ _ ?_
    refine T_ret ?_
    repeat (first | with_reducible refine up_then ?_ | with_reducible refine up_in ?_)
    refine ret2 rfl rfl rfl ?_
    exact ⟨_, rfl, S0.like0, rfl⟩
  ·
    refine L_gyes rfl rfl ?_
    refine L_y (y_move rfl) rfl ?_
    refine L_gyes rfl rfl ?_
    refine L_y (y_len Try.underlying22 rfl) rfl ?_
    refine L_gyes rfl rfl ?_
    refine L_y (y_gtr rfl rfl) rfl ?_
    refine L_y ((by first | exact y_pickT rfl rfl | exact y_pickF rfl rfl)) rfl ?_
    refine L_nil ?_
    refine hK3 _ _ ?_
    refine T_cond rfl (fun h16 => ?_) (fun h16 => ?_)
    ·
      refine T_seq fun K5 hK5 => ?_
      refine T_region ?_
      refine L_y (y_assign rfl) rfl ?_
      refine L_y (y_assign rfl) rfl ?_
      refine L_nil ?_
      refine hK5 _ _ ?_
      refine T_ret ?_
      repeat (first | with_reducible refine up_then ?_ | with_reducible refine up_in ?_)
      refine ret2 rfl rfl rfl ?_
      exact ⟨_, rfl, S0.like0, rfl⟩
    ·
      exact absurd h16 (by omega)
end Go.Proofs.Ytbbmkgpgiacdeaa
