/-
  The document: Check.
-/
import Derived.Test.YtmgimcdkeelnpaaJ
namespace Go.Proofs.Ytmgimcdkeelnpaa
open Go.RowKit Zk Zx
set_option linter.unusedVariables false
set_option linter.unusedSimpArgs false

theorem once_in {l : List EV} {i k : Nat} {x : EV} (hi : l[i]? = some x) (hik : i < k) : x.nm ∈ (l.take k).map EV.nm :=
  List.mem_map.2 ⟨x, List.mem_of_getElem? (by rw [List.getElem?_take, if_pos hik]; exact hi), rfl⟩
theorem once_out {l : List EV} {k : Nat} {x : EV} (h : ∀ j y, j < k → l[j]? = some y → y.nm ≠ x.nm) : x.nm ∉ (l.take k).map EV.nm := fun hm => by
  obtain ⟨y, hy, e⟩ := List.mem_map.1 hm
  obtain ⟨j, hj, rfl⟩ := List.getElem_of_mem hy
  have hjk : j < k := by rw [List.length_take] at hj; omega
  exact h j _ hjk (by rw [List.getElem_take]; exact List.getElem?_eq_getElem _) e
theorem en_get (l : List EV) (k t : Nat) (x : EV) (hx : l[k]? = some x) (ht : t < 34) : (l.flatMap enf)[k * 34 + t]? = (enf x)[t]? := by
  have h := drop_hd2 hx
  have e : l = l.take k ++ x :: l.drop (k + 1) := by rw [← h, List.take_append_drop]
  have hk := (List.getElem?_eq_some_iff.1 hx).1
  rw [e, List.flatMap_append, List.flatMap_cons, List.getElem?_append_right (by rw [ens_len, List.length_take]; omega), ens_len, List.length_take, Nat.min_eq_left (by omega), Nat.add_sub_cancel_left, List.getElem?_append_left (by rw [enf_len]; exact ht)]
theorem en_nm {l : List EV} {k : Nat} {x : EV} (hx : l[k]? = some x) : (l.flatMap enf)[k * 34 + 0]? = some (.string x.nm) := (en_get l k 0 x hx (by omega)).trans rfl
theorem en_md {l : List EV} {k : Nat} {x : EV} (hx : l[k]? = some x) : (l.flatMap enf)[k * 34 + 1]? = some (.int .i64 x.md) := (en_get l k 1 x hx (by omega)).trans rfl


set_option maxRecDepth 100000 in
theorem rcheck (A : Option Addr) (n c : Nat) (l : List EV) (w0 : World) (hl : Rs w0 34 A n c (l.flatMap enf)) (hn5 : n ≤ 10000) :
    Calls Try.prog 11 #[.slice A n c] w0 fun e w' => ∃ u, e = .returned u ∧ Like w0 w' ∧ u = .int .i64 (chkE l) := by
  refine enter1 (env := [(0, .slice A n c)]) [.slice A n c] Try.func11 rfl Try.ntmps11 rfl rfl ?_
  have hn := ens_n hl; have hcap := hl.cap; have hmax := hl.max; have S0 := St.start w0 noM
  refine T_seq fun K1 hK1 => ?_
  refine T_region ?_
  refine L_y (y_assign rfl) rfl ?_
  refine L_nil ?_
  refine hK1 _ _ ?_
  refine T_seq fun K2 hK2 => ?_
  refine T_seq fun K3 hK3 => ?_
  refine T_region ?_
  refine L_y (y_move rfl) rfl ?_
  refine L_y (y_len Try.underlying22 rfl) rfl ?_
  refine L_y (y_gtr rfl rfl) rfl ?_
  refine L_nil ?_
  refine hK3 _ _ ?_
  refine T_cond rfl (fun h9 => ?_) (fun h9 => ?_)
  ·
    refine T_seq fun K4 hK4 => ?_
    refine T_region ?_
    refine L_y (y_assign rfl) rfl ?_
    refine L_nil ?_
    refine hK4 _ _ ?_
    refine T_ret ?_
    repeat (first | with_reducible refine up_then ?_ | with_reducible refine up_in ?_)
    refine ret1 rfl rfl ?_
    exact ⟨_, rfl, S0.like0, congrArg (Value.int _) (chkE_long (by omega)).symm⟩
  ·
    refine T_skip ?_
    refine hK2 _ _ ?_
    refine T_seq fun K5 hK5 => ?_
    refine T_seq fun K6 hK6 => ?_
    refine T_region ?_
    refine L_y (y_assign rfl) rfl ?_
    refine L_nil ?_
    refine hK6 _ _ ?_
    refine T_block ?_
    refine T_loop1 [(0, _)] (fun (k : Nat) => [(3, .int .i64 (k : Int))]) (fun (k : Nat) => n - k) (fun (k : Nat) (w : World) => (k ≤ n ∧ (∀ j e, j < k → l[j]? = some e → mdOk e.md ∧ nmOk e.nm = true)) ∧ St w0 noM [] w) 0 (Sub.cons rfl (by first | rfl | exact congrArg (Value.int _) (by omega)) (Sub.nil _)) (Sub.cons rfl rfl (Sub.nil _)) ?_ ?_
    ·
      exact ⟨⟨Nat.zero_le _, fun j e hj => absurd hj (by omega)⟩, S0⟩
    ·
      intro k w1 hrel
      obtain ⟨⟨hk, hok⟩, S1⟩ := hrel
      refine T_seq fun K7 hK7 => ?_
      refine T_seq fun K8 hK8 => ?_
      refine T_region ?_
      refine L_y (y_move rfl) rfl ?_
      refine L_y (y_move rfl) rfl ?_
      refine L_y (y_len Try.underlying22 rfl) rfl ?_
      refine L_y (y_lss rfl rfl) rfl ?_
      refine L_nil ?_
      refine hK8 _ _ ?_
      refine T_cond rfl (fun h13 => ?_) (fun h13 => ?_)
      ·
        obtain ⟨x, hx⟩ : ∃ x, l[k]? = some x := ⟨_, List.getElem?_eq_getElem (by omega)⟩
        refine T_skip ?_
        refine hK7 _ _ ?_
        refine T_seq fun K9 hK9 => ?_
        refine T_block ?_
        refine T_seq fun K10 hK10 => ?_
        refine T_seq fun K11 hK11 => ?_
        refine T_region ?_
        refine L_y (y_move rfl) rfl ?_
        refine L_y (y_move rfl) rfl ?_
        refine L_y (y_idx Try.underlying22 sz39 rfl rfl (S1.rd hl) (Nt.mk (by omega) : Nt _ (k)) (by omega)) rfl ?_
        refine L_y (y_fieldR 1 Try.underlying39 rfl sz3 rfl rfl (S1.rd hl) (by omega) rfl) rfl ?_
        refine L_y (y_ldf Try.underlying3 rfl rfl (S1.rd hl) (by omega) (en_md hx)) rfl ?_
        refine L_y (y_lss rfl rfl) rfl ?_
        refine L_y (y_move rfl) rfl ?_
        refine L_split 22 rfl (fun h22 => ?_) (fun h22 => ?_)
        ·
          have hmd : ¬ mdOk x.md := by unfold mdOk; omega
          refine L_gno rfl rfl rfl ?_
          refine L_gno rfl rfl rfl ?_
          refine L_gno rfl rfl rfl ?_
          refine L_gno rfl rfl rfl ?_
          refine L_gno rfl rfl rfl ?_
          refine L_gno rfl rfl rfl ?_
          refine L_y ((by first | exact y_pickT rfl rfl | exact y_pickF rfl rfl)) rfl ?_
          refine L_nil ?_
          refine hK11 _ _ ?_
          refine T_true rfl ?_
          refine T_seq fun K12 hK12 => ?_
          refine T_region ?_
          refine L_y (y_assign rfl) rfl ?_
          refine L_nil ?_
          refine hK12 _ _ ?_
          refine T_ret ?_
          repeat (first | with_reducible refine up_then ?_ | with_reducible refine up_in ?_)
          refine ret1 rfl rfl ?_
          exact ⟨_, rfl, S1.like0, congrArg (Value.int _) (chkE_one (by omega) ((chk1_at k hok (by omega)).trans (chk1_md hx hmd)) (by decide)).symm⟩
        ·
          refine L_gyes rfl rfl ?_
          refine L_y (y_move rfl) rfl ?_
          refine L_gyes rfl rfl ?_
          refine L_y (y_move rfl) rfl ?_
          refine L_gyes rfl rfl ?_
          refine L_y (y_idx Try.underlying22 sz39 rfl rfl (S1.rd hl) (Nt.mk (by omega) : Nt _ (k)) (by omega)) rfl ?_
          refine L_gyes rfl rfl ?_
          refine L_y (y_fieldR 1 Try.underlying39 rfl sz3 rfl rfl (S1.rd hl) (by omega) rfl) rfl ?_
          refine L_gyes rfl rfl ?_
          refine L_y (y_ldf Try.underlying3 rfl rfl (S1.rd hl) (by omega) (en_md hx)) rfl ?_
          refine L_gyes rfl rfl ?_
          refine L_y (y_gtr rfl rfl) rfl ?_
          refine L_y ((by first | exact y_pickT rfl rfl | exact y_pickF rfl rfl)) rfl ?_
          refine L_nil ?_
          refine hK11 _ _ ?_
          refine T_cond rfl (fun h29 => ?_) (fun h29 => ?_)
          ·
            have hmd : ¬ mdOk x.md := by unfold mdOk; omega
            refine T_seq fun K13 hK13 => ?_
            refine T_region ?_
            refine L_y (y_assign rfl) rfl ?_
            refine L_nil ?_
            refine hK13 _ _ ?_
            refine T_ret ?_
            repeat (first | with_reducible refine up_then ?_ | with_reducible refine up_in ?_)
            refine ret1 rfl rfl ?_
            exact ⟨_, rfl, S1.like0, congrArg (Value.int _) (chkE_one (by omega) ((chk1_at k hok (by omega)).trans (chk1_md hx hmd)) (by decide)).symm⟩
          ·
            have hmd : mdOk x.md := by unfold mdOk; omega
            refine T_skip ?_
            refine hK10 _ _ ?_
            refine T_seq fun K14 hK14 => ?_
            refine T_region ?_
            refine L_y (y_move rfl) rfl ?_
            refine L_y (y_move rfl) rfl ?_
            refine L_y (y_idx Try.underlying22 sz39 rfl rfl (S1.rd hl) (Nt.mk (by omega) : Nt _ (k)) (by omega)) rfl ?_
            refine L_y (y_fieldR 0 Try.underlying39 rfl sz9 rfl rfl (S1.rd hl) (by omega) rfl) rfl ?_
            refine L_y (y_ldf Try.underlying9 rfl rfl (S1.rd hl) (by omega) (en_nm hx)) rfl ?_
            refine L_o (o_call Try.func28 rfl rfl (rname x.nm w1) rfl rfl ?_)
            rintro e3 w3 ⟨v3, rfl, l3, rfl⟩
            refine ⟨_, rfl, ?_⟩
            have S3 := S1.like l3
            refine L_y ((by first | exact y_notD rfl | exact y_not rfl)) rfl ?_
            refine L_nil ?_
            refine hK14 _ _ ?_
            refine T_condB rfl (fun h36 => ?_) (fun h36 => ?_)
            ·
              have hnm : nmOk x.nm = false := by simpa using h36
              refine T_seq fun K15 hK15 => ?_
              refine T_region ?_
              refine L_y (y_assign rfl) rfl ?_
              refine L_nil ?_
              refine hK15 _ _ ?_
              refine T_ret ?_
              repeat (first | with_reducible refine up_then ?_ | with_reducible refine up_in ?_)
              refine ret1 rfl rfl ?_
              exact ⟨_, rfl, S3.like0, congrArg (Value.int _) (chkE_one (by omega) ((chk1_at k hok (by omega)).trans (chk1_nm hx hmd hnm)) (by decide)).symm⟩
            ·
              have hnm : nmOk x.nm = true := by simpa using h36
              refine T_skip ?_
              refine hK9 _ _ ?_
              refine T_region ?_
              refine L_y (y_move rfl) rfl ?_
              refine L_y (y_add rfl rfl (i64w (by omega))) rfl ?_
              refine L_y (y_assign rfl) rfl ?_
              refine L_nil ?_
              refine ⟨k + 1, by omega, ⟨⟨by omega, ok_next hok hx hmd hnm⟩, S3⟩, ?_⟩
              exact (Sub.cons rfl (by first | rfl | exact congrArg (Value.int _) (by omega)) (Sub.cons rfl rfl (Sub.nil _)))
      ·
        have hc1 : chk1 l = 0 := (chk1_at k hok (by omega)).trans (by rw [List.drop_of_length_le (by omega)]; rfl)
        refine T_exit ?_
        refine hK5 _ _ ?_
        refine T_seq fun K16 hK16 => ?_
        refine T_seq fun K17 hK17 => ?_
        refine T_region ?_
        refine L_y (y_assign rfl) rfl ?_
        refine L_nil ?_
        refine hK17 _ _ ?_
        refine T_block ?_
        refine T_loop1 [(0, _)] (fun (k : Nat) => [(4, .int .i64 (k : Int))]) (fun (k : Nat) => n - k) (fun (k : Nat) (w : World) => (k ≤ n ∧ once (l.take k)) ∧ St w0 noM [] w) 0 (Sub.cons rfl (by first | rfl | exact congrArg (Value.int _) (by omega)) (Sub.nil _)) (Sub.cons rfl rfl (Sub.nil _)) ?_ ?_
        ·
          exact ⟨⟨Nat.zero_le _, by simp [once]⟩, S1⟩
        ·
          intro k w4 hrel
          obtain ⟨⟨hk, hon⟩, S4⟩ := hrel
          refine T_seq fun K18 hK18 => ?_
          refine T_seq fun K19 hK19 => ?_
          refine T_region ?_
          refine L_y (y_move rfl) rfl ?_
          refine L_y (y_move rfl) rfl ?_
          refine L_y (y_len Try.underlying22 rfl) rfl ?_
          refine L_y (y_lss rfl rfl) rfl ?_
          refine L_nil ?_
          refine hK19 _ _ ?_
          refine T_cond rfl (fun h40 => ?_) (fun h40 => ?_)
          ·
            obtain ⟨x, hx⟩ : ∃ x, l[k]? = some x := ⟨_, List.getElem?_eq_getElem (by omega)⟩
            refine T_skip ?_
            refine hK18 _ _ ?_
            refine T_seq fun K20 hK20 => ?_
            refine T_block ?_
            refine T_seq fun K21 hK21 => ?_
            refine T_region ?_
            refine L_y (y_assign rfl) rfl ?_
            refine L_nil ?_
            refine hK21 _ _ ?_
            refine T_block ?_
            refine T_loop1 [(0, _), (4, _)] (fun (j : Nat) => [(5, .int .i64 (j : Int))]) (fun (j : Nat) => k - j) (fun (j : Nat) (w : World) => (j ≤ k ∧ (∀ i y, i < j → l[i]? = some y → y.nm ≠ x.nm)) ∧ St w0 noM [] w) 0 (Sub.cons rfl (by first | rfl | exact congrArg (Value.int _) (by omega)) (Sub.nil _)) (Sub.cons rfl rfl (Sub.cons rfl rfl (Sub.nil _))) ?_ ?_
            ·
              exact ⟨⟨Nat.zero_le _, fun i y hi => absurd hi (by omega)⟩, S4⟩
            ·
              intro j w5 hrel
              obtain ⟨⟨hj, hno⟩, S5⟩ := hrel
              refine T_seq fun K22 hK22 => ?_
              refine T_seq fun K23 hK23 => ?_
              refine T_region ?_
              refine L_y (y_move rfl) rfl ?_
              refine L_y (y_move rfl) rfl ?_
              refine L_y (y_lss rfl rfl) rfl ?_
              refine L_nil ?_
              refine hK23 _ _ ?_
              refine T_cond rfl (fun h45 => ?_) (fun h45 => ?_)
              ·
                obtain ⟨y, hy⟩ : ∃ y, l[j]? = some y := ⟨_, List.getElem?_eq_getElem (by omega)⟩
                refine T_skip ?_
                refine hK22 _ _ ?_
                refine T_seq fun K24 hK24 => ?_
                refine T_block ?_
                refine T_seq fun K25 hK25 => ?_
                refine T_drawnL [(0, true), (1, true), (2, true), (3, true), (4, true), (5, true), (6, true), (7, true), (8, true), (9, true), (10, true)] hmix (by kernel_rfl) fun w6 l6 => ?_
                have S6 := S5.like l6
                refine DL_y rfl (y_move rfl) rfl ?_
                refine DL_y rfl (y_move rfl) rfl ?_
                refine DL_y rfl (y_idx Try.underlying22 sz39 rfl rfl (S6.rd hl) (Nt.mk (by omega) : Nt _ (j)) (by omega)) rfl ?_
                refine DL_y rfl (y_fieldR 0 Try.underlying39 rfl sz9 rfl rfl (S6.rd hl) (by omega) rfl) rfl ?_
                refine DL_y rfl (y_ldf Try.underlying9 rfl rfl (S6.rd hl) (by omega) (en_nm hy)) rfl ?_
                refine DL_y rfl (y_move rfl) rfl ?_
                refine DL_y rfl (y_move rfl) rfl ?_
                refine DL_y rfl (y_idx Try.underlying22 sz39 rfl rfl (S6.rd hl) (Nt.mk (by omega) : Nt _ (k)) (by omega)) rfl ?_
                refine DL_y rfl (y_fieldR 0 Try.underlying39 rfl sz9 rfl rfl (S6.rd hl) (by omega) rfl) rfl ?_
                refine DL_y rfl (y_ldf Try.underlying9 rfl rfl (S6.rd hl) (by omega) (en_nm hx)) rfl ?_
                refine DL_y rfl (y_seql rfl rfl) rfl ?_
                refine DL_nil ?_
                refine hK25 _ _ ?_
                refine T_cond rfl (fun h58 => ?_) (fun h58 => ?_)
                ·
                  refine T_seq fun K26 hK26 => ?_
                  refine T_region ?_
                  refine L_y (y_assign rfl) rfl ?_
                  refine L_nil ?_
                  refine hK26 _ _ ?_
                  refine T_ret ?_
                  repeat (first | with_reducible refine up_then ?_ | with_reducible refine up_in ?_)
                  refine ret1 rfl rfl ?_
                  exact ⟨_, rfl, S6.like0, congrArg (Value.int _) (chkE_twice (by omega) hc1 (not_once hx (by rw [← h58]; exact once_in hy (by omega)))).symm⟩
                ·
                  refine T_skip ?_
                  refine hK24 _ _ ?_
                  refine T_region ?_
                  refine L_y (y_move rfl) rfl ?_
                  refine L_y (y_add rfl rfl (i64w (by omega))) rfl ?_
                  refine L_y (y_assign rfl) rfl ?_
                  refine L_nil ?_
                  refine ⟨j + 1, by omega, ⟨⟨by omega, fun i z hi hz => by rcases Nat.lt_or_ge i j with q | q; exact hno i z q hz; (have e9 : i = j := by omega); subst e9; rw [hy] at hz; cases hz; exact h58⟩, S6⟩, ?_⟩
                  exact (Sub.cons rfl (by first | rfl | exact congrArg (Value.int _) (by omega)) (Sub.cons rfl rfl (Sub.cons rfl rfl (Sub.nil _))))
              ·
                refine T_exit ?_
                refine hK20 _ _ ?_
                refine T_region ?_
                refine L_y (y_move rfl) rfl ?_
                refine L_y (y_add rfl rfl (i64w (by omega))) rfl ?_
                refine L_y (y_assign rfl) rfl ?_
                refine L_nil ?_
                refine ⟨k + 1, by omega, ⟨⟨by omega, once_snoc hx hon (once_out (fun i y hi hy => hno i y (by omega) hy))⟩, S5⟩, ?_⟩
                exact (Sub.cons rfl (by first | rfl | exact congrArg (Value.int _) (by omega)) (Sub.cons rfl rfl (Sub.nil _)))
          ·
            have hon : once l := by rwa [List.take_of_length_le (by omega)] at hon
            refine T_exit ?_
            refine hK16 _ _ ?_
            refine T_seq fun K27 hK27 => ?_
            refine T_seq fun K28 hK28 => ?_
            refine T_region ?_
            refine L_y (y_assign rfl) rfl ?_
            refine L_nil ?_
            refine hK28 _ _ ?_
            refine T_block ?_
            refine T_loop1 [(0, _)] (fun (k : Nat) => [(6, .int .i64 (k : Int))]) (fun (k : Nat) => n - k) (fun (k : Nat) (w : World) => ((k + 1 ≤ n ∨ k = 0) ∧ (∀ j x y, j < k → l[j]? = some x → l[j + 1]? = some y → ltK x y = true)) ∧ St w0 noM [] w) 0 (Sub.cons rfl (by first | rfl | exact congrArg (Value.int _) (by omega)) (Sub.nil _)) (Sub.cons rfl rfl (Sub.nil _)) ?_ ?_
            ·
              exact ⟨⟨.inr rfl, fun j x y hj => absurd hj (by omega)⟩, S4⟩
            ·
              intro k w7 hrel
              obtain ⟨⟨hk2, hri⟩, S7⟩ := hrel
              refine T_seq fun K29 hK29 => ?_
              refine T_seq fun K30 hK30 => ?_
              refine T_region ?_
              refine L_y (y_move rfl) rfl ?_
              refine L_y (y_add rfl rfl (i64w (by omega))) rfl ?_
              refine L_y (y_move rfl) rfl ?_
              refine L_y (y_len Try.underlying22 rfl) rfl ?_
              refine L_y (y_lss rfl rfl) rfl ?_
              refine L_nil ?_
              refine hK30 _ _ ?_
              refine T_cond rfl (fun h63 => ?_) (fun h63 => ?_)
              ·
                obtain ⟨x, hx⟩ : ∃ x, l[k]? = some x := ⟨_, List.getElem?_eq_getElem (by omega)⟩
                obtain ⟨y, hy⟩ : ∃ y, l[k + 1]? = some y := ⟨_, List.getElem?_eq_getElem (by omega)⟩
                refine T_skip ?_
                refine hK29 _ _ ?_
                refine T_seq fun K31 hK31 => ?_
                refine T_block ?_
                refine T_seq fun K32 hK32 => ?_
                refine T_drawnL [(0, true), (1, true), (2, true), (3, true), (5, true), (6, true), (7, true), (8, true), (9, true), (4, false), (10, false), (11, true)] hmix (by kernel_rfl) fun w8 l8 => ?_
                have S8 := S7.like l8
                refine DL_y rfl (y_move rfl) rfl ?_
                refine DL_y rfl (y_move rfl) rfl ?_
                refine DL_y rfl (y_idx Try.underlying22 sz39 rfl rfl (S8.rd hl) (Nt.mk (by omega) : Nt _ (k)) (by omega)) rfl ?_
                refine DL_y rfl (y_ldp (f := enf) enf_len Try.underlying39 rfl sz39 rfl (S8.rd hl) (by omega) hx) rfl ?_
                refine DL_y rfl (y_move rfl) rfl ?_
                refine DL_y rfl (y_move rfl) rfl ?_
                refine DL_y rfl (y_add rfl rfl (i64w (by omega))) rfl ?_
                refine DL_y rfl (y_idx Try.underlying22 sz39 rfl rfl (S8.rd hl) (Nt.mk (by omega) : Nt _ (k + 1)) (by omega)) rfl ?_
                refine DL_y rfl (y_ldp (f := enf) enf_len Try.underlying39 rfl sz39 rfl (S8.rd hl) (by omega) hy) rfl ?_
                refine DL_o rfl (o_call Try.func29 rfl rfl (rkey x w8) rfl rfl ?_)
                rintro e9 w9 ⟨v9, rfl, l9, rfl⟩
                refine ⟨_, rfl, l9, ?_⟩
                have S9 := S8.like l9
                have q9 := l9
                refine DL_o rfl (o_call Try.func29 rfl rfl (rkey y w9) rfl rfl ?_)
                rintro e10 w10 ⟨v10, rfl, l10, rfl⟩
                refine ⟨_, rfl, (Like.trans q9 l10), ?_⟩
                have S10 := S9.like l10
                have q10 := (Like.trans q9 l10)
                refine DL_y rfl (y_sgeq rfl rfl) rfl ?_
                refine DL_nil ?_
                refine hK32 _ _ ?_
                refine T_condB rfl (fun h77 => ?_) (fun h77 => ?_)
                ·
                  have hxy : ltK x y = false := by unfold ltK; simpa using h77
                  refine T_seq fun K33 hK33 => ?_
                  refine T_region ?_
                  refine L_y (y_assign rfl) rfl ?_
                  refine L_nil ?_
                  refine hK33 _ _ ?_
                  refine T_ret ?_
                  repeat (first | with_reducible refine up_then ?_ | with_reducible refine up_in ?_)
                  refine ret1 rfl rfl ?_
                  exact ⟨_, rfl, S10.like0, congrArg (Value.int _) (chkE_ord (by omega) hc1 hon ((risK_at l (k + 1) (fun j x y hj => hri j x y (by omega)) (by omega)).trans (risK_no hx hy hxy))).symm⟩
                ·
                  have hxy : ltK x y = true := by unfold ltK; simpa using h77
                  refine T_skip ?_
                  refine hK31 _ _ ?_
                  refine T_region ?_
                  refine L_y (y_move rfl) rfl ?_
                  refine L_y (y_add rfl rfl (i64w (by omega))) rfl ?_
                  refine L_y (y_assign rfl) rfl ?_
                  refine L_nil ?_
                  refine ⟨k + 1, by omega, ⟨⟨by omega, fun j a b hj ha hb => ris_next (k := k + 1) (fun j a b hj => hri j a b (by omega)) hx hy (by omega) hxy j a b (by omega) ha hb⟩, S10⟩, ?_⟩
                  exact (Sub.cons rfl (by first | rfl | exact congrArg (Value.int _) (by omega)) (Sub.cons rfl rfl (Sub.nil _)))
              ·
                refine T_exit ?_
                refine hK27 _ _ ?_
                refine T_seq fun K34 hK34 => ?_
                refine T_region ?_
                refine L_y (y_assign rfl) rfl ?_
                refine L_nil ?_
                refine hK34 _ _ ?_
                refine T_ret ?_
                repeat (first | with_reducible refine up_then ?_ | with_reducible refine up_in ?_)
                refine ret1 rfl rfl ?_
                exact ⟨_, rfl, S7.like0, congrArg (Value.int _) (chkE_ok (by omega) hc1 hon (risK_fin (k := k + 1) (fun j x y hj => hri j x y (by omega)) (by omega) (by omega))).symm⟩
end Go.Proofs.Ytmgimcdkeelnpaa
