/-
  tree.Check.
-/
import Derived.Test.YtmgimcdkeelnpaaI
import Derived.Test.YtmgimcdkeelnpaaZ4
namespace Go.Proofs.Ytmgimcdkeelnpaa
open Go.RowKit Zk Zx
set_option linter.unusedVariables false
set_option linter.unusedSimpArgs false

theorem ok_next {l : List EV} {k : Nat} {x : EV} (h : ∀ j e, j < k → l[j]? = some e → mdOk e.md ∧ nmOk e.nm = true) (hx : l[k]? = some x) (h1 : mdOk x.md) (h2 : nmOk x.nm = true) : ∀ j e, j < k + 1 → l[j]? = some e → mdOk e.md ∧ nmOk e.nm = true := fun j e hj he => by
  rcases Nat.lt_or_ge j k with q | q
  · exact h j e q he
  · obtain rfl : j = k := by omega
    rw [hx] at he
    cases he
    exact ⟨h1, h2⟩
theorem ris_next {l : List EV} {k : Nat} {x y : EV} (h : ∀ j x y, j + 1 < k → l[j]? = some x → l[j + 1]? = some y → ltK x y = true) (hx : l[k - 1]? = some x) (hy : l[k]? = some y) (h0 : 0 < k) (h1 : ltK x y = true) : ∀ j x y, j + 1 < k + 1 → l[j]? = some x → l[j + 1]? = some y → ltK x y = true := fun j a b hj ha hb => by
  rcases Nat.lt_or_ge (j + 1) k with q | q
  · exact h j a b q ha hb
  · obtain rfl : j = k - 1 := by omega
    rw [show k - 1 + 1 = k by omega] at hb
    rw [hx] at ha
    rw [hy] at hb
    cases ha
    cases hb
    exact h1
theorem enf_sz (x : EV) : (enf x).toArray.size = 34 := by rw [List.size_toArray, enf_len]
theorem szE (x : EV) : (Try.prog.info? 39).map (·.size) = some (enf x).toArray.size := sz39.trans (congrArg some (by rw [List.size_toArray, enf_len]))
theorem risK_fin {l : List EV} {k : Nat} (h : ∀ j x y, j + 1 < k → l[j]? = some x → l[j + 1]? = some y → ltK x y = true) (h1 : k ≤ l.length ∨ k = 1) (h2 : l.length ≤ k) : risK l = true := by
  rcases h1 with h1 | h1
  · exact (risK_at l k h h1).trans (risK_end (by omega))
  · subst h1
    match l, h2 with
    | [], _ => rfl
    | [x], _ => rfl
    | x :: y :: m, h2 => simp at h2
theorem chkE_long {l : List EV} (h : 64 < l.length) : chkE l = 3 := by unfold chkE; rw [if_pos h]
theorem chkE_one {l : List EV} {c : Int} (h : ¬ 64 < l.length) (h1 : chk1 l = c) (hc : c ≠ 0) : chkE l = c := by unfold chkE; rw [if_neg h, if_pos (by rw [h1]; exact hc), h1]
theorem chkE_twice {l : List EV} (h : ¬ 64 < l.length) (h1 : chk1 l = 0) (h2 : ¬ once l) : chkE l = 17 := by unfold chkE; rw [if_neg h, if_neg (by omega), if_pos h2]
theorem chkE_ord {l : List EV} (h : ¬ 64 < l.length) (h1 : chk1 l = 0) (h2 : once l) (h3 : risK l = false) : chkE l = 18 := by unfold chkE; rw [if_neg h, if_neg (by omega), if_neg (fun x => x h2), if_pos h3]
theorem chkE_ok {l : List EV} (h : ¬ 64 < l.length) (h1 : chk1 l = 0) (h2 : once l) (h3 : risK l = true) : chkE l = 0 := by unfold chkE; rw [if_neg h, if_neg (by omega), if_neg (fun x => x h2), if_neg (by rw [h3]; exact fun x => by cases x)]


set_option maxRecDepth 100000 in
theorem pcheck (A : Option Addr) (n c : Nat) (l : List EV) (w0 : World) (hl : Rs w0 34 A n c (l.flatMap enf)) (hn5 : n ≤ 10000) :
    Calls Try.prog 10 #[.slice A n c] w0 fun e w' => ∃ u, e = .returned u ∧ Like w0 w' ∧ u = .int .i64 (chkE l) := by
  refine enter1 (env := [(0, .slice A n c)]) [.slice A n c] Try.func10 rfl Try.ntmps10 rfl rfl ?_
  have hn := ens_n hl; have hcap := hl.cap; have hmax := hl.max; have S0 := St.start w0 noM
  refine T_seq fun K1 hK1 => ?_
  refine T_region ?_
  refine L_y (y_assign rfl) rfl ?_
  refine L_nil ?_
  refine hK1 _ _ ?_
  refine T_seq fun K2 hK2 => ?_
  refine T_seq fun K3 hK3 => ?_
  refine T_region ?_
  refine L_y (y_move rfl) rfl ?_
  refine L_y (y_len Try.underlying22 rfl) rfl ?_
  refine L_y (y_gtr rfl rfl) rfl ?_
  refine L_nil ?_
  refine hK3 _ _ ?_
  refine T_cond rfl (fun h10 => ?_) (fun h10 => ?_)
  ·
    refine T_seq fun K4 hK4 => ?_
    refine T_region ?_
    refine L_y (y_assign rfl) rfl ?_
    refine L_nil ?_
    refine hK4 _ _ ?_
    refine T_ret ?_
    repeat (first | with_reducible refine up_then ?_ | with_reducible refine up_in ?_)
    refine ret1 rfl rfl ?_
    exact ⟨_, rfl, S0.like0, congrArg (Value.int _) (chkE_long (by omega)).symm⟩
  ·
    refine T_skip ?_
    refine hK2 _ _ ?_
    refine T_seq fun K5 hK5 => ?_
    refine T_region ?_
    refine L_o (o_makeMap (t := 57) (k := 9) (e := 4) S0 rfl fun b1 w1 hb1 S1 => ?_)
    refine L_y (y_assign rfl) rfl ?_
    refine L_nil ?_
    refine hK5 _ _ ?_
    refine T_seq fun K6 hK6 => ?_
    refine T_region ?_
    refine L_y (y_assign rfl) rfl ?_
    refine L_nil ?_
    refine hK6 _ _ ?_
    refine T_seq fun K7 hK7 => ?_
    refine T_seq fun K8 hK8 => ?_
    refine T_region ?_
    refine L_y (y_move rfl) rfl ?_
    refine L_y (y_len Try.underlying22 rfl) rfl ?_
    refine L_y (y_move rfl) rfl ?_
    refine L_nil ?_
    refine hK8 _ _ ?_
    refine T_block ?_
    refine T_loop3 [(0, _), (3, _), (12, _), (13, _)] (fun (k : Nat) (tw : Bool) (D : DU) => [(14, .int .i64 (k : Int)), (4, .bool tw)]) (fun (k : Nat) (tw : Bool) (D : DU) => n - k) (fun (k : Nat) (tw : Bool) (D : DU) (w : World) => (k ≤ n ∧ (∀ j e, j < k → l[j]? = some e → mdOk e.md ∧ nmOk e.nm = true) ∧ tw = decide (¬ once (l.take k)) ∧ SM D ((l.take k).map EV.nm)) ∧ St w0 noM [mapR Try.prog 9 4 b1 k D] w) 0 false (.map []) (Sub.cons rfl (by first | rfl | exact congrArg (Value.int _) (by omega)) (Sub.cons rfl (by first | rfl | exact congrArg (Value.int _) (by omega)) (Sub.nil _))) (Sub.cons rfl rfl (Sub.cons rfl rfl (Sub.cons rfl rfl (Sub.cons rfl rfl (Sub.nil _))))) ?_ ?_
    ·
      exact ⟨⟨Nat.zero_le _, fun j e hj => absurd hj (by omega), by simp [once], SM.nil⟩, S1⟩
    ·
      intro k tw D w2 hrel
      obtain ⟨⟨hk, hok, htw, hsm⟩, S2⟩ := hrel
      refine T_seq fun K9 hK9 => ?_
      refine T_region ?_
      refine L_y (y_lss rfl rfl) rfl ?_
      refine L_nil ?_
      refine hK9 _ _ ?_
      refine T_seq fun K10 hK10 => ?_
      refine T_cond rfl (fun h15 => ?_) (fun h15 => ?_)
      ·
        obtain ⟨x, hx⟩ : ∃ x, l[k]? = some x := ⟨_, List.getElem?_eq_getElem (by omega)⟩
        refine T_skip ?_
        refine hK10 _ _ ?_
        refine T_seq fun K11 hK11 => ?_
        refine T_block ?_
        refine T_seq fun K12 hK12 => ?_
        refine T_region ?_
        refine L_y (y_idx Try.underlying22 sz39 rfl rfl (S2.rd hl) (Nt.mk (by omega) : Nt _ (k)) (by omega)) rfl ?_
        refine L_y (y_ldp (f := enf) enf_len Try.underlying39 rfl sz39 rfl (S2.rd hl) (by omega) hx) rfl ?_
        refine L_o (o_alloc zz39 S2 rfl fun b3 w3 hb3 S3 => ?_)
        refine L_o (o_stW S3 1 rfl rfl rfl (szE x) ((enf_sz x).trans (by kernel_rfl)) (enf_one x) fun w4 S4 => ?_)
        refine L_nil ?_
        refine hK12 _ _ ?_
        refine T_seq fun K13 hK13 => ?_
        refine T_seq fun K14 hK14 => ?_
        refine T_region ?_
        refine L_y (y_fieldA 1 Try.underlying39 rfl sz3 rfl rfl rfl) rfl ?_
        refine L_y (y_ldc Try.underlying3 rfl rfl (((S4.blk 1 rfl).cell _).trans (by rfl))) rfl ?_
        refine L_o (o_call Try.func26 rfl rfl (mode_ x.md w4) rfl rfl ?_)
        rintro e5 w5 ⟨v5, rfl, l5, rfl⟩
        refine ⟨_, rfl, ?_⟩
        have S5 := S4.like l5
        refine L_y ((by first | exact y_notD rfl | exact y_not rfl)) rfl ?_
        refine L_nil ?_
        refine hK14 _ _ ?_
        refine T_cond rfl (fun h21 => ?_) (fun h21 => ?_)
        ·
          have hmd : ¬ mdOk x.md := h21
          refine T_seq fun K15 hK15 => ?_
          refine T_region ?_
          refine L_y (y_assign rfl) rfl ?_
          refine L_nil ?_
          refine hK15 _ _ ?_
          refine T_ret ?_
          repeat (first | with_reducible refine up_then ?_ | with_reducible refine up_in ?_)
          refine ret1 rfl rfl ?_
          exact ⟨_, rfl, S5.like0, congrArg (Value.int _) (chkE_one (by omega) ((chk1_at k hok (by omega)).trans (chk1_md hx hmd)) (by decide)).symm⟩
        ·
          have hmd : mdOk x.md := Decidable.not_not.1 h21
          refine T_skip ?_
          refine hK13 _ _ ?_
          refine T_seq fun K16 hK16 => ?_
          refine T_seq fun K17 hK17 => ?_
          refine T_region ?_
          refine L_y (y_fieldA 0 Try.underlying39 rfl sz9 rfl rfl rfl) rfl ?_
          refine L_y (y_ldc Try.underlying9 rfl rfl (((S5.blk 1 rfl).cell _).trans (by rfl))) rfl ?_
          refine L_o (o_call Try.func27 rfl rfl (pname x.nm w5) rfl rfl ?_)
          rintro e6 w6 ⟨v6, rfl, l6, rfl⟩
          refine ⟨_, rfl, ?_⟩
          have S6 := S5.like l6
          refine L_y ((by first | exact y_notD rfl | exact y_not rfl)) rfl ?_
          refine L_nil ?_
          refine hK17 _ _ ?_
          refine T_condB rfl (fun h25 => ?_) (fun h25 => ?_)
          ·
            have hnm : nmOk x.nm = false := by simpa using h25
            refine T_seq fun K18 hK18 => ?_
            refine T_region ?_
            refine L_y (y_assign rfl) rfl ?_
            refine L_nil ?_
            refine hK18 _ _ ?_
            refine T_ret ?_
            repeat (first | with_reducible refine up_then ?_ | with_reducible refine up_in ?_)
            refine ret1 rfl rfl ?_
            exact ⟨_, rfl, S6.like0, congrArg (Value.int _) (chkE_one (by omega) ((chk1_at k hok (by omega)).trans (chk1_nm hx hmd hnm)) (by decide)).symm⟩
          ·
            have hnm : nmOk x.nm = true := by simpa using h25
            refine T_skip ?_
            refine hK16 _ _ ?_
            refine T_seq fun K19 hK19 => ?_
            refine T_region ?_
            refine L_y (y_move rfl) rfl ?_
            refine L_y (y_move rfl) rfl ?_
            refine L_splitB 27 rfl (fun h27 => ?_) (fun h27 => ?_)
            ·
              refine L_gno rfl rfl rfl ?_
              refine L_gno rfl rfl rfl ?_
              refine L_gno rfl rfl rfl ?_
              refine L_gno rfl rfl rfl ?_
              refine L_y ((by first | exact y_pickT rfl rfl | exact y_pickF rfl rfl)) rfl ?_
              refine L_y (y_assign rfl) rfl ?_
              refine L_nil ?_
              refine hK19 _ _ ?_
              refine T_region ?_
              refine L_y (y_move rfl) rfl ?_
              refine L_y (y_fieldA 0 Try.underlying39 rfl sz9 rfl rfl rfl) rfl ?_
              refine L_y (y_ldc Try.underlying9 rfl rfl (((S6.blk 1 rfl).cell _).trans (by rfl))) rfl ?_
              refine L_o (o_mapUpZ S6 0 rfl Try.underlying9 Try.underlying57 Try.underlying4 rfl rfl rfl (Nat.le_trans x.h.2 (by decide)) (by omega) fun w8 S8 => ?_)
              refine L_nil ?_
              refine hK11 _ _ ?_
              refine T_region ?_
              refine L_y (y_add rfl rfl (i64w (by omega))) rfl ?_
              refine L_y (y_move rfl) rfl ?_
              refine L_nil ?_
              have hon2 : true = decide (¬ once (l.take (k + 1))) := by have h8 : ¬ once (l.take k) := of_decide_eq_true (htw.symm.trans h27); rw [eq_comm, decide_eq_true_iff]; exact fun h9 => h8 (once_down h9)
              have S9 := S8.drop (.cons_cons _ (.cons _ (.refl _)))
              refine ⟨k + 1, _, _, by omega, ⟨⟨by omega, ok_next hok hx hmd hnm, hon2, by rw [take_sn2 hx, List.map_append]; exact hsm.put x.nm⟩, S9⟩, ?_⟩
              exact (Sub.cons rfl (by first | rfl | exact congrArg (Value.int _) (by omega)) (Sub.cons rfl (by first | rfl | exact congrArg (Value.int _) (by omega)) (Sub.cons rfl rfl (Sub.cons rfl rfl (Sub.cons rfl rfl (Sub.cons rfl rfl (Sub.nil _)))))))
            ·
              refine L_gyes rfl rfl ?_
              refine L_y (y_move rfl) rfl ?_
              refine L_gyes rfl rfl ?_
              refine L_y (y_fieldA 0 Try.underlying39 rfl sz9 rfl rfl rfl) rfl ?_
              refine L_gyes rfl rfl ?_
              refine L_y (y_ldc Try.underlying9 rfl rfl (((S6.blk 1 rfl).cell _).trans (by rfl))) rfl ?_
              refine L_gyes rfl rfl ?_
              refine L_y (y_lookZ (S6.get 0 rfl) Try.underlying9 Try.underlying57 Try.underlying4 zz4 rfl rfl (Nat.le_trans x.h.2 (by decide)) hsm) rfl ?_
              refine L_y ((by first | exact y_pickT rfl rfl | exact y_pickF rfl rfl)) rfl ?_
              refine L_y (y_assign rfl) rfl ?_
              refine L_nil ?_
              refine hK19 _ _ ?_
              refine T_region ?_
              refine L_y (y_move rfl) rfl ?_
              refine L_y (y_fieldA 0 Try.underlying39 rfl sz9 rfl rfl rfl) rfl ?_
              refine L_y (y_ldc Try.underlying9 rfl rfl (((S6.blk 1 rfl).cell _).trans (by rfl))) rfl ?_
              refine L_o (o_mapUpZ S6 0 rfl Try.underlying9 Try.underlying57 Try.underlying4 rfl rfl rfl (Nat.le_trans x.h.2 (by decide)) (by omega) fun w9 S9 => ?_)
              refine L_nil ?_
              refine hK11 _ _ ?_
              refine T_region ?_
              refine L_y (y_add rfl rfl (i64w (by omega))) rfl ?_
              refine L_y (y_move rfl) rfl ?_
              refine L_nil ?_
              have hon2 : hasS ((l.take k).map EV.nm) x.nm = decide (¬ once (l.take (k + 1))) := by rw [Bool.eq_iff_iff, hasS_iff, decide_eq_true_iff]; have h8 : once (l.take k) := Decidable.not_not.1 (of_decide_eq_false (htw.symm.trans h27)); exact ⟨fun h => not_onceT hx h, fun h => Classical.byContradiction fun h9 => h (once_snoc hx h8 h9)⟩
              have S9 := S9.drop (.cons_cons _ (.cons _ (.refl _)))
              refine ⟨k + 1, _, _, by omega, ⟨⟨by omega, ok_next hok hx hmd hnm, hon2, by rw [take_sn2 hx, List.map_append]; exact hsm.put x.nm⟩, S9⟩, ?_⟩
              exact (Sub.cons rfl (by first | rfl | exact congrArg (Value.int _) (by omega)) (Sub.cons rfl (by first | rfl | exact congrArg (Value.int _) (by omega)) (Sub.cons rfl rfl (Sub.cons rfl rfl (Sub.cons rfl rfl (Sub.cons rfl rfl (Sub.nil _)))))))
      ·
        have hkn : k = n := by omega
        rw [List.take_of_length_le (by omega)] at htw
        have hc1 : chk1 l = 0 := (chk1_at k hok (by omega)).trans (by rw [List.drop_of_length_le (by omega)]; rfl)
        refine T_exit ?_
        refine hK7 _ _ ?_
        refine T_seq fun K20 hK20 => ?_
        refine T_seq fun K21 hK21 => ?_
        refine T_region ?_
        refine L_y (y_move rfl) rfl ?_
        refine L_nil ?_
        refine hK21 _ _ ?_
        refine T_condB rfl (fun h37 => ?_) (fun h37 => ?_)
        ·
          have hon : ¬ once l := of_decide_eq_true (htw.symm.trans h37)
          refine T_seq fun K22 hK22 => ?_
          refine T_region ?_
          refine L_y (y_assign rfl) rfl ?_
          refine L_nil ?_
          refine hK22 _ _ ?_
          refine T_ret ?_
          repeat (first | with_reducible refine up_then ?_ | with_reducible refine up_in ?_)
          refine ret1 rfl rfl ?_
          exact ⟨_, rfl, S2.like0, congrArg (Value.int _) (chkE_twice (by omega) hc1 hon).symm⟩
        ·
          have hon : once l := Decidable.not_not.1 (of_decide_eq_false (htw.symm.trans h37))
          refine T_skip ?_
          refine hK20 _ _ ?_
          refine T_seq fun K23 hK23 => ?_
          refine T_seq fun K24 hK24 => ?_
          refine T_region ?_
          refine L_y (y_assign rfl) rfl ?_
          refine L_nil ?_
          refine hK24 _ _ ?_
          refine T_block ?_
          refine T_loop1 [(0, _)] (fun (k : Nat) => [(7, .int .i64 (k : Int))]) (fun (k : Nat) => n - k) (fun (k : Nat) (w : World) => ((1 ≤ k ∧ (k ≤ n ∨ k = 1)) ∧ (∀ j x y, j + 1 < k → l[j]? = some x → l[j + 1]? = some y → ltK x y = true)) ∧ St w0 noM [] w) 1 (Sub.cons rfl (by first | rfl | exact congrArg (Value.int _) (by omega)) (Sub.nil _)) (Sub.cons rfl rfl (Sub.nil _)) ?_ ?_
          ·
            exact ⟨⟨⟨Nat.le_refl _, .inr rfl⟩, fun j x y hj => absurd hj (by omega)⟩, S2.drop (.cons _ (.refl _))⟩
          ·
            intro k w10 hrel
            obtain ⟨⟨⟨hk1, hk2⟩, hri⟩, S10⟩ := hrel
            refine T_seq fun K25 hK25 => ?_
            refine T_seq fun K26 hK26 => ?_
            refine T_region ?_
            refine L_y (y_move rfl) rfl ?_
            refine L_y (y_move rfl) rfl ?_
            refine L_y (y_len Try.underlying22 rfl) rfl ?_
            refine L_y (y_lss rfl rfl) rfl ?_
            refine L_nil ?_
            refine hK26 _ _ ?_
            refine T_cond rfl (fun h41 => ?_) (fun h41 => ?_)
            ·
              obtain ⟨x, hx⟩ : ∃ x, l[k - 1]? = some x := ⟨_, List.getElem?_eq_getElem (by omega)⟩
              obtain ⟨y, hy⟩ : ∃ y, l[k]? = some y := ⟨_, List.getElem?_eq_getElem (by omega)⟩
              refine T_skip ?_
              refine hK25 _ _ ?_
              refine T_seq fun K27 hK27 => ?_
              refine T_block ?_
              refine T_seq fun K28 hK28 => ?_
              refine T_tail 9 hmix (by kernel_rfl) fun w11 l11 K29 hK29 => ?_
              have S11 := S10.like l11
              refine HL_y (y_move rfl) rfl ?_
              refine HL_y (y_move rfl) rfl ?_
              refine HL_y (y_sub rfl rfl (i64w (by omega))) rfl ?_
              refine HL_y (y_idx Try.underlying22 sz39 rfl rfl (S11.rd hl) (Nt.mk (by omega) : Nt _ (k - 1)) (by omega)) rfl ?_
              refine HL_y (y_ldp (f := enf) enf_len Try.underlying39 rfl sz39 rfl (S11.rd hl) (by omega) hx) rfl ?_
              refine HL_y (y_move rfl) rfl ?_
              refine HL_y (y_move rfl) rfl ?_
              refine HL_y (y_idx Try.underlying22 sz39 rfl rfl (S11.rd hl) (Nt.mk (by omega) : Nt _ (k)) (by omega)) rfl ?_
              refine HL_y (y_ldp (f := enf) enf_len Try.underlying39 rfl sz39 rfl (S11.rd hl) (by omega) hy) rfl ?_
              refine HL_nil ?_
              refine hK29 _ ?_
              refine L_o (o_call Try.func25 rfl rfl (order x y w11) rfl rfl ?_)
              rintro e12 w12 ⟨v12, rfl, l12, v53, rfl, hv53⟩
              refine ⟨_, rfl, ?_⟩
              have S12 := S11.like l12
              refine L_y (y_geq rfl rfl) rfl ?_
              refine L_nil ?_
              refine hK28 _ _ ?_
              refine T_cond rfl (fun h54 => ?_) (fun h54 => ?_)
              ·
                have hxy : ltK x y = false := by cases h9 : ltK x y with | false => rfl | true => exact absurd (hv53.2 h9) (by omega)
                refine T_seq fun K30 hK30 => ?_
                refine T_region ?_
                refine L_y (y_assign rfl) rfl ?_
                refine L_nil ?_
                refine hK30 _ _ ?_
                refine T_ret ?_
                repeat (first | with_reducible refine up_then ?_ | with_reducible refine up_in ?_)
                refine ret1 rfl rfl ?_
                exact ⟨_, rfl, S12.like0, congrArg (Value.int _) (chkE_ord (by omega) hc1 hon ((risK_at l k hri (by omega)).trans (risK_no hx (by rw [show k - 1 + 1 = k by omega]; exact hy) hxy))).symm⟩
              ·
                have hxy : ltK x y = true := hv53.1 (by omega)
                refine T_skip ?_
                refine hK27 _ _ ?_
                refine T_region ?_
                refine L_y (y_move rfl) rfl ?_
                refine L_y (y_add rfl rfl (i64w (by omega))) rfl ?_
                refine L_y (y_assign rfl) rfl ?_
                refine L_nil ?_
                refine ⟨k + 1, by omega, ⟨⟨⟨by omega, by omega⟩, ris_next hri hx hy (by omega) hxy⟩, S12⟩, ?_⟩
                exact (Sub.cons rfl (congrArg (Value.int _) (by omega)) (Sub.cons rfl rfl (Sub.nil _)))
            ·
              refine T_exit ?_
              refine hK23 _ _ ?_
              refine T_seq fun K31 hK31 => ?_
              refine T_region ?_
              refine L_y (y_assign rfl) rfl ?_
              refine L_nil ?_
              refine hK31 _ _ ?_
              refine T_ret ?_
              repeat (first | with_reducible refine up_then ?_ | with_reducible refine up_in ?_)
              refine ret1 rfl rfl ?_
              exact ⟨_, rfl, S10.like0, congrArg (Value.int _) (chkE_ok (by omega) hc1 hon (risK_fin hri (by omega) (by omega))).symm⟩
end Go.Proofs.Ytmgimcdkeelnpaa
