import Derived.Test.YtmgimcdkeelnpaaMgPutsW2
import Derived.Test.YtmgimcdkeelnpaaMgPutsW1
import Derived.Test.YtmgimcdkeelnpaaRows
import Derived.Deep.CondSized
import Derived.JoinedCond
import Derived.Lib.AppendStr
import Derived.SizedLaws

/-
  tree.Check.
-/
namespace Go.Proofs.Ytmgimcdkeelnpaa
open Go.RowKit Zk Zx
set_option linter.unusedVariables false
set_option linter.unusedSimpArgs false

theorem ok_next {l : List EV} {k : Nat} {x : EV} (h : ∀ j e, j < k → l[j]? = some e → mdOk e.md ∧ nmOk e.nm = true) (hx : l[k]? = some x) (h1 : mdOk x.md) (h2 : nmOk x.nm = true) : ∀ j e, j < k + 1 → l[j]? = some e → mdOk e.md ∧ nmOk e.nm = true := fun j e hj he => by
  rcases Nat.lt_or_ge j k with q | q
  · exact h j e q he
  · obtain rfl : j = k := by omega
    rw [hx] at he
    cases he
    exact ⟨h1, h2⟩
theorem ris_next {l : List EV} {k : Nat} {x y : EV} (h : ∀ j x y, j + 1 < k → l[j]? = some x → l[j + 1]? = some y → ltK x y = true) (hx : l[k - 1]? = some x) (hy : l[k]? = some y) (h0 : 0 < k) (h1 : ltK x y = true) : ∀ j x y, j + 1 < k + 1 → l[j]? = some x → l[j + 1]? = some y → ltK x y = true := fun j a b hj ha hb => by
  rcases Nat.lt_or_ge (j + 1) k with q | q
  · exact h j a b q ha hb
  · obtain rfl : j = k - 1 := by omega
    rw [show k - 1 + 1 = k by omega] at hb
    rw [hx] at ha
    rw [hy] at hb
    cases ha
    cases hb
    exact h1
theorem enf_sz (x : EV) : (enf x).toArray.size = 34 := by rw [List.size_toArray, enf_len]
theorem szE (x : EV) : (Try.prog.info? 39).map (·.size) = some (enf x).toArray.size := sz39.trans (congrArg some (by rw [List.size_toArray, enf_len]))
theorem risK_fin {l : List EV} {k : Nat} (h : ∀ j x y, j + 1 < k → l[j]? = some x → l[j + 1]? = some y → ltK x y = true) (h1 : k ≤ l.length ∨ k = 1) (h2 : l.length ≤ k) : risK l = true := by
  rcases h1 with h1 | h1
  · exact (risK_at l k h h1).trans (risK_end (by omega))
  · subst h1
    match l, h2 with
    | [], _ => rfl
    | [x], _ => rfl
    | x :: y :: m, h2 => simp at h2
theorem chkE_long {l : List EV} (h : 64 < l.length) : chkE l = 3 := by unfold chkE; rw [if_pos h]
theorem chkE_one {l : List EV} {c : Int} (h : ¬ 64 < l.length) (h1 : chk1 l = c) (hc : c ≠ 0) : chkE l = c := by unfold chkE; rw [if_neg h, if_pos (by rw [h1]; exact hc), h1]
theorem chkE_twice {l : List EV} (h : ¬ 64 < l.length) (h1 : chk1 l = 0) (h2 : ¬ once l) : chkE l = 17 := by unfold chkE; rw [if_neg h, if_neg (by omega), if_pos h2]
theorem chkE_ord {l : List EV} (h : ¬ 64 < l.length) (h1 : chk1 l = 0) (h2 : once l) (h3 : risK l = false) : chkE l = 18 := by unfold chkE; rw [if_neg h, if_neg (by omega), if_neg (fun x => x h2), if_pos h3]
theorem chkE_ok {l : List EV} (h : ¬ 64 < l.length) (h1 : chk1 l = 0) (h2 : once l) (h3 : risK l = true) : chkE l = 0 := by unfold chkE; rw [if_neg h, if_neg (by omega), if_neg (fun x => x h2), if_neg (by rw [h3]; exact fun x => by cases x)]


set_option maxRecDepth 100000 in
theorem pcheck (A : Option Addr) (n c : Nat) (l : List EV) (w0 : World) (hl : Rs w0 34 A n c (l.flatMap enf)) (hn5 : n ≤ 10000) :
    Calls Try.prog 10 #[.slice A n c] w0 fun e w' => ∃ u, e = .returned u ∧ Like w0 w' ∧ u = .int .i64 (chkE l) := by
  refine enter1 (env := [(0, .slice A n c)]) [.slice A n c] Try.func10 rfl Try.ntmps10 rfl rfl ?_
  have hn := ens_n hl; have hcap := hl.cap; have hmax := hl.max; have S0 := St.start w0 noM
  refine T_seq fun K1 hK1 => ?_
  refine T_region ?_
  refine L_y (y_assign rfl) rfl ?_
  refine L_nil ?_
  refine hK1 _ _ ?_
  refine T_seq fun K2 hK2 => ?_
  refine T_seq fun K3 hK3 => ?_
  refine T_region ?_
  refine L_y (y_move rfl) rfl ?_
  refine L_y (y_len Try.underlying22 rfl) rfl ?_
  refine L_y (y_gtr rfl rfl) rfl ?_
  refine L_nil ?_
  refine hK3 _ _ ?_
  refine T_cond rfl (fun h10 => ?_) (fun h10 => ?_)
  ·
    refine T_seq fun K4 hK4 => ?_
    refine T_region ?_
    refine L_y (y_assign rfl) rfl ?_
    refine L_nil ?_
    refine hK4 _ _ ?_
    refine T_ret ?_
    refine ur ?_
    refine ret1 rfl rfl ?_
    exact ⟨_, rfl, S0.like0, congrArg (Value.int _) (chkE_long (by omega)).symm⟩
  ·
    refine T_skip ?_
    refine hK2 _ _ ?_
    refine T_seq fun K5 hK5 => ?_
    refine T_region ?_
    refine L_o (o_makeMap (t := 57) (k := 9) (e := 4) S0 rfl fun b1 w1 hb1 S1 => ?_)
    refine L_y (y_assign rfl) rfl ?_
    refine L_nil ?_
    refine hK5 _ _ ?_
    refine T_seq fun K6 hK6 => ?_
    refine T_region ?_
    refine L_y (y_assign rfl) rfl ?_
    refine L_nil ?_
    refine hK6 _ _ ?_
    refine T_seq fun K7 hK7 => ?_
    refine T_seq fun K8 hK8 => ?_
    refine T_region ?_
    refine L_y (y_move rfl) rfl ?_
    refine L_y (y_len Try.underlying22 rfl) rfl ?_
    refine L_y (y_move rfl) rfl ?_
    refine L_nil ?_
    refine hK8 _ _ ?_
    refine T_block ?_
    refine T_loop3 [(0, _), (3, _), (12, _), (13, _)] (fun (k : Nat) (tw : Bool) (D : DU) => [(14, .int .i64 (k : Int)), (4, .bool tw)]) (fun (k : Nat) (tw : Bool) (D : DU) => n - k) (fun (k : Nat) (tw : Bool) (D : DU) (w : World) => (k ≤ n ∧ (∀ j e, j < k → l[j]? = some e → mdOk e.md ∧ nmOk e.nm = true) ∧ tw = decide (¬ once (l.take k)) ∧ SM D ((l.take k).map EV.nm)) ∧ St w0 noM [mapR Try.prog 9 4 b1 k D] w) 0 false (.map []) (Sub.cons rfl (by first | rfl | exact congrArg (Value.int _) (by omega)) (Sub.cons rfl (by first | rfl | exact congrArg (Value.int _) (by omega)) (Sub.nil _))) (Sub.cons rfl rfl (Sub.cons rfl rfl (Sub.cons rfl rfl (Sub.cons rfl rfl (Sub.nil _))))) ?_ ?_
    ·
      exact ⟨⟨Nat.zero_le _, fun j e hj => absurd hj (by omega), by simp [once], SM.nil⟩, S1⟩
    ·
      intro k tw D w2 hrel
      obtain ⟨⟨hk, hok, htw, hsm⟩, S2⟩ := hrel
      refine T_seq fun K9 hK9 => ?_
      refine T_region ?_
      refine L_y (y_lss rfl rfl) rfl ?_
      refine L_nil ?_
      refine hK9 _ _ ?_
      refine T_seq fun K10 hK10 => ?_
      refine T_cond rfl (fun h15 => ?_) (fun h15 => ?_)
      ·
        obtain ⟨x, hx⟩ : ∃ x, l[k]? = some x := ⟨_, List.getElem?_eq_getElem (by omega)⟩
        refine T_skip ?_
        refine hK10 _ _ ?_
        refine T_seq fun K11 hK11 => ?_
        refine T_block ?_
        refine T_seq fun K12 hK12 => ?_
        refine T_region ?_
        refine L_y (y_idx Try.underlying22 sz39 rfl rfl (S2.rd hl) (Nt.mk (by omega) : Nt _ (k)) (by omega)) rfl ?_
        refine L_y (y_ldp (f := enf) enf_len Try.underlying39 rfl sz39 rfl (S2.rd hl) (by omega) hx) rfl ?_
        refine L_o (o_alloc zz39 S2 rfl fun b3 w3 hb3 S3 => ?_)
        refine L_o (o_stW S3 1 rfl rfl rfl (szE x) ((enf_sz x).trans (by kernel_rfl)) (enf_one x) fun w4 S4 => ?_)
        refine L_nil ?_
        refine hK12 _ _ ?_
        refine T_seq fun K13 hK13 => ?_
        refine T_seq fun K14 hK14 => ?_
        refine T_region ?_
        refine L_y (y_fieldA 1 Try.underlying39 rfl sz3 rfl rfl rfl) rfl ?_
        refine L_y (y_ldc Try.underlying3 rfl rfl (((S4.blk 1 rfl).cell _).trans (by rfl))) rfl ?_
        refine L_o (o_call Try.func26 rfl rfl (mode_ x.md w4) rfl rfl ?_)
        rintro e5 w5 ⟨v5, rfl, l5, rfl⟩
        refine ⟨_, rfl, ?_⟩
        have S5 := S4.like l5
        refine L_y ((by first | exact y_notD rfl | exact y_not rfl)) rfl ?_
        refine L_nil ?_
        refine hK14 _ _ ?_
        refine T_cond rfl (fun h21 => ?_) (fun h21 => ?_)
        ·
          have hmd : ¬ mdOk x.md := h21
          refine T_seq fun K15 hK15 => ?_
          refine T_region ?_
          refine L_y (y_assign rfl) rfl ?_
          refine L_nil ?_
          refine hK15 _ _ ?_
          refine T_ret ?_
          refine ur ?_
          refine ret1 rfl rfl ?_
          exact ⟨_, rfl, S5.like0, congrArg (Value.int _) (chkE_one (by omega) ((chk1_at k hok (by omega)).trans (chk1_md hx hmd)) (by decide)).symm⟩
        ·
          have hmd : mdOk x.md := Decidable.not_not.1 h21
          refine T_skip ?_
          refine hK13 _ _ ?_
          refine T_seq fun K16 hK16 => ?_
          refine T_seq fun K17 hK17 => ?_
          refine T_region ?_
          refine L_y (y_fieldA 0 Try.underlying39 rfl sz9 rfl rfl rfl) rfl ?_
          refine L_y (y_ldc Try.underlying9 rfl rfl (((S5.blk 1 rfl).cell _).trans (by rfl))) rfl ?_
          refine L_o (o_call Try.func27 rfl rfl (pname x.nm w5) rfl rfl ?_)
          rintro e6 w6 ⟨v6, rfl, l6, rfl⟩
          refine ⟨_, rfl, ?_⟩
          have S6 := S5.like l6
          refine L_y ((by first | exact y_notD rfl | exact y_not rfl)) rfl ?_
          refine L_nil ?_
          refine hK17 _ _ ?_
          refine T_condB rfl (fun h25 => ?_) (fun h25 => ?_)
          ·
            have hnm : nmOk x.nm = false := by simpa using h25
            refine T_seq fun K18 hK18 => ?_
            refine T_region ?_
            refine L_y (y_assign rfl) rfl ?_
            refine L_nil ?_
            refine hK18 _ _ ?_
            refine T_ret ?_
            refine ur ?_
            refine ret1 rfl rfl ?_
            exact ⟨_, rfl, S6.like0, congrArg (Value.int _) (chkE_one (by omega) ((chk1_at k hok (by omega)).trans (chk1_nm hx hmd hnm)) (by decide)).symm⟩
          ·
            have hnm : nmOk x.nm = true := by simpa using h25
            refine T_skip ?_
            refine hK16 _ _ ?_
            refine T_seq fun K19 hK19 => ?_
            refine T_region ?_
            refine L_y (y_move rfl) rfl ?_
            refine L_y (y_move rfl) rfl ?_
            refine L_splitB 27 rfl (fun h27 => ?_) (fun h27 => ?_)
            ·
              refine L_gno rfl rfl rfl ?_
              refine L_gno rfl rfl rfl ?_
              refine L_gno rfl rfl rfl ?_
              refine L_gno rfl rfl rfl ?_
              refine L_y (y_pk rfl rfl) rfl ?_
              refine L_y (y_assign rfl) rfl ?_
              refine L_nil ?_
              refine hK19 _ _ ?_
              refine T_region ?_
              refine L_y (y_move rfl) rfl ?_
              refine L_y (y_fieldA 0 Try.underlying39 rfl sz9 rfl rfl rfl) rfl ?_
              refine L_y (y_ldc Try.underlying9 rfl rfl (((S6.blk 1 rfl).cell _).trans (by rfl))) rfl ?_
              refine L_o (o_mapUpZ S6 0 rfl Try.underlying9 Try.underlying57 Try.underlying4 rfl rfl rfl (Nat.le_trans x.h.2 (by decide)) (by omega) fun w8 S8 => ?_)
              refine L_nil ?_
              refine hK11 _ _ ?_
              refine T_region ?_
              refine L_y (y_add rfl rfl (i64w (by omega))) rfl ?_
              refine L_y (y_move rfl) rfl ?_
              refine L_nil ?_
              have hon2 : true = decide (¬ once (l.take (k + 1))) := by have h8 : ¬ once (l.take k) := of_decide_eq_true (htw.symm.trans h27); rw [eq_comm, decide_eq_true_iff]; exact fun h9 => h8 (once_down h9)
              have S9 := S8.drop (.cons_cons _ (.cons _ (.refl _)))
              refine ⟨k + 1, _, _, by omega, ⟨⟨by omega, ok_next hok hx hmd hnm, hon2, by rw [take_sn2 hx, List.map_append]; exact hsm.put x.nm⟩, S9⟩, ?_⟩
              exact (Sub.cons rfl (by first | rfl | exact congrArg (Value.int _) (by omega)) (Sub.cons rfl (by first | rfl | exact congrArg (Value.int _) (by omega)) (Sub.cons rfl rfl (Sub.cons rfl rfl (Sub.cons rfl rfl (Sub.cons rfl rfl (Sub.nil _)))))))
            ·
              refine L_gyes rfl rfl ?_
              refine L_y (y_move rfl) rfl ?_
              refine L_gyes rfl rfl ?_
              refine L_y (y_fieldA 0 Try.underlying39 rfl sz9 rfl rfl rfl) rfl ?_
              refine L_gyes rfl rfl ?_
              refine L_y (y_ldc Try.underlying9 rfl rfl (((S6.blk 1 rfl).cell _).trans (by rfl))) rfl ?_
              refine L_gyes rfl rfl ?_
              refine L_y (y_lookZ (S6.get 0 rfl) Try.underlying9 Try.underlying57 Try.underlying4 zz4 rfl rfl (Nat.le_trans x.h.2 (by decide)) hsm) rfl ?_
              refine L_y (y_pk rfl rfl) rfl ?_
              refine L_y (y_assign rfl) rfl ?_
              refine L_nil ?_
              refine hK19 _ _ ?_
              refine T_region ?_
              refine L_y (y_move rfl) rfl ?_
              refine L_y (y_fieldA 0 Try.underlying39 rfl sz9 rfl rfl rfl) rfl ?_
              refine L_y (y_ldc Try.underlying9 rfl rfl (((S6.blk 1 rfl).cell _).trans (by rfl))) rfl ?_
              refine L_o (o_mapUpZ S6 0 rfl Try.underlying9 Try.underlying57 Try.underlying4 rfl rfl rfl (Nat.le_trans x.h.2 (by decide)) (by omega) fun w9 S9 => ?_)
              refine L_nil ?_
              refine hK11 _ _ ?_
              refine T_region ?_
              refine L_y (y_add rfl rfl (i64w (by omega))) rfl ?_
              refine L_y (y_move rfl) rfl ?_
              refine L_nil ?_
              have hon2 : hasS ((l.take k).map EV.nm) x.nm = decide (¬ once (l.take (k + 1))) := by rw [Bool.eq_iff_iff, hasS_iff, decide_eq_true_iff]; have h8 : once (l.take k) := Decidable.not_not.1 (of_decide_eq_false (htw.symm.trans h27)); exact ⟨fun h => not_onceT hx h, fun h => Classical.byContradiction fun h9 => h (once_snoc hx h8 h9)⟩
              have S9 := S9.drop (.cons_cons _ (.cons _ (.refl _)))
              refine ⟨k + 1, _, _, by omega, ⟨⟨by omega, ok_next hok hx hmd hnm, hon2, by rw [take_sn2 hx, List.map_append]; exact hsm.put x.nm⟩, S9⟩, ?_⟩
              exact (Sub.cons rfl (by first | rfl | exact congrArg (Value.int _) (by omega)) (Sub.cons rfl (by first | rfl | exact congrArg (Value.int _) (by omega)) (Sub.cons rfl rfl (Sub.cons rfl rfl (Sub.cons rfl rfl (Sub.cons rfl rfl (Sub.nil _)))))))
      ·
        have hkn : k = n := by omega
        rw [List.take_of_length_le (by omega)] at htw
        have hc1 : chk1 l = 0 := (chk1_at k hok (by omega)).trans (by rw [List.drop_of_length_le (by omega)]; rfl)
        refine T_exit ?_
        refine hK7 _ _ ?_
        refine T_seq fun K20 hK20 => ?_
        refine T_seq fun K21 hK21 => ?_
        refine T_region ?_
        refine L_y (y_move rfl) rfl ?_
        refine L_nil ?_
        refine hK21 _ _ ?_
        refine T_condB rfl (fun h37 => ?_) (fun h37 => ?_)
        ·
          have hon : ¬ once l := of_decide_eq_true (htw.symm.trans h37)
          refine T_seq fun K22 hK22 => ?_
          refine T_region ?_
          refine L_y (y_assign rfl) rfl ?_
          refine L_nil ?_
          refine hK22 _ _ ?_
          refine T_ret ?_
          refine ur ?_
          refine ret1 rfl rfl ?_
          exact ⟨_, rfl, S2.like0, congrArg (Value.int _) (chkE_twice (by omega) hc1 hon).symm⟩
        ·
          have hon : once l := Decidable.not_not.1 (of_decide_eq_false (htw.symm.trans h37))
          refine T_skip ?_
          refine hK20 _ _ ?_
          refine T_seq fun K23 hK23 => ?_
          refine T_seq fun K24 hK24 => ?_
          refine T_region ?_
          refine L_y (y_assign rfl) rfl ?_
          refine L_nil ?_
          refine hK24 _ _ ?_
          refine T_block ?_
          refine T_loop1 [(0, _)] (fun (k : Nat) => [(7, .int .i64 (k : Int))]) (fun (k : Nat) => n - k) (fun (k : Nat) (w : World) => ((1 ≤ k ∧ (k ≤ n ∨ k = 1)) ∧ (∀ j x y, j + 1 < k → l[j]? = some x → l[j + 1]? = some y → ltK x y = true)) ∧ St w0 noM [] w) 1 (Sub.cons rfl (by first | rfl | exact congrArg (Value.int _) (by omega)) (Sub.nil _)) (Sub.cons rfl rfl (Sub.nil _)) ?_ ?_
          ·
            exact ⟨⟨⟨Nat.le_refl _, .inr rfl⟩, fun j x y hj => absurd hj (by omega)⟩, S2.drop (.cons _ (.refl _))⟩
          ·
            intro k w10 hrel
            obtain ⟨⟨⟨hk1, hk2⟩, hri⟩, S10⟩ := hrel
            refine T_seq fun K25 hK25 => ?_
            refine T_seq fun K26 hK26 => ?_
            refine T_region ?_
            refine L_y (y_move rfl) rfl ?_
            refine L_y (y_move rfl) rfl ?_
            refine L_y (y_len Try.underlying22 rfl) rfl ?_
            refine L_y (y_lss rfl rfl) rfl ?_
            refine L_nil ?_
            refine hK26 _ _ ?_
            refine T_cond rfl (fun h41 => ?_) (fun h41 => ?_)
            ·
              obtain ⟨x, hx⟩ : ∃ x, l[k - 1]? = some x := ⟨_, List.getElem?_eq_getElem (by omega)⟩
              obtain ⟨y, hy⟩ : ∃ y, l[k]? = some y := ⟨_, List.getElem?_eq_getElem (by omega)⟩
              refine T_skip ?_
              refine hK25 _ _ ?_
              refine T_seq fun K27 hK27 => ?_
              refine T_block ?_
              refine T_seq fun K28 hK28 => ?_
              refine T_tail 9 hmix (by kernel_rfl) fun w11 l11 K29 hK29 => ?_
              have S11 := S10.like l11
              refine HL_y (y_move rfl) rfl ?_
              refine HL_y (y_move rfl) rfl ?_
              refine HL_y (y_sub rfl rfl (i64w (by omega))) rfl ?_
              refine HL_y (y_idx Try.underlying22 sz39 rfl rfl (S11.rd hl) (Nt.mk (by omega) : Nt _ (k - 1)) (by omega)) rfl ?_
              refine HL_y (y_ldp (f := enf) enf_len Try.underlying39 rfl sz39 rfl (S11.rd hl) (by omega) hx) rfl ?_
              refine HL_y (y_move rfl) rfl ?_
              refine HL_y (y_move rfl) rfl ?_
              refine HL_y (y_idx Try.underlying22 sz39 rfl rfl (S11.rd hl) (Nt.mk (by omega) : Nt _ (k)) (by omega)) rfl ?_
              refine HL_y (y_ldp (f := enf) enf_len Try.underlying39 rfl sz39 rfl (S11.rd hl) (by omega) hy) rfl ?_
              refine HL_nil ?_
              refine hK29 _ ?_
              refine L_o (o_call Try.func25 rfl rfl (order x y w11) rfl rfl ?_)
              rintro e12 w12 ⟨v12, rfl, l12, v53, rfl, hv53⟩
              refine ⟨_, rfl, ?_⟩
              have S12 := S11.like l12
              refine L_y (y_geq rfl rfl) rfl ?_
              refine L_nil ?_
              refine hK28 _ _ ?_
              refine T_cond rfl (fun h54 => ?_) (fun h54 => ?_)
              ·
                have hxy : ltK x y = false := by cases h9 : ltK x y with | false => rfl | true => exact absurd (hv53.2 h9) (by omega)
                refine T_seq fun K30 hK30 => ?_
                refine T_region ?_
                refine L_y (y_assign rfl) rfl ?_
                refine L_nil ?_
                refine hK30 _ _ ?_
                refine T_ret ?_
                refine ur ?_
                refine ret1 rfl rfl ?_
                exact ⟨_, rfl, S12.like0, congrArg (Value.int _) (chkE_ord (by omega) hc1 hon ((risK_at l k hri (by omega)).trans (risK_no hx (by rw [show k - 1 + 1 = k by omega]; exact hy) hxy))).symm⟩
              ·
                have hxy : ltK x y = true := hv53.1 (by omega)
                refine T_skip ?_
                refine hK27 _ _ ?_
                refine T_region ?_
                refine L_y (y_move rfl) rfl ?_
                refine L_y (y_add rfl rfl (i64w (by omega))) rfl ?_
                refine L_y (y_assign rfl) rfl ?_
                refine L_nil ?_
                refine ⟨k + 1, by omega, ⟨⟨⟨by omega, by omega⟩, ris_next hri hx hy (by omega) hxy⟩, S12⟩, ?_⟩
                exact (Sub.cons rfl (congrArg (Value.int _) (by omega)) (Sub.cons rfl rfl (Sub.nil _)))
            ·
              refine T_exit ?_
              refine hK23 _ _ ?_
              refine T_seq fun K31 hK31 => ?_
              refine T_region ?_
              refine L_y (y_assign rfl) rfl ?_
              refine L_nil ?_
              refine hK31 _ _ ?_
              refine T_ret ?_
              refine ur ?_
              refine ret1 rfl rfl ?_
              exact ⟨_, rfl, S10.like0, congrArg (Value.int _) (chkE_ok (by omega) hc1 hon (risK_fin hri (by omega) (by omega))).symm⟩
end Go.Proofs.Ytmgimcdkeelnpaa


/-
  The document: Check.
-/
namespace Go.Proofs.Ytmgimcdkeelnpaa
open Go.RowKit Zk Zx
set_option linter.unusedVariables false
set_option linter.unusedSimpArgs false

theorem once_in {l : List EV} {i k : Nat} {x : EV} (hi : l[i]? = some x) (hik : i < k) : x.nm ∈ (l.take k).map EV.nm :=
  List.mem_map.2 ⟨x, List.mem_of_getElem? (by rw [List.getElem?_take, if_pos hik]; exact hi), rfl⟩
theorem once_out {l : List EV} {k : Nat} {x : EV} (h : ∀ j y, j < k → l[j]? = some y → y.nm ≠ x.nm) : x.nm ∉ (l.take k).map EV.nm := fun hm => by
  obtain ⟨y, hy, e⟩ := List.mem_map.1 hm
  obtain ⟨j, hj, rfl⟩ := List.getElem_of_mem hy
  have hjk : j < k := by rw [List.length_take] at hj; omega
  exact h j _ hjk (by rw [List.getElem_take]; exact List.getElem?_eq_getElem _) e
theorem en_get (l : List EV) (k t : Nat) (x : EV) (hx : l[k]? = some x) (ht : t < 34) : (l.flatMap enf)[k * 34 + t]? = (enf x)[t]? := by
  have h := drop_hd2 hx
  have e : l = l.take k ++ x :: l.drop (k + 1) := by rw [← h, List.take_append_drop]
  have hk := (List.getElem?_eq_some_iff.1 hx).1
  rw [e, List.flatMap_append, List.flatMap_cons, List.getElem?_append_right (by rw [ens_len, List.length_take]; omega), ens_len, List.length_take, Nat.min_eq_left (by omega), Nat.add_sub_cancel_left, List.getElem?_append_left (by rw [enf_len]; exact ht)]
theorem en_nm {l : List EV} {k : Nat} {x : EV} (hx : l[k]? = some x) : (l.flatMap enf)[k * 34 + 0]? = some (.string x.nm) := (en_get l k 0 x hx (by omega)).trans rfl
theorem en_md {l : List EV} {k : Nat} {x : EV} (hx : l[k]? = some x) : (l.flatMap enf)[k * 34 + 1]? = some (.int .i64 x.md) := (en_get l k 1 x hx (by omega)).trans rfl


set_option maxRecDepth 100000 in
theorem rcheck (A : Option Addr) (n c : Nat) (l : List EV) (w0 : World) (hl : Rs w0 34 A n c (l.flatMap enf)) (hn5 : n ≤ 10000) :
    Calls Try.prog 11 #[.slice A n c] w0 fun e w' => ∃ u, e = .returned u ∧ Like w0 w' ∧ u = .int .i64 (chkE l) := by
  refine enter1 (env := [(0, .slice A n c)]) [.slice A n c] Try.func11 rfl Try.ntmps11 rfl rfl ?_
  have hn := ens_n hl; have hcap := hl.cap; have hmax := hl.max; have S0 := St.start w0 noM
  refine T_seq fun K1 hK1 => ?_
  refine T_region ?_
  refine L_y (y_assign rfl) rfl ?_
  refine L_nil ?_
  refine hK1 _ _ ?_
  refine T_seq fun K2 hK2 => ?_
  refine T_seq fun K3 hK3 => ?_
  refine T_region ?_
  refine L_y (y_move rfl) rfl ?_
  refine L_y (y_len Try.underlying22 rfl) rfl ?_
  refine L_y (y_gtr rfl rfl) rfl ?_
  refine L_nil ?_
  refine hK3 _ _ ?_
  refine T_cond rfl (fun h9 => ?_) (fun h9 => ?_)
  ·
    refine T_seq fun K4 hK4 => ?_
    refine T_region ?_
    refine L_y (y_assign rfl) rfl ?_
    refine L_nil ?_
    refine hK4 _ _ ?_
    refine T_ret ?_
    refine ur ?_
    refine ret1 rfl rfl ?_
    exact ⟨_, rfl, S0.like0, congrArg (Value.int _) (chkE_long (by omega)).symm⟩
  ·
    refine T_skip ?_
    refine hK2 _ _ ?_
    refine T_seq fun K5 hK5 => ?_
    refine T_seq fun K6 hK6 => ?_
    refine T_region ?_
    refine L_y (y_assign rfl) rfl ?_
    refine L_nil ?_
    refine hK6 _ _ ?_
    refine T_block ?_
    refine T_loop1 [(0, _)] (fun (k : Nat) => [(3, .int .i64 (k : Int))]) (fun (k : Nat) => n - k) (fun (k : Nat) (w : World) => (k ≤ n ∧ (∀ j e, j < k → l[j]? = some e → mdOk e.md ∧ nmOk e.nm = true)) ∧ St w0 noM [] w) 0 (Sub.cons rfl (by first | rfl | exact congrArg (Value.int _) (by omega)) (Sub.nil _)) (Sub.cons rfl rfl (Sub.nil _)) ?_ ?_
    ·
      exact ⟨⟨Nat.zero_le _, fun j e hj => absurd hj (by omega)⟩, S0⟩
    ·
      intro k w1 hrel
      obtain ⟨⟨hk, hok⟩, S1⟩ := hrel
      refine T_seq fun K7 hK7 => ?_
      refine T_seq fun K8 hK8 => ?_
      refine T_region ?_
      refine L_y (y_move rfl) rfl ?_
      refine L_y (y_move rfl) rfl ?_
      refine L_y (y_len Try.underlying22 rfl) rfl ?_
      refine L_y (y_lss rfl rfl) rfl ?_
      refine L_nil ?_
      refine hK8 _ _ ?_
      refine T_cond rfl (fun h13 => ?_) (fun h13 => ?_)
      ·
        obtain ⟨x, hx⟩ : ∃ x, l[k]? = some x := ⟨_, List.getElem?_eq_getElem (by omega)⟩
        refine T_skip ?_
        refine hK7 _ _ ?_
        refine T_seq fun K9 hK9 => ?_
        refine T_block ?_
        refine T_seq fun K10 hK10 => ?_
        refine T_seq fun K11 hK11 => ?_
        refine T_region ?_
        refine L_y (y_move rfl) rfl ?_
        refine L_y (y_move rfl) rfl ?_
        refine L_y (y_idx Try.underlying22 sz39 rfl rfl (S1.rd hl) (Nt.mk (by omega) : Nt _ (k)) (by omega)) rfl ?_
        refine L_y (y_fieldR 1 Try.underlying39 rfl sz3 rfl rfl (S1.rd hl) (by omega) rfl) rfl ?_
        refine L_y (y_ldf Try.underlying3 rfl rfl (S1.rd hl) (by omega) (en_md hx)) rfl ?_
        refine L_y (y_lss rfl rfl) rfl ?_
        refine L_y (y_move rfl) rfl ?_
        refine L_split 22 rfl (fun h22 => ?_) (fun h22 => ?_)
        ·
          have hmd : ¬ mdOk x.md := by unfold mdOk; omega
          refine L_gno rfl rfl rfl ?_
          refine L_gno rfl rfl rfl ?_
          refine L_gno rfl rfl rfl ?_
          refine L_gno rfl rfl rfl ?_
          refine L_gno rfl rfl rfl ?_
          refine L_gno rfl rfl rfl ?_
          refine L_y (y_pk rfl rfl) rfl ?_
          refine L_nil ?_
          refine hK11 _ _ ?_
          refine T_true rfl ?_
          refine T_seq fun K12 hK12 => ?_
          refine T_region ?_
          refine L_y (y_assign rfl) rfl ?_
          refine L_nil ?_
          refine hK12 _ _ ?_
          refine T_ret ?_
          refine ur ?_
          refine ret1 rfl rfl ?_
          exact ⟨_, rfl, S1.like0, congrArg (Value.int _) (chkE_one (by omega) ((chk1_at k hok (by omega)).trans (chk1_md hx hmd)) (by decide)).symm⟩
        ·
          refine L_gyes rfl rfl ?_
          refine L_y (y_move rfl) rfl ?_
          refine L_gyes rfl rfl ?_
          refine L_y (y_move rfl) rfl ?_
          refine L_gyes rfl rfl ?_
          refine L_y (y_idx Try.underlying22 sz39 rfl rfl (S1.rd hl) (Nt.mk (by omega) : Nt _ (k)) (by omega)) rfl ?_
          refine L_gyes rfl rfl ?_
          refine L_y (y_fieldR 1 Try.underlying39 rfl sz3 rfl rfl (S1.rd hl) (by omega) rfl) rfl ?_
          refine L_gyes rfl rfl ?_
          refine L_y (y_ldf Try.underlying3 rfl rfl (S1.rd hl) (by omega) (en_md hx)) rfl ?_
          refine L_gyes rfl rfl ?_
          refine L_y (y_gtr rfl rfl) rfl ?_
          refine L_y (y_pk rfl rfl) rfl ?_
          refine L_nil ?_
          refine hK11 _ _ ?_
          refine T_cond rfl (fun h29 => ?_) (fun h29 => ?_)
          ·
            have hmd : ¬ mdOk x.md := by unfold mdOk; omega
            refine T_seq fun K13 hK13 => ?_
            refine T_region ?_
            refine L_y (y_assign rfl) rfl ?_
            refine L_nil ?_
            refine hK13 _ _ ?_
            refine T_ret ?_
            refine ur ?_
            refine ret1 rfl rfl ?_
            exact ⟨_, rfl, S1.like0, congrArg (Value.int _) (chkE_one (by omega) ((chk1_at k hok (by omega)).trans (chk1_md hx hmd)) (by decide)).symm⟩
          ·
            have hmd : mdOk x.md := by unfold mdOk; omega
            refine T_skip ?_
            refine hK10 _ _ ?_
            refine T_seq fun K14 hK14 => ?_
            refine T_region ?_
            refine L_y (y_move rfl) rfl ?_
            refine L_y (y_move rfl) rfl ?_
            refine L_y (y_idx Try.underlying22 sz39 rfl rfl (S1.rd hl) (Nt.mk (by omega) : Nt _ (k)) (by omega)) rfl ?_
            refine L_y (y_fieldR 0 Try.underlying39 rfl sz9 rfl rfl (S1.rd hl) (by omega) rfl) rfl ?_
            refine L_y (y_ldf Try.underlying9 rfl rfl (S1.rd hl) (by omega) (en_nm hx)) rfl ?_
            refine L_o (o_call Try.func28 rfl rfl (rname x.nm w1) rfl rfl ?_)
            rintro e3 w3 ⟨v3, rfl, l3, rfl⟩
            refine ⟨_, rfl, ?_⟩
            have S3 := S1.like l3
            refine L_y ((by first | exact y_notD rfl | exact y_not rfl)) rfl ?_
            refine L_nil ?_
            refine hK14 _ _ ?_
            refine T_condB rfl (fun h36 => ?_) (fun h36 => ?_)
            ·
              have hnm : nmOk x.nm = false := by simpa using h36
              refine T_seq fun K15 hK15 => ?_
              refine T_region ?_
              refine L_y (y_assign rfl) rfl ?_
              refine L_nil ?_
              refine hK15 _ _ ?_
              refine T_ret ?_
              refine ur ?_
              refine ret1 rfl rfl ?_
              exact ⟨_, rfl, S3.like0, congrArg (Value.int _) (chkE_one (by omega) ((chk1_at k hok (by omega)).trans (chk1_nm hx hmd hnm)) (by decide)).symm⟩
            ·
              have hnm : nmOk x.nm = true := by simpa using h36
              refine T_skip ?_
              refine hK9 _ _ ?_
              refine T_region ?_
              refine L_y (y_move rfl) rfl ?_
              refine L_y (y_add rfl rfl (i64w (by omega))) rfl ?_
              refine L_y (y_assign rfl) rfl ?_
              refine L_nil ?_
              refine ⟨k + 1, by omega, ⟨⟨by omega, ok_next hok hx hmd hnm⟩, S3⟩, ?_⟩
              exact (Sub.cons rfl (by first | rfl | exact congrArg (Value.int _) (by omega)) (Sub.cons rfl rfl (Sub.nil _)))
      ·
        have hc1 : chk1 l = 0 := (chk1_at k hok (by omega)).trans (by rw [List.drop_of_length_le (by omega)]; rfl)
        refine T_exit ?_
        refine hK5 _ _ ?_
        refine T_seq fun K16 hK16 => ?_
        refine T_seq fun K17 hK17 => ?_
        refine T_region ?_
        refine L_y (y_assign rfl) rfl ?_
        refine L_nil ?_
        refine hK17 _ _ ?_
        refine T_block ?_
        refine T_loop1 [(0, _)] (fun (k : Nat) => [(4, .int .i64 (k : Int))]) (fun (k : Nat) => n - k) (fun (k : Nat) (w : World) => (k ≤ n ∧ once (l.take k)) ∧ St w0 noM [] w) 0 (Sub.cons rfl (by first | rfl | exact congrArg (Value.int _) (by omega)) (Sub.nil _)) (Sub.cons rfl rfl (Sub.nil _)) ?_ ?_
        ·
          exact ⟨⟨Nat.zero_le _, by simp [once]⟩, S1⟩
        ·
          intro k w4 hrel
          obtain ⟨⟨hk, hon⟩, S4⟩ := hrel
          refine T_seq fun K18 hK18 => ?_
          refine T_seq fun K19 hK19 => ?_
          refine T_region ?_
          refine L_y (y_move rfl) rfl ?_
          refine L_y (y_move rfl) rfl ?_
          refine L_y (y_len Try.underlying22 rfl) rfl ?_
          refine L_y (y_lss rfl rfl) rfl ?_
          refine L_nil ?_
          refine hK19 _ _ ?_
          refine T_cond rfl (fun h40 => ?_) (fun h40 => ?_)
          ·
            obtain ⟨x, hx⟩ : ∃ x, l[k]? = some x := ⟨_, List.getElem?_eq_getElem (by omega)⟩
            refine T_skip ?_
            refine hK18 _ _ ?_
            refine T_seq fun K20 hK20 => ?_
            refine T_block ?_
            refine T_seq fun K21 hK21 => ?_
            refine T_region ?_
            refine L_y (y_assign rfl) rfl ?_
            refine L_nil ?_
            refine hK21 _ _ ?_
            refine T_block ?_
            refine T_loop1 [(0, _), (4, _)] (fun (j : Nat) => [(5, .int .i64 (j : Int))]) (fun (j : Nat) => k - j) (fun (j : Nat) (w : World) => (j ≤ k ∧ (∀ i y, i < j → l[i]? = some y → y.nm ≠ x.nm)) ∧ St w0 noM [] w) 0 (Sub.cons rfl (by first | rfl | exact congrArg (Value.int _) (by omega)) (Sub.nil _)) (Sub.cons rfl rfl (Sub.cons rfl rfl (Sub.nil _))) ?_ ?_
            ·
              exact ⟨⟨Nat.zero_le _, fun i y hi => absurd hi (by omega)⟩, S4⟩
            ·
              intro j w5 hrel
              obtain ⟨⟨hj, hno⟩, S5⟩ := hrel
              refine T_seq fun K22 hK22 => ?_
              refine T_seq fun K23 hK23 => ?_
              refine T_region ?_
              refine L_y (y_move rfl) rfl ?_
              refine L_y (y_move rfl) rfl ?_
              refine L_y (y_lss rfl rfl) rfl ?_
              refine L_nil ?_
              refine hK23 _ _ ?_
              refine T_cond rfl (fun h45 => ?_) (fun h45 => ?_)
              ·
                obtain ⟨y, hy⟩ : ∃ y, l[j]? = some y := ⟨_, List.getElem?_eq_getElem (by omega)⟩
                refine T_skip ?_
                refine hK22 _ _ ?_
                refine T_seq fun K24 hK24 => ?_
                refine T_block ?_
                refine T_seq fun K25 hK25 => ?_
                refine T_drawnL [(0, true), (1, true), (2, true), (3, true), (4, true), (5, true), (6, true), (7, true), (8, true), (9, true), (10, true)] hmix (by kernel_rfl) fun w6 l6 => ?_
                have S6 := S5.like l6
                refine DL_y rfl (y_move rfl) rfl ?_
                refine DL_y rfl (y_move rfl) rfl ?_
                refine DL_y rfl (y_idx Try.underlying22 sz39 rfl rfl (S6.rd hl) (Nt.mk (by omega) : Nt _ (j)) (by omega)) rfl ?_
                refine DL_y rfl (y_fieldR 0 Try.underlying39 rfl sz9 rfl rfl (S6.rd hl) (by omega) rfl) rfl ?_
                refine DL_y rfl (y_ldf Try.underlying9 rfl rfl (S6.rd hl) (by omega) (en_nm hy)) rfl ?_
                refine DL_y rfl (y_move rfl) rfl ?_
                refine DL_y rfl (y_move rfl) rfl ?_
                refine DL_y rfl (y_idx Try.underlying22 sz39 rfl rfl (S6.rd hl) (Nt.mk (by omega) : Nt _ (k)) (by omega)) rfl ?_
                refine DL_y rfl (y_fieldR 0 Try.underlying39 rfl sz9 rfl rfl (S6.rd hl) (by omega) rfl) rfl ?_
                refine DL_y rfl (y_ldf Try.underlying9 rfl rfl (S6.rd hl) (by omega) (en_nm hx)) rfl ?_
                refine DL_y rfl (y_seql rfl rfl) rfl ?_
                refine DL_nil ?_
                refine hK25 _ _ ?_
                refine T_cond rfl (fun h58 => ?_) (fun h58 => ?_)
                ·
                  refine T_seq fun K26 hK26 => ?_
                  refine T_region ?_
                  refine L_y (y_assign rfl) rfl ?_
                  refine L_nil ?_
                  refine hK26 _ _ ?_
                  refine T_ret ?_
                  refine ur ?_
                  refine ret1 rfl rfl ?_
                  exact ⟨_, rfl, S6.like0, congrArg (Value.int _) (chkE_twice (by omega) hc1 (not_once hx (by rw [← h58]; exact once_in hy (by omega)))).symm⟩
                ·
                  refine T_skip ?_
                  refine hK24 _ _ ?_
                  refine T_region ?_
                  refine L_y (y_move rfl) rfl ?_
                  refine L_y (y_add rfl rfl (i64w (by omega))) rfl ?_
                  refine L_y (y_assign rfl) rfl ?_
                  refine L_nil ?_
                  refine ⟨j + 1, by omega, ⟨⟨by omega, fun i z hi hz => by rcases Nat.lt_or_ge i j with q | q; exact hno i z q hz; (have e9 : i = j := by omega); subst e9; rw [hy] at hz; cases hz; exact h58⟩, S6⟩, ?_⟩
                  exact (Sub.cons rfl (by first | rfl | exact congrArg (Value.int _) (by omega)) (Sub.cons rfl rfl (Sub.cons rfl rfl (Sub.nil _))))
              ·
                refine T_exit ?_
                refine hK20 _ _ ?_
                refine T_region ?_
                refine L_y (y_move rfl) rfl ?_
                refine L_y (y_add rfl rfl (i64w (by omega))) rfl ?_
                refine L_y (y_assign rfl) rfl ?_
                refine L_nil ?_
                refine ⟨k + 1, by omega, ⟨⟨by omega, once_snoc hx hon (once_out (fun i y hi hy => hno i y (by omega) hy))⟩, S5⟩, ?_⟩
                exact (Sub.cons rfl (by first | rfl | exact congrArg (Value.int _) (by omega)) (Sub.cons rfl rfl (Sub.nil _)))
          ·
            have hon : once l := by rwa [List.take_of_length_le (by omega)] at hon
            refine T_exit ?_
            refine hK16 _ _ ?_
            refine T_seq fun K27 hK27 => ?_
            refine T_seq fun K28 hK28 => ?_
            refine T_region ?_
            refine L_y (y_assign rfl) rfl ?_
            refine L_nil ?_
            refine hK28 _ _ ?_
            refine T_block ?_
            refine T_loop1 [(0, _)] (fun (k : Nat) => [(6, .int .i64 (k : Int))]) (fun (k : Nat) => n - k) (fun (k : Nat) (w : World) => ((k + 1 ≤ n ∨ k = 0) ∧ (∀ j x y, j < k → l[j]? = some x → l[j + 1]? = some y → ltK x y = true)) ∧ St w0 noM [] w) 0 (Sub.cons rfl (by first | rfl | exact congrArg (Value.int _) (by omega)) (Sub.nil _)) (Sub.cons rfl rfl (Sub.nil _)) ?_ ?_
            ·
              exact ⟨⟨.inr rfl, fun j x y hj => absurd hj (by omega)⟩, S4⟩
            ·
              intro k w7 hrel
              obtain ⟨⟨hk2, hri⟩, S7⟩ := hrel
              refine T_seq fun K29 hK29 => ?_
              refine T_seq fun K30 hK30 => ?_
              refine T_region ?_
              refine L_y (y_move rfl) rfl ?_
              refine L_y (y_add rfl rfl (i64w (by omega))) rfl ?_
              refine L_y (y_move rfl) rfl ?_
              refine L_y (y_len Try.underlying22 rfl) rfl ?_
              refine L_y (y_lss rfl rfl) rfl ?_
              refine L_nil ?_
              refine hK30 _ _ ?_
              refine T_cond rfl (fun h63 => ?_) (fun h63 => ?_)
              ·
                obtain ⟨x, hx⟩ : ∃ x, l[k]? = some x := ⟨_, List.getElem?_eq_getElem (by omega)⟩
                obtain ⟨y, hy⟩ : ∃ y, l[k + 1]? = some y := ⟨_, List.getElem?_eq_getElem (by omega)⟩
                refine T_skip ?_
                refine hK29 _ _ ?_
                refine T_seq fun K31 hK31 => ?_
                refine T_block ?_
                refine T_seq fun K32 hK32 => ?_
                refine T_drawnL [(0, true), (1, true), (2, true), (3, true), (5, true), (6, true), (7, true), (8, true), (9, true), (4, false), (10, false), (11, true)] hmix (by kernel_rfl) fun w8 l8 => ?_
                have S8 := S7.like l8
                refine DL_y rfl (y_move rfl) rfl ?_
                refine DL_y rfl (y_move rfl) rfl ?_
                refine DL_y rfl (y_idx Try.underlying22 sz39 rfl rfl (S8.rd hl) (Nt.mk (by omega) : Nt _ (k)) (by omega)) rfl ?_
                refine DL_y rfl (y_ldp (f := enf) enf_len Try.underlying39 rfl sz39 rfl (S8.rd hl) (by omega) hx) rfl ?_
                refine DL_y rfl (y_move rfl) rfl ?_
                refine DL_y rfl (y_move rfl) rfl ?_
                refine DL_y rfl (y_add rfl rfl (i64w (by omega))) rfl ?_
                refine DL_y rfl (y_idx Try.underlying22 sz39 rfl rfl (S8.rd hl) (Nt.mk (by omega) : Nt _ (k + 1)) (by omega)) rfl ?_
                refine DL_y rfl (y_ldp (f := enf) enf_len Try.underlying39 rfl sz39 rfl (S8.rd hl) (by omega) hy) rfl ?_
                refine DL_o rfl (o_call Try.func29 rfl rfl (rkey x w8) rfl rfl ?_)
                rintro e9 w9 ⟨v9, rfl, l9, rfl⟩
                refine ⟨_, rfl, l9, ?_⟩
                have S9 := S8.like l9
                have q9 := l9
                refine DL_o rfl (o_call Try.func29 rfl rfl (rkey y w9) rfl rfl ?_)
                rintro e10 w10 ⟨v10, rfl, l10, rfl⟩
                refine ⟨_, rfl, (Like.trans q9 l10), ?_⟩
                have S10 := S9.like l10
                have q10 := (Like.trans q9 l10)
                refine DL_y rfl (y_sgeq rfl rfl) rfl ?_
                refine DL_nil ?_
                refine hK32 _ _ ?_
                refine T_condB rfl (fun h77 => ?_) (fun h77 => ?_)
                ·
                  have hxy : ltK x y = false := by unfold ltK; simpa using h77
                  refine T_seq fun K33 hK33 => ?_
                  refine T_region ?_
                  refine L_y (y_assign rfl) rfl ?_
                  refine L_nil ?_
                  refine hK33 _ _ ?_
                  refine T_ret ?_
                  refine ur ?_
                  refine ret1 rfl rfl ?_
                  exact ⟨_, rfl, S10.like0, congrArg (Value.int _) (chkE_ord (by omega) hc1 hon ((risK_at l (k + 1) (fun j x y hj => hri j x y (by omega)) (by omega)).trans (risK_no hx hy hxy))).symm⟩
                ·
                  have hxy : ltK x y = true := by unfold ltK; simpa using h77
                  refine T_skip ?_
                  refine hK31 _ _ ?_
                  refine T_region ?_
                  refine L_y (y_move rfl) rfl ?_
                  refine L_y (y_add rfl rfl (i64w (by omega))) rfl ?_
                  refine L_y (y_assign rfl) rfl ?_
                  refine L_nil ?_
                  refine ⟨k + 1, by omega, ⟨⟨by omega, fun j a b hj ha hb => ris_next (k := k + 1) (fun j a b hj => hri j a b (by omega)) hx hy (by omega) hxy j a b (by omega) ha hb⟩, S10⟩, ?_⟩
                  exact (Sub.cons rfl (by first | rfl | exact congrArg (Value.int _) (by omega)) (Sub.cons rfl rfl (Sub.nil _)))
              ·
                refine T_exit ?_
                refine hK27 _ _ ?_
                refine T_seq fun K34 hK34 => ?_
                refine T_region ?_
                refine L_y (y_assign rfl) rfl ?_
                refine L_nil ?_
                refine hK34 _ _ ?_
                refine T_ret ?_
                refine ur ?_
                refine ret1 rfl rfl ?_
                exact ⟨_, rfl, S7.like0, congrArg (Value.int _) (chkE_ok (by omega) hc1 hon (risK_fin (k := k + 1) (fun j x y hj => hri j x y (by omega)) (by omega) (by omega))).symm⟩
end Go.Proofs.Ytmgimcdkeelnpaa


/-
  The second form's bound: what it gives of a law's arguments. General; nothing here names a program.
-/
namespace Go.Proofs.Ytmgimcdkeelnpaa.Zx
open Go.ChangeShapes Go.WideShapes Go.ChangeAt Go.RowKit Go.Deep Zk
set_option linter.unusedVariables false
section
variable {H : Type} {enc : TypeId × Value → H} {P : Program} {w : World} {base : Nat} {spare : Nat → Bool} {held : Bool}
end
end Go.Proofs.Ytmgimcdkeelnpaa.Zx


/-
  The law TreeChecks.
-/
namespace Go.Proofs.Ytmgimcdkeelnpaa
open Go.RowKit Zk Zx
set_option linter.unusedVariables false
set_option linter.unusedSimpArgs false

section
open Go.ChangeShapes Go.WideShapes Go.ChangeAt Go.Deep
variable {H : Type} {enc : TypeId × Value → H} {w : World} {base : Nat} {spare : Nat → Bool} {held : Bool}
/-- An entry as it is read. -/
structure EW where
  nm : ByteArray
  md : Int
  id : List UInt8
  h : id.length = 32
def ewf (e : EW) : List Value := Value.string e.nm :: Value.int .i64 e.md :: bL e.id
theorem ewf_len (e : EW) : (ewf e).length = 34 := by simp [ewf, e.h]
end
def wE1 : EV := ⟨⟨#[97]⟩, 3, List.replicate 32 0, by decide⟩
def wE2 : EV := ⟨⟨#[97, 48]⟩, 1, List.replicate 32 0, by decide⟩
def wE3 : EV := ⟨⟨#[97, 46, 98]⟩, 1, List.replicate 32 0, by decide⟩
theorem ltK_bl : ltK = fun x y => bl (keyB x).data.toList (keyB y).data.toList := by funext x y; exact sLt_bl _ _
theorem wsrt : srt ltK [wE1, wE2, wE3] = [wE3, wE1, wE2] := by
  rw [ltK_bl]
  decide +kernel
theorem wchk : chkE [wE3, wE1, wE2] = 0 := by
  refine chkE_ok (by decide) (by decide +kernel) (by decide +kernel) ?_
  show (ltK wE3 wE1 && (ltK wE1 wE2 && true)) = true
  rw [ltK_bl]
  decide +kernel
theorem psortedW (A : Option Addr) (c : Nat) (w0 : World) (hl : Rs w0 34 A 3 c ([wE1, wE2, wE3].flatMap enf)) :
    Calls Try.prog 9 #[.slice A 3 c] w0 fun e w' => ∃ u, e = .returned u ∧ Like w0 w' ∧ ∃ A' c', u = .slice A' 3 c' ∧ w'.ownsRow w0.heap.size 39 34 (.slice A' 3 c') 3 ([wE3, wE1, wE2].flatMap enf) := by
  have h := psorted A c [wE1, wE2, wE3] w0 hl (by decide)
  rw [wsrt] at h
  exact h


set_option maxRecDepth 100000 in
theorem works  (w0 : World)  :
    Calls Try.prog 8 #[] w0 fun e w' => ∃ u, e = .returned u ∧ Like w0 w' ∧ u = .bool true := by
  refine enter1 (env := []) [] Try.func8 rfl Try.ntmps8 rfl rfl ?_
  have S0 := St.start w0 noM
  refine T_seq fun K1 hK1 => ?_
  refine T_region ?_
  refine L_y (y_assign rfl) rfl ?_
  refine L_nil ?_
  refine hK1 _ _ ?_
  refine T_seq fun K2 hK2 => ?_
  refine T_region ?_
  refine L_y (y_build rfl (show _ = some (enf wE1).toArray by kernel_rfl)) rfl ?_
  refine L_y (y_build rfl (show _ = some (enf wE2).toArray by kernel_rfl)) rfl ?_
  refine L_y (y_build rfl (show _ = some (enf wE3).toArray by kernel_rfl)) rfl ?_
  refine L_o (o_bsl ([wE1, wE2, wE3].flatMap enf) te22 zz39 S0 rfl rfl rfl (by kernel_rfl) (by kernel_rfl) rfl rfl rfl fun b1 w1 S1 => ?_)
  refine L_o (o_call Try.func9 rfl rfl (psortedW _ _ w1 (S1.row 0 rfl)) rfl rfl ?_)
  rintro e2 w2 ⟨v2, rfl, l2, A6, c6, rfl, O2⟩
  refine ⟨_, rfl, ?_⟩
  have S2 := S1.adopt l2 O2
  refine L_y (y_assign rfl) rfl ?_
  refine L_nil ?_
  refine hK2 _ _ ?_
  refine T_seq fun K3 hK3 => ?_
  refine T_region ?_
  refine L_y (y_move rfl) rfl ?_
  refine L_y (y_len Try.underlying22 rfl) rfl ?_
  refine L_y (y_eql rfl rfl) rfl ?_
  refine L_y (y_move rfl) rfl ?_
  refine L_split 10 rfl (fun h10 => ?_) (fun h10 => ?_)
  ·
    refine L_gyes rfl rfl ?_
    refine L_y (y_move rfl) rfl ?_
    refine L_gyes rfl rfl ?_
    refine L_y (y_idx Try.underlying22 sz39 rfl rfl (S2.row 1 rfl) (Nt.mk rfl : Nt _ (0)) (by omega)) rfl ?_
    refine L_gyes rfl rfl ?_
    refine L_y (y_fieldR 0 Try.underlying39 rfl sz9 rfl rfl (S2.row 1 rfl) (by omega) rfl) rfl ?_
    refine L_gyes rfl rfl ?_
    refine L_y (y_ldf Try.underlying9 rfl rfl (S2.row 1 rfl) (by omega) (en_nm (l := [wE3, wE1, wE2]) (k := 0) (x := wE3) rfl)) rfl ?_
    refine L_gyes rfl rfl ?_
    refine L_y (y_seql rfl rfl) rfl ?_
    refine L_y (y_pk rfl rfl) rfl ?_
    refine L_y (y_move rfl) rfl ?_
    refine L_split 17 rfl (fun h17 => ?_) (fun h17 => ?_)
    ·
      refine L_gyes rfl rfl ?_
      refine L_y (y_move rfl) rfl ?_
      refine L_gyes rfl rfl ?_
      refine L_y (y_idx Try.underlying22 sz39 rfl rfl (S2.row 1 rfl) (Nt.mk rfl : Nt _ (1)) (by omega)) rfl ?_
      refine L_gyes rfl rfl ?_
      refine L_y (y_fieldR 0 Try.underlying39 rfl sz9 rfl rfl (S2.row 1 rfl) (by omega) rfl) rfl ?_
      refine L_gyes rfl rfl ?_
      refine L_y (y_ldf Try.underlying9 rfl rfl (S2.row 1 rfl) (by omega) (en_nm (l := [wE3, wE1, wE2]) (k := 1) (x := wE1) rfl)) rfl ?_
      refine L_gyes rfl rfl ?_
      refine L_y (y_seql rfl rfl) rfl ?_
      refine L_y (y_pk rfl rfl) rfl ?_
      refine L_y (y_move rfl) rfl ?_
      refine L_split 24 rfl (fun h24 => ?_) (fun h24 => ?_)
      ·
        refine L_gyes rfl rfl ?_
        refine L_y (y_move rfl) rfl ?_
        refine L_gyes rfl rfl ?_
        refine L_y (y_idx Try.underlying22 sz39 rfl rfl (S2.row 1 rfl) (Nt.mk rfl : Nt _ (2)) (by omega)) rfl ?_
        refine L_gyes rfl rfl ?_
        refine L_y (y_fieldR 0 Try.underlying39 rfl sz9 rfl rfl (S2.row 1 rfl) (by omega) rfl) rfl ?_
        refine L_gyes rfl rfl ?_
        refine L_y (y_ldf Try.underlying9 rfl rfl (S2.row 1 rfl) (by omega) (en_nm (l := [wE3, wE1, wE2]) (k := 2) (x := wE2) rfl)) rfl ?_
        refine L_gyes rfl rfl ?_
        refine L_y (y_seql rfl rfl) rfl ?_
        refine L_y (y_pk rfl rfl) rfl ?_
        refine L_y (y_move rfl) rfl ?_
        refine L_split 31 rfl (fun h31 => ?_) (fun h31 => ?_)
        ·
          refine L_gyes rfl rfl ?_
          refine L_y (y_move rfl) rfl ?_
          refine L_gyes rfl rfl ?_
          refine L_o (o_call Try.func10 rfl rfl (pcheck A6 3 c6 [wE3, wE1, wE2] w2 (S2.row 1 rfl) (by decide)) rfl rfl ?_)
          rintro e7 w7 ⟨v7, rfl, l7, rfl⟩
          refine ⟨_, rfl, ?_⟩
          have S7 := S2.like l7
          rw [wchk]
          refine L_gyes rfl rfl ?_
          refine L_y (y_eql rfl rfl) rfl ?_
          refine L_y (y_pk rfl rfl) rfl ?_
          refine L_y (y_assign rfl) rfl ?_
          refine L_nil ?_
          refine hK3 _ _ ?_
          refine T_ret ?_
          refine ur ?_
          refine ret1 rfl rfl ?_
          exact ⟨_, rfl, S7.like0, rfl⟩
        ·
          exact absurd rfl h31
      ·
        exact absurd rfl h24
    ·
      exact absurd rfl h17
  ·
    exact absurd rfl h10


end Go.Proofs.Ytmgimcdkeelnpaa


/-
  append(b, s...), s a string. General; nothing here names a program.
-/
namespace Go.Proofs.Ytmgimcdkeelnpaa.Zx
open Go.RowKit Zk
set_option linter.unusedVariables false
set_option linter.unusedSimpArgs false
section
variable {P : Program} {N : Nat} {Q : Post} {env : Env} {w w0 : World} {M : Nat → Prop} {rs : List Res} {K : Env → World → Prop} {d : Tmp} {ty : TypeId} {pos : String} {after : Array Edge} {g : Option (Nat × Bool)}
theorem o_appS {s x : Operand} {t u e : TypeId} {str : ByteArray} (TE : Elem P t e (.int .u8 0) 1 1) (hu : P.underlying u = some .string) (S : St w0 M rs w) (k : Nat) {A : Option Addr} {n c : Nat} {xs : List Value} (hk : rs[k]? = some (row e 1 A n c xs))
    (hs : ev env s = some (.slice A n c)) (hx : ev env x = some (.string str)) (hd : Nat.blt d N = true) (hbytes : n + str.size ≤ 140737488355328)
    (h : ∀ A2 c2 w', St w0 M (rs.set k (row e 1 A2 (n + str.size) c2 (xs ++ bL str.data.toList))) w' → K ((d, .slice A2 (n + str.size) c2) :: env) w') :
    O P N Q ⟨some d, .call { callee := .builtin .append, args := #[s, x], argTypes := #[t, u] }, ty, pos, after, g⟩ env w K := fun a ha => by
  have hown : w.ownsRow 0 e 1 (.slice A n c) n xs := S.get k hk
  obtain ⟨i, hi, hz, hsize, hby⟩ := info_parts TE.hi
  obtain ⟨v', w', hrun, h2, h3, h4⟩ := Go.Lib.run_append_own_string (P := P) w 0 t u ty e i TE.ht hu hi hz hsize hby _ n xs hown str (by unfold maxLen; omega) hbytes (Nat.zero_le _)
  have hb : v'.ownBlock = (Value.slice A n c).ownBlock ∨ v'.ownBlock = some w.heap.size := by
    rcases hown.2 with ⟨h5, h6⟩ | ⟨b, cap, cur, h5, _, hg, hnc, hcm, hcs, hxs⟩
    · cases h5
      rcases Nat.eq_zero_or_pos str.size with q | q
      · left
        rw [h4.2 ⟨rfl, q⟩]
      · have hr := run_append_nil_string (P := P) w t u ty e i (.int .u8 0) TE.ht hu hi hz str q (by omega) (by rw [hby]; omega)
        rw [hrun] at hr
        right
        injection hr with hr1 hr2
        rw [hr1]
        rfl
    · cases h5
      by_cases hroom : n + str.size ≤ c
      · have hr := Go.Lib.run_append_room_string (P := P) w t u ty e i TE.ht hu hi hsize b n c cur hg str hroom (by omega)
        rw [hrun] at hr
        left
        injection hr with hr1 hr2
        rw [hr1]
        rfl
      · have holds : ∀ j u, xs[j]? = some u → w.cell? ((⟨b, 0, none⟩ : Addr).add j) = some u := hown.cells (g := b) rfl
        have hxl : xs.length = n * 1 := hown.1
        have hr := Go.Lib.run_append_grow_string (P := P) w t u ty e i (.int .u8 0) TE.ht hu hi hz ⟨b, 0, none⟩ n c xs (by rw [hsize]; exact hxl) holds str (by omega) (by omega) (by rw [hby]; exact growslice_fits (by omega) (by omega))
        rw [hrun] at hr
        right
        injection hr with hr1 hr2
        rw [hr1]
        rfl
  obtain ⟨A2, c2, rfl⟩ := own_form h2
  unfold Oper.wp execOp
  simp only [resolve, invoke, builtin, Sem.run_bind, Sem.run_pure, Result.andThen_ok, List.map_toArray, List.map_cons, List.map_nil, ha.eval hs, ha.eval hx, hrun]
  refine ⟨_, ha.put d _ hd, h A2 c2 w' ?_⟩
  refine S.upd k hk h3.os h3.tape h3.output h3.size (fun i hi hn => h3.block i hi (fun e => hn e.symm)) h2 fun i hi => ?_
  change (Value.slice A2 (n + str.size) c2).ownBlock = some i at hi
  rcases hb with hb | hb
  · left; rw [hb] at hi; exact hi
  · right
    rw [hb] at hi
    cases hi
    exact ⟨Nat.le_refl _, (h2.lt _ hb).2⟩
/-- A place in an array that lies in an element. -/
theorem y_idxAR {dst : Option Tmp} {Sp : World → Prop} {x i : Operand} {t e : TypeId} {A : Option Addr} {n c k0 k size len : Nat} {xs : List Value} {q : IntKind} {j : Int} (ht : P.underlying t = some (.array len e)) (hsz : (P.info? e).map (·.size) = some 1)
    (hx : ev env x = some (pRF A k0)) (hr : Rs w size A n c xs) (hn : 0 < n) (hi : ev env i = some (.int q j)) (hj : Nt j k) (hk : k < len) :
    Y P Sp env ⟨dst, .indexAddr t x i, ty, pos, after, g⟩ (pRF A (k0 + k)) := fun N a w' ha _ => by
  have hj' := hj.eq
  subst hj'
  obtain ⟨ad, rfl, hb, hcell⟩ := hr.rd.2 hn
  have h1 : (0 : Int) ≤ (k : Int) ∧ (k : Int) < (len : Int) := by omega
  simp only [execOp, ha.eval hx, ha.eval hi, pRF, Option.map_some, Instr.indexAt, Instr.sureAddr, asIntOf, Sem.run_bind, run_underlying ht, Sem.run_pure, Result.andThen_ok, h1, and_self, if_true, sizeOf_run hsz, Int.toNat_natCast, add_of_add, Nat.mul_one]
end
end Go.Proofs.Ytmgimcdkeelnpaa.Zx


/-
  Put.
-/
namespace Go.Proofs.Ytmgimcdkeelnpaa
open Go.RowKit Zk Zx
set_option linter.unusedVariables false
set_option linter.unusedSimpArgs false

/-- An entry as bytes, a tree as bytes. -/
def encE (e : EV) : List UInt8 := [UInt8.ofNat (48 + e.md.toNat), 32] ++ e.nm.data.toList ++ [0] ++ e.id
def encT (l : List EV) : List UInt8 := l.flatMap encE
def putT (l : List EV) : List UInt8 × Int := if chkE l ≠ 0 then ([], chkE l) else (encT l, 0)
theorem put_err {l : List EV} (h : chkE l ≠ 0) : putT l = ([], chkE l) := by unfold putT; rw [if_pos h]
theorem put_ok {l : List EV} (h : chkE l = 0) : putT l = (encT l, 0) := by unfold putT; rw [if_neg (fun x => x h)]
theorem chk1_all : ∀ {l : List EV}, chk1 l = 0 → ∀ e ∈ l, mdOk e.md ∧ nmOk e.nm = true
  | [], _, e, he => by cases he
  | x :: l, h, e, he => by
    unfold chk1 at h
    split at h
    · exact absurd h (by decide)
    · rename_i h1
      split at h
      · exact absurd h (by decide)
      · rename_i h2
        rcases List.mem_cons.1 he with rfl | he
        · exact ⟨Decidable.not_not.1 h1, by simpa using h2⟩
        · exact chk1_all h e he
theorem chkE_all {l : List EV} (h : chkE l = 0) : l.length ≤ 64 ∧ chk1 l = 0 ∧ once l ∧ risK l = true := by
  unfold chkE at h
  split at h
  · exact absurd h (by decide)
  · rename_i h0
    split at h
    · rename_i h1; exact absurd h h1
    · rename_i h1
      split at h
      · exact absurd h (by decide)
      · rename_i h2
        split at h
        · exact absurd h (by decide)
        · rename_i h3
          exact ⟨by omega, Decidable.not_not.1 h1, Decidable.not_not.1 h2, by simpa using h3⟩
theorem nm_len {s : ByteArray} (h : nmOk s = true) : 1 ≤ s.size ∧ s.size ≤ 32 := by
  unfold nmOk at h
  simp only [Bool.and_eq_true, decide_eq_true_eq] at h
  exact ⟨h.1, h.2.1⟩
theorem encE_len (e : EV) : (encE e).length = 35 + e.nm.size := by
  unfold encE
  simp [e.h.1]
  have : e.nm.data.size = e.nm.size := rfl
  omega
theorem encT_step {l : List EV} {k : Nat} {x : EV} (hx : l[k]? = some x) : encT (l.take (k + 1)) = encT (l.take k) ++ encE x := by
  unfold encT
  rw [take_sn2 hx, List.flatMap_append]
  simp
theorem md_u8 {m : Int} (h : mdOk m) : IntKind.u8.wrap (48 + m) = ((UInt8.ofNat (48 + m.toNat)).toNat : Int) := by
  rw [IntKind.wrap_u8, UInt8.toNat_ofNat']
  unfold mdOk at h
  omega
theorem bLa (l m : List UInt8) : bL l ++ bL m = bL (l ++ m) := by simp [bL]
theorem rs_id {w : World} {b : Nat} {x : EV} (h : Blk w b 39 (enf x).toArray) : Rs w 1 (some ⟨b, 2, none⟩) 32 32 (bL x.id) := by
  have h2 := Rs.of_blk (o := 2) (n := 32) h (by rw [enf_sz]; omega) (by omega)
  have e : ((enf x).toArray.toList.drop 2).take 32 = bL x.id := by
    show (bL x.id).take 32 = bL x.id
    exact List.take_of_length_le (by simp [bL, x.h.1])
  rwa [e] at h2


set_option maxRecDepth 100000 in
theorem pput (A : Option Addr) (n c : Nat) (l : List EV) (w0 : World) (hl : Rs w0 34 A n c (l.flatMap enf)) (hn5 : n ≤ 10000) :
    Calls Try.prog 14 #[.slice A n c] w0 fun e w' => ∃ u, e = .returned u ∧ Like w0 w' ∧ ∃ A' c', u = .tuple #[.slice A' (putT l).1.length c', .int .i64 (putT l).2] ∧ w'.ownsRow w0.heap.size 5 1 (.slice A' (putT l).1.length c') (putT l).1.length (bL (putT l).1) := by
  refine enter1 (env := [(0, .slice A n c)]) [.slice A n c] Try.func14 rfl Try.ntmps14 rfl rfl ?_
  have hn := ens_n hl; have hcap := hl.cap; have hmax := hl.max; have S0 := St.start w0 noM
  refine T_seq fun K1 hK1 => ?_
  refine T_region ?_
  refine L_y (y_assign rfl) rfl ?_
  refine L_y (y_assign rfl) rfl ?_
  refine L_nil ?_
  refine hK1 _ _ ?_
  refine T_seq fun K2 hK2 => ?_
  refine T_seq fun K3 hK3 => ?_
  refine T_region ?_
  refine L_y (y_move rfl) rfl ?_
  refine L_o (o_call Try.func10 rfl rfl (pcheck A n c l w0 (S0.rd hl) hn5) rfl rfl ?_)
  rintro e1 w1 ⟨v1, rfl, l1, rfl⟩
  refine ⟨_, rfl, ?_⟩
  have S1 := S0.like l1
  refine L_y (y_assign rfl) rfl ?_
  refine L_nil ?_
  refine hK3 _ _ ?_
  refine T_seq fun K4 hK4 => ?_
  refine T_region ?_
  refine L_y (y_move rfl) rfl ?_
  refine L_y (y_neq rfl rfl) rfl ?_
  refine L_nil ?_
  refine hK4 _ _ ?_
  refine T_cond rfl (fun h11 => ?_) (fun h11 => ?_)
  ·
    refine T_seq fun K5 hK5 => ?_
    refine T_region ?_
    refine L_y (y_move rfl) rfl ?_
    refine L_y (y_assign rfl) rfl ?_
    refine L_y (y_assign rfl) rfl ?_
    refine L_nil ?_
    refine hK5 _ _ ?_
    refine T_ret ?_
    refine ur ?_
    refine ret2 rfl rfl rfl ?_
    first | exact ⟨_, rfl, S1.like0, none, 0, by rw [put_err h11]; rfl, by rw [put_err h11]; exact World.ownsRow_nil _ _ _ _⟩ | (have hke : k = n := by omega); subst hke; rw [List.take_of_length_le (by omega)] at hm; subst hm; exact ⟨_, rfl, S1.like0, _, _, by rw [put_ok h110], by rw [put_ok h110]; exact S1.own 0 rfl⟩
  ·
    have h110 := Decidable.byContradiction h11
    obtain ⟨h64, hc1, hon, hri⟩ := chkE_all h110
    have hall := chk1_all hc1
    refine T_skip ?_
    refine hK2 _ _ ?_
    refine T_seq fun K6 hK6 => ?_
    refine T_region ?_
    have S2 := S1.nilrow 5 1
    refine L_y (y_assign rfl) rfl ?_
    refine L_nil ?_
    refine hK6 _ _ ?_
    refine T_seq fun K7 hK7 => ?_
    refine T_seq fun K8 hK8 => ?_
    refine T_region ?_
    refine L_y (y_move rfl) rfl ?_
    refine L_y (y_len Try.underlying22 rfl) rfl ?_
    refine L_y (y_move rfl) rfl ?_
    refine L_nil ?_
    refine hK8 _ _ ?_
    refine T_block ?_
    refine T_loop4 [(13, _), (14, _)] (fun (k : Nat) (m : List UInt8) (A1 : Option Addr) (c1 : Nat) => [(15, .int .i64 (k : Int)), (5, .slice A1 m.length c1)]) (fun (k : Nat) (m : List UInt8) (A1 : Option Addr) (c1 : Nat) => n - k) (fun (k : Nat) (m : List UInt8) (A1 : Option Addr) (c1 : Nat) (w : World) => (k ≤ n ∧ m = encT (l.take k) ∧ m.length ≤ 100 * k) ∧ St w0 noM [row 5 1 A1 m.length c1 (bL m)] w) 0 [] none 0 (Sub.cons rfl (by first | rfl | exact congrArg (Value.int _) (by omega)) (Sub.cons rfl (by first | rfl | exact congrArg (Value.int _) (by omega)) (Sub.nil _))) (Sub.cons rfl rfl (Sub.cons rfl rfl (Sub.nil _))) ?_ ?_
    ·
      exact ⟨⟨Nat.zero_le _, rfl, Nat.zero_le _⟩, S2⟩
    ·
      intro k m A1 c1 w3 hrel
      obtain ⟨⟨hk, hm, hml⟩, S3⟩ := hrel
      refine T_seq fun K9 hK9 => ?_
      refine T_region ?_
      refine L_y (y_lss rfl rfl) rfl ?_
      refine L_nil ?_
      refine hK9 _ _ ?_
      refine T_seq fun K10 hK10 => ?_
      refine T_cond rfl (fun h16 => ?_) (fun h16 => ?_)
      ·
        obtain ⟨x, hx⟩ : ∃ x, l[k]? = some x := ⟨_, List.getElem?_eq_getElem (by omega)⟩
        obtain ⟨hmd, hnm⟩ := hall x (List.mem_of_getElem? hx)
        have hmd3 : x.md = 1 ∨ x.md = 2 ∨ x.md = 3 := hmd
        have hnl := nm_len hnm
        have hel := encE_len x
        have hid := x.h.1
        refine T_skip ?_
        refine hK10 _ _ ?_
        refine T_seq fun K11 hK11 => ?_
        refine T_block ?_
        refine T_seq fun K12 hK12 => ?_
        refine T_region ?_
        refine L_y (y_idx Try.underlying22 sz39 rfl rfl (S3.rd hl) (Nt.mk (by omega) : Nt _ (k)) (by omega)) rfl ?_
        refine L_y (y_ldp (f := enf) enf_len Try.underlying39 rfl sz39 rfl (S3.rd hl) (by omega) hx) rfl ?_
        refine L_o (o_alloc zz39 S3 rfl fun b4 w4 hb4 S4 => ?_)
        refine L_o (o_stW S4 1 rfl rfl rfl (szE x) ((enf_sz x).trans (by kernel_rfl)) (enf_one x) fun w5 S5 => ?_)
        refine L_nil ?_
        refine hK12 _ _ ?_
        refine T_seq fun K13 hK13 => ?_
        refine T_region ?_
        refine L_y (y_move rfl) rfl ?_
        refine L_y (y_fieldA 1 Try.underlying39 rfl sz3 rfl rfl rfl) rfl ?_
        refine L_y (y_ldc Try.underlying3 rfl rfl (((S5.blk 1 rfl).cell _).trans (by rfl))) rfl ?_
        refine L_y (y_add rfl rfl (i64w (by omega))) rfl ?_
        refine L_y (y_conv is3 Try.underlying5 rfl (md_u8 hmd)) rfl ?_
        refine L_o (o_bsl [_, _] te30 zz5 S5 rfl rfl rfl rfl rfl rfl rfl rfl fun b6 w6 S6 => ?_)
        refine L_o (o_app te30 S6 0 rfl rfl rfl (by first | exact S6.row 0 rfl | exact S6.row 2 rfl) (by first | exact bL_one _ | exact iL_one _ | (intro u hu; simp at hu; subst hu; rfl) | (simp; done) | (simp [Value.oneCell']; done)) rfl (by omega) (by omega) fun A7 c7 w7 S7 => ?_)
        have S7d := S7.drop (rs' := [_, _]) (.cons_cons _ (.cons_cons _ (.cons _ (.refl _))))
        refine L_y (y_assign rfl) rfl ?_
        refine L_nil ?_
        refine hK13 _ _ ?_
        refine T_seq fun K14 hK14 => ?_
        refine T_region ?_
        refine L_y (y_move rfl) rfl ?_
        refine L_y (y_fieldA 0 Try.underlying39 rfl sz9 rfl rfl rfl) rfl ?_
        refine L_y (y_ldc Try.underlying9 rfl rfl (((S7d.blk 1 rfl).cell _).trans (by rfl))) rfl ?_
        refine L_o (o_appS te30 Try.underlying9 S7d 0 rfl rfl rfl rfl (by omega) fun A8 c8 w8 S8 => ?_)
        refine L_y (y_assign rfl) rfl ?_
        refine L_nil ?_
        refine hK14 _ _ ?_
        refine T_seq fun K15 hK15 => ?_
        refine T_region ?_
        refine L_y (y_move rfl) rfl ?_
        refine L_o (o_bsl [_] te30 zz5 S8 rfl rfl rfl rfl rfl rfl rfl rfl fun b9 w9 S9 => ?_)
        refine L_o (o_app te30 S9 0 rfl rfl rfl (by first | exact S9.row 0 rfl | exact S9.row 2 rfl) (by first | exact bL_one _ | exact iL_one _ | (intro u hu; simp at hu; subst hu; rfl) | (simp; done) | (simp [Value.oneCell']; done)) rfl (by omega) (by omega) fun A10 c10 w10 S10 => ?_)
        have S10d := S10.drop (rs' := [_, _]) (.cons_cons _ (.cons_cons _ (.cons _ (.refl _))))
        refine L_y (y_assign rfl) rfl ?_
        refine L_nil ?_
        refine hK15 _ _ ?_
        refine T_region ?_
        refine L_y (y_move rfl) rfl ?_
        refine L_y (y_fieldA 2 Try.underlying39 rfl sz37 rfl rfl rfl) rfl ?_
        refine L_y (y_aslice Try.underlying37 sz5 rfl) rfl ?_
        refine L_o (o_app te30 S10d 0 rfl rfl rfl (rs_id (S10d.blk 1 rfl)) (bL_one _) rfl (by omega) (by omega) fun A11 c11 w11 S11 => ?_)
        refine L_y (y_assign rfl) rfl ?_
        refine L_nil ?_
        refine hK11 _ _ ?_
        refine T_region ?_
        refine L_y (y_add rfl rfl (i64w (by omega))) rfl ?_
        refine L_y (y_move rfl) rfl ?_
        refine L_nil ?_
        have S9 := S11.rowc 0 rfl (n' := (m ++ encE x).length) (xs' := bL (m ++ encE x)) (by rw [List.length_append, hel]; omega) (by unfold encE; rw [← bLa, ← bLa, ← bLa, ← bLa]; simp only [List.append_assoc]; rfl)
        have S8 := S9.drop (.cons_cons _ (.cons _ (.refl _)))
        refine ⟨k + 1, (m ++ encE x), _, _, by omega, ⟨⟨by omega, by rw [encT_step hx, hm], by rw [List.length_append, hel]; omega⟩, S8⟩, ?_⟩
        exact (Sub.cons rfl (by first | rfl | exact congrArg (Value.int _) (by omega)) (Sub.cons rfl (by rw [List.length_append, hel]; congr 1; omega) (Sub.cons rfl rfl (Sub.cons rfl rfl (Sub.nil _)))))
      ·
        refine T_exit ?_
        refine hK7 _ _ ?_
        refine T_seq fun K16 hK16 => ?_
        refine T_region ?_
        refine L_y (y_move rfl) rfl ?_
        refine L_y (y_assign rfl) rfl ?_
        refine L_y (y_assign rfl) rfl ?_
        refine L_nil ?_
        refine hK16 _ _ ?_
        refine T_ret ?_
        refine ur ?_
        refine ret2 rfl rfl rfl ?_
        first | exact ⟨_, rfl, S3.like0, none, 0, by rw [put_err h11]; rfl, by rw [put_err h11]; exact World.ownsRow_nil _ _ _ _⟩ | (have hke : k = n := by omega); subst hke; rw [List.take_of_length_le (by omega)] at hm; subst hm; exact ⟨_, rfl, S3.like0, _, _, by rw [put_ok h110], by rw [put_ok h110]; exact S3.own 0 rfl⟩
end Go.Proofs.Ytmgimcdkeelnpaa


/-
  The document: Put.
-/
namespace Go.Proofs.Ytmgimcdkeelnpaa
open Go.RowKit Zk Zx
set_option linter.unusedVariables false
set_option linter.unusedSimpArgs false

def preE (x : EV) : List UInt8 := [UInt8.ofNat (48 + x.md.toNat), 32] ++ x.nm.data.toList ++ [0]
theorem preE_len (x : EV) : (preE x).length = 3 + x.nm.size := by
  unfold preE
  simp
  have : x.nm.data.size = x.nm.size := rfl
  omega
theorem encE_pre (x : EV) : encE x = preE x ++ x.id := rfl
theorem bL_pre (m : List UInt8) (x : EV) : bL m ++ [Value.int .u8 ((UInt8.ofNat (48 + x.md.toNat)).toNat : Int)] ++ [Value.int .u8 32] ++ bL x.nm.data.toList ++ [Value.int .u8 0] = bL (m ++ preE x) := by
  unfold preE
  rw [← bLa, ← bLa, ← bLa]
  simp only [List.append_assoc]
  rfl
theorem id_step {m : List UInt8} {x : EV} {j : Nat} {c : UInt8} (hc : x.id[j]? = some c) : m ++ preE x ++ x.id.take (j + 1) = (m ++ preE x ++ x.id.take j) ++ [c] := by
  rw [take_sn2 hc, List.append_assoc]
  simp only [List.append_assoc]
theorem id_stepL {m : List UInt8} {x : EV} {j : Nat} {c : UInt8} (hc : x.id[j]? = some c) : (m ++ preE x ++ x.id.take j).length + 1 = (m ++ preE x ++ x.id.take (j + 1)).length := by
  rw [id_step hc]; simp only [List.length_append, List.length_cons, List.length_nil]
theorem en_b {l : List EV} {k j : Nat} {x : EV} {c : UInt8} (hx : l[k]? = some x) (hc : x.id[j]? = some c) (hj : j < 32) : (l.flatMap enf)[k * 34 + 2 + j]? = some (.int .u8 (c.toNat : Int)) := by
  rw [Nat.add_assoc]
  refine (en_get l k (2 + j) x hx (by omega)).trans ?_
  show (Value.string x.nm :: Value.int .i64 x.md :: bL x.id)[2 + j]? = _
  rw [show 2 + j = j + 1 + 1 by omega, List.getElem?_cons_succ, List.getElem?_cons_succ]
  exact bL_get _ _ _ hc


set_option maxRecDepth 100000 in
theorem rput (A : Option Addr) (n c : Nat) (l : List EV) (w0 : World) (hl : Rs w0 34 A n c (l.flatMap enf)) (hn5 : n ≤ 10000) :
    Calls Try.prog 15 #[.slice A n c] w0 fun e w' => ∃ u, e = .returned u ∧ Like w0 w' ∧ ∃ A' c', u = .tuple #[.slice A' (putT l).1.length c', .int .i64 (putT l).2] ∧ w'.ownsRow w0.heap.size 5 1 (.slice A' (putT l).1.length c') (putT l).1.length (bL (putT l).1) := by
  refine enter1 (env := [(0, .slice A n c)]) [.slice A n c] Try.func15 rfl Try.ntmps15 rfl rfl ?_
  have hn := ens_n hl; have hcap := hl.cap; have hmax := hl.max; have S0 := St.start w0 noM
  refine T_seq fun K1 hK1 => ?_
  refine T_region ?_
  refine L_y (y_assign rfl) rfl ?_
  refine L_y (y_assign rfl) rfl ?_
  refine L_nil ?_
  refine hK1 _ _ ?_
  refine T_seq fun K2 hK2 => ?_
  refine T_region ?_
  refine L_y (y_move rfl) rfl ?_
  refine L_o (o_call Try.func11 rfl rfl (rcheck A n c l w0 (S0.rd hl) hn5) rfl rfl ?_)
  rintro e1 w1 ⟨v1, rfl, l1, rfl⟩
  refine ⟨_, rfl, ?_⟩
  have S1 := S0.like l1
  refine L_y (y_assign rfl) rfl ?_
  refine L_nil ?_
  refine hK2 _ _ ?_
  refine T_seq fun K3 hK3 => ?_
  refine T_seq fun K4 hK4 => ?_
  refine T_region ?_
  refine L_y (y_move rfl) rfl ?_
  refine L_y (y_neq rfl rfl) rfl ?_
  refine L_nil ?_
  refine hK4 _ _ ?_
  refine T_cond rfl (fun h11 => ?_) (fun h11 => ?_)
  ·
    refine T_seq fun K5 hK5 => ?_
    refine T_region ?_
    refine L_y (y_move rfl) rfl ?_
    refine L_y (y_assign rfl) rfl ?_
    refine L_y (y_assign rfl) rfl ?_
    refine L_nil ?_
    refine hK5 _ _ ?_
    refine T_ret ?_
    refine ur ?_
    refine ret2 rfl rfl rfl ?_
    first | exact ⟨_, rfl, S1.like0, none, 0, by rw [put_err h11]; rfl, by rw [put_err h11]; exact World.ownsRow_nil _ _ _ _⟩ | (have hke : k = n := by omega); subst hke; rw [List.take_of_length_le (by omega)] at hm; subst hm; exact ⟨_, rfl, S1.like0, _, _, by rw [put_ok h110], by rw [put_ok h110]; exact S1.own 0 rfl⟩
  ·
    have h110 := Decidable.byContradiction h11
    obtain ⟨h64, hc1, hon, hri⟩ := chkE_all h110
    have hall := chk1_all hc1
    refine T_skip ?_
    refine hK3 _ _ ?_
    refine T_seq fun K6 hK6 => ?_
    refine T_region ?_
    have S2 := S1.nilrow 5 1
    refine L_y (y_assign rfl) rfl ?_
    refine L_nil ?_
    refine hK6 _ _ ?_
    refine T_seq fun K7 hK7 => ?_
    refine T_seq fun K8 hK8 => ?_
    refine T_region ?_
    refine L_y (y_assign rfl) rfl ?_
    refine L_nil ?_
    refine hK8 _ _ ?_
    refine T_block ?_
    refine T_loop4 [(0, _)] (fun (k : Nat) (m : List UInt8) (A1 : Option Addr) (c1 : Nat) => [(6, .int .i64 (k : Int)), (5, .slice A1 m.length c1)]) (fun (k : Nat) (m : List UInt8) (A1 : Option Addr) (c1 : Nat) => n - k) (fun (k : Nat) (m : List UInt8) (A1 : Option Addr) (c1 : Nat) (w : World) => (k ≤ n ∧ m = encT (l.take k) ∧ m.length ≤ 100 * k) ∧ St w0 noM [row 5 1 A1 m.length c1 (bL m)] w) 0 [] none 0 (Sub.cons rfl (by first | rfl | exact congrArg (Value.int _) (by omega)) (Sub.cons rfl (by first | rfl | exact congrArg (Value.int _) (by omega)) (Sub.nil _))) (Sub.cons rfl rfl (Sub.nil _)) ?_ ?_
    ·
      exact ⟨⟨Nat.zero_le _, rfl, Nat.zero_le _⟩, S2⟩
    ·
      intro k m A1 c1 w3 hrel
      obtain ⟨⟨hk, hm, hml⟩, S3⟩ := hrel
      refine T_seq fun K9 hK9 => ?_
      refine T_seq fun K10 hK10 => ?_
      refine T_region ?_
      refine L_y (y_move rfl) rfl ?_
      refine L_y (y_move rfl) rfl ?_
      refine L_y (y_len Try.underlying22 rfl) rfl ?_
      refine L_y (y_lss rfl rfl) rfl ?_
      refine L_nil ?_
      refine hK10 _ _ ?_
      refine T_cond rfl (fun h16 => ?_) (fun h16 => ?_)
      ·
        obtain ⟨x, hx⟩ : ∃ x, l[k]? = some x := ⟨_, List.getElem?_eq_getElem (by omega)⟩
        obtain ⟨hmd, hnm⟩ := hall x (List.mem_of_getElem? hx)
        have hmd3 : x.md = 1 ∨ x.md = 2 ∨ x.md = 3 := hmd
        have hnl := nm_len hnm
        have hel := encE_len x
        have hid := x.h.1
        refine T_skip ?_
        refine hK9 _ _ ?_
        refine T_seq fun K11 hK11 => ?_
        refine T_block ?_
        refine T_seq fun K12 hK12 => ?_
        refine T_region ?_
        refine L_y (y_move rfl) rfl ?_
        refine L_y (y_move rfl) rfl ?_
        refine L_y (y_move rfl) rfl ?_
        refine L_y (y_idx Try.underlying22 sz39 rfl rfl (S3.rd hl) (Nt.mk (by omega) : Nt _ (k)) (by omega)) rfl ?_
        refine L_y (y_fieldR 1 Try.underlying39 rfl sz3 rfl rfl (S3.rd hl) (by omega) rfl) rfl ?_
        refine L_y (y_ldf Try.underlying3 rfl rfl (S3.rd hl) (by omega) (en_md hx)) rfl ?_
        refine L_y (y_add rfl rfl (i64w (by omega))) rfl ?_
        refine L_y (y_conv is3 Try.underlying5 rfl (md_u8 hmd)) rfl ?_
        refine L_o (o_bsl [_] te30 zz5 S3 rfl rfl rfl rfl rfl rfl rfl rfl fun b4 w4 S4 => ?_)
        refine L_o (o_app te30 S4 0 rfl rfl rfl (by first | exact S4.row 0 rfl | exact S4.row 1 rfl) (by first | exact bL_one _ | exact iL_one _ | (intro u hu; simp at hu; subst hu; rfl) | (simp; done) | (simp [Value.oneCell']; done)) rfl (by omega) (by omega) fun A5 c5 w5 S5 => ?_)
        have S5d := S5.drop (rs' := [_]) (.cons_cons _ (.cons _ (.refl _)))
        refine L_y (y_assign rfl) rfl ?_
        refine L_nil ?_
        refine hK12 _ _ ?_
        refine T_seq fun K13 hK13 => ?_
        refine T_region ?_
        refine L_y (y_move rfl) rfl ?_
        refine L_o (o_bsl [_] te30 zz5 S5d rfl rfl rfl rfl rfl rfl rfl rfl fun b6 w6 S6 => ?_)
        refine L_o (o_app te30 S6 0 rfl rfl rfl (by first | exact S6.row 0 rfl | exact S6.row 1 rfl) (by first | exact bL_one _ | exact iL_one _ | (intro u hu; simp at hu; subst hu; rfl) | (simp; done) | (simp [Value.oneCell']; done)) rfl (by omega) (by omega) fun A7 c7 w7 S7 => ?_)
        have S7d := S7.drop (rs' := [_]) (.cons_cons _ (.cons _ (.refl _)))
        refine L_y (y_assign rfl) rfl ?_
        refine L_nil ?_
        refine hK13 _ _ ?_
        refine T_seq fun K14 hK14 => ?_
        refine T_region ?_
        refine L_y (y_move rfl) rfl ?_
        refine L_y (y_move rfl) rfl ?_
        refine L_y (y_move rfl) rfl ?_
        refine L_y (y_idx Try.underlying22 sz39 rfl rfl (S7d.rd hl) (Nt.mk (by omega) : Nt _ (k)) (by omega)) rfl ?_
        refine L_y (y_fieldR 0 Try.underlying39 rfl sz9 rfl rfl (S7d.rd hl) (by omega) rfl) rfl ?_
        refine L_y (y_ldf Try.underlying9 rfl rfl (S7d.rd hl) (by omega) (en_nm hx)) rfl ?_
        refine L_o (o_sbytes Try.underlying9 Try.underlying30 Try.underlying5 rfl (by omega) S7d rfl fun b8 c8 w8 l8 S8 => ?_)
        refine L_o (o_app te30 S8 0 rfl rfl rfl (by first | exact S8.row 0 rfl | exact S8.fix 1 rfl) (by first | exact bL_one _ | exact iL_one _ | (intro u hu; simp at hu; subst hu; rfl) | (simp; done) | (simp [Value.oneCell']; done)) rfl (by omega) (by omega) fun A9 c9 w9 S9 => ?_)
        refine L_y (y_assign rfl) rfl ?_
        refine L_nil ?_
        refine hK14 _ _ ?_
        refine T_seq fun K15 hK15 => ?_
        refine T_region ?_
        refine L_y (y_move rfl) rfl ?_
        refine L_o (o_bsl [_] te30 zz5 S9 rfl rfl rfl rfl rfl rfl rfl rfl fun b10 w10 S10 => ?_)
        refine L_o (o_app te30 S10 0 rfl rfl rfl (by first | exact S10.row 0 rfl | exact S10.fix 1 rfl | exact S10.row 2 rfl) (by first | exact bL_one _ | exact iL_one _ | (intro u hu; simp at hu; subst hu; rfl) | (simp; done) | (simp [Value.oneCell']; done)) rfl (by omega) (by omega) fun A11 c11 w11 S11 => ?_)
        have S11d := S11.drop (rs' := [_, _]) (.cons_cons _ (.cons_cons _ (.cons _ (.refl _))))
        refine L_y (y_assign rfl) rfl ?_
        refine L_nil ?_
        refine hK15 _ _ ?_
        refine T_seq fun K16 hK16 => ?_
        refine T_region ?_
        refine L_y (y_assign rfl) rfl ?_
        refine L_nil ?_
        refine hK16 _ _ ?_
        refine T_block ?_
        refine T_loop3 [(0, _), (6, _)] (fun (j : Nat) (A2 : Option Addr) (c2 : Nat) => [(7, .int .i64 (j : Int)), (5, .slice A2 (m ++ preE x ++ x.id.take j).length c2)]) (fun (j : Nat) (A2 : Option Addr) (c2 : Nat) => 32 - j) (fun (j : Nat) (A2 : Option Addr) (c2 : Nat) (w : World) => j ≤ 32 ∧ St w0 noM [row 5 1 A2 (m ++ preE x ++ x.id.take j).length c2 (bL (m ++ preE x ++ x.id.take j))] w) 0 _ _ (Sub.cons rfl (by first | rfl | (rw [List.take_zero, List.append_nil, List.length_append, preE_len]; congr 1; omega)) (Sub.cons rfl (by first | rfl | (rw [List.take_zero, List.append_nil, List.length_append, preE_len]; congr 1; omega)) (Sub.nil _))) (Sub.cons rfl rfl (Sub.cons rfl rfl (Sub.nil _))) ?_ ?_
        ·
          have S9 := (S11d.rowc 0 rfl (n' := (m ++ preE x ++ x.id.take 0).length) (xs' := bL (m ++ preE x ++ x.id.take 0)) (by rw [List.take_zero, List.append_nil, List.length_append, preE_len]; omega) (by rw [List.take_zero, List.append_nil]; exact bL_pre m x)).drop (.cons_cons _ (.cons _ (.refl _)))
          exact ⟨Nat.zero_le _, S9⟩
        ·
          intro j A2 c2 w12 hrel
          obtain ⟨hj, S12⟩ := hrel
          have hpl : (m ++ preE x ++ x.id.take j).length = m.length + 3 + x.nm.size + j := by rw [List.length_append, List.length_append, preE_len, List.length_take, x.h.1]; omega
          refine T_seq fun K17 hK17 => ?_
          refine T_seq fun K18 hK18 => ?_
          refine T_region ?_
          refine L_y (y_move rfl) rfl ?_
          refine L_y (y_lss rfl rfl) rfl ?_
          refine L_nil ?_
          refine hK18 _ _ ?_
          refine T_cond rfl (fun h44 => ?_) (fun h44 => ?_)
          ·
            obtain ⟨c, hc⟩ : ∃ c, x.id[j]? = some c := ⟨_, List.getElem?_eq_getElem (by omega)⟩
            refine T_skip ?_
            refine hK17 _ _ ?_
            refine T_seq fun K19 hK19 => ?_
            refine T_block ?_
            refine T_region ?_
            refine L_y (y_move rfl) rfl ?_
            refine L_y (y_move rfl) rfl ?_
            refine L_y (y_move rfl) rfl ?_
            refine L_y (y_move rfl) rfl ?_
            refine L_y (y_idx Try.underlying22 sz39 rfl rfl (S12.rd hl) (Nt.mk (by omega) : Nt _ (k)) (by omega)) rfl ?_
            refine L_y (y_fieldR 2 Try.underlying39 rfl sz37 rfl rfl (S12.rd hl) (by omega) rfl) rfl ?_
            refine L_y (y_idxAR Try.underlying37 sz5 rfl (S12.rd hl) (by omega) rfl (Nt.mk rfl : Nt _ j) (by omega)) rfl ?_
            refine L_y (y_ldf Try.underlying5 rfl rfl (S12.rd hl) (by omega) (en_b hx hc (by omega))) rfl ?_
            refine L_o (o_bsl [_] te30 zz5 S12 rfl rfl rfl rfl rfl rfl rfl rfl fun b13 w13 S13 => ?_)
            refine L_o (o_app te30 S13 0 rfl rfl rfl (by first | exact S13.row 0 rfl | exact S13.row 1 rfl) (by first | exact bL_one _ | exact iL_one _ | (intro u hu; simp at hu; subst hu; rfl) | (simp; done) | (simp [Value.oneCell']; done)) rfl (by omega) (by omega) fun A14 c14 w14 S14 => ?_)
            have S14d := S14.drop (rs' := [_]) (.cons_cons _ (.cons _ (.refl _)))
            refine L_y (y_assign rfl) rfl ?_
            refine L_nil ?_
            refine hK19 _ _ ?_
            refine T_region ?_
            refine L_y (y_move rfl) rfl ?_
            refine L_y (y_add rfl rfl (i64w (by omega))) rfl ?_
            refine L_y (y_assign rfl) rfl ?_
            refine L_nil ?_
            have S9 := S14d.rowc 0 rfl (n' := (m ++ preE x ++ x.id.take (j + 1)).length) (xs' := bL (m ++ preE x ++ x.id.take (j + 1))) (id_stepL hc) (by rw [id_step hc]; exact bLa _ [c])
            refine ⟨j + 1, _, _, by omega, ⟨by omega, S9⟩, ?_⟩
            exact (Sub.cons rfl (by first | rfl | exact congrArg (Value.int _) (by omega)) (Sub.cons rfl (by rw [id_stepL hc]) (Sub.cons rfl rfl (Sub.cons rfl rfl (Sub.nil _)))))
          ·
            refine T_exit ?_
            refine hK11 _ _ ?_
            refine T_region ?_
            refine L_y (y_move rfl) rfl ?_
            refine L_y (y_add rfl rfl (i64w (by omega))) rfl ?_
            refine L_y (y_assign rfl) rfl ?_
            refine L_nil ?_
            have e9 : (m ++ preE x ++ x.id.take j) = (m ++ encE x) := by rw [List.take_of_length_le (by omega)]; rw [encE_pre, List.append_assoc]
            have S8 := S12.rowc 0 rfl (n' := (m ++ encE x).length) (xs' := bL (m ++ encE x)) (by rw [e9]) (by rw [e9])
            refine ⟨k + 1, (m ++ encE x), A2, c2, by omega, ⟨⟨by omega, by rw [encT_step hx, hm], by rw [List.length_append, hel]; omega⟩, S8⟩, ?_⟩
            exact (Sub.cons rfl (by first | rfl | exact congrArg (Value.int _) (by omega)) (Sub.cons rfl (by rw [e9]) (Sub.cons rfl rfl (Sub.nil _))))
      ·
        refine T_exit ?_
        refine hK7 _ _ ?_
        refine T_seq fun K20 hK20 => ?_
        refine T_region ?_
        refine L_y (y_move rfl) rfl ?_
        refine L_y (y_assign rfl) rfl ?_
        refine L_y (y_assign rfl) rfl ?_
        refine L_nil ?_
        refine hK20 _ _ ?_
        refine T_ret ?_
        refine ur ?_
        refine ret2 rfl rfl rfl ?_
        first | exact ⟨_, rfl, S3.like0, none, 0, by rw [put_err h11]; rfl, by rw [put_err h11]; exact World.ownsRow_nil _ _ _ _⟩ | (have hke : k = n := by omega); subst hke; rw [List.take_of_length_le (by omega)] at hm; subst hm; exact ⟨_, rfl, S3.like0, _, _, by rw [put_ok h110], by rw [put_ok h110]; exact S3.own 0 rfl⟩
end Go.Proofs.Ytmgimcdkeelnpaa


/-
  The law TreePuts.
-/
namespace Go.Proofs.Ytmgimcdkeelnpaa
open Go.RowKit Zk Zx
set_option linter.unusedVariables false
set_option linter.unusedSimpArgs false

theorem byt_inj (l k : List UInt8) : decide ((⟨l.toArray⟩ : ByteArray) = ⟨k.toArray⟩) = decide (l = k) := by
  by_cases h : l = k
  · subst h; simp
  · rw [decide_eq_false h, decide_eq_false]
    intro e
    injection e with e
    exact h (by simpa using congrArg Array.toList e)


set_option maxRecDepth 100000 in
theorem same1 (A B : Option Addr) (n c m d : Nat) (a b : List UInt8) (w0 : World) (ha : Rs w0 1 A n c (bL a)) (hb : Rs w0 1 B m d (bL b)) :
    Calls Try.prog 16 #[.slice A n c, .slice B m d] w0 fun e w' => ∃ u, e = .returned u ∧ Like w0 w' ∧ u = .bool (decide (a = b)) := by
  refine enter1 (env := [(0, .slice A n c), (1, .slice B m d)]) [.slice A n c, .slice B m d] Try.func16 rfl Try.ntmps16 rfl rfl ?_
  have S0 := St.start w0 noM
  refine T_seq fun K1 hK1 => ?_
  refine T_region ?_
  refine L_y (y_assign rfl) rfl ?_
  refine L_nil ?_
  refine hK1 _ _ ?_
  refine T_seq fun K2 hK2 => ?_
  refine T_region ?_
  refine L_y (y_move rfl) rfl ?_
  refine L_y (y_bstr Try.underlying30 Try.underlying5 Try.underlying9 rfl (S0.rd ha)) rfl ?_
  refine L_y (y_move rfl) rfl ?_
  refine L_y (y_bstr Try.underlying30 Try.underlying5 Try.underlying9 rfl (S0.rd hb)) rfl ?_
  refine L_y (y_seql rfl rfl) rfl ?_
  refine L_y (y_assign rfl) rfl ?_
  refine L_nil ?_
  refine hK2 _ _ ?_
  refine T_ret ?_
  refine ur ?_
  refine ret1 rfl rfl ?_
  exact ⟨_, rfl, S0.like0, by rw [byt_inj]⟩


theorem same1T (A B : Option Addr) (n c m d : Nat) (a : List UInt8) (w0 : World) (ha : Rs w0 1 A n c (bL a)) (hb : Rs w0 1 B m d (bL a)) :
    Calls Try.prog 16 #[.slice A n c, .slice B m d] w0 fun e w' => ∃ u, e = .returned u ∧ Like w0 w' ∧ u = .bool true :=
  (same1 A B n c m d a a w0 ha hb).mono fun e w' ⟨u, h1, h2, h3⟩ => ⟨u, h1, h2, by rw [h3, decide_eq_true rfl]⟩


set_option maxRecDepth 100000 in
theorem lputs (A : Option Addr) (c : Nat) (l : List EV) (w0 : World) (hl : Rs w0 34 A l.length c (l.flatMap enf)) :
    Calls Try.prog 4 #[.slice A l.length c] w0 fun e w' => ∃ u, e = .returned u ∧ Like w0 w' ∧ u = .bool true := by
  refine enter1 (env := [(0, .slice A l.length c)]) [.slice A l.length c] Try.func4 rfl Try.ntmps4 rfl rfl ?_
  have hcap := hl.cap; have hmax := hl.max; have S0 := St.start w0 noM
  refine T_seq fun K1 hK1 => ?_
  refine T_region ?_
  refine L_y (y_assign rfl) rfl ?_
  refine L_nil ?_
  refine hK1 _ _ ?_
  refine T_seq fun K2 hK2 => ?_
  refine T_seq fun K3 hK3 => ?_
  refine T_region ?_
  refine L_y (y_move rfl) rfl ?_
  refine L_y (y_len Try.underlying22 rfl) rfl ?_
  refine L_y (y_gtr rfl rfl) rfl ?_
  refine L_nil ?_
  refine hK3 _ _ ?_
  refine T_cond rfl (fun h14 => ?_) (fun h14 => ?_)
  ·
    refine T_seq fun K4 hK4 => ?_
    refine T_region ?_
    refine L_o (o_call Try.func8 rfl rfl (works w0) rfl rfl ?_)
    rintro e1 w1 ⟨v1, rfl, l1, rfl⟩
    refine ⟨_, rfl, ?_⟩
    have S1 := S0.like l1
    refine L_y (y_assign rfl) rfl ?_
    refine L_nil ?_
    refine hK4 _ _ ?_
    refine T_ret ?_
    refine ur ?_
    refine ret1 rfl rfl ?_
    exact ⟨_, rfl, S1.like0, rfl⟩
  ·
    refine T_skip ?_
    refine hK2 _ _ ?_
    refine T_seq fun K5 hK5 => ?_
    refine T_region ?_
    refine L_y (y_move rfl) rfl ?_
    refine L_o (o_call Try.func14 rfl rfl (pput A l.length c l w0 (S0.rd hl) (by omega)) rfl rfl ?_)
    rintro e2 w2 ⟨v2, rfl, l2, A18, c18, rfl, O2⟩
    refine ⟨_, rfl, ?_⟩
    have S2 := S0.adopt l2 O2
    refine L_y (y_move rfl) rfl ?_
    refine L_y (y_extract rfl rfl) rfl ?_
    refine L_y (y_extract rfl rfl) rfl ?_
    refine L_y (y_assign rfl) rfl ?_
    refine L_y (y_assign rfl) rfl ?_
    refine L_nil ?_
    refine hK5 _ _ ?_
    refine T_seq fun K6 hK6 => ?_
    refine T_region ?_
    refine L_y (y_move rfl) rfl ?_
    refine L_o (o_call Try.func15 rfl rfl (rput A l.length c l w2 (S2.rd hl) (by omega)) rfl rfl ?_)
    rintro e3 w3 ⟨v3, rfl, l3, A23, c23, rfl, O3⟩
    refine ⟨_, rfl, ?_⟩
    have S3 := S2.adopt l3 O3
    refine L_y (y_move rfl) rfl ?_
    refine L_y (y_extract rfl rfl) rfl ?_
    refine L_y (y_extract rfl rfl) rfl ?_
    refine L_y (y_assign rfl) rfl ?_
    refine L_y (y_assign rfl) rfl ?_
    refine L_nil ?_
    refine hK6 _ _ ?_
    refine T_seq fun K7 hK7 => ?_
    refine T_region ?_
    refine L_y (y_move rfl) rfl ?_
    refine L_o (o_call Try.func13 rfl rfl (rsorted A l.length c l w3 (S3.rd hl) (by omega)) rfl rfl ?_)
    rintro e4 w4 ⟨v4, rfl, l4, A27, c27, rfl, O4⟩
    refine ⟨_, rfl, ?_⟩
    have S4 := S3.adopt l4 O4
    refine L_y (y_assign rfl) rfl ?_
    refine L_nil ?_
    refine hK7 _ _ ?_
    refine T_seq fun K8 hK8 => ?_
    refine T_region ?_
    refine L_y (y_move rfl) rfl ?_
    refine L_o (o_call Try.func14 rfl rfl (pput A27 (srt ltK l).length c27 (srt ltK l) w4 (S4.row 2 rfl) (by rw [srt_len]; omega)) rfl rfl ?_)
    rintro e5 w5 ⟨v5, rfl, l5, A30, c30, rfl, O5⟩
    refine ⟨_, rfl, ?_⟩
    have S5 := S4.adopt l5 O5
    refine L_y (y_move rfl) rfl ?_
    refine L_y (y_extract rfl rfl) rfl ?_
    refine L_y (y_extract rfl rfl) rfl ?_
    refine L_y (y_assign rfl) rfl ?_
    refine L_y (y_assign rfl) rfl ?_
    refine L_nil ?_
    refine hK8 _ _ ?_
    refine T_seq fun K9 hK9 => ?_
    refine T_region ?_
    refine L_y (y_move rfl) rfl ?_
    refine L_o (o_call Try.func15 rfl rfl (rput A27 (srt ltK l).length c27 (srt ltK l) w5 (S5.row 2 rfl) (by rw [srt_len]; omega)) rfl rfl ?_)
    rintro e6 w6 ⟨v6, rfl, l6, A35, c35, rfl, O6⟩
    refine ⟨_, rfl, ?_⟩
    have S6 := S5.adopt l6 O6
    refine L_y (y_move rfl) rfl ?_
    refine L_y (y_extract rfl rfl) rfl ?_
    refine L_y (y_extract rfl rfl) rfl ?_
    refine L_y (y_assign rfl) rfl ?_
    refine L_y (y_assign rfl) rfl ?_
    refine L_nil ?_
    refine hK9 _ _ ?_
    refine T_seq fun K10 hK10 => ?_
    refine T_region ?_
    refine L_y (y_move rfl) rfl ?_
    refine L_y (y_move rfl) rfl ?_
    refine L_o (o_call Try.func16 rfl rfl (same1T A18 A23 _ c18 _ c23 _ w6 (S6.row 0 rfl) (S6.row 1 rfl)) rfl rfl ?_)
    rintro e7 w7 ⟨v7, rfl, l7, rfl⟩
    refine ⟨_, rfl, ?_⟩
    have S7 := S6.like l7
    refine L_y (y_move rfl) rfl ?_
    refine L_splitB 41 rfl (fun h41 => ?_) (fun h41 => ?_)
    ·
      refine L_gyes rfl rfl ?_
      refine L_y (y_move rfl) rfl ?_
      refine L_gyes rfl rfl ?_
      refine L_y (y_move rfl) rfl ?_
      refine L_gyes rfl rfl ?_
      refine L_y (y_eql rfl rfl) rfl ?_
      refine L_y (y_pk rfl rfl) rfl ?_
      refine L_y (y_move rfl) rfl ?_
      refine L_split 46 rfl (fun h46 => ?_) (fun h46 => ?_)
      ·
        refine L_gyes rfl rfl ?_
        refine L_y (y_move rfl) rfl ?_
        refine L_gyes rfl rfl ?_
        refine L_y (y_move rfl) rfl ?_
        refine L_gyes rfl rfl ?_
        refine L_o (o_call Try.func16 rfl rfl (same1T A30 A35 _ c30 _ c35 _ w7 (S7.row 3 rfl) (S7.row 4 rfl)) rfl rfl ?_)
        rintro e10 w10 ⟨v10, rfl, l10, rfl⟩
        refine ⟨_, rfl, ?_⟩
        have S10 := S7.like l10
        refine L_y (y_pk rfl rfl) rfl ?_
        refine L_y (y_move rfl) rfl ?_
        refine L_splitB 51 rfl (fun h51 => ?_) (fun h51 => ?_)
        ·
          refine L_gyes rfl rfl ?_
          refine L_y (y_move rfl) rfl ?_
          refine L_gyes rfl rfl ?_
          refine L_y (y_move rfl) rfl ?_
          refine L_gyes rfl rfl ?_
          refine L_y (y_eql rfl rfl) rfl ?_
          refine L_y (y_pk rfl rfl) rfl ?_
          refine L_y (y_move rfl) rfl ?_
          refine L_split 56 rfl (fun h56 => ?_) (fun h56 => ?_)
          ·
            refine L_gyes rfl rfl ?_
            refine L_o (o_call Try.func8 rfl rfl (works w10) rfl rfl ?_)
            rintro e13 w13 ⟨v13, rfl, l13, rfl⟩
            refine ⟨_, rfl, ?_⟩
            have S13 := S10.like l13
            refine L_y (y_pk rfl rfl) rfl ?_
            refine L_y (y_assign rfl) rfl ?_
            refine L_nil ?_
            refine hK10 _ _ ?_
            refine T_ret ?_
            refine ur ?_
            refine ret1 rfl rfl ?_
            exact ⟨_, rfl, S13.like0, rfl⟩
          ·
            exact absurd h56 (by simp)
        ·
          exact absurd h51 (by simp)
      ·
        exact absurd h46 (by simp)
    ·
      exact absurd h41 (by simp)


end Go.Proofs.Ytmgimcdkeelnpaa


/-
  A slice of elements of many cells, each with what is known of its datum; the reach of the parts. General; nothing here names a program.
-/
namespace Go.Proofs.Ytmgimcdkeelnpaa.Zx
open Go.ChangeShapes Go.WideShapes Go.ChangeAt Go.RowKit Go.Deep Zk
set_option linter.unusedVariables false
section
variable {H : Type} {enc : TypeId × Value → H} {P : Program} {w : World} {base : Nat} {spare : Nat → Bool} {held : Bool}
theorem read_rowNP {α : Type} (f : α → List Value) (φ : α → DataW H → Prop) (size : Nat) {t e : TypeId} (ht : P.underlying t = some (.slice e)) (hc : P.cellsOf e = size) (hpos : 0 < size) (hlen : ∀ y, (f y).length = size)
    (hread : ∀ n cs x, cs.length = size → DataW.trod enc P w base spare held n e cs = some x → ∃ y, cs = f y ∧ φ y x.1)
    {fuel : Nat} {cs : List Value} {x : DataW H × List MemPlace} (h : DataW.trod enc P w base spare held fuel t cs = some x) :
    ∃ A n c, ∃ l : List α, cs = [.slice A n c] ∧ Rs w size A n c (l.flatMap f) ∧ l.length = n ∧ (∀ y ∈ l, ∃ d : DataW H, φ y d ∧ ∀ k ∈ d.weights P e, k ∈ x.1.weights P t) ∧ (n = 0 ∨ ∃ k, n ≤ k ∧ k * P.bytesOf e ∈ x.1.weights P t) := by
  rcases open_slice ht h with ⟨rfl, rfl⟩ | ⟨a, len, cap, k, n, D, Pl, rfl, _, hl, hm, hmm, rfl, hi⟩
  · exact ⟨none, 0, 0, [], rfl, Rs.nil w size, rfl, (fun y hy => by cases hy), .inl rfl⟩
  · have hle : len ≤ k := by rw [hmm]; split <;> omega
    rw [hc] at hi
    obtain ⟨l, hll, hp⟩ := list_of (fun i (y : α) => w.cells? base (a.add (i * size)) size = some (f y) ∧ φ y (D i)) len (fun i hil => by
      obtain ⟨cs', h1, h2⟩ := hi i (by omega)
      obtain ⟨y, h3, h4⟩ := hread n cs' _ (World.cells?_some h1).2.1 h2
      exact ⟨y, by rw [← h3]; exact h1, h4⟩)
    refine ⟨some a, len, cap, l, rfl, ⟨⟨by rw [flat_len f size hlen, hll], fun h0 => ⟨a, rfl, ?_, fun j u hu => ?_⟩⟩, hl, by unfold maxLen at hm; exact hm⟩, hll, fun y hy => ?_, .inr ⟨len + (k - len), by omega, by simp [DataW.weights, ht]⟩⟩
    · obtain ⟨cs', h1, h2⟩ := hi 0 (by omega)
      have h3 := (World.cells?_some h1).2.2 0 hpos
      rw [List.getElem?_eq_getElem (by rw [(World.cells?_some h1).2.1]; exact hpos)] at h3
      have := World.block_lt_of_cell? w _ h3
      rwa [block_of_add, block_of_add] at this
    · obtain ⟨i, y, h1, h2, h3⟩ := flat_get f size hlen l j u hu
      have h4 := (World.cells?_some (hp i y h1).1).2.2 (j - i * size) (by have := (List.getElem?_eq_some_iff.1 h3).1; rwa [hlen y] at this)
      rw [Go.Deep.add_add, show i * size + (j - i * size) = j by omega, h3] at h4
      exact h4
    · obtain ⟨i, hi2, rfl⟩ := List.getElem_of_mem hy
      refine ⟨D i, (hp i _ (List.getElem?_eq_getElem hi2)).2, fun q hq => ?_⟩
      have hin : ∀ (m : List (DataW H)) (d : DataW H), d ∈ m → ∀ q ∈ d.weights P e, q ∈ DataW.weightsAll P e m := by
        intro m
        induction m with
        | nil => intro d hd; cases hd
        | cons d0 m ih =>
          intro d hd q hq
          simp only [DataW.weightsAll, List.mem_append]
          rcases List.mem_cons.1 hd with rfl | hd
          · exact .inl hq
          · exact .inr (ih d hd q hq)
      simp only [DataW.weights, ht, List.mem_cons, List.mem_append]
      refine .inr (.inl (hin _ (D i) ?_ q hq))
      exact List.mem_map.2 ⟨i, by simp; omega, rfl⟩
/-- What is weighed of an argument is within the reach. -/
theorem reach_mem {ts : List TypeId} {ds : List (DataW H)} (hsz : (DataW.weightsEach P ts ds).all (· ≤ reachBytes) = true) {j : Nat} {t : TypeId} {d : DataW H} (ht : ts[j]? = some t) (hd : ds[j]? = some d) {n : Nat} (h : n ∈ d.weights P t) : n ≤ 140737488351232 :=
  of_decide_eq_true (List.all_eq_true.1 hsz _ (DataW.weights_mem_each ht hd _ h))
end
end Go.Proofs.Ytmgimcdkeelnpaa.Zx


/-
  The laws TreeChecks and TreePuts where a name is as long as what is read may be.
-/
namespace Go.Proofs.Ytmgimcdkeelnpaa
open Go.RowKit Zk Zx
set_option linter.unusedVariables false
set_option linter.unusedSimpArgs false
section
open Go.ChangeShapes Go.WideShapes Go.ChangeAt Go.Deep
variable {H : Type} {enc : TypeId × Value → H} {w : World} {base : Nat} {spare : Nat → Bool} {held : Bool}
theorem read_ewW {fuel : Nat} {cs : List Value} {x : DataW H × List MemPlace} (hlen : cs.length = 34) (h : DataW.trod enc Try.prog w base spare held fuel 39 cs = some x) : ∃ e : EW, cs = ewf e ∧ e.nm.size ∈ x.1.weights Try.prog 39 := by
  obtain ⟨xs, n, _, hx, hl, hlen2, hg⟩ := DataW.trod_struct Try.underlying39 h
  have e0 := hg 0 _ rfl
  have e1 := hg 1 _ rfl
  have e2 := hg 2 _ rfl
  change DataW.trod enc Try.prog w base spare held n 9 ((cs.drop 0).take (Try.prog.cellsOf 9)) = _ at e0
  change DataW.trod enc Try.prog w base spare held n 3 ((cs.drop 1).take (Try.prog.cellsOf 3)) = _ at e1
  change DataW.trod enc Try.prog w base spare held n 37 ((cs.drop 2).take (Try.prog.cellsOf 37)) = _ at e2
  have c9 : Try.prog.cellsOf 9 = 1 := by kernel_rfl
  have c3 : Try.prog.cellsOf 3 = 1 := by kernel_rfl
  have c37 : Try.prog.cellsOf 37 = 32 := by kernel_rfl
  rw [c9] at e0
  rw [c3] at e1
  rw [c37] at e2
  have hxl : xs.length = 3 := hlen2
  match cs, hlen, xs, hxl with
  | v0 :: v1 :: vs, hlen, [y0, y1, y2], _ =>
    have e0 : DataW.trod enc Try.prog w base spare held n 9 [v0] = some y0 := e0
    have e1 : DataW.trod enc Try.prog w base spare held n 3 [v1] = some y1 := e1
    have e2 : DataW.trod enc Try.prog w base spare held n 37 (vs.take 32) = some y2 := e2
    rw [List.take_of_length_le (by simp at hlen; omega)] at e2
    obtain ⟨s, hs, z0, _⟩ := DataW.trod_string Try.underlying9 e0
    obtain ⟨i1, hi1, _, _⟩ := DataW.trod_int Try.underlying3 e1
    obtain ⟨z, hz, hcs⟩ := read_bytes Try.underlying37 Try.underlying5 (by kernel_rfl) (by kernel_rfl) e2
    cases hs
    cases hi1
    subst hcs
    refine ⟨⟨s, i1, z, hz⟩, rfl, ?_⟩
    rw [hx]
    simp only [DataW.weights, Try.underlying39, List.map_cons, List.map_nil, DataW.weightsEach]
    rw [z0]
    simp only [DataW.weights, Array.length_toList, List.singleton_append]
    exact List.mem_cons_self
theorem open_ensW {r : Reach} {b0 : Nat} {v : Value} {d : DataW H} {p : List MemPlace} (hv : Value.okWide Try.prog w r b0 22 v) (h : DataW.Trod enc Try.prog w base spare held 22 v d p) :
    ∃ A n c, ∃ l : List EW, v = .slice A n c ∧ Rs w 34 A n c (l.flatMap ewf) ∧ ∀ e ∈ l, e.nm.size ∈ d.weights Try.prog 22 := by
  obtain ⟨fuel, hf⟩ := h
  obtain ⟨A, n, c, l, h1, h2, h3, h4, _⟩ := read_rowNP ewf (fun e d => e.nm.size ∈ d.weights Try.prog 39) 34 Try.underlying22 (by kernel_rfl) (by decide) ewf_len (fun k cs x hl hx => read_ewW hl hx) hf
  exact ⟨A, n, c, l, slice_of_cells Try.underlying22 hv h1, h2, fun e he => by
    obtain ⟨d1, h5, h6⟩ := h4 e he
    exact h6 _ h5⟩
theorem ew_evW : ∀ (l : List EW), (∀ e ∈ l, e.nm.size ≤ 140737488351232) → ∃ l2 : List EV, l.flatMap ewf = l2.flatMap enf
  | [], _ => ⟨[], rfl⟩
  | e :: l, h => by
    obtain ⟨l2, h1⟩ := ew_evW l fun x hx => h x (List.mem_cons_of_mem _ hx)
    have h2 := h e List.mem_cons_self
    refine ⟨⟨e.nm, e.md, e.id, e.h, by omega⟩ :: l2, ?_⟩
    rw [List.flatMap_cons, List.flatMap_cons, h1]
    rfl
end
theorem puts_lawW (A : Option Addr) (n c : Nat) (l : List EW) (w0 : World) (hl : Rs w0 34 A n c (l.flatMap ewf)) (hs : ∀ e ∈ l, e.nm.size ≤ 140737488351232) :
    Calls Try.prog 4 #[.slice A n c] w0 fun e w' => e = .returned (.bool true) ∧ Below w0.heap.size w0 w' := by
  obtain ⟨l2, h1⟩ := ew_evW l hs
  rw [h1] at hl
  have hn := ens_n hl
  subst hn
  exact (lputs A c l2 w0 hl).mono fun e w' ⟨u, h1, h2, h3⟩ => by subst h3; exact ⟨h1, h2⟩
end Go.Proofs.Ytmgimcdkeelnpaa
