/-
  Same.
-/
import Derived.Test.YtmgimcdkeelnpaaF
import Derived.Test.YtmgimcdkeelnpaaZ3
namespace Go.Proofs.Ytmgimcdkeelnpaa
open Go.RowKit Zk Zx
set_option linter.unusedVariables false
set_option linter.unusedSimpArgs false

theorem en_id (e : EV) : (enf e).toArray.extract 2 (2 + 32) = bA e.id := by
  apply Array.ext'
  rw [Array.toList_extract]
  simp only [enf, bA]
  rw [List.extract_eq_take_drop]
  show List.take 32 (bL e.id) = bL e.id
  exact List.take_of_length_le (by simp [bL, e.h.1])
theorem en_eq (x y : EV) {fs : Array Field} (hfs : Try.prog.underlying 39 = some (.struct fs)) : EqFs Try.prog 9999 (enf x).toArray (enf y).toArray fs.toList (decide (x = y)) := by
  have h2 := Try.underlying39
  rw [hfs] at h2
  injection h2 with h2
  injection h2 with h2
  subst h2
  have e : decide (x = y) = (decide (x.nm = y.nm) && (decide (x.md = y.md) && (decide (x.id = y.id) && true))) := by
    obtain ⟨a, b, c, d⟩ := x
    obtain ⟨a', b', c', d'⟩ := y
    rw [Bool.eq_iff_iff]
    simp
  rw [e]
  exact .cons (FE_str (by decide) Try.underlying9 rfl rfl) (.cons (FE_int (by decide) Try.underlying3 rfl rfl) (.cons (FE_bytes (by decide) Try.underlying37 Try.underlying5 sz5 Try.sizeOf37 x.h.1 y.h.1 (en_id x) (en_id y)) .nil))


set_option maxRecDepth 100000 in
theorem same (A : Option Addr) (n c : Nat) (l : List EV) (B : Option Addr) (m d : Nat) (l2 : List EV) (w0 : World) (hl : Rs w0 34 A n c (l.flatMap enf)) (hl2 : Rs w0 34 B m d (l2.flatMap enf)) :
    Calls Try.prog 12 #[.slice A n c, .slice B m d] w0 fun e w' => ∃ u, e = .returned u ∧ Like w0 w' ∧ u = .bool (decide (l = l2)) := by
  refine enter1 (env := [(0, .slice A n c), (1, .slice B m d)]) [.slice A n c, .slice B m d] Try.func12 rfl Try.ntmps12 rfl rfl ?_
  have hn := ens_n hl; have hcap := hl.cap; have hmax := hl.max; have S0 := St.start w0 noM; have hm := ens_n hl2; have hcap2 := hl2.cap; have hmax2 := hl2.max
  refine T_seq fun K1 hK1 => ?_
  refine T_region ?_
  refine L_y (y_assign rfl) rfl ?_
  refine L_nil ?_
  refine hK1 _ _ ?_
  refine T_seq fun K2 hK2 => ?_
  refine T_seq fun K3 hK3 => ?_
  refine T_region ?_
  refine L_y (y_move rfl) rfl ?_
  refine L_y (y_len Try.underlying22 rfl) rfl ?_
  refine L_y (y_move rfl) rfl ?_
  refine L_y (y_len Try.underlying22 rfl) rfl ?_
  refine L_y (y_neq rfl rfl) rfl ?_
  refine L_nil ?_
  refine hK3 _ _ ?_
  refine T_cond rfl (fun h10 => ?_) (fun h10 => ?_)
  ·
    refine T_seq fun K4 hK4 => ?_
    refine T_region ?_
    refine L_y (y_assign rfl) rfl ?_
    refine L_nil ?_
    refine hK4 _ _ ?_
    refine T_ret ?_
    repeat (first | with_reducible refine up_then ?_ | with_reducible refine up_in ?_)
    refine ret1 rfl rfl ?_
    first | exact ⟨_, rfl, S0.like0, congrArg Value.bool (decide_eq_false (fun e => by rw [e] at hn; omega)).symm⟩ | exact ⟨_, rfl, S0.like0, congrArg Value.bool (decide_eq_false (fun e => hxy (by rw [e] at hx; rw [hx] at hy; exact Option.some.inj hy))).symm⟩ | exact ⟨_, rfl, S0.like0, congrArg Value.bool (decide_eq_true (by rw [List.take_of_length_le (by omega), List.take_of_length_le (by omega)] at heq; exact heq)).symm⟩
  ·
    refine T_skip ?_
    refine hK2 _ _ ?_
    refine T_seq fun K5 hK5 => ?_
    refine T_seq fun K6 hK6 => ?_
    refine T_region ?_
    refine L_y (y_assign rfl) rfl ?_
    refine L_nil ?_
    refine hK6 _ _ ?_
    refine T_block ?_
    refine T_loop1 [(0, _), (1, _)] (fun (k : Nat) => [(5, .int .i64 (k : Int))]) (fun (k : Nat) => n - k) (fun (k : Nat) (w : World) => (k ≤ n ∧ l.take k = l2.take k) ∧ St w0 noM [] w) 0 (Sub.cons rfl (by first | rfl | exact congrArg (Value.int _) (by omega)) (Sub.nil _)) (Sub.cons rfl rfl (Sub.cons rfl rfl (Sub.nil _))) ?_ ?_
    ·
      exact ⟨⟨Nat.zero_le _, rfl⟩, S0⟩
    ·
      intro k w1 hrel
      obtain ⟨⟨hk, heq⟩, S1⟩ := hrel
      refine T_seq fun K7 hK7 => ?_
      refine T_seq fun K8 hK8 => ?_
      refine T_region ?_
      refine L_y (y_move rfl) rfl ?_
      refine L_y (y_move rfl) rfl ?_
      refine L_y (y_len Try.underlying22 rfl) rfl ?_
      refine L_y (y_lss rfl rfl) rfl ?_
      refine L_nil ?_
      refine hK8 _ _ ?_
      refine T_cond rfl (fun h14 => ?_) (fun h14 => ?_)
      ·
        obtain ⟨x, hx⟩ : ∃ x, l[k]? = some x := ⟨_, List.getElem?_eq_getElem (by omega)⟩
        obtain ⟨y, hy⟩ : ∃ y, l2[k]? = some y := ⟨_, List.getElem?_eq_getElem (by omega)⟩
        refine T_skip ?_
        refine hK7 _ _ ?_
        refine T_seq fun K9 hK9 => ?_
        refine T_block ?_
        refine T_seq fun K10 hK10 => ?_
        refine T_drawnL [(0, true), (1, true), (2, true), (3, true), (4, true), (5, true), (6, true), (7, true), (8, true)] hmix (by kernel_rfl) fun w2 l2 => ?_
        have S2 := S1.like l2
        refine DL_y rfl (y_move rfl) rfl ?_
        refine DL_y rfl (y_move rfl) rfl ?_
        refine DL_y rfl (y_idx Try.underlying22 sz39 rfl rfl (S2.rd hl) (Nt.mk (by omega) : Nt _ (k)) (by omega)) rfl ?_
        refine DL_y rfl (y_ldp (f := enf) enf_len Try.underlying39 rfl sz39 rfl (S2.rd hl) (by omega) hx) rfl ?_
        refine DL_y rfl (y_move rfl) rfl ?_
        refine DL_y rfl (y_move rfl) rfl ?_
        refine DL_y rfl (y_idx Try.underlying22 sz39 rfl rfl (S2.rd hl2) (Nt.mk (by omega) : Nt _ (k)) (by omega)) rfl ?_
        refine DL_y rfl (y_ldp (f := enf) enf_len Try.underlying39 rfl sz39 rfl (S2.rd hl2) (by omega) hy) rfl ?_
        refine DL_y rfl (y_neS Try.underlying39 (by kernel_rfl) (by kernel_rfl) (en_eq x y Try.underlying39) rfl rfl) rfl ?_
        refine DL_nil ?_
        refine hK10 _ _ ?_
        refine T_condB rfl (fun h25 => ?_) (fun h25 => ?_)
        ·
          have hxy : x ≠ y := by simpa using h25
          refine T_seq fun K11 hK11 => ?_
          refine T_region ?_
          refine L_y (y_assign rfl) rfl ?_
          refine L_nil ?_
          refine hK11 _ _ ?_
          refine T_ret ?_
          repeat (first | with_reducible refine up_then ?_ | with_reducible refine up_in ?_)
          refine ret1 rfl rfl ?_
          first | exact ⟨_, rfl, S2.like0, congrArg Value.bool (decide_eq_false (fun e => by rw [e] at hn; omega)).symm⟩ | exact ⟨_, rfl, S2.like0, congrArg Value.bool (decide_eq_false (fun e => hxy (by rw [e] at hx; rw [hx] at hy; exact Option.some.inj hy))).symm⟩ | exact ⟨_, rfl, S2.like0, congrArg Value.bool (decide_eq_true (by rw [List.take_of_length_le (by omega), List.take_of_length_le (by omega)] at heq; exact heq)).symm⟩
        ·
          have hxy : x = y := by simpa using h25
          refine T_skip ?_
          refine hK9 _ _ ?_
          refine T_region ?_
          refine L_y (y_move rfl) rfl ?_
          refine L_y (y_add rfl rfl (i64w (by omega))) rfl ?_
          refine L_y (y_assign rfl) rfl ?_
          refine L_nil ?_
          refine ⟨k + 1, by omega, ⟨⟨by omega, by rw [take_sn2 hx, take_sn2 hy, heq, hxy]⟩, S2⟩, ?_⟩
          exact (Sub.cons rfl (by first | rfl | exact congrArg (Value.int _) (by omega)) (Sub.cons rfl rfl (Sub.cons rfl rfl (Sub.nil _))))
      ·
        refine T_exit ?_
        refine hK5 _ _ ?_
        refine T_seq fun K12 hK12 => ?_
        refine T_region ?_
        refine L_y (y_assign rfl) rfl ?_
        refine L_nil ?_
        refine hK12 _ _ ?_
        refine T_ret ?_
        repeat (first | with_reducible refine up_then ?_ | with_reducible refine up_in ?_)
        refine ret1 rfl rfl ?_
        first | exact ⟨_, rfl, S1.like0, congrArg Value.bool (decide_eq_false (fun e => by rw [e] at hn; omega)).symm⟩ | exact ⟨_, rfl, S1.like0, congrArg Value.bool (decide_eq_false (fun e => hxy (by rw [e] at hx; rw [hx] at hy; exact Option.some.inj hy))).symm⟩ | exact ⟨_, rfl, S1.like0, congrArg Value.bool (decide_eq_true (by rw [List.take_of_length_le (by omega), List.take_of_length_le (by omega)] at heq; exact heq)).symm⟩
end Go.Proofs.Ytmgimcdkeelnpaa
