/-
  Check.
-/
import Derived.Test.YtmgimcdkeelnpaaH
namespace Go.Proofs.Ytmgimcdkeelnpaa
open Go.RowKit Zk Zx
set_option linter.unusedVariables false
set_option linter.unusedSimpArgs false

def mdOk (m : Int) : Prop := m = 1 ∨ m = 2 ∨ m = 3
instance (m : Int) : Decidable (mdOk m) := inferInstanceAs (Decidable (m = 1 ∨ m = 2 ∨ m = 3))
/-- The first thing that is wrong with an entry. -/
def chk1 : List EV → Int
  | [] => 0
  | e :: l => if ¬ mdOk e.md then 16 else if nmOk e.nm = false then 15 else chk1 l
/-- Do keys rise? -/
def risK : List EV → Bool
  | x :: y :: l => ltK x y && risK (y :: l)
  | _ => true
/-- Is no name there twice? -/
def once (l : List EV) : Prop := (l.map EV.nm).Nodup
instance (l : List EV) : Decidable (once l) := inferInstanceAs (Decidable (l.map EV.nm).Nodup)
def chkE (l : List EV) : Int := if 64 < l.length then 3 else if chk1 l ≠ 0 then chk1 l else if ¬ once l then 17 else if risK l = false then 18 else 0
theorem chk1_at {l : List EV} : ∀ (k : Nat), (∀ j e, j < k → l[j]? = some e → mdOk e.md ∧ nmOk e.nm = true) → k ≤ l.length → chk1 l = chk1 (l.drop k) := by
  induction l with
  | nil => intro k _ hk; simp at hk; rw [hk]; rfl
  | cons e l ih =>
    intro k h hk
    match k with
    | 0 => rfl
    | k + 1 =>
      obtain ⟨h1, h2⟩ := h 0 e (by omega) rfl
      conv => lhs; unfold chk1
      rw [if_neg (fun x => x h1), if_neg (by rw [h2]; exact fun x => by cases x), List.drop_succ_cons]
      exact ih k (fun j e' hj he => h (j + 1) e' (by omega) he) (by simpa using hk)
theorem chk1_md {l : List EV} {k : Nat} {e : EV} (he : l[k]? = some e) (h : ¬ mdOk e.md) : chk1 (l.drop k) = 16 := by
  rw [drop_hd2 he]
  unfold chk1
  rw [if_pos h]
theorem chk1_nm {l : List EV} {k : Nat} {e : EV} (he : l[k]? = some e) (h : mdOk e.md) (h2 : nmOk e.nm = false) : chk1 (l.drop k) = 15 := by
  rw [drop_hd2 he]
  unfold chk1
  rw [if_neg (fun x => x h), if_pos h2]
theorem risK_at : ∀ (l : List EV) (k : Nat), (∀ j x y, j + 1 < k → l[j]? = some x → l[j + 1]? = some y → ltK x y = true) → k ≤ l.length → risK l = risK (l.drop (k - 1))
  | l, 0, _, _ => rfl
  | l, 1, _, _ => rfl
  | [], k + 2, _, h => by simp at h
  | [x], k + 2, _, h => by simp at h
  | x :: y :: l, k + 2, h, hk => by
    have h0 := h 0 x y (by omega) rfl rfl
    have ih := risK_at (y :: l) (k + 1) (fun j a b hj ha hb => h (j + 1) a b (by omega) ha hb) (by simpa using hk)
    show (ltK x y && risK (y :: l)) = _
    rw [h0, Bool.true_and, ih]
    rfl
theorem risK_no {l : List EV} {k : Nat} {x y : EV} (hx : l[k]? = some x) (hy : l[k + 1]? = some y) (h : ltK x y = false) : risK (l.drop k) = false := by
  rw [drop_hd2 hx, drop_hd2 hy]
  show (ltK x y && _) = false
  rw [h]
  rfl
theorem risK_end {l : List EV} {k : Nat} (h : l.length ≤ k + 1) : risK (l.drop k) = true := by
  have : (l.drop k).length ≤ 1 := by rw [List.length_drop]; omega
  match hd : l.drop k with
  | [] => rfl
  | [x] => rfl
  | x :: y :: m => rw [hd] at this; simp at this
theorem once_snoc {l : List EV} {k : Nat} {e : EV} (he : l[k]? = some e) (h : once (l.take k)) (h2 : e.nm ∉ (l.take k).map EV.nm) : once (l.take (k + 1)) := by
  unfold once at *
  rw [take_sn2 he, List.map_append, List.nodup_append]
  refine ⟨h, by simp, fun a ha b hb => ?_⟩
  rw [List.map_singleton, List.mem_singleton] at hb
  subst hb
  exact fun e2 => h2 (by rw [← e2]; exact ha)
theorem not_onceT {l : List EV} {k : Nat} {e : EV} (he : l[k]? = some e) (h2 : e.nm ∈ (l.take k).map EV.nm) : ¬ once (l.take (k + 1)) := fun h3 => by
  unfold once at h3
  rw [take_sn2 he, List.map_append, List.nodup_append] at h3
  exact h3.2.2 _ h2 _ (by simp) rfl
theorem once_sub {l : List EV} (k : Nat) (h : once l) : once (l.take k) := by
  unfold once at *
  exact h.sublist ((List.take_sublist _ _).map _)
theorem once_down {l : List EV} {k : Nat} (h : once (l.take (k + 1))) : once (l.take k) := by
  have := once_sub k h
  rwa [List.take_take, Nat.min_eq_left (by omega)] at this
theorem not_once {l : List EV} {k : Nat} {e : EV} (he : l[k]? = some e) (h2 : e.nm ∈ (l.take k).map EV.nm) : ¬ once l := fun h => not_onceT he h2 (once_sub (k + 1) h)


set_option maxRecDepth 100000 in
theorem rname (s : ByteArray) (w0 : World)  :
    Calls Try.prog 28 #[.string s] w0 fun e w' => ∃ u, e = .returned u ∧ Like w0 w' ∧ u = .bool (nmOk s) := by
  refine enter1 (env := [(0, .string s)]) [.string s] Try.func28 rfl Try.ntmps28 rfl rfl ?_
  have S0 := St.start w0 noM
  refine T_seq fun K1 hK1 => ?_
  refine T_region ?_
  refine L_y (y_assign rfl) rfl ?_
  refine L_nil ?_
  refine hK1 _ _ ?_
  refine T_seq fun K2 hK2 => ?_
  refine T_region ?_
  refine L_y (y_move rfl) rfl ?_
  refine L_y (y_lens Try.underlying9 rfl) rfl ?_
  refine L_y (y_geq rfl rfl) rfl ?_
  refine L_y (y_move rfl) rfl ?_
  refine L_split 6 rfl (fun h6 => ?_) (fun h6 => ?_)
  ·
    have q6 : 1 ≤ s.size := by omega
    refine L_gyes rfl rfl ?_
    refine L_y (y_move rfl) rfl ?_
    refine L_gyes rfl rfl ?_
    refine L_y (y_lens Try.underlying9 rfl) rfl ?_
    refine L_gyes rfl rfl ?_
    refine L_y (y_leq rfl rfl) rfl ?_
    refine L_y ((by first | exact y_pickT rfl rfl | exact y_pickF rfl rfl)) rfl ?_
    refine L_y (y_move rfl) rfl ?_
    refine L_split 11 rfl (fun h11 => ?_) (fun h11 => ?_)
    ·
      have q11 : s.size ≤ 32 := by omega
      refine L_gyes rfl rfl ?_
      refine L_y (y_move rfl) rfl ?_
      refine L_gyes rfl rfl ?_
      refine L_o (o_call Try.func39 rfl rfl (seen_ s w0 (by omega)) rfl rfl ?_)
      rintro e3 w3 ⟨v3, rfl, l3, rfl⟩
      refine ⟨_, rfl, ?_⟩
      have S3 := S0.like l3
      refine L_y ((by first | exact y_pickT rfl rfl | exact y_pickF rfl rfl)) rfl ?_
      refine L_y (y_move rfl) rfl ?_
      refine L_split 15 rfl (fun h15 => ?_) (fun h15 => ?_)
      ·
        have q15 : seenP s := by first | exact of_decide_eq_true h15 | exact of_decide_eq_false h15 | simpa using h15
        refine L_gyes rfl rfl ?_
        refine L_y (y_move rfl) rfl ?_
        refine L_gyes rfl rfl ?_
        refine L_o (o_call Try.func40 rfl rfl (parts s w3 (by omega)) rfl rfl ?_)
        rintro e5 w5 ⟨v5, rfl, l5, A17, c17, rfl⟩
        refine ⟨_, rfl, ?_⟩
        have S5 := S3.like l5
        refine L_gyes rfl rfl ?_
        refine L_y (y_len Try.underlying44 rfl) rfl ?_
        refine L_gyes rfl rfl ?_
        refine L_y (y_eql rfl rfl) rfl ?_
        refine L_y ((by first | exact y_pickT rfl rfl | exact y_pickF rfl rfl)) rfl ?_
        refine L_y (y_move rfl) rfl ?_
        refine L_split 21 rfl (fun h21 => ?_) (fun h21 => ?_)
        ·
          have q21 : (47 : UInt8) ∉ s.data.toList := cn_zero.1 (by rw [if_neg (by omega)] at h21; omega)
          refine L_gyes rfl rfl ?_
          refine L_y (y_move rfl) rfl ?_
          refine L_gyes rfl rfl ?_
          refine L_y (y_sneq rfl rfl) rfl ?_
          refine L_y ((by first | exact y_pickT rfl rfl | exact y_pickF rfl rfl)) rfl ?_
          refine L_y (y_move rfl) rfl ?_
          refine L_split 25 rfl (fun h25 => ?_) (fun h25 => ?_)
          ·
            have q25 : s ≠ ⟨#[46]⟩ := by simpa using h25
            refine L_gyes rfl rfl ?_
            refine L_y (y_move rfl) rfl ?_
            refine L_gyes rfl rfl ?_
            refine L_y (y_sneq rfl rfl) rfl ?_
            refine L_y ((by first | exact y_pickT rfl rfl | exact y_pickF rfl rfl)) rfl ?_
            refine L_y (y_assign rfl) rfl ?_
            refine L_nil ?_
            refine hK2 _ _ ?_
            refine T_ret ?_
            repeat (first | with_reducible refine up_then ?_ | with_reducible refine up_in ?_)
            refine ret1 rfl rfl ?_
            exact ⟨_, rfl, S5.like0, congrArg Value.bool (by unfold nmOk; simp [q25, q21, q15, q11, q6])⟩
          ·
            have q25 : ¬ s ≠ ⟨#[46]⟩ := by simpa using h25
            refine L_gno rfl rfl rfl ?_
            refine L_gno rfl rfl rfl ?_
            refine L_y ((by first | exact y_pickT rfl rfl | exact y_pickF rfl rfl)) rfl ?_
            refine L_y (y_assign rfl) rfl ?_
            refine L_nil ?_
            refine hK2 _ _ ?_
            refine T_ret ?_
            repeat (first | with_reducible refine up_then ?_ | with_reducible refine up_in ?_)
            refine ret1 rfl rfl ?_
            exact ⟨_, rfl, S5.like0, congrArg Value.bool (by unfold nmOk; simp [q25, q21, q15, q11, q6])⟩
        ·
          have q21 : (47 : UInt8) ∈ s.data.toList := Decidable.not_not.1 fun e => by rw [if_neg (by omega), cn_zero.2 e] at h21; exact h21 rfl
          refine L_gno rfl rfl rfl ?_
          refine L_gno rfl rfl rfl ?_
          refine L_y ((by first | exact y_pickT rfl rfl | exact y_pickF rfl rfl)) rfl ?_
          refine L_y (y_move rfl) rfl ?_
          refine L_gno rfl rfl rfl ?_
          refine L_gno rfl rfl rfl ?_
          refine L_y ((by first | exact y_pickT rfl rfl | exact y_pickF rfl rfl)) rfl ?_
          refine L_y (y_assign rfl) rfl ?_
          refine L_nil ?_
          refine hK2 _ _ ?_
          refine T_ret ?_
          repeat (first | with_reducible refine up_then ?_ | with_reducible refine up_in ?_)
          refine ret1 rfl rfl ?_
          exact ⟨_, rfl, S5.like0, congrArg Value.bool (by unfold nmOk; simp [q21, q15, q11, q6])⟩
      ·
        have q15 : ¬ seenP s := by first | exact of_decide_eq_true h15 | exact of_decide_eq_false h15 | simpa using h15
        refine L_gno rfl rfl rfl ?_
        refine L_gno rfl rfl rfl ?_
        refine L_gno rfl rfl rfl ?_
        refine L_gno rfl rfl rfl ?_
        refine L_y ((by first | exact y_pickT rfl rfl | exact y_pickF rfl rfl)) rfl ?_
        refine L_y (y_move rfl) rfl ?_
        refine L_gno rfl rfl rfl ?_
        refine L_gno rfl rfl rfl ?_
        refine L_y ((by first | exact y_pickT rfl rfl | exact y_pickF rfl rfl)) rfl ?_
        refine L_y (y_move rfl) rfl ?_
        refine L_gno rfl rfl rfl ?_
        refine L_gno rfl rfl rfl ?_
        refine L_y ((by first | exact y_pickT rfl rfl | exact y_pickF rfl rfl)) rfl ?_
        refine L_y (y_assign rfl) rfl ?_
        refine L_nil ?_
        refine hK2 _ _ ?_
        refine T_ret ?_
        repeat (first | with_reducible refine up_then ?_ | with_reducible refine up_in ?_)
        refine ret1 rfl rfl ?_
        exact ⟨_, rfl, S3.like0, congrArg Value.bool (by unfold nmOk; simp [q15, q11, q6])⟩
    ·
      have q11 : ¬ s.size ≤ 32 := by omega
      refine L_gno rfl rfl rfl ?_
      refine L_gno rfl rfl rfl ?_
      refine L_y ((by first | exact y_pickT rfl rfl | exact y_pickF rfl rfl)) rfl ?_
      refine L_y (y_move rfl) rfl ?_
      refine L_gno rfl rfl rfl ?_
      refine L_gno rfl rfl rfl ?_
      refine L_gno rfl rfl rfl ?_
      refine L_gno rfl rfl rfl ?_
      refine L_y ((by first | exact y_pickT rfl rfl | exact y_pickF rfl rfl)) rfl ?_
      refine L_y (y_move rfl) rfl ?_
      refine L_gno rfl rfl rfl ?_
      refine L_gno rfl rfl rfl ?_
      refine L_y ((by first | exact y_pickT rfl rfl | exact y_pickF rfl rfl)) rfl ?_
      refine L_y (y_move rfl) rfl ?_
      refine L_gno rfl rfl rfl ?_
      refine L_gno rfl rfl rfl ?_
      refine L_y ((by first | exact y_pickT rfl rfl | exact y_pickF rfl rfl)) rfl ?_
      refine L_y (y_assign rfl) rfl ?_
      refine L_nil ?_
      refine hK2 _ _ ?_
      refine T_ret ?_
      repeat (first | with_reducible refine up_then ?_ | with_reducible refine up_in ?_)
      refine ret1 rfl rfl ?_
      exact ⟨_, rfl, S0.like0, congrArg Value.bool (by unfold nmOk; simp [q11, q6])⟩
  ·
    have q6 : ¬ 1 ≤ s.size := by omega
    refine L_gno rfl rfl rfl ?_
    refine L_gno rfl rfl rfl ?_
    refine L_gno rfl rfl rfl ?_
    refine L_y ((by first | exact y_pickT rfl rfl | exact y_pickF rfl rfl)) rfl ?_
    refine L_y (y_move rfl) rfl ?_
    refine L_gno rfl rfl rfl ?_
    refine L_gno rfl rfl rfl ?_
    refine L_y ((by first | exact y_pickT rfl rfl | exact y_pickF rfl rfl)) rfl ?_
    refine L_y (y_move rfl) rfl ?_
    refine L_gno rfl rfl rfl ?_
    refine L_gno rfl rfl rfl ?_
    refine L_gno rfl rfl rfl ?_
    refine L_gno rfl rfl rfl ?_
    refine L_y ((by first | exact y_pickT rfl rfl | exact y_pickF rfl rfl)) rfl ?_
    refine L_y (y_move rfl) rfl ?_
    refine L_gno rfl rfl rfl ?_
    refine L_gno rfl rfl rfl ?_
    refine L_y ((by first | exact y_pickT rfl rfl | exact y_pickF rfl rfl)) rfl ?_
    refine L_y (y_move rfl) rfl ?_
    refine L_gno rfl rfl rfl ?_
    refine L_gno rfl rfl rfl ?_
    refine L_y ((by first | exact y_pickT rfl rfl | exact y_pickF rfl rfl)) rfl ?_
    refine L_y (y_assign rfl) rfl ?_
    refine L_nil ?_
    refine hK2 _ _ ?_
    refine T_ret ?_
    repeat (first | with_reducible refine up_then ?_ | with_reducible refine up_in ?_)
    refine ret1 rfl rfl ?_
    exact ⟨_, rfl, S0.like0, congrArg Value.bool (by unfold nmOk; simp [q6])⟩
end Go.Proofs.Ytmgimcdkeelnpaa
