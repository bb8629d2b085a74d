/-
  Scripts that were made: they may be, they lay the target, and one behind another lays what both lay.
-/
import Derived.Test.YtpcgldkllnkaeaaS
namespace Go.Proofs.Ytpcgldkllnkaeaa
open Go.RowKit Zk Zx
set_option linter.unusedVariables false
set_option linter.unusedSimpArgs false
theorem fold_eq {a t : List UInt8} : ∀ (xs : List Nat) (s : Nat × Nat), (a.drop s.1).take s.2 = t.take s.2 → (a.drop (xs.foldl (stepB a t) s).1).take (xs.foldl (stepB a t) s).2 = t.take (xs.foldl (stepB a t) s).2
  | [], s, h => h
  | k :: xs, s, h => by
    refine fold_eq xs _ ?_
    unfold stepB
    split
    · exact ((comP_take (a.drop k) t _).1 (Nat.le_refl _)).2.2
    · exact h
theorem bst_eq (a t : List UInt8) : (a.drop (bst a t).1).take (bst a t).2 = t.take (bst a t).2 := by
  unfold bst
  split
  · simp
  · exact fold_eq _ _ (by simp)
theorem aplV_cons (a : List UInt8) (o : OV) (l : List OV) : aplV a (o :: l) = layV a o ++ aplV a l := rfl
theorem aplV_app (a : List UInt8) (l m : List OV) : aplV a (l ++ m) = aplV a l ++ aplV a m := List.flatMap_append
theorem rtV_cp {b : Int} {o : OV} (h : rtV b o = true) (hc : o.cp = true) : 1 ≤ o.n ∧ o.n ≤ b ∧ 0 ≤ o.fr ∧ o.fr ≤ b - o.n ∧ o.l = [] := by
  unfold rtV at h
  rw [if_pos hc] at h
  simp at h
  obtain ⟨⟨⟨⟨h1, h2⟩, h3⟩, h4⟩, h5⟩ := h
  exact ⟨h1, h2, h3, h4, h5⟩
theorem rtV_new {b : Int} {o : OV} (h : rtV b o = true) (hc : o.cp = false) : 1 ≤ o.l.length ∧ o.fr = 0 ∧ o.n = 0 := by
  unfold rtV at h
  rw [if_neg (by rw [hc]; exact Bool.false_ne_true)] at h
  simp at h
  obtain ⟨⟨h1, h2⟩, h3⟩ := h
  exact ⟨h1, h2, h3⟩
theorem rtV_mk_cp {b fr n : Int} (h1 : 1 ≤ n) (h2 : 0 ≤ fr) (h3 : fr ≤ b - n) : rtV b ⟨true, fr, n, []⟩ = true := by
  unfold rtV
  rw [if_pos rfl]
  simp
  omega
theorem rtV_mk_new {b : Int} {l : List UInt8} (h1 : 1 ≤ l.length) : rtV b ⟨false, 0, 0, l⟩ = true := by
  unfold rtV
  rw [if_neg Bool.false_ne_true]
  simp
  exact h1
theorem lay_len {a : List UInt8} {o : OV} (h : rtV a.length o = true) : ((layV a o).length : Int) = szV o := by
  unfold layV szV
  cases hc : o.cp with
  | true =>
    obtain ⟨h1, h2, h3, h4, h5⟩ := rtV_cp h hc
    rw [if_pos rfl, if_pos rfl, List.length_take, List.length_drop]
    omega
  | false => rw [if_neg Bool.false_ne_true, if_neg Bool.false_ne_true]
theorem chkL_iff {a : List UInt8} : ∀ (l : List OV) (left : Int), chkL a.length left l = true ↔ (∀ o ∈ l, rtV a.length o = true) ∧ ((aplV a l).length : Int) = left
  | [], left => by
    unfold chkL aplV
    simp
    omega
  | o :: r, left => by
    unfold chkL
    rw [Bool.and_eq_true, Bool.and_eq_true, chkL_iff r]
    constructor
    · rintro ⟨⟨h1, h2⟩, h3, h4⟩
      refine ⟨fun q hq => ?_, ?_⟩
      · rcases List.mem_cons.1 hq with rfl | hq
        · exact h1
        · exact h3 q hq
      · have := lay_len h1
        rw [aplV_cons, List.length_append]
        omega
    · rintro ⟨h1, h2⟩
      have h3 := h1 o (List.mem_cons_self ..)
      have := lay_len h3
      rw [aplV_cons, List.length_append] at h2
      refine ⟨⟨h3, decide_eq_true (by omega)⟩, fun q hq => h1 q (List.mem_cons_of_mem _ hq), by omega⟩
theorem errV_of {a : List UInt8} {t : Int} {l : List OV} (ha : a.length ≤ 4000) (hr : ∀ o ∈ l, rtV a.length o = true) (ht : ((aplV a l).length : Int) = t) (h4 : t ≤ 4000) : errV a.length t l = 0 := by
  rw [chk_eq (by omega), if_pos ((chkL_iff l t).2 ⟨hr, ht⟩)]
theorem lay_mk_cp (a : List UInt8) (fr n : Nat) (l : List UInt8) : layV a ⟨true, (fr : Int), (n : Int), l⟩ = (a.drop fr).take n := by
  unfold layV
  rw [if_pos rfl, Int.toNat_natCast, Int.toNat_natCast]
theorem lay_mk_new (a : List UInt8) (fr n : Int) (l : List UInt8) : layV a ⟨false, fr, n, l⟩ = l := by
  unfold layV
  rw [if_neg Bool.false_ne_true]
theorem apl_fl (a t : List UInt8) (s e : Nat) : aplV a (fl t s e) = (t.drop s).take (e - s) := by
  unfold fl
  split
  · rw [aplV_cons, lay_mk_new]
    show _ ++ [] = _
    rw [List.append_nil]
  · rename_i h
    rw [show e - s = 0 by omega]
    rfl
theorem rt_fl {b : Int} {t : List UInt8} {s e : Nat} (he : e ≤ t.length) : ∀ o ∈ fl t s e, rtV b o = true := fun o ho => by
  unfold fl at ho
  split at ho
  · rw [List.mem_singleton.1 ho]
    refine rtV_mk_new ?_
    rw [List.length_take, List.length_drop]
    omega
  · cases ho
theorem mkR_all (a t : List UInt8) : ∀ f k s, s ≤ k → k ≤ t.length → t.length - k ≤ f → (∀ o ∈ mkR a t f k s, rtV a.length o = true) ∧ aplV a (mkR a t f k s) = t.drop s := by
  have fin : ∀ f k s, s ≤ k → t.length ≤ k → (∀ o ∈ mkR a t f k s, rtV a.length o = true) ∧ aplV a (mkR a t f k s) = t.drop s := fun f k s _ h => by
    rw [mkR_end h]
    exact ⟨rt_fl (Nat.le_refl _), by rw [apl_fl, List.take_of_length_le (by rw [List.length_drop]; exact Nat.le_refl _)]⟩
  intro f
  induction f with
  | zero => exact fun k s h1 h2 h3 => fin 0 k s h1 (by omega)
  | succ f ih =>
    intro k s h1 h2 h3
    rcases Nat.lt_or_ge k t.length with q | q
    · by_cases h0 : (bst a (t.drop k)).2 = 0
      · rw [mkR_zero q h0]
        exact ih (k + 1) s (by omega) (by omega) (by omega)
      · rw [mkR_copy q h0]
        have hb := bst_bd a (t.drop k)
        have he := bst_eq a (t.drop k)
        rw [List.length_drop] at hb
        obtain ⟨i1, i2⟩ := ih (k + (bst a (t.drop k)).2) (k + (bst a (t.drop k)).2) (Nat.le_refl _) (by omega) (by omega)
        refine ⟨fun o ho => ?_, ?_⟩
        · rcases List.mem_append.1 ho with ho | ho
          · rcases List.mem_append.1 ho with ho | ho
            · exact rt_fl (by omega) o ho
            · rw [List.mem_singleton.1 ho]
              exact rtV_mk_cp (by omega) (by omega) (by omega)
          · exact i1 o ho
        · rw [aplV_app, aplV_app, i2, apl_fl, aplV_cons, lay_mk_cp, he]
          show _ ++ (_ ++ []) ++ _ = _
          rw [List.append_nil, List.append_assoc]
          have e1 : t.drop (k + (bst a (t.drop k)).2) = (t.drop k).drop (bst a (t.drop k)).2 := by rw [List.drop_drop]
          rw [e1, List.take_append_drop]
          have e2 : t.drop k = (t.drop s).drop (k - s) := by rw [List.drop_drop]; congr 1; omega
          rw [e2, List.take_append_drop]
    · exact fin _ k s h1 q
theorem mkV_all (a t : List UInt8) : (∀ o ∈ mkV a t, rtV a.length o = true) ∧ aplV a (mkV a t) = t := mkR_all a t t.length 0 0 (Nat.le_refl _) (Nat.zero_le _) (by omega)
theorem mkV_err {a t : List UInt8} (ha : a.length ≤ 4000) (ht : t.length ≤ 4000) : errV a.length t.length (mkV a t) = 0 :=
  errV_of ha (mkV_all a t).1 (by rw [(mkV_all a t).2]) (by omega)
theorem part_lay {a : List UInt8} {o : OV} {d k : Nat} (h : rtV a.length o = true) (hk : 1 ≤ k) (hd : d + k ≤ (szV o).toNat) : rtV a.length (partV o d k) = true ∧ layV a (partV o d k) = ((layV a o).drop d).take k := by
  unfold szV at hd
  unfold partV
  cases hc : o.cp with
  | true =>
    obtain ⟨h1, h2, h3, h4, h5⟩ := rtV_cp h hc
    rw [hc, if_pos rfl] at hd
    rw [if_pos rfl]
    refine ⟨rtV_mk_cp (by omega) (by omega) (by omega), ?_⟩
    have e : o.fr + (d : Int) = ((o.fr.toNat + d : Nat) : Int) := by omega
    rw [e, lay_mk_cp]
    have e2 : layV a o = (a.drop o.fr.toNat).take o.n.toNat := by unfold layV; rw [if_pos hc]
    rw [e2, List.drop_take, List.take_take, List.drop_drop, Nat.min_eq_left (by omega)]
  | false =>
    obtain ⟨h1, h2, h3⟩ := rtV_new h hc
    rw [hc, if_neg Bool.false_ne_true] at hd
    rw [if_neg Bool.false_ne_true]
    refine ⟨rtV_mk_new ?_, ?_⟩
    · rw [List.length_take, List.length_drop]
      omega
    · have e2 : layV a o = o.l := by unfold layV; rw [if_neg (by rw [hc]; exact Bool.false_ne_true)]
      rw [lay_mk_new, e2]
theorem within_lay {a : List UInt8} : ∀ (l : List OV) (at_ fr n : Nat), (∀ o ∈ l, rtV a.length o = true) → (∀ o ∈ withinV l at_ fr n, rtV a.length o = true) ∧ aplV a (withinV l at_ fr n) = ((aplV a l).drop (fr - at_)).take (fr + n - max fr at_)
  | [], at_, fr, n, _ => by
    unfold withinV
    exact ⟨fun o ho => (by cases ho), by simp [aplV]⟩
  | o :: r, at_, fr, n, h => by
    have ho := h o (List.mem_cons_self ..)
    have hs := lay_len ho
    have hz := sz_nonneg ho
    obtain ⟨i1, i2⟩ := within_lay r (at_ + (szV o).toNat) fr n (fun q hq => h q (List.mem_cons_of_mem _ hq))
    unfold withinV
    rw [aplV_app, i2, aplV_cons, List.drop_append, List.take_append, List.length_drop]
    have hl : (layV a o).length = (szV o).toNat := by omega
    rw [hl]
    have e1 : fr - at_ - (szV o).toNat = fr - (at_ + (szV o).toNat) := by omega
    have e2 : fr + n - max fr at_ - ((szV o).toNat - (fr - at_)) = fr + n - max fr (at_ + (szV o).toNat) := by omega
    rw [e1, e2]
    split
    · rename_i hc
      obtain ⟨p1, p2⟩ := part_lay (d := max fr at_ - at_) (k := min (fr + n) (at_ + (szV o).toNat) - max fr at_) ho (by omega) (by omega)
      refine ⟨fun q hq => ?_, ?_⟩
      · rcases List.mem_append.1 hq with hq | hq
        · rw [List.mem_singleton.1 hq]
          exact p1
        · exact i1 q hq
      · congr 1
        rw [aplV_cons, p2]
        show _ ++ [] = _
        rw [List.append_nil]
        have e3 : max fr at_ - at_ = fr - at_ := by omega
        rw [e3]
        rcases Nat.le_total (fr + n) (at_ + (szV o).toNat) with q | q
        · congr 1
          omega
        · rw [List.take_of_length_le (by rw [List.length_drop, hl]; omega), List.take_of_length_le (by rw [List.length_drop, hl]; omega)]
    · rename_i hc
      refine ⟨fun q hq => i1 q (by simpa using hq), ?_⟩
      congr 1
      show [] = _
      symm
      rw [List.take_eq_nil_iff, List.drop_eq_nil_iff, hl]
      omega
theorem then_lay {a : List UInt8} {la : List OV} (ha : ∀ o ∈ la, rtV a.length o = true) : ∀ (lb : List OV), (∀ o ∈ lb, rtV (aplV a la).length o = true) → (∀ o ∈ thenV la lb, rtV a.length o = true) ∧ aplV a (thenV la lb) = aplV (aplV a la) lb
  | [], _ => ⟨fun o ho => (by cases ho), rfl⟩
  | o :: r, h => by
    obtain ⟨i1, i2⟩ := then_lay ha r fun q hq => h q (List.mem_cons_of_mem _ hq)
    have ho := h o (List.mem_cons_self ..)
    have e : thenV la (o :: r) = (if o.cp then withinV la 0 o.fr.toNat o.n.toNat else [⟨false, 0, 0, o.l⟩]) ++ thenV la r := rfl
    rw [e, aplV_app, i2, aplV_cons]
    cases hc : o.cp with
    | true =>
      obtain ⟨w1, w2⟩ := within_lay la 0 o.fr.toNat o.n.toNat ha
      rw [if_pos rfl]
      refine ⟨fun q hq => ?_, ?_⟩
      · rcases List.mem_append.1 hq with hq | hq
        · exact w1 q hq
        · exact i1 q hq
      · congr 1
        rw [w2]
        have e2 : layV (aplV a la) o = ((aplV a la).drop o.fr.toNat).take o.n.toNat := by unfold layV; rw [if_pos hc]
        rw [e2, Nat.sub_zero]
        congr 1
        omega
    | false =>
      rw [if_neg Bool.false_ne_true]
      refine ⟨fun q hq => ?_, ?_⟩
      · rcases List.mem_append.1 hq with hq | hq
        · rw [List.mem_singleton.1 hq]
          exact rtV_mk_new (rtV_new ho hc).1
        · exact i1 q hq
      · congr 1
        have e2 : layV (aplV a la) o = o.l := by unfold layV; rw [if_neg (by rw [hc]; exact Bool.false_ne_true)]
        rw [aplV_cons, lay_mk_new, e2]
        show _ ++ [] = _
        rw [List.append_nil]
theorem chain_then {a b c : List UInt8} (ha : a.length ≤ 300) (hb : b.length ≤ 300) (hc : c.length ≤ 300) {x y z t : Int} (hx : x = a.length) (hy : y = b.length) (hz : z = b.length) (ht : t = c.length) :
    thenR x y (mkV a b) z t (mkV b c) = ((a.length : Int), (c.length : Int), thenV (mkV a b) (mkV b c), 0) := by
  subst hx hy hz ht
  exact then_ok (mkV_err (by omega) (by omega)) (mkV_err (by omega) (by omega)) rfl
theorem chain_apl {a b c : List UInt8} (ha : a.length ≤ 300) (hb : b.length ≤ 300) (hc : c.length ≤ 300) : aplR a a.length c.length (thenV (mkV a b) (mkV b c)) = (c, 0) := by
  obtain ⟨h1, h2⟩ := mkV_all a b
  obtain ⟨h3, h4⟩ := mkV_all b c
  have h3' : ∀ o ∈ mkV b c, rtV (aplV a (mkV a b)).length o = true := by rw [h2]; exact h3
  obtain ⟨h5, h6⟩ := then_lay h1 _ h3'
  rw [h2, h4] at h6
  rw [aplR_ok (errV_of (by omega) h5 (by rw [h6]) (by omega)) rfl, h6]
theorem mkV_cnt {a t : List UInt8} : (mkV a t).length ≤ t.length := by
  have h : ∀ (l : List OV) (left : Int), chkL a.length left l = true → (l.length : Int) ≤ left := by
    intro l
    induction l with
    | nil => intro left h; unfold chkL at h; have := of_decide_eq_true h; simp; omega
    | cons o r ih =>
      intro left h
      unfold chkL at h
      rw [Bool.and_eq_true, Bool.and_eq_true] at h
      have h1 := sz_nonneg h.1.1
      have h2 := ih _ h.2
      rw [List.length_cons]
      omega
  have := h _ _ ((chkL_iff (a := a) (mkV a t) t.length).2 ⟨(mkV_all a t).1, by rw [(mkV_all a t).2]⟩)
  omega
end Go.Proofs.Ytpcgldkllnkaeaa
