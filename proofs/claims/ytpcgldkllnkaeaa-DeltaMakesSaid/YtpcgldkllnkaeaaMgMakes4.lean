import Derived.Test.YtpcgldkllnkaeaaMgMakes3
/-
  Scripts that were made: they may be, they lay the target, and one behind another lays what both lay.
-/
namespace Go.Proofs.Ytpcgldkllnkaeaa
open Go.RowKit Zk Zx
set_option linter.unusedVariables false
set_option linter.unusedSimpArgs false
theorem fold_eq {a t : List UInt8} : ∀ (xs : List Nat) (s : Nat × Nat), (a.drop s.1).take s.2 = t.take s.2 → (a.drop (xs.foldl (stepB a t) s).1).take (xs.foldl (stepB a t) s).2 = t.take (xs.foldl (stepB a t) s).2
  | [], s, h => h
  | k :: xs, s, h => by
    refine fold_eq xs _ ?_
    unfold stepB
    split
    · exact ((comP_take (a.drop k) t _).1 (Nat.le_refl _)).2.2
    · exact h
theorem bst_eq (a t : List UInt8) : (a.drop (bst a t).1).take (bst a t).2 = t.take (bst a t).2 := by
  unfold bst
  split
  · simp
  · exact fold_eq _ _ (by simp)
theorem aplV_cons (a : List UInt8) (o : OV) (l : List OV) : aplV a (o :: l) = layV a o ++ aplV a l := rfl
theorem aplV_app (a : List UInt8) (l m : List OV) : aplV a (l ++ m) = aplV a l ++ aplV a m := List.flatMap_append
theorem rtV_cp {b : Int} {o : OV} (h : rtV b o = true) (hc : o.cp = true) : 1 ≤ o.n ∧ o.n ≤ b ∧ 0 ≤ o.fr ∧ o.fr ≤ b - o.n ∧ o.l = [] := by
  unfold rtV at h
  rw [if_pos hc] at h
  simp at h
  obtain ⟨⟨⟨⟨h1, h2⟩, h3⟩, h4⟩, h5⟩ := h
  exact ⟨h1, h2, h3, h4, h5⟩
theorem rtV_new {b : Int} {o : OV} (h : rtV b o = true) (hc : o.cp = false) : 1 ≤ o.l.length ∧ o.fr = 0 ∧ o.n = 0 := by
  unfold rtV at h
  rw [if_neg (by rw [hc]; exact Bool.false_ne_true)] at h
  simp at h
  obtain ⟨⟨h1, h2⟩, h3⟩ := h
  exact ⟨h1, h2, h3⟩
theorem rtV_mk_cp {b fr n : Int} (h1 : 1 ≤ n) (h2 : 0 ≤ fr) (h3 : fr ≤ b - n) : rtV b ⟨true, fr, n, []⟩ = true := by
  unfold rtV
  rw [if_pos rfl]
  simp
  omega
theorem rtV_mk_new {b : Int} {l : List UInt8} (h1 : 1 ≤ l.length) : rtV b ⟨false, 0, 0, l⟩ = true := by
  unfold rtV
  rw [if_neg Bool.false_ne_true]
  simp
  exact h1
theorem lay_len {a : List UInt8} {o : OV} (h : rtV a.length o = true) : ((layV a o).length : Int) = szV o := by
  unfold layV szV
  cases hc : o.cp with
  | true =>
    obtain ⟨h1, h2, h3, h4, h5⟩ := rtV_cp h hc
    rw [if_pos rfl, if_pos rfl, List.length_take, List.length_drop]
    omega
  | false => rw [if_neg Bool.false_ne_true, if_neg Bool.false_ne_true]
theorem chkL_iff {a : List UInt8} : ∀ (l : List OV) (left : Int), chkL a.length left l = true ↔ (∀ o ∈ l, rtV a.length o = true) ∧ ((aplV a l).length : Int) = left
  | [], left => by
    unfold chkL aplV
    simp
    omega
  | o :: r, left => by
    unfold chkL
    rw [Bool.and_eq_true, Bool.and_eq_true, chkL_iff r]
    constructor
    · rintro ⟨⟨h1, h2⟩, h3, h4⟩
      refine ⟨fun q hq => ?_, ?_⟩
      · rcases List.mem_cons.1 hq with rfl | hq
        · exact h1
        · exact h3 q hq
      · have := lay_len h1
        rw [aplV_cons, List.length_append]
        omega
    · rintro ⟨h1, h2⟩
      have h3 := h1 o (List.mem_cons_self ..)
      have := lay_len h3
      rw [aplV_cons, List.length_append] at h2
      refine ⟨⟨h3, decide_eq_true (by omega)⟩, fun q hq => h1 q (List.mem_cons_of_mem _ hq), by omega⟩
theorem errV_of {a : List UInt8} {t : Int} {l : List OV} (ha : a.length ≤ 4000) (hr : ∀ o ∈ l, rtV a.length o = true) (ht : ((aplV a l).length : Int) = t) (h4 : t ≤ 4000) : errV a.length t l = 0 := by
  rw [chk_eq (by omega), if_pos ((chkL_iff l t).2 ⟨hr, ht⟩)]
theorem lay_mk_cp (a : List UInt8) (fr n : Nat) (l : List UInt8) : layV a ⟨true, (fr : Int), (n : Int), l⟩ = (a.drop fr).take n := by
  unfold layV
  rw [if_pos rfl, Int.toNat_natCast, Int.toNat_natCast]
theorem lay_mk_new (a : List UInt8) (fr n : Int) (l : List UInt8) : layV a ⟨false, fr, n, l⟩ = l := by
  unfold layV
  rw [if_neg Bool.false_ne_true]
theorem apl_fl (a t : List UInt8) (s e : Nat) : aplV a (fl t s e) = (t.drop s).take (e - s) := by
  unfold fl
  split
  · rw [aplV_cons, lay_mk_new]
    show _ ++ [] = _
    rw [List.append_nil]
  · rename_i h
    rw [show e - s = 0 by omega]
    rfl
theorem rt_fl {b : Int} {t : List UInt8} {s e : Nat} (he : e ≤ t.length) : ∀ o ∈ fl t s e, rtV b o = true := fun o ho => by
  unfold fl at ho
  split at ho
  · rw [List.mem_singleton.1 ho]
    refine rtV_mk_new ?_
    rw [List.length_take, List.length_drop]
    omega
  · cases ho
theorem mkR_all (a t : List UInt8) : ∀ f k s, s ≤ k → k ≤ t.length → t.length - k ≤ f → (∀ o ∈ mkR a t f k s, rtV a.length o = true) ∧ aplV a (mkR a t f k s) = t.drop s := by
  have fin : ∀ f k s, s ≤ k → t.length ≤ k → (∀ o ∈ mkR a t f k s, rtV a.length o = true) ∧ aplV a (mkR a t f k s) = t.drop s := fun f k s _ h => by
    rw [mkR_end h]
    exact ⟨rt_fl (Nat.le_refl _), by rw [apl_fl, List.take_of_length_le (by rw [List.length_drop]; exact Nat.le_refl _)]⟩
  intro f
  induction f with
  | zero => exact fun k s h1 h2 h3 => fin 0 k s h1 (by omega)
  | succ f ih =>
    intro k s h1 h2 h3
    rcases Nat.lt_or_ge k t.length with q | q
    · by_cases h0 : (bst a (t.drop k)).2 = 0
      · rw [mkR_zero q h0]
        exact ih (k + 1) s (by omega) (by omega) (by omega)
      · rw [mkR_copy q h0]
        have hb := bst_bd a (t.drop k)
        have he := bst_eq a (t.drop k)
        rw [List.length_drop] at hb
        obtain ⟨i1, i2⟩ := ih (k + (bst a (t.drop k)).2) (k + (bst a (t.drop k)).2) (Nat.le_refl _) (by omega) (by omega)
        refine ⟨fun o ho => ?_, ?_⟩
        · rcases List.mem_append.1 ho with ho | ho
          · rcases List.mem_append.1 ho with ho | ho
            · exact rt_fl (by omega) o ho
            · rw [List.mem_singleton.1 ho]
              exact rtV_mk_cp (by omega) (by omega) (by omega)
          · exact i1 o ho
        · rw [aplV_app, aplV_app, i2, apl_fl, aplV_cons, lay_mk_cp, he]
          show _ ++ (_ ++ []) ++ _ = _
          rw [List.append_nil, List.append_assoc]
          have e1 : t.drop (k + (bst a (t.drop k)).2) = (t.drop k).drop (bst a (t.drop k)).2 := by rw [List.drop_drop]
          rw [e1, List.take_append_drop]
          have e2 : t.drop k = (t.drop s).drop (k - s) := by rw [List.drop_drop]; congr 1; omega
          rw [e2, List.take_append_drop]
    · exact fin _ k s h1 q
theorem mkV_all (a t : List UInt8) : (∀ o ∈ mkV a t, rtV a.length o = true) ∧ aplV a (mkV a t) = t := mkR_all a t t.length 0 0 (Nat.le_refl _) (Nat.zero_le _) (by omega)
theorem mkV_err {a t : List UInt8} (ha : a.length ≤ 4000) (ht : t.length ≤ 4000) : errV a.length t.length (mkV a t) = 0 :=
  errV_of ha (mkV_all a t).1 (by rw [(mkV_all a t).2]) (by omega)
theorem part_lay {a : List UInt8} {o : OV} {d k : Nat} (h : rtV a.length o = true) (hk : 1 ≤ k) (hd : d + k ≤ (szV o).toNat) : rtV a.length (partV o d k) = true ∧ layV a (partV o d k) = ((layV a o).drop d).take k := by
  unfold szV at hd
  unfold partV
  cases hc : o.cp with
  | true =>
    obtain ⟨h1, h2, h3, h4, h5⟩ := rtV_cp h hc
    rw [hc, if_pos rfl] at hd
    rw [if_pos rfl]
    refine ⟨rtV_mk_cp (by omega) (by omega) (by omega), ?_⟩
    have e : o.fr + (d : Int) = ((o.fr.toNat + d : Nat) : Int) := by omega
    rw [e, lay_mk_cp]
    have e2 : layV a o = (a.drop o.fr.toNat).take o.n.toNat := by unfold layV; rw [if_pos hc]
    rw [e2, List.drop_take, List.take_take, List.drop_drop, Nat.min_eq_left (by omega)]
  | false =>
    obtain ⟨h1, h2, h3⟩ := rtV_new h hc
    rw [hc, if_neg Bool.false_ne_true] at hd
    rw [if_neg Bool.false_ne_true]
    refine ⟨rtV_mk_new ?_, ?_⟩
    · rw [List.length_take, List.length_drop]
      omega
    · have e2 : layV a o = o.l := by unfold layV; rw [if_neg (by rw [hc]; exact Bool.false_ne_true)]
      rw [lay_mk_new, e2]
theorem within_lay {a : List UInt8} : ∀ (l : List OV) (at_ fr n : Nat), (∀ o ∈ l, rtV a.length o = true) → (∀ o ∈ withinV l at_ fr n, rtV a.length o = true) ∧ aplV a (withinV l at_ fr n) = ((aplV a l).drop (fr - at_)).take (fr + n - max fr at_)
  | [], at_, fr, n, _ => by
    unfold withinV
    exact ⟨fun o ho => (by cases ho), by simp [aplV]⟩
  | o :: r, at_, fr, n, h => by
    have ho := h o (List.mem_cons_self ..)
    have hs := lay_len ho
    have hz := sz_nonneg ho
    obtain ⟨i1, i2⟩ := within_lay r (at_ + (szV o).toNat) fr n (fun q hq => h q (List.mem_cons_of_mem _ hq))
    unfold withinV
    rw [aplV_app, i2, aplV_cons, List.drop_append, List.take_append, List.length_drop]
    have hl : (layV a o).length = (szV o).toNat := by omega
    rw [hl]
    have e1 : fr - at_ - (szV o).toNat = fr - (at_ + (szV o).toNat) := by omega
    have e2 : fr + n - max fr at_ - ((szV o).toNat - (fr - at_)) = fr + n - max fr (at_ + (szV o).toNat) := by omega
    rw [e1, e2]
    split
    · rename_i hc
      obtain ⟨p1, p2⟩ := part_lay (d := max fr at_ - at_) (k := min (fr + n) (at_ + (szV o).toNat) - max fr at_) ho (by omega) (by omega)
      refine ⟨fun q hq => ?_, ?_⟩
      · rcases List.mem_append.1 hq with hq | hq
        · rw [List.mem_singleton.1 hq]
          exact p1
        · exact i1 q hq
      · congr 1
        rw [aplV_cons, p2]
        show _ ++ [] = _
        rw [List.append_nil]
        have e3 : max fr at_ - at_ = fr - at_ := by omega
        rw [e3]
        rcases Nat.le_total (fr + n) (at_ + (szV o).toNat) with q | q
        · congr 1
          omega
        · rw [List.take_of_length_le (by rw [List.length_drop, hl]; omega), List.take_of_length_le (by rw [List.length_drop, hl]; omega)]
    · rename_i hc
      refine ⟨fun q hq => i1 q (by simpa using hq), ?_⟩
      congr 1
      show [] = _
      symm
      rw [List.take_eq_nil_iff, List.drop_eq_nil_iff, hl]
      omega
theorem then_lay {a : List UInt8} {la : List OV} (ha : ∀ o ∈ la, rtV a.length o = true) : ∀ (lb : List OV), (∀ o ∈ lb, rtV (aplV a la).length o = true) → (∀ o ∈ thenV la lb, rtV a.length o = true) ∧ aplV a (thenV la lb) = aplV (aplV a la) lb
  | [], _ => ⟨fun o ho => (by cases ho), rfl⟩
  | o :: r, h => by
    obtain ⟨i1, i2⟩ := then_lay ha r fun q hq => h q (List.mem_cons_of_mem _ hq)
    have ho := h o (List.mem_cons_self ..)
    have e : thenV la (o :: r) = (if o.cp then withinV la 0 o.fr.toNat o.n.toNat else [⟨false, 0, 0, o.l⟩]) ++ thenV la r := rfl
    rw [e, aplV_app, i2, aplV_cons]
    cases hc : o.cp with
    | true =>
      obtain ⟨w1, w2⟩ := within_lay la 0 o.fr.toNat o.n.toNat ha
      rw [if_pos rfl]
      refine ⟨fun q hq => ?_, ?_⟩
      · rcases List.mem_append.1 hq with hq | hq
        · exact w1 q hq
        · exact i1 q hq
      · congr 1
        rw [w2]
        have e2 : layV (aplV a la) o = ((aplV a la).drop o.fr.toNat).take o.n.toNat := by unfold layV; rw [if_pos hc]
        rw [e2, Nat.sub_zero]
        congr 1
        omega
    | false =>
      rw [if_neg Bool.false_ne_true]
      refine ⟨fun q hq => ?_, ?_⟩
      · rcases List.mem_append.1 hq with hq | hq
        · rw [List.mem_singleton.1 hq]
          exact rtV_mk_new (rtV_new ho hc).1
        · exact i1 q hq
      · congr 1
        have e2 : layV (aplV a la) o = o.l := by unfold layV; rw [if_neg (by rw [hc]; exact Bool.false_ne_true)]
        rw [aplV_cons, lay_mk_new, e2]
        show _ ++ [] = _
        rw [List.append_nil]
theorem chain_then {a b c : List UInt8} (ha : a.length ≤ 300) (hb : b.length ≤ 300) (hc : c.length ≤ 300) {x y z t : Int} (hx : x = a.length) (hy : y = b.length) (hz : z = b.length) (ht : t = c.length) :
    thenR x y (mkV a b) z t (mkV b c) = ((a.length : Int), (c.length : Int), thenV (mkV a b) (mkV b c), 0) := by
  subst hx hy hz ht
  exact then_ok (mkV_err (by omega) (by omega)) (mkV_err (by omega) (by omega)) rfl
theorem chain_apl {a b c : List UInt8} (ha : a.length ≤ 300) (hb : b.length ≤ 300) (hc : c.length ≤ 300) : aplR a a.length c.length (thenV (mkV a b) (mkV b c)) = (c, 0) := by
  obtain ⟨h1, h2⟩ := mkV_all a b
  obtain ⟨h3, h4⟩ := mkV_all b c
  have h3' : ∀ o ∈ mkV b c, rtV (aplV a (mkV a b)).length o = true := by rw [h2]; exact h3
  obtain ⟨h5, h6⟩ := then_lay h1 _ h3'
  rw [h2, h4] at h6
  rw [aplR_ok (errV_of (by omega) h5 (by rw [h6]) (by omega)) rfl, h6]
theorem mkV_cnt {a t : List UInt8} : (mkV a t).length ≤ t.length := by
  have h : ∀ (l : List OV) (left : Int), chkL a.length left l = true → (l.length : Int) ≤ left := by
    intro l
    induction l with
    | nil => intro left h; unfold chkL at h; have := of_decide_eq_true h; simp; omega
    | cons o r ih =>
      intro left h
      unfold chkL at h
      rw [Bool.and_eq_true, Bool.and_eq_true] at h
      have h1 := sz_nonneg h.1.1
      have h2 := ih _ h.2
      rw [List.length_cons]
      omega
  have := h _ _ ((chkL_iff (a := a) (mkV a t) t.length).2 ⟨(mkV_all a t).1, by rw [(mkV_all a t).2]⟩)
  omega
end Go.Proofs.Ytpcgldkllnkaeaa

/-
  The Writer; the document: Var, Text.
-/
namespace Go.Proofs.Ytpcgldkllnkaeaa
open Go.RowKit Zk Zx
set_option linter.unusedVariables false
set_option linter.unusedSimpArgs false

/-- A Writer at block g that has laid l. -/
def wt (g : Nat) (A : Option Addr) (n c : Nat) (l : List UInt8) : Res := both (blk g 93 #[.slice A n c]) (row 5 1 A n c (bL l))
theorem wt_apart {w : World} {g n c : Nat} {A : Option Addr} {l : List UInt8} (h : (wt g A n c l).holds w) : ∀ i, (blk g 93 #[.slice A n c]).dom i → ¬ (row 5 1 A n c (bL l)).dom i := fun i hi hr => by
  have hi' : i = g := hi
  subst hi'
  exact own_blk_ne (e := 5) h.2 h.1 (by decide) hr
theorem wt_lt {w : World} {g n c : Nat} {A : Option Addr} {l : List UInt8} (h : (wt g A n c l).holds w) : ∀ i, (wt g A n c l).dom i → i < w.heap.size := fun i hi => by
  rcases hi with hi | hi
  · have hi' : i = g := hi
    subst hi'
    exact Blk.lt h.1
  · exact (World.ownsRow.lt h.2 i hi).2
theorem wt_len {w : World} {g n c : Nat} {A : Option Addr} {l : List UInt8} (h : (wt g A n c l).holds w) : l.length = n := by
  have := h.2.1
  simpa using this
/-- From w to w' the Writer at g, which had laid l, has laid m. -/
def Laid (w w' : World) (g : Nat) (A : Option Addr) (n c : Nat) (l m : List UInt8) : Prop := ∃ A' n' c', Turned w w' (wt g A n c l) (wt g A' n' c' m)
theorem Laid.of {w w' : World} {g n c n' c' : Nat} {A A' : Option Addr} {l m : List UInt8} {X : Array Value} {ys : List Value} (h : Turned w w' (wt g A n c l) (both (blk g 93 X) (row 5 1 A' n' c' ys))) (hX : X = #[.slice A' n' c']) (hy : ys = bL m) : Laid w w' g A n c l m := by
  subst hX
  subst hy
  exact ⟨A', n', c', h⟩
theorem Laid.refl {w : World} {g n c : Nat} {A : Option Addr} {l : List UInt8} (h : (wt g A n c l).holds w) : Laid w w g A n c l l := ⟨A, n, c, Turned.refl h⟩
/-- With the length. -/
theorem Laid.same {w w' : World} {g n c : Nat} {A : Option Addr} {l m : List UInt8} (h : Laid w w' g A n c l m) : ∃ A' c', Turned w w' (wt g A n c l) (wt g A' m.length c' m) := by
  obtain ⟨A', n', c', h⟩ := h
  have := wt_len h.holds
  subst this
  exact ⟨A', c', h⟩


set_option maxRecDepth 100000 in
theorem wbyte (g : Nat) (A : Option Addr) (n c : Nat) (l : List UInt8) (x : UInt8) (w0 : World) (hw : (wt g A n c l).holds w0) (hn : l.length ≤ 70368744177664) :
    Calls Try.prog 31 #[.pointer (some ⟨g, 0, none⟩), .int .u8 (x.toNat : Int)] w0 fun e w' => ∃ u, e = .returned u ∧ Laid w0 w' g A n c l (l ++ [x]) := by
  refine enter1 (env := [(0, .pointer (some ⟨g, 0, none⟩)), (1, .int .u8 (x.toNat : Int))]) [.pointer (some ⟨g, 0, none⟩), .int .u8 (x.toNat : Int)] Try.func31 rfl Try.ntmps31 rfl rfl ?_
  have hln := wt_len hw; have S0 := St.borrow2 (blk g 93 #[.slice A n c]) (row 5 1 A n c (bL l)) hw.1 hw.2 (wt_lt hw) (wt_apart hw)
  refine T_seq fun K1 hK1 => ?_
  refine T_region ?_
  refine L_y (y_move rfl) rfl ?_
  refine L_y (y_pneqn Try.underlying62 rfl) rfl ?_
  refine L_nil ?_
  refine hK1 _ _ ?_
  refine T_true rfl ?_
  refine T_region ?_
  refine L_y (y_move rfl) rfl ?_
  refine L_y (y_move rfl) rfl ?_
  refine L_y (y_nilp rfl) rfl ?_
  refine L_y (y_fieldA 0 Try.underlying93 rfl sz22 rfl rfl rfl) rfl ?_
  refine L_y (y_ldc Try.underlying22 rfl rfl (((S0.blk 0 rfl).cell _).trans (show (#[Value.slice A n c] : Array Value)[0]? = some (Value.slice A n c) from rfl))) rfl ?_
  refine L_y (y_move rfl) rfl ?_
  refine L_o (o_bsl [_] te22 zz5 S0 rfl rfl rfl rfl rfl rfl rfl rfl fun b1 w1 S1 => ?_)
  refine L_o (o_app te22 S1 1 rfl rfl rfl (by first | exact S1.row 1 rfl | exact S1.row 2 rfl) (by first | exact bL_one _ | exact iL_one _ | (intro u hu; simp at hu; subst hu; rfl) | (simp; done) | (simp [Value.oneCell']; done)) rfl (by omega) (by omega) fun A2 c2 w2 S2 => ?_)
  have S2d := S2.drop (rs' := [_, _]) (.cons_cons _ (.cons_cons _ (.cons _ (.refl _))))
  refine L_y (y_nilp rfl) rfl ?_
  refine L_y (y_fieldA 0 Try.underlying93 rfl sz22 rfl rfl rfl) rfl ?_
  refine L_o (o_st1 S2d 0 rfl rfl rfl rfl sz22 (by simp; done) fun w3 S3 => ?_)
  refine L_nil ?_
  first | refine end0 (fn := Try.f31) rfl ?_ | (simp only [thenQ, inB, if_true]; refine end0 (fn := Try.f31) rfl ?_)
  exact ⟨_, rfl, Laid.of (S3.turned2 0 1 rfl rfl) rfl (by simp [bL, bV])⟩


set_option maxRecDepth 100000 in
theorem wraw (g : Nat) (A : Option Addr) (n c : Nat) (l : List UInt8) (B : Option Addr) (m d : Nat) (q : List UInt8) (w0 : World) (hw : (wt g A n c l).holds w0) (hp : Rs w0 1 B m d (bL q)) (hn : l.length + m ≤ 70368744177664) :
    Calls Try.prog 52 #[.pointer (some ⟨g, 0, none⟩), .slice B m d] w0 fun e w' => ∃ u, e = .returned u ∧ Laid w0 w' g A n c l (l ++ q) := by
  refine enter1 (env := [(0, .pointer (some ⟨g, 0, none⟩)), (1, .slice B m d)]) [.pointer (some ⟨g, 0, none⟩), .slice B m d] Try.func52 rfl Try.ntmps52 rfl rfl ?_
  have hln := wt_len hw; have S0 := St.borrow2 (blk g 93 #[.slice A n c]) (row 5 1 A n c (bL l)) hw.1 hw.2 (wt_lt hw) (wt_apart hw)
  refine T_seq fun K1 hK1 => ?_
  refine T_region ?_
  refine L_y (y_move rfl) rfl ?_
  refine L_y (y_pneqn Try.underlying62 rfl) rfl ?_
  refine L_nil ?_
  refine hK1 _ _ ?_
  refine T_true rfl ?_
  refine T_region ?_
  refine L_y (y_move rfl) rfl ?_
  refine L_y (y_move rfl) rfl ?_
  refine L_y (y_nilp rfl) rfl ?_
  refine L_y (y_fieldA 0 Try.underlying93 rfl sz22 rfl rfl rfl) rfl ?_
  refine L_y (y_ldc Try.underlying22 rfl rfl (((S0.blk 0 rfl).cell _).trans (show (#[Value.slice A n c] : Array Value)[0]? = some (Value.slice A n c) from rfl))) rfl ?_
  refine L_y (y_move rfl) rfl ?_
  refine L_o (o_app te22 S0 1 rfl rfl rfl (hp) (bL_one _) rfl (by omega) (by omega) fun A1 c1 w1 S1 => ?_)
  refine L_y (y_nilp rfl) rfl ?_
  refine L_y (y_fieldA 0 Try.underlying93 rfl sz22 rfl rfl rfl) rfl ?_
  refine L_o (o_st1 S1 0 rfl rfl rfl rfl sz22 (by simp; done) fun w2 S2 => ?_)
  refine L_nil ?_
  first | refine end0 (fn := Try.f52) rfl ?_ | (simp only [thenQ, inB, if_true]; refine end0 (fn := Try.f52) rfl ?_)
  have hE := S2.turned2 0 1 rfl rfl
  exact ⟨_, rfl, Laid.of hE rfl (by simp [bL])⟩


set_option maxRecDepth 100000 in
theorem wnew  (w0 : World)  :
    Calls Try.prog 29 #[] w0 fun e w' => ∃ u, e = .returned u ∧ Like w0 w' ∧ ∃ b, u = .pointer (some ⟨b, 0, none⟩) ∧ w0.heap.size ≤ b ∧ (wt b none 0 0 []).holds w' := by
  refine enter1 (env := []) [] Try.func29 rfl Try.ntmps29 rfl rfl ?_
  have S0 := St.start w0 noM
  refine T_seq fun K1 hK1 => ?_
  refine T_region ?_
  refine L_y (y_assign rfl) rfl ?_
  refine L_nil ?_
  refine hK1 _ _ ?_
  refine T_seq fun K2 hK2 => ?_
  refine T_region ?_
  refine L_y (y_build rfl (show _ = some #[Value.slice none 0 0] by kernel_rfl)) rfl ?_
  refine L_o (o_box rfl S0 rfl fun b1 w1 hb1 S1 => ?_)
  refine L_y (y_assign rfl) rfl ?_
  refine L_nil ?_
  refine hK2 _ _ ?_
  refine T_ret ?_
  repeat (first | with_reducible refine up_then ?_ | with_reducible refine up_in ?_)
  refine ret1 rfl rfl ?_
  exact ⟨_, rfl, S1.like0, b1, rfl, hb1, (S1.get 0 rfl), ⟨by simp [bL], .inl ⟨rfl, rfl⟩⟩⟩


/-- The last bytes of a number, the highest first. -/
def tl (v : Nat) : Nat → List UInt8
  | 0 => []
  | j + 1 => UInt8.ofNat (v / 256 ^ j % 256) :: tl v j
theorem length_tl (v : Nat) : ∀ j, (tl v j).length = j
  | 0 => rfl
  | j + 1 => by simp [tl, length_tl v j]
theorem tl_get (v : Nat) : ∀ (j i : Nat), i < j → (tl v j)[i]? = some (UInt8.ofNat (v / 256 ^ (j - 1 - i) % 256))
  | j + 1, 0, _ => by simp [tl]
  | j + 1, i + 1, h => by
    simp only [tl, List.getElem?_cons_succ]
    rw [tl_get v j i (by omega), show j + 1 - 1 - (i + 1) = j - 1 - i by omega]
theorem tl_take (v j i : Nat) (h : i < j) : (tl v j).take (i + 1) = (tl v j).take i ++ [UInt8.ofNat (v / 256 ^ (j - 1 - i) % 256)] := by
  rw [List.take_add_one, tl_get v j i h]
  rfl
theorem shr24 (x k : Nat) (h : k < 4) : Int.fdiv (x : Int) (2 ^ (min ((24 : Int) - 8 * (k : Int)).toNat IntKind.u32.bits)) = ((x / 256 ^ (4 - 1 - k) : Nat) : Int) := by
  have e1 : min ((24 : Int) - 8 * (k : Int)).toNat IntKind.u32.bits = 8 * (4 - 1 - k) := by simp only [IntKind.bits]; omega
  rw [e1, Int.fdiv_eq_ediv_of_nonneg _ (Int.pow_nonneg (by omega)), Int.natCast_ediv, Int.natCast_pow, Int.pow_mul]
  rfl
theorem byteOf (y : Nat) : IntKind.u8.wrap (y : Int) = ((UInt8.ofNat (y % 256)).toNat : Int) := by
  rw [IntKind.wrap_u8, UInt8.toNat_ofNat']
  omega


theorem shr32 (x : Nat) : Int.fdiv (x : Int) (2 ^ (min (32 : Int).toNat IntKind.u64.bits)) = ((x / 4294967296 : Nat) : Int) := by
  have e1 : min (32 : Int).toNat IntKind.u64.bits = 32 := by decide
  rw [e1, Int.fdiv_eq_ediv_of_nonneg _ (Int.pow_nonneg (by omega)), Int.natCast_ediv]
  rfl
theorem w32 (y : Nat) : IntKind.u32.wrap (y : Int) = ((y % 4294967296 : Nat) : Int) := by
  rw [IntKind.wrap_u32]
  omega
theorem tl_mod (v : Nat) : tl (v % 4294967296) 4 = tl v 4 := by
  simp only [tl]
  rw [show v % 4294967296 / 256 ^ 3 % 256 = v / 256 ^ 3 % 256 by omega, show v % 4294967296 / 256 ^ 2 % 256 = v / 256 ^ 2 % 256 by omega, show v % 4294967296 / 256 ^ 1 % 256 = v / 256 ^ 1 % 256 by omega, show v % 4294967296 / 256 ^ 0 % 256 = v / 256 ^ 0 % 256 by omega]
theorem tl_eight (v : Nat) : tl v 8 = tl (v / 4294967296 % 4294967296) 4 ++ tl (v % 4294967296) 4 := by
  rw [tl_mod, tl_mod]
  simp only [tl, List.cons_append, List.nil_append]
  rw [show v / 4294967296 / 256 ^ 3 = v / 256 ^ 7 by omega, show v / 4294967296 / 256 ^ 2 = v / 256 ^ 6 by omega, show v / 4294967296 / 256 ^ 1 = v / 256 ^ 5 by omega, show v / 4294967296 / 256 ^ 0 = v / 256 ^ 4 by omega]


/-- A number by sevens, the lowest first. -/
def vr (x : Nat) : List UInt8 := if h : 128 ≤ x then UInt8.ofNat (x % 128 + 128) :: vr (x / 128) else [UInt8.ofNat x]
termination_by x
decreasing_by omega
theorem vr_big (x : Nat) (h : 128 ≤ x) : vr x = UInt8.ofNat (x % 128 + 128) :: vr (x / 128) := by rw [vr, dif_pos h]
theorem vr_low (x : Nat) (h : x < 128) : vr x = [UInt8.ofNat x] := by rw [vr, dif_neg (by omega)]
set_option maxRecDepth 100000 in
theorem orBits : ∀ m : Fin 256, bits .or .u8 (m.val : Int) 128 = ((UInt8.ofNat (m.val % 128 + 128)).toNat : Int) := by decide
theorem shr7 (x : Nat) : Int.fdiv (x : Int) (2 ^ (min (7 : Int).toNat IntKind.u64.bits)) = ((x / 128 : Nat) : Int) := by
  have e1 : min (7 : Int).toNat IntKind.u64.bits = 7 := by decide
  rw [e1, Int.fdiv_eq_ediv_of_nonneg _ (Int.pow_nonneg (by omega)), Int.natCast_ediv]
  rfl


theorem orB (x : Nat) : bits .or .u8 ((x % 256 : Nat) : Int) 128 = ((UInt8.ofNat (x % 128 + 128)).toNat : Int) := by
  have h := orBits ⟨x % 256, by omega⟩
  rw [show (⟨x % 256, by omega⟩ : Fin 256).val = x % 256 from rfl] at h
  rw [h, show x % 256 % 128 = x % 128 by omega]
theorem w8 (y : Nat) : IntKind.u8.wrap (y : Int) = ((y % 256 : Nat) : Int) := by
  rw [IntKind.wrap_u8]
  omega
theorem w8low (y : Nat) (h : y < 128) : IntKind.u8.wrap (y : Int) = ((UInt8.ofNat y).toNat : Int) := by
  rw [IntKind.wrap_u8, UInt8.toNat_ofNat']
  omega
theorem vr_len (x : Nat) : ∀ k, x < 128 ^ (k + 1) → (vr x).length ≤ k + 1 := by
  intro k
  induction k generalizing x with
  | zero => intro h; rw [vr_low x (by simpa using h)]; simp
  | succ k ih =>
    intro h
    by_cases hb : 128 ≤ x
    · rw [vr_big x hb, List.length_cons]
      have := ih (x / 128) (by rw [Nat.pow_succ] at h; omega)
      omega
    · rw [vr_low x (by omega)]; simp
theorem vr_len10 (x : Nat) (h : x ≤ 18446744073709551615) : (vr x).length ≤ 10 := vr_len x 9 (by omega)


set_option maxRecDepth 100000 in
theorem wvar (g : Nat) (A : Option Addr) (n c : Nat) (l : List UInt8) (x : Nat) (w0 : World) (hw : (wt g A n c l).holds w0) (hx : x ≤ 18446744073709551615) (hn : l.length ≤ 70368744176000) :
    Calls Try.prog 30 #[.pointer (some ⟨g, 0, none⟩), .int .u64 (x : Int)] w0 fun e w' => ∃ u, e = .returned u ∧ Laid w0 w' g A n c l (l ++ vr x) := by
  refine enter1 (env := [(0, .pointer (some ⟨g, 0, none⟩)), (1, .int .u64 (x : Int))]) [.pointer (some ⟨g, 0, none⟩), .int .u64 (x : Int)] Try.func30 rfl Try.ntmps30 rfl rfl ?_
  have hln := wt_len hw; have S0 := St.borrow1 (wt g A n c l) hw (wt_lt hw)
  refine T_seq fun K1 hK1 => ?_
  refine T_region ?_
  refine L_y (y_move rfl) rfl ?_
  refine L_y (y_makeFunc rfl rfl) rfl ?_
  refine L_y (y_assign rfl) rfl ?_
  refine L_nil ?_
  refine hK1 _ _ ?_
  refine T_seq fun K2 hK2 => ?_
  refine T_block ?_
  refine T_loop2 [(4, _)] (fun (y : Nat) (m : List UInt8) => [(1, .int .u64 (y : Int))]) (fun (y : Nat) (m : List UInt8) => y) (fun (y : Nat) (m : List UInt8) (w : World) => (m ++ vr y = l ++ vr x ∧ y ≤ x ∧ m.length + (vr y).length ≤ 70368744177000) ∧ ∃ A1 n1 c1, St w0 (wt g A n c l).dom [wt g A1 n1 c1 m] w) x l (Sub.cons rfl (by first | rfl | exact congrArg (Value.int _) (by omega)) (Sub.nil _)) (Sub.cons rfl rfl (Sub.nil _)) ?_ ?_
  ·
    have := vr_len10 x hx
    exact ⟨⟨rfl, Nat.le_refl _, by omega⟩, _, _, _, S0⟩
  ·
    intro y m w1 hrel
    obtain ⟨⟨hm, hy, hml⟩, A1, n1, c1, S1⟩ := hrel
    have hg : m.length ≤ 70368744177000 := by omega
    refine T_seq fun K3 hK3 => ?_
    refine T_seq fun K4 hK4 => ?_
    refine T_region ?_
    refine L_y (y_move rfl) rfl ?_
    refine L_y (y_geq rfl rfl) rfl ?_
    refine L_nil ?_
    refine hK4 _ _ ?_
    refine T_cond rfl (fun h8 => ?_) (fun h8 => ?_)
    ·
      refine T_skip ?_
      refine hK3 _ _ ?_
      refine T_block ?_
      refine T_seq fun K5 hK5 => ?_
      refine T_region ?_
      refine L_y (y_move rfl) rfl ?_
      refine L_y (y_move rfl) rfl ?_
      refine L_y (y_conv is65 Try.underlying5 rfl (w8 _)) rfl ?_
      refine L_y (y_bits rfl rfl rfl (orB _)) rfl ?_
      refine L_o (o_callv rfl Try.func31 rfl rfl (wbyte g _ _ _ _ (UInt8.ofNat (y % 128 + 128)) w1 (S1.get 0 rfl) (by omega)) rfl rfl (fun d' hd => by cases hd <;> rfl) ?_)
      rintro e2 w2 ⟨v2, rfl, ⟨A2, n2, c2, T2⟩⟩
      refine ⟨_, rfl, ?_⟩
      have S2 := S1.turn 0 rfl T2
      refine L_nil ?_
      refine hK5 _ _ ?_
      refine T_region ?_
      refine L_y (y_move rfl) rfl ?_
      refine L_y (y_shr rfl rfl (by omega) (shr7 _)) rfl ?_
      refine L_y (y_assign rfl) rfl ?_
      refine L_nil ?_
      refine ⟨y / 128, m ++ [UInt8.ofNat (y % 128 + 128)], by omega, ⟨⟨by rw [← hm, vr_big y (by omega)]; simp, by omega, by rw [vr_big y (by omega)] at hml; simp at hml ⊢; omega⟩, _, _, _, S2⟩, ?_⟩
      exact (Sub.cons rfl (by first | rfl | exact congrArg (Value.int _) (by omega)) (Sub.cons rfl rfl (Sub.nil _)))
    ·
      refine T_exit ?_
      refine hK2 _ _ ?_
      refine T_region ?_
      refine L_y (y_move rfl) rfl ?_
      refine L_y (y_move rfl) rfl ?_
      refine L_y (y_conv is65 Try.underlying5 rfl (w8low _ (by omega))) rfl ?_
      refine L_o (o_callv rfl Try.func31 rfl rfl (wbyte g _ _ _ _ (UInt8.ofNat y) w1 (S1.get 0 rfl) (by omega)) rfl rfl (fun d' hd => by cases hd <;> rfl) ?_)
      rintro e3 w3 ⟨v3, rfl, ⟨A3, n3, c3, T3⟩⟩
      refine ⟨_, rfl, ?_⟩
      have S3 := S1.turn 0 rfl T3
      refine L_nil ?_
      first | refine end0 (fn := Try.f30) rfl ?_ | (simp only [thenQ, inB, if_true]; refine end0 (fn := Try.f30) rfl ?_)
      exact ⟨_, rfl, _, _, _, by rw [← hm, vr_low y (by omega)]; exact S3.turned1 0 rfl⟩


set_option maxRecDepth 100000 in
theorem wtext (g : Nat) (A : Option Addr) (n c : Nat) (l : List UInt8) (s : ByteArray) (w0 : World) (hw : (wt g A n c l).holds w0) (hn : l.length + s.size ≤ 70368744170000) :
    Calls Try.prog 32 #[.pointer (some ⟨g, 0, none⟩), .string s] w0 fun e w' => ∃ u, e = .returned u ∧ Laid w0 w' g A n c l (l ++ (vr s.size ++ s.data.toList)) := by
  refine enter1 (env := [(0, .pointer (some ⟨g, 0, none⟩)), (1, .string s)]) [.pointer (some ⟨g, 0, none⟩), .string s] Try.func32 rfl Try.ntmps32 rfl rfl ?_
  have hln := wt_len hw; have S0 := St.borrow1 (wt g A n c l) hw (wt_lt hw)
  refine T_seq fun K1 hK1 => ?_
  refine T_region ?_
  refine L_y (y_move rfl) rfl ?_
  refine L_y (y_move rfl) rfl ?_
  refine L_y (y_lens Try.underlying9 rfl) rfl ?_
  refine L_y (y_conv is3 Try.underlying65 rfl (u64w (by omega))) rfl ?_
  refine L_o (o_call Try.func30 rfl rfl (wvar g _ _ _ _ s.size w0 (S0.get 0 rfl) (by omega) (by omega)) rfl rfl ?_)
  rintro e1 w1 ⟨v1, rfl, ⟨A1, n1, c1, T1⟩⟩
  refine ⟨_, rfl, ?_⟩
  have S1 := S0.turn 0 rfl T1
  refine L_nil ?_
  refine hK1 _ _ ?_
  refine T_region ?_
  refine L_y (y_move rfl) rfl ?_
  refine L_y (y_move rfl) rfl ?_
  refine L_o (o_sbytes Try.underlying9 Try.underlying22 Try.underlying5 rfl (by omega) S1 rfl fun b2 c2 w2 l2 S2 => ?_)
  refine L_o (o_call Try.func52 rfl rfl (wraw g _ _ _ _ _ _ _ _ w2 (S2.get 0 rfl) (S2.get 1 rfl) (by have := vr_len10 s.size (by omega); simp; omega)) rfl rfl ?_)
  rintro e3 w3 ⟨v3, rfl, ⟨A3, n3, c3, T3⟩⟩
  refine ⟨_, rfl, ?_⟩
  have S3 := S2.turn 0 rfl T3
  refine L_nil ?_
  first | refine end0 (fn := Try.f32) rfl ?_ | (simp only [thenQ, inB, if_true]; refine end0 (fn := Try.f32) rfl ?_)
  exact ⟨_, rfl, _, _, _, by have h := S3.turned1 0 rfl; rwa [List.append_assoc] at h⟩


set_option maxRecDepth 100000 in
theorem wbytes (g : Nat) (A : Option Addr) (n c : Nat) (l : List UInt8) (w0 : World) (hw : (wt g A n c l).holds w0) (hn : l.length ≤ 70368744177000) :
    Calls Try.prog 33 #[.pointer (some ⟨g, 0, none⟩)] w0 fun e w' => ∃ u, e = .returned u ∧ Like w0 w' ∧ ∃ A' m c', u = .slice A' m c' ∧ w'.ownsRow w0.heap.size 5 1 (.slice A' m c') m (bL l) := by
  refine enter1 (env := [(0, .pointer (some ⟨g, 0, none⟩))]) [.pointer (some ⟨g, 0, none⟩)] Try.func33 rfl Try.ntmps33 rfl rfl ?_
  have hln := wt_len hw; have S0 := St.start w0 noM
  refine T_seq fun K1 hK1 => ?_
  refine T_region ?_
  refine L_y (y_assign rfl) rfl ?_
  refine L_nil ?_
  refine hK1 _ _ ?_
  refine T_seq fun K2 hK2 => ?_
  refine T_seq fun K3 hK3 => ?_
  refine T_region ?_
  refine L_y (y_move rfl) rfl ?_
  refine L_y (y_peqn Try.underlying62 rfl) rfl ?_
  refine L_y (y_move rfl) rfl ?_
  refine L_gyes rfl rfl ?_
  refine L_y (y_move rfl) rfl ?_
  refine L_gyes rfl rfl ?_
  refine L_y (y_nilp rfl) rfl ?_
  refine L_gyes rfl rfl ?_
  refine L_y (y_fieldA 0 Try.underlying93 rfl sz22 rfl rfl rfl) rfl ?_
  refine L_gyes rfl rfl ?_
  refine L_y (y_ldc Try.underlying22 rfl rfl (((S0.rdB hw.1).cell _).trans (show (#[Value.slice A n c] : Array Value)[0]? = some (Value.slice A n c) from rfl))) rfl ?_
  refine L_gyes rfl rfl ?_
  refine L_y (y_len Try.underlying22 rfl) rfl ?_
  refine L_gyes rfl rfl ?_
  refine L_y (y_eql rfl rfl) rfl ?_
  refine L_y ((by first | exact y_pickT rfl rfl | exact y_pickF rfl rfl)) rfl ?_
  refine L_nil ?_
  refine hK3 _ _ ?_
  refine T_cond rfl (fun h12 => ?_) (fun h12 => ?_)
  ·
    refine T_seq fun K4 hK4 => ?_
    refine T_region ?_
    refine L_y (y_assign rfl) rfl ?_
    refine L_nil ?_
    refine hK4 _ _ ?_
    refine T_ret ?_
    repeat (first | with_reducible refine up_then ?_ | with_reducible refine up_in ?_)
    refine ret1 rfl rfl ?_
    first | exact ⟨_, rfl, S0.like0, none, 0, 0, rfl, by have hn0 : n = 0 := (by omega); subst hn0; have hl0 := List.length_eq_zero_iff.1 hln; subst hl0; exact ⟨by simp [bL], .inl ⟨rfl, rfl⟩⟩⟩ | exact ⟨_, rfl, S0.like0, _, _, _, rfl, by have := S0.own 0 rfl; simpa using this⟩
  ·
    refine T_skip ?_
    refine hK2 _ _ ?_
    refine T_seq fun K5 hK5 => ?_
    refine T_zed [0, 1, 2, 3, 4, 6, 7, 8, 9, 5] 10 [(0, 1), (1, 1), (2, 1), (3, 1), (4, 1), (6, 1), (7, 1), (8, 1), (9, 1), (5, 2), (10, 3), (11, 3)] hmix (by kernel_rfl) fun w1 l1 => ?_
    have S1 := S0.like l1
    refine ZA_B (Like w1) (Like.refl _) ?_
    refine ZB_y rfl (y_move rfl) rfl ?_
    refine ZB_y rfl (y_nilp rfl) rfl ?_
    refine ZB_y rfl (y_fieldA 0 Try.underlying93 rfl sz22 rfl rfl rfl) rfl ?_
    refine ZB_y rfl (y_ldc Try.underlying22 rfl rfl (((S1.rdB hw.1).cell _).trans (show (#[Value.slice A n c] : Array Value)[0]? = some (Value.slice A n c) from rfl))) rfl ?_
    refine ZB_y rfl (y_len Try.underlying22 rfl) rfl ?_
    refine ZB_y rfl (y_move rfl) rfl ?_
    refine ZB_y rfl (y_nilp rfl) rfl ?_
    refine ZB_y rfl (y_fieldA 0 Try.underlying93 rfl sz22 rfl rfl rfl) rfl ?_
    refine ZB_y rfl (y_ldc Try.underlying22 rfl rfl (((S1.rdB hw.1).cell _).trans (show (#[Value.slice A n c] : Array Value)[0]? = some (Value.slice A n c) from rfl))) rfl ?_
    refine ZB_o rfl (o_makeL te22 rfl S1 rfl rfl inferInstance inferInstance rfl (by omega) (by omega) (by omega) fun b2 w2 l2 S2 => ?_)
    have q2 := l2
    refine ⟨q2, ?_⟩
    refine ZB_c rfl (o_app te22 S2 0 rfl rfl rfl (S2.rd (rs_of_row hw.2)) (bL_one _) rfl (by omega) (by omega) fun A3 c3 w3 S3 => ?_)
    refine ZA_oy rfl (y_assign rfl) rfl ?_
    refine ZA_nil ?_
    refine hK5 _ _ ?_
    refine T_ret ?_
    repeat (first | with_reducible refine up_then ?_ | with_reducible refine up_in ?_)
    refine ret1 rfl rfl ?_
    first | exact ⟨_, rfl, S3.like0, none, 0, 0, rfl, by have hn0 : n = 0 := (by omega); subst hn0; have hl0 := List.length_eq_zero_iff.1 hln; subst hl0; exact ⟨by simp [bL], .inl ⟨rfl, rfl⟩⟩⟩ | exact ⟨_, rfl, S3.like0, _, _, _, rfl, by have := S3.own 0 rfl; simpa using this⟩



set_option maxRecDepth 100000 in
theorem refvar (x : Nat) (w0 : World) (hx : x ≤ 18446744073709551615) :
    Calls Try.prog 35 #[.int .u64 (x : Int)] w0 fun e w' => ∃ u, e = .returned u ∧ Like w0 w' ∧ ∃ A m c, u = .slice A m c ∧ w'.ownsRow w0.heap.size 5 1 (.slice A m c) m (bL (vr x)) := by
  refine enter1 (env := [(0, .int .u64 (x : Int))]) [.int .u64 (x : Int)] Try.func35 rfl Try.ntmps35 rfl rfl ?_
  have S0 := St.start w0 noM
  refine T_seq fun K1 hK1 => ?_
  refine T_region ?_
  refine L_y (y_assign rfl) rfl ?_
  refine L_nil ?_
  refine hK1 _ _ ?_
  refine T_seq fun K2 hK2 => ?_
  refine T_region ?_
  have S1 := S0.nilrow 5 1
  refine L_y (y_assign rfl) rfl ?_
  refine L_nil ?_
  refine hK2 _ _ ?_
  refine T_seq fun K3 hK3 => ?_
  refine T_block ?_
  refine T_loop4 [] (fun (y : Nat) (m : List UInt8) (A : Option Addr) (c : Nat) => [(0, .int .u64 (y : Int)), (3, .slice A m.length c)]) (fun (y : Nat) (m : List UInt8) (A : Option Addr) (c : Nat) => y) (fun (y : Nat) (m : List UInt8) (A : Option Addr) (c : Nat) (w : World) => (m ++ vr y = vr x ∧ y ≤ x ∧ m.length + (vr y).length ≤ 10) ∧ St w0 noM [row 5 1 A m.length c (bL m)] w) x [] none 0 (Sub.cons rfl (by first | rfl | exact congrArg (Value.int _) (by omega)) (Sub.cons rfl (by first | rfl | exact congrArg (Value.int _) (by omega)) (Sub.nil _))) (Sub.nil _) ?_ ?_
  ·
    have := vr_len10 x hx
    exact ⟨⟨rfl, Nat.le_refl _, by simpa using this⟩, S1⟩
  ·
    intro y m A c w2 hrel
    obtain ⟨⟨hm, hy, hml⟩, S2⟩ := hrel
    have hg : m.length ≤ 10 := by omega
    refine T_seq fun K4 hK4 => ?_
    refine T_seq fun K5 hK5 => ?_
    refine T_region ?_
    refine L_y (y_move rfl) rfl ?_
    refine L_y (y_geq rfl rfl) rfl ?_
    refine L_nil ?_
    refine hK5 _ _ ?_
    refine T_cond rfl (fun h5 => ?_) (fun h5 => ?_)
    ·
      refine T_skip ?_
      refine hK4 _ _ ?_
      refine T_block ?_
      refine T_seq fun K6 hK6 => ?_
      refine T_region ?_
      refine L_y (y_move rfl) rfl ?_
      refine L_y (y_move rfl) rfl ?_
      refine L_y (y_rem rfl rfl (by omega) (remI (by omega))) rfl ?_
      refine L_y (y_add rfl rfl (u64w (by omega))) rfl ?_
      refine L_y (y_conv is65 Try.underlying5 rfl (IntKind.wrap_u8 _)) rfl ?_
      refine L_o (o_bsl [_] te22 zz5 S2 rfl rfl rfl rfl rfl rfl rfl rfl fun b3 w3 S3 => ?_)
      refine L_o (o_app te22 S3 0 rfl rfl rfl (by first | exact S3.row 0 rfl | exact S3.row 1 rfl) (by first | exact bL_one _ | exact iL_one _ | (intro u hu; simp at hu; subst hu; rfl) | (simp; done) | (simp [Value.oneCell']; done)) rfl (by omega) (by omega) fun A4 c4 w4 S4 => ?_)
      have S4d := S4.drop (rs' := [_]) (.cons_cons _ (.cons _ (.refl _)))
      refine L_y (y_assign rfl) rfl ?_
      refine L_nil ?_
      refine hK6 _ _ ?_
      refine T_region ?_
      refine L_y (y_move rfl) rfl ?_
      refine L_y (y_quo rfl rfl (by omega) (quoU (by omega) (by omega))) rfl ?_
      refine L_y (y_assign rfl) rfl ?_
      refine L_nil ?_
      have S9 := S4d.rowc 0 rfl (n' := (m ++ [UInt8.ofNat (y % 128 + 128)]).length) (xs' := bL (m ++ [UInt8.ofNat (y % 128 + 128)])) (by simp) (by rw [bL_app]; exact congrArg (fun v => bL m ++ [v]) (congrArg (Value.int _) (by rw [UInt8.toNat_ofNat']; first | omega | (rw [IntKind.wrap_u8]; omega))))
      refine ⟨y / 128, m ++ [UInt8.ofNat (y % 128 + 128)], _, _, by omega, ⟨⟨by rw [← hm, vr_big y (by omega)]; simp, by omega, by rw [vr_big y (by omega)] at hml; simp at hml ⊢; omega⟩, S9⟩, ?_⟩
      exact (Sub.cons rfl (congrArg (Value.int _) (by omega)) (Sub.cons rfl (by rw [List.length_append]; rfl) (Sub.nil _)))
    ·
      refine T_exit ?_
      refine hK3 _ _ ?_
      refine T_seq fun K7 hK7 => ?_
      refine T_region ?_
      refine L_y (y_move rfl) rfl ?_
      refine L_y (y_move rfl) rfl ?_
      refine L_y (y_conv is65 Try.underlying5 rfl (IntKind.wrap_u8 _)) rfl ?_
      refine L_o (o_bsl [_] te22 zz5 S2 rfl rfl rfl rfl rfl rfl rfl rfl fun b5 w5 S5 => ?_)
      refine L_o (o_app te22 S5 0 rfl rfl rfl (by first | exact S5.row 0 rfl | exact S5.row 1 rfl) (by first | exact bL_one _ | exact iL_one _ | (intro u hu; simp at hu; subst hu; rfl) | (simp; done) | (simp [Value.oneCell']; done)) rfl (by omega) (by omega) fun A6 c6 w6 S6 => ?_)
      have S6d := S6.drop (rs' := [_]) (.cons_cons _ (.cons _ (.refl _)))
      refine L_y (y_assign rfl) rfl ?_
      refine L_nil ?_
      refine hK7 _ _ ?_
      refine T_ret ?_
      repeat (first | with_reducible refine up_then ?_ | with_reducible refine up_in ?_)
      refine ret1 rfl rfl ?_
      exact ⟨_, rfl, S6d.like0, _, _, _, rfl, by have h := S6d.own 0 rfl; rw [← hm, vr_low y (by omega)]; simpa [bL, bV, IntKind.wrap_u8] using h⟩


set_option maxRecDepth 100000 in
theorem reftext (s : ByteArray) (w0 : World) (hs : s.size ≤ 70368744170000) :
    Calls Try.prog 36 #[.string s] w0 fun e w' => ∃ u, e = .returned u ∧ Like w0 w' ∧ ∃ A m c, u = .slice A m c ∧ w'.ownsRow w0.heap.size 5 1 (.slice A m c) m (bL (vr s.size ++ s.data.toList)) := by
  refine enter1 (env := [(0, .string s)]) [.string s] Try.func36 rfl Try.ntmps36 rfl rfl ?_
  have S0 := St.start w0 noM
  refine T_seq fun K1 hK1 => ?_
  refine T_region ?_
  refine L_y (y_assign rfl) rfl ?_
  refine L_nil ?_
  refine hK1 _ _ ?_
  refine T_seq fun K2 hK2 => ?_
  refine T_region ?_
  refine L_y (y_move rfl) rfl ?_
  refine L_y (y_lens Try.underlying9 rfl) rfl ?_
  refine L_y (y_conv is3 Try.underlying65 rfl (u64w (by omega))) rfl ?_
  refine L_o (o_call Try.func35 rfl rfl (refvar s.size w0 (by omega)) rfl rfl ?_)
  rintro e1 w1 ⟨v1, rfl, l1, A1, m1, c1, rfl, O1⟩
  refine ⟨_, rfl, ?_⟩
  have S1 := S0.adopt l1 O1
  have hv1 := (S1.row 0 rfl).lenb
  have hw1 := vr_len10 s.size (by omega)
  refine L_y (y_move rfl) rfl ?_
  refine L_o (o_sbytes Try.underlying9 Try.underlying22 Try.underlying5 rfl (by omega) S1 rfl fun b2 c2 w2 l2 S2 => ?_)
  refine L_o (o_app te22 S2 0 rfl rfl rfl (by first | exact S2.row 0 rfl | exact S2.fix 1 rfl) (by first | exact bL_one _ | exact iL_one _ | (intro u hu; simp at hu; subst hu; rfl) | (simp; done) | (simp [Value.oneCell']; done)) rfl (by omega) (by omega) fun A3 c3 w3 S3 => ?_)
  refine L_y (y_assign rfl) rfl ?_
  refine L_nil ?_
  refine hK2 _ _ ?_
  refine T_ret ?_
  repeat (first | with_reducible refine up_then ?_ | with_reducible refine up_in ?_)
  refine ret1 rfl rfl ?_
  exact ⟨_, rfl, S3.like0, _, _, _, rfl, by have h := S3.own 0 rfl; rwa [← bL_app] at h⟩


theorem big_set (x j k : Nat) (v : Value) (h : k < j) (hv : v = .int .u8 (IntKind.u8.wrap (((x / 256 ^ k : Nat) : Int) % 256))) : (bL (List.replicate (j - k) 0 ++ tl x k)).set (j - 1 - k) v = bL (List.replicate (j - (k + 1)) 0 ++ tl x (k + 1)) := by
  have e : v = bV (UInt8.ofNat (x / 256 ^ k % 256)) := by
    rw [hv]
    exact congrArg (Value.int _) (by rw [IntKind.wrap_u8, UInt8.toNat_ofNat']; omega)
  rw [e]
  unfold bL
  rw [← List.map_set, show j - k = (j - (k + 1)) + 1 by omega, List.replicate_succ', List.append_assoc, List.set_append_right _ _ (by simp; omega)]
  simp [tl, show j - 1 - k - (j - (k + 1)) = 0 by omega]
end Go.Proofs.Ytpcgldkllnkaeaa

/-
  The Reader.
-/
namespace Go.Proofs.Ytpcgldkllnkaeaa
open Go.RowKit Zk Zx
set_option linter.unusedVariables false
set_option linter.unusedSimpArgs false

/-- A Reader at block g: of the bytes l, at place p, with the error e. -/
def rdA (A : Option Addr) (n c : Nat) (p q : Nat) : Array Value := #[.slice A n c, .int .i64 (p : Int), .int .i64 (q : Int)]
def rdr (g : Nat) (A : Option Addr) (n c : Nat) (l : List UInt8) (p q : Nat) : Res := both (blk g 102 #[.slice A n c, .int .i64 (p : Int), .int .i64 (q : Int)]) (row 5 1 A n c (bL l))
theorem rdr_apart {w : World} {g n c p q : Nat} {A : Option Addr} {l : List UInt8} (h : (rdr g A n c l p q).holds w) : ∀ i, (blk g 102 #[.slice A n c, .int .i64 (p : Int), .int .i64 (q : Int)]).dom i → ¬ (row 5 1 A n c (bL l)).dom i := fun i hi hr => by
  have hi' : i = g := hi
  subst hi'
  exact own_blk_ne (e := 5) h.2 h.1 (by decide) hr
theorem rdr_lt {w : World} {g n c p q : Nat} {A : Option Addr} {l : List UInt8} (h : (rdr g A n c l p q).holds w) : ∀ i, (rdr g A n c l p q).dom i → i < w.heap.size := fun i hi => by
  rcases hi with hi | hi
  · have hi' : i = g := hi
    subst hi'
    exact Blk.lt h.1
  · exact (World.ownsRow.lt h.2 i hi).2
theorem rdr_len {w : World} {g n c p q : Nat} {A : Option Addr} {l : List UInt8} (h : (rdr g A n c l p q).holds w) : l.length = n := by
  have := h.2.1
  simpa using this
theorem rdr_like {w w' : World} {g n c p q : Nat} {A : Option Addr} {l : List UInt8} (h : (rdr g A n c l p q).holds w) (k : Like w w') : (rdr g A n c l p q).holds w' := (rdr g A n c l p q).stable w w' (fun i hi => k.block i (rdr_lt h i hi)) h
/-- What so many bytes are, where they begin, and what is wrong. -/
def tkL (l : List UInt8) (p k : Nat) : List UInt8 := if k ≤ l.length - p then (l.drop p).take k else []
def tkP (l : List UInt8) (p k : Nat) : Nat := if k ≤ l.length - p then p + k else p
def tkE (l : List UInt8) (p k q : Nat) : Nat := if k ≤ l.length - p then q else 10
theorem fresh_ {w0 w : World} {rs : List Res} (S : St w0 noM rs w) (k : Nat) {r : Res} (hk : rs[k]? = some r) : ∀ i, r.dom i → w0.heap.size ≤ i ∧ i < w.heap.size := fun i hi => by
  have := (S.res r (List.mem_of_getElem? hk)).2 i hi
  rcases this.2 with h | h
  · exact ⟨h, this.1⟩
  · exact h.elim
theorem tkP_le (l : List UInt8) (p k : Nat) (h : p ≤ l.length) : tkP l p k ≤ l.length := by unfold tkP; split <;> omega
theorem Rdd.of {w w' : World} {g n c p q : Nat} {A : Option Addr} {l : List UInt8} {r : Res} {X : Array Value} (h : Turned w w' r (both (blk g 102 X) (row 5 1 A n c (bL l)))) (hX : X = #[.slice A n c, .int .i64 (p : Int), .int .i64 (q : Int)]) : Turned w w' r (rdr g A n c l p q) := by
  subst hX
  exact h


set_option maxRecDepth 100000 in
theorem rdead (g : Nat) (A : Option Addr) (n c : Nat) (l : List UInt8) (p q : Nat) (w0 : World) (hw : (rdr g A n c l p q).holds w0) (hp : p ≤ l.length) :
    Calls Try.prog 54 #[.pointer (some ⟨g, 0, none⟩)] w0 fun e w' => ∃ u, e = .returned u ∧ Like w0 w' ∧ u = .bool (decide ((q : Int) ≠ 0)) := by
  refine enter1 (env := [(0, .pointer (some ⟨g, 0, none⟩))]) [.pointer (some ⟨g, 0, none⟩)] Try.func54 rfl Try.ntmps54 rfl rfl ?_
  have hnl := rdr_len hw; have hnc := ownsRow_cap hw.2; have S0 := St.start w0 noM
  refine T_seq fun K1 hK1 => ?_
  refine T_region ?_
  refine L_y (y_assign rfl) rfl ?_
  refine L_nil ?_
  refine hK1 _ _ ?_
  refine T_seq fun K2 hK2 => ?_
  refine T_region ?_
  refine L_y (y_move rfl) rfl ?_
  refine L_y (y_peqn Try.underlying80 rfl) rfl ?_
  refine L_y (y_move rfl) rfl ?_
  refine L_gyes rfl rfl ?_
  refine L_y (y_move rfl) rfl ?_
  refine L_gyes rfl rfl ?_
  refine L_y (y_nilp rfl) rfl ?_
  refine L_gyes rfl rfl ?_
  refine L_y (y_fieldA 2 Try.underlying102 rfl sz32 rfl rfl rfl) rfl ?_
  refine L_gyes rfl rfl ?_
  refine L_y (y_ldc Try.underlying32 rfl rfl (((S0.rdB hw.1).cell _).trans (show (#[.slice A n c, .int .i64 (p : Int), .int .i64 (q : Int)] : Array Value)[2]? = some (Value.int .i64 (q : Int)) from rfl))) rfl ?_
  refine L_gyes rfl rfl ?_
  refine L_y (y_neq rfl rfl) rfl ?_
  refine L_y (y_pickF rfl rfl) rfl ?_
  refine L_y (y_assign rfl) rfl ?_
  refine L_nil ?_
  refine hK2 _ _ ?_
  refine T_ret ?_
  repeat (first | with_reducible refine up_then ?_ | with_reducible refine up_in ?_)
  refine ret1 rfl rfl ?_
  exact ⟨_, rfl, S0.like0, rfl⟩


set_option maxRecDepth 100000 in
theorem rerr (g : Nat) (A : Option Addr) (n c : Nat) (l : List UInt8) (p q : Nat) (w0 : World) (hw : (rdr g A n c l p q).holds w0) (hp : p ≤ l.length) :
    Calls Try.prog 45 #[.pointer (some ⟨g, 0, none⟩)] w0 fun e w' => ∃ u, e = .returned u ∧ Like w0 w' ∧ u = .int .i64 (q : Int) := by
  refine enter1 (env := [(0, .pointer (some ⟨g, 0, none⟩))]) [.pointer (some ⟨g, 0, none⟩)] Try.func45 rfl Try.ntmps45 rfl rfl ?_
  have hnl := rdr_len hw; have hnc := ownsRow_cap hw.2; have S0 := St.start w0 noM
  refine T_seq fun K1 hK1 => ?_
  refine T_region ?_
  refine L_y (y_assign rfl) rfl ?_
  refine L_nil ?_
  refine hK1 _ _ ?_
  refine T_seq fun K2 hK2 => ?_
  refine T_seq fun K3 hK3 => ?_
  refine T_region ?_
  refine L_y (y_move rfl) rfl ?_
  refine L_y (y_peqn Try.underlying80 rfl) rfl ?_
  refine L_nil ?_
  refine hK3 _ _ ?_
  refine T_false rfl ?_
  refine T_skip ?_
  refine hK2 _ _ ?_
  refine T_seq fun K4 hK4 => ?_
  refine T_region ?_
  refine L_y (y_move rfl) rfl ?_
  refine L_y (y_nilp rfl) rfl ?_
  refine L_y (y_fieldA 2 Try.underlying102 rfl sz32 rfl rfl rfl) rfl ?_
  refine L_y (y_ldc Try.underlying32 rfl rfl (((S0.rdB hw.1).cell _).trans (show (#[.slice A n c, .int .i64 (p : Int), .int .i64 (q : Int)] : Array Value)[2]? = some (Value.int .i64 (q : Int)) from rfl))) rfl ?_
  refine L_y (y_assign rfl) rfl ?_
  refine L_nil ?_
  refine hK4 _ _ ?_
  refine T_ret ?_
  repeat (first | with_reducible refine up_then ?_ | with_reducible refine up_in ?_)
  refine ret1 rfl rfl ?_
  exact ⟨_, rfl, S0.like0, rfl⟩


set_option maxRecDepth 100000 in
theorem rleft (g : Nat) (A : Option Addr) (n c : Nat) (l : List UInt8) (p q : Nat) (w0 : World) (hw : (rdr g A n c l p q).holds w0) (hp : p ≤ l.length) :
    Calls Try.prog 46 #[.pointer (some ⟨g, 0, none⟩)] w0 fun e w' => ∃ u, e = .returned u ∧ Like w0 w' ∧ u = .int .i64 ((n : Int) - (p : Int)) := by
  refine enter1 (env := [(0, .pointer (some ⟨g, 0, none⟩))]) [.pointer (some ⟨g, 0, none⟩)] Try.func46 rfl Try.ntmps46 rfl rfl ?_
  have hnl := rdr_len hw; have hnc := ownsRow_cap hw.2; have S0 := St.start w0 noM
  refine T_seq fun K1 hK1 => ?_
  refine T_region ?_
  refine L_y (y_assign rfl) rfl ?_
  refine L_nil ?_
  refine hK1 _ _ ?_
  refine T_seq fun K2 hK2 => ?_
  refine T_seq fun K3 hK3 => ?_
  refine T_region ?_
  refine L_y (y_move rfl) rfl ?_
  refine L_y (y_peqn Try.underlying80 rfl) rfl ?_
  refine L_nil ?_
  refine hK3 _ _ ?_
  refine T_false rfl ?_
  refine T_skip ?_
  refine hK2 _ _ ?_
  refine T_seq fun K4 hK4 => ?_
  refine T_drawnL [(0, true), (1, true), (2, true), (3, true), (4, true), (5, true), (6, true), (7, true), (8, true), (9, true), (10, true)] hmix (by kernel_rfl) fun w1 l1 => ?_
  have S1 := S0.like l1
  refine DL_y rfl (y_move rfl) rfl ?_
  refine DL_y rfl (y_nilp rfl) rfl ?_
  refine DL_y rfl (y_fieldA 0 Try.underlying102 rfl sz22 rfl rfl rfl) rfl ?_
  refine DL_y rfl (y_ldc Try.underlying22 rfl rfl (((S1.rdB hw.1).cell _).trans (show (#[.slice A n c, .int .i64 (p : Int), .int .i64 (q : Int)] : Array Value)[0]? = some (Value.slice A n c) from rfl))) rfl ?_
  refine DL_y rfl (y_len Try.underlying22 rfl) rfl ?_
  refine DL_y rfl (y_move rfl) rfl ?_
  refine DL_y rfl (y_nilp rfl) rfl ?_
  refine DL_y rfl (y_fieldA 1 Try.underlying102 rfl sz3 rfl rfl rfl) rfl ?_
  refine DL_y rfl (y_ldc Try.underlying3 rfl rfl (((S1.rdB hw.1).cell _).trans (show (#[.slice A n c, .int .i64 (p : Int), .int .i64 (q : Int)] : Array Value)[1]? = some (Value.int .i64 (p : Int)) from rfl))) rfl ?_
  refine DL_y rfl (y_sub rfl rfl (i64w (by omega))) rfl ?_
  refine DL_y rfl (y_assign rfl) rfl ?_
  refine DL_nil ?_
  refine hK4 _ _ ?_
  refine T_ret ?_
  repeat (first | with_reducible refine up_then ?_ | with_reducible refine up_in ?_)
  refine ret1 rfl rfl ?_
  exact ⟨_, rfl, S1.like0, rfl⟩


set_option maxRecDepth 100000 in
theorem rtake (g : Nat) (A : Option Addr) (n c : Nat) (l : List UInt8) (p q : Nat) (k : Nat) (w0 : World) (hw : (rdr g A n c l p q).holds w0) (hp : p ≤ l.length) (hk63 : k ≤ 9223372036854775807) (hn62 : n ≤ 4611686018427387904) :
    Calls Try.prog 60 #[.pointer (some ⟨g, 0, none⟩), .int .i64 (k : Int)] w0 fun e w' => ∃ u, e = .returned u ∧ ∃ B c2, u = .slice B (tkL l p k).length c2 ∧ Rs w' 1 B (tkL l p k).length c2 (bL (tkL l p k)) ∧ Turned w0 w' (rdr g A n c l p q) (rdr g A n c l (tkP l p k) (tkE l p k q)) := by
  refine enter1 (env := [(0, .pointer (some ⟨g, 0, none⟩)), (1, .int .i64 (k : Int))]) [.pointer (some ⟨g, 0, none⟩), .int .i64 (k : Int)] Try.func60 rfl Try.ntmps60 rfl rfl ?_
  have hnl := rdr_len hw; have hnc := ownsRow_cap hw.2; have S0 := St.borrow2 (blk g 102 #[.slice A n c, .int .i64 (p : Int), .int .i64 (q : Int)]) (row 5 1 A n c (bL l)) hw.1 hw.2 (rdr_lt hw) (rdr_apart hw)
  refine T_seq fun K1 hK1 => ?_
  refine T_region ?_
  refine L_y (y_assign rfl) rfl ?_
  refine L_nil ?_
  refine hK1 _ _ ?_
  refine T_seq fun K2 hK2 => ?_
  refine T_seq fun K3 hK3 => ?_
  refine T_drawnL [(0, true), (1, true), (2, true), (3, true), (4, true), (5, true), (6, true), (7, true), (8, true), (9, true), (10, true), (11, true)] hmix (by kernel_rfl) fun w1 l1 => ?_
  have S1 := S0.like l1
  refine DL_y rfl (y_move rfl) rfl ?_
  refine DL_y rfl (y_move rfl) rfl ?_
  refine DL_y rfl (y_nilp rfl) rfl ?_
  refine DL_y rfl (y_fieldA 0 Try.underlying102 rfl sz22 rfl rfl rfl) rfl ?_
  refine DL_y rfl (y_ldc Try.underlying22 rfl rfl (((S1.blk 0 rfl).cell _).trans (by rfl))) rfl ?_
  refine DL_y rfl (y_len Try.underlying22 rfl) rfl ?_
  refine DL_y rfl (y_move rfl) rfl ?_
  refine DL_y rfl (y_nilp rfl) rfl ?_
  refine DL_y rfl (y_fieldA 1 Try.underlying102 rfl sz3 rfl rfl rfl) rfl ?_
  refine DL_y rfl (y_ldc Try.underlying3 rfl rfl (((S1.blk 0 rfl).cell _).trans (by rfl))) rfl ?_
  refine DL_y rfl (y_sub rfl rfl (i64w (by omega))) rfl ?_
  refine DL_y rfl (y_gtr rfl rfl) rfl ?_
  refine DL_nil ?_
  refine hK3 _ _ ?_
  refine T_cond rfl (fun h17 => ?_) (fun h17 => ?_)
  ·
    have hk : ¬ k ≤ l.length - p := by omega
    refine T_seq fun K4 hK4 => ?_
    refine T_region ?_
    refine L_y (y_move rfl) rfl ?_
    refine L_y (y_nilp rfl) rfl ?_
    refine L_y (y_fieldA 2 Try.underlying102 rfl sz32 rfl rfl rfl) rfl ?_
    refine L_o (o_st1 S1 0 rfl rfl rfl rfl sz32 (by simp; done) fun w2 S2 => ?_)
    refine L_nil ?_
    refine hK4 _ _ ?_
    refine T_seq fun K5 hK5 => ?_
    refine T_region ?_
    refine L_y (y_assign rfl) rfl ?_
    refine L_nil ?_
    refine hK5 _ _ ?_
    refine T_ret ?_
    repeat (first | with_reducible refine up_then ?_ | with_reducible refine up_in ?_)
    refine ret1 rfl rfl ?_
    first | exact ⟨_, rfl, none, 0, (by rw [tkL, if_neg hk]; rfl), (by rw [tkL, if_neg hk]; exact Rs.nil _ _), Rdd.of (S2.turned2 0 1 rfl rfl) (by rw [tkP, tkE, if_neg hk, if_neg hk]; rfl)⟩ | exact ⟨_, rfl, cutA A c p 1, c - p, (by rw [e2]), (by rw [e2, e1]; exact (S2.row 1 rfl).cutb (by omega) (by omega)), Rdd.of (S2.turned2 0 1 rfl rfl) (by rw [tkP, tkE, if_pos hk, if_pos hk]; rfl)⟩
  ·
    have hk : k ≤ l.length - p := by omega
    have e1 : (tkL l p k) = (l.drop p).take (p + k - p) := by rw [tkL, if_pos hk]; congr 1; omega
    have e2 : (tkL l p k).length = p + k - p := by rw [e1, List.length_take, List.length_drop]; omega
    refine T_skip ?_
    refine hK2 _ _ ?_
    refine T_seq fun K6 hK6 => ?_
    refine T_drawnL [(0, true), (1, true), (2, true), (3, true), (4, true), (5, true), (6, true), (7, true), (8, true), (9, true), (10, true), (11, true), (12, true), (13, true), (14, true), (15, true)] hmix (by kernel_rfl) fun w3 l3 => ?_
    have S3 := S1.like l3
    refine DL_y rfl (y_move rfl) rfl ?_
    refine DL_y rfl (y_nilp rfl) rfl ?_
    refine DL_y rfl (y_fieldA 0 Try.underlying102 rfl sz22 rfl rfl rfl) rfl ?_
    refine DL_y rfl (y_ldc Try.underlying22 rfl rfl (((S3.blk 0 rfl).cell _).trans (by rfl))) rfl ?_
    refine DL_y rfl (y_move rfl) rfl ?_
    refine DL_y rfl (y_nilp rfl) rfl ?_
    refine DL_y rfl (y_fieldA 1 Try.underlying102 rfl sz3 rfl rfl rfl) rfl ?_
    refine DL_y rfl (y_ldc Try.underlying3 rfl rfl (((S3.blk 0 rfl).cell _).trans (by rfl))) rfl ?_
    refine DL_y rfl (y_move rfl) rfl ?_
    refine DL_y rfl (y_nilp rfl) rfl ?_
    refine DL_y rfl (y_fieldA 1 Try.underlying102 rfl sz3 rfl rfl rfl) rfl ?_
    refine DL_y rfl (y_ldc Try.underlying3 rfl rfl (((S3.blk 0 rfl).cell _).trans (by rfl))) rfl ?_
    refine DL_y rfl (y_move rfl) rfl ?_
    refine DL_y rfl (y_add rfl rfl (i64w (by omega))) rfl ?_
    refine DL_y rfl (y_slice Try.underlying22 sz5 rfl rfl rfl inferInstance inferInstance (by omega) (by omega)) rfl ?_
    refine DL_y rfl (y_assign rfl) rfl ?_
    refine DL_nil ?_
    refine hK6 _ _ ?_
    refine T_seq fun K7 hK7 => ?_
    refine T_region ?_
    refine L_y (y_move rfl) rfl ?_
    refine L_y (y_nilp rfl) rfl ?_
    refine L_y (y_fieldA 1 Try.underlying102 rfl sz3 rfl rfl rfl) rfl ?_
    refine L_y (y_ldc Try.underlying3 rfl rfl (((S3.blk 0 rfl).cell _).trans (by rfl))) rfl ?_
    refine L_y (y_move rfl) rfl ?_
    refine L_y (y_add rfl rfl (i64w (by omega))) rfl ?_
    refine L_y (y_nilp rfl) rfl ?_
    refine L_y (y_fieldA 1 Try.underlying102 rfl sz3 rfl rfl rfl) rfl ?_
    refine L_o (o_st1 S3 0 rfl rfl rfl rfl sz3 (by simp; done) fun w4 S4 => ?_)
    refine L_nil ?_
    refine hK7 _ _ ?_
    refine T_seq fun K8 hK8 => ?_
    refine T_region ?_
    refine L_y (y_move rfl) rfl ?_
    refine L_y (y_assign rfl) rfl ?_
    refine L_nil ?_
    refine hK8 _ _ ?_
    refine T_ret ?_
    repeat (first | with_reducible refine up_then ?_ | with_reducible refine up_in ?_)
    refine ret1 rfl rfl ?_
    first | exact ⟨_, rfl, none, 0, (by rw [tkL, if_neg hk]; rfl), (by rw [tkL, if_neg hk]; exact Rs.nil _ _), Rdd.of (S4.turned2 0 1 rfl rfl) (by rw [tkP, tkE, if_neg hk, if_neg hk]; rfl)⟩ | exact ⟨_, rfl, cutA A c p 1, c - p, (by rw [e2]), (by rw [e2, e1]; exact (S4.row 1 rfl).cutb (by omega) (by omega)), Rdd.of (S4.turned2 0 1 rfl rfl) (by rw [tkP, tkE, if_pos hk, if_pos hk]; rfl)⟩


set_option maxRecDepth 100000 in
theorem rback (g : Nat) (A : Option Addr) (n c : Nat) (l : List UInt8) (p q : Nat) (p0 : Nat) (w0 : World) (hw : (rdr g A n c l p q).holds w0) :
    DCalls Try.prog 55 #[.pointer (some ⟨g, 0, none⟩), .int .i64 (p0 : Int)] w0 fun e w' => ∃ u, e = .returned u ∧ Turned w0 w' (rdr g A n c l p q) (rdr g A n c l (if q ≠ 0 then p0 else p) q) := by
  refine enterd1 (env := [(0, .pointer (some ⟨g, 0, none⟩)), (1, .int .i64 (p0 : Int))]) [.pointer (some ⟨g, 0, none⟩), .int .i64 (p0 : Int)] Try.func55 rfl Try.ntmps55 rfl rfl ?_
  have hnl := rdr_len hw; have hnc := ownsRow_cap hw.2; have S0 := St.borrow2 (blk g 102 #[.slice A n c, .int .i64 (p : Int), .int .i64 (q : Int)]) (row 5 1 A n c (bL l)) hw.1 hw.2 (rdr_lt hw) (rdr_apart hw)
  refine T_seq fun K1 hK1 => ?_
  refine T_region ?_
  refine L_y (y_move rfl) rfl ?_
  refine L_y (y_nilp rfl) rfl ?_
  refine L_y (y_fieldA 2 Try.underlying102 rfl sz32 rfl rfl rfl) rfl ?_
  refine L_y (y_ldc Try.underlying32 rfl rfl (((S0.blk 0 rfl).cell _).trans (by rfl))) rfl ?_
  refine L_y (y_neq rfl rfl) rfl ?_
  refine L_nil ?_
  refine hK1 _ _ ?_
  refine T_cond rfl (fun h8 => ?_) (fun h8 => ?_)
  ·
    refine T_region ?_
    refine L_y (y_move rfl) rfl ?_
    refine L_y (y_move rfl) rfl ?_
    refine L_y (y_nilp rfl) rfl ?_
    refine L_y (y_fieldA 1 Try.underlying102 rfl sz3 rfl rfl rfl) rfl ?_
    refine L_o (o_st1 S0 0 rfl rfl rfl rfl sz3 (by simp; done) fun w1 S1 => ?_)
    refine L_nil ?_
    first | refine end0 (fn := Try.f55) rfl ?_ | (simp only [thenQ, inB, if_true]; refine end0 (fn := Try.f55) rfl ?_)
    exact ⟨_, rfl, Rdd.of (S1.turned2 0 1 rfl rfl) (by first | (rw [if_pos (by omega)]; rfl) | (rw [if_neg (by omega)]))⟩
  ·
    refine T_skip ?_
    first | refine end0 (fn := Try.f55) rfl ?_ | (simp only [thenQ, inB, if_true]; refine end0 (fn := Try.f55) rfl ?_)
    exact ⟨_, rfl, Rdd.of (S0.turned2 0 1 rfl rfl) (by first | (rw [if_pos (by omega)]; rfl) | (rw [if_neg (by omega)]))⟩


set_option maxRecDepth 100000 in
theorem rfail (g : Nat) (A : Option Addr) (n c : Nat) (l : List UInt8) (p q : Nat) (p0 q0 : Nat) (w0 : World) (hw : (rdr g A n c l p q).holds w0) (hp : p ≤ l.length) :
    Calls Try.prog 61 #[.pointer (some ⟨g, 0, none⟩), .int .i64 (p0 : Int), .int .i64 (q0 : Int)] w0 fun e w' => ∃ u, e = .returned u ∧ Turned w0 w' (rdr g A n c l p q) (rdr g A n c l p0 q0) := by
  refine enter1 (env := [(0, .pointer (some ⟨g, 0, none⟩)), (1, .int .i64 (p0 : Int)), (2, .int .i64 (q0 : Int))]) [.pointer (some ⟨g, 0, none⟩), .int .i64 (p0 : Int), .int .i64 (q0 : Int)] Try.func61 rfl Try.ntmps61 rfl rfl ?_
  have hnl := rdr_len hw; have hnc := ownsRow_cap hw.2; have S0 := St.borrow2 (blk g 102 #[.slice A n c, .int .i64 (p : Int), .int .i64 (q : Int)]) (row 5 1 A n c (bL l)) hw.1 hw.2 (rdr_lt hw) (rdr_apart hw)
  refine T_seq fun K1 hK1 => ?_
  refine T_region ?_
  refine L_y (y_move rfl) rfl ?_
  refine L_y (y_move rfl) rfl ?_
  refine L_y (y_nilp rfl) rfl ?_
  refine L_y (y_fieldA 1 Try.underlying102 rfl sz3 rfl rfl rfl) rfl ?_
  refine L_o (o_st1 S0 0 rfl rfl rfl rfl sz3 (by simp; done) fun w1 S1 => ?_)
  refine L_nil ?_
  refine hK1 _ _ ?_
  refine T_region ?_
  refine L_y (y_move rfl) rfl ?_
  refine L_y (y_move rfl) rfl ?_
  refine L_y (y_nilp rfl) rfl ?_
  refine L_y (y_fieldA 2 Try.underlying102 rfl sz32 rfl rfl rfl) rfl ?_
  refine L_o (o_st1 S1 0 rfl rfl rfl rfl sz32 (by simp; done) fun w2 S2 => ?_)
  refine L_nil ?_
  first | refine end0 (fn := Try.f61) rfl ?_ | (simp only [thenQ, inB, if_true]; refine end0 (fn := Try.f61) rfl ?_)
  exact ⟨_, rfl, Rdd.of (S2.turned2 0 1 rfl rfl) rfl⟩


set_option maxRecDepth 100000 in
theorem rnew (B : Option Addr) (m d : Nat) (l : List UInt8) (w0 : World) (hb : Rs w0 1 B m d (bL l)) (hm : m ≤ 70368744177664) :
    Calls Try.prog 43 #[.slice B m d] w0 fun e w' => ∃ u, e = .returned u ∧ Like w0 w' ∧ ∃ g A c, u = .pointer (some ⟨g, 0, none⟩) ∧ (rdr g A m c l 0 0).holds w' ∧ ∀ i, (rdr g A m c l 0 0).dom i → w0.heap.size ≤ i ∧ i < w'.heap.size := by
  refine enter1 (env := [(0, .slice B m d)]) [.slice B m d] Try.func43 rfl Try.ntmps43 rfl rfl ?_
  have S0 := St.start w0 noM
  refine T_seq fun K1 hK1 => ?_
  refine T_region ?_
  refine L_y (y_assign rfl) rfl ?_
  refine L_nil ?_
  refine hK1 _ _ ?_
  refine T_seq fun K2 hK2 => ?_
  refine T_region ?_
  refine L_y (y_move rfl) rfl ?_
  refine L_o (o_app0 te22 S0 rfl rfl (S0.rd hb) (bL_one _) rfl (by omega) (by omega) fun A1 c1 w1 S1 => ?_)
  refine L_y (y_build rfl (show _ = some #[Value.slice A1 m c1, Value.int .i64 0, Value.int .i64 0] by kernel_rfl)) rfl ?_
  refine L_o (o_box rfl S1 rfl fun b2 w2 hb2 S2 => ?_)
  refine L_y (y_assign rfl) rfl ?_
  refine L_nil ?_
  refine hK2 _ _ ?_
  refine T_ret ?_
  repeat (first | with_reducible refine up_then ?_ | with_reducible refine up_in ?_)
  refine ret1 rfl rfl ?_
  exact ⟨_, rfl, S2.like0, _, _, _, rfl, ⟨S2.get 1 rfl, S2.get 0 rfl⟩, fun i hi => by rcases hi with hi | hi; exact fresh_ S2 1 rfl i hi; exact fresh_ S2 0 rfl i hi⟩


/-- A number of bytes, the highest first. -/
def be (l : List UInt8) : Nat := l.foldl (fun n c => n * 256 + c.toNat) 0
/-- What reading so many bytes gives, where it ends, and what is wrong then. -/
def rwL (l : List UInt8) (p q k : Nat) : List UInt8 := if q = 0 then tkL l p k else []
def rwP (l : List UInt8) (p q k : Nat) : Nat := if q = 0 then tkP l p k else p
def rwE (l : List UInt8) (p q k : Nat) : Nat := if q = 0 then tkE l p k q else q
theorem tkL_ok {l : List UInt8} {p k : Nat} (h : k ≤ l.length - p) : (tkL l p k).length = k := by rw [tkL, if_pos h, List.length_take, List.length_drop]; omega
theorem tkE_ok {l : List UInt8} {p k q : Nat} (h : k ≤ l.length - p) : tkE l p k q = q := by rw [tkE, if_pos h]
theorem tkE_no {l : List UInt8} {p k q : Nat} (h : ¬ k ≤ l.length - p) : tkE l p k q = 10 := by rw [tkE, if_neg h]
theorem tkL_no {l : List UInt8} {p k : Nat} (h : ¬ k ≤ l.length - p) : tkL l p k = [] := by rw [tkL, if_neg h]
theorem tkE_case {l : List UInt8} {p k : Nat} (h : ¬ ((tkE l p k 0 : Nat) : Int) ≠ 0) : k ≤ l.length - p := by
  by_cases hk : k ≤ l.length - p
  · exact hk
  · rw [tkE_no hk] at h
    omega
theorem tkE_caseN {l : List UInt8} {p k : Nat} (h : ((tkE l p k 0 : Nat) : Int) ≠ 0) : ¬ k ≤ l.length - p := fun hk => by
  rw [tkE_ok hk] at h
  omega
theorem tk_one {l : List UInt8} {p : Nat} (h : 1 ≤ l.length - p) : ∃ x, l[p]? = some x ∧ tkL l p 1 = [x] ∧ l.drop p = x :: l.drop (p + 1) := by
  have hp : p < l.length := by omega
  refine ⟨l[p], List.getElem?_eq_getElem hp, ?_, List.drop_eq_getElem_cons hp⟩
  rw [tkL, if_pos h, List.drop_eq_getElem_cons hp, List.take_succ_cons, List.take_zero]
theorem be_snoc (l : List UInt8) (c : UInt8) : be (l ++ [c]) = be l * 256 + c.toNat := by simp [be, List.foldl_append]
theorem be_from : ∀ (l : List UInt8) (a : Nat), l.foldl (fun n c => n * 256 + c.toNat) a < (a + 1) * 256 ^ l.length
  | [], a => by simp
  | c :: l, a => by
    have h := be_from l (a * 256 + c.toNat)
    have h2 : (a * 256 + c.toNat + 1) * 256 ^ l.length ≤ (a + 1) * 256 * 256 ^ l.length := Nat.mul_le_mul_right _ (by have := c.toNat_lt; omega)
    rw [List.foldl_cons, List.length_cons, Nat.pow_succ, Nat.mul_comm (256 ^ l.length), ← Nat.mul_assoc]
    omega
theorem be_lt (l : List UInt8) : be l < 256 ^ l.length := by simpa [be] using be_from l 0
theorem be_take {l : List UInt8} {k : Nat} {c : UInt8} (h : l[k]? = some c) : be (l.take (k + 1)) = be (l.take k) * 256 + c.toNat := by
  rw [List.take_add_one, h]
  exact be_snoc _ _
/-- A number by sevens: what it is, behind how many bytes, and what is wrong. -/
def numF : List UInt8 → Nat → Nat → Nat × Nat × Nat
  | [], k, _ => (0, k, 10)
  | c :: r, k, a => if (k = 9 ∧ 1 < c.toNat) ∨ (0 < k ∧ c.toNat = 0) then (0, k + 1, 12) else if c.toNat < 128 then (a + c.toNat % 128 * 128 ^ k, k + 1, 0) else numF r (k + 1) (a + c.toNat % 128 * 128 ^ k)
set_option maxRecDepth 100000 in
theorem and127 : ∀ m : Fin 256, bits .and .u8 (m.val : Int) 127 = ((m.val % 128 : Nat) : Int) := by decide
theorem andX (x : UInt8) : bits .and .u8 (x.toNat : Int) 127 = ((x.toNat % 128 : Nat) : Int) := and127 ⟨x.toNat, x.toNat_lt⟩
theorem pow7 (k : Nat) : 128 ^ k = 2 ^ (7 * k) := by rw [show (128 : Nat) = 2 ^ 7 from rfl, ← Nat.pow_mul]
theorem pow_nine {k : Nat} (h : k ≤ 9) : 128 ^ k ≤ 9223372036854775808 := by
  have := Nat.pow_le_pow_right (show 0 < 128 by decide) h
  exact this
theorem pow_eight {k : Nat} (h : k ≤ 8) : 128 ^ k ≤ 72057594037927936 := by
  have := Nat.pow_le_pow_right (show 0 < 128 by decide) h
  exact this
theorem num_lt {k a x : Nat} (hk : k ≤ 9) (ha : a < 128 ^ k) (hx : x ≤ 255) (h9 : k = 9 → x ≤ 1) : x % 128 * 128 ^ k ≤ 18446744073709551615 ∧ a + x % 128 * 128 ^ k ≤ 18446744073709551615 := by
  by_cases h : k = 9
  · have h1 := h9 h
    subst h
    have h2 : x % 128 * 128 ^ 9 ≤ 1 * 128 ^ 9 := Nat.mul_le_mul_right _ (by omega)
    have h3 : (128 : Nat) ^ 9 = 9223372036854775808 := rfl
    omega
  · have h1 := pow_eight (k := k) (by omega)
    have h2 : x % 128 * 128 ^ k ≤ 127 * 128 ^ k := Nat.mul_le_mul_right _ (by omega)
    omega
theorem num_next {k a x : Nat} (ha : a < 128 ^ k) : a + x % 128 * 128 ^ k < 128 ^ (k + 1) := by
  have h2 : x % 128 * 128 ^ k ≤ 127 * 128 ^ k := Nat.mul_le_mul_right _ (by omega)
  rw [Nat.pow_succ]
  omega
theorem shl7 (x k : Nat) (hk : k ≤ 9) (h : x * 128 ^ k ≤ 18446744073709551615) : IntKind.u64.wrap ((x : Int) * 2 ^ (min ((7 : Int) * (k : Int)).toNat IntKind.u64.bits)) = ((x * 128 ^ k : Nat) : Int) := by
  have e : min ((7 : Int) * (k : Int)).toNat IntKind.u64.bits = 7 * k := by simp only [IntKind.bits]; omega
  rw [e, show (x : Int) * 2 ^ (7 * k) = ((x * 128 ^ k : Nat) : Int) by rw [pow7]; push_cast; rfl, IntKind.wrap_u64]
  omega
theorem or64 (a b : Nat) (ha : a < 18446744073709551616) (hb : b < 18446744073709551616) : bits .or .u64 (a : Int) (b : Int) = ((a ||| b : Nat) : Int) := by
  have h : a ||| b < 2 ^ 64 := Nat.or_lt_two_pow ha hb
  show IntKind.u64.wrap ((((BitVec.ofInt 64 (a : Int)) ||| (BitVec.ofInt 64 (b : Int)) : BitVec 64).toNat : Nat) : Int) = _
  rw [BitVec.ofInt_natCast, BitVec.ofInt_natCast, BitVec.toNat_or, BitVec.toNat_ofNat, BitVec.toNat_ofNat]
  rw [Nat.mod_eq_of_lt (by omega), Nat.mod_eq_of_lt (by omega), IntKind.wrap_u64]
  omega
theorem or7 (a y k : Nat) (ha : a < 128 ^ k) (h : a + y * 128 ^ k ≤ 18446744073709551615) : bits .or .u64 (a : Int) ((y * 128 ^ k : Nat) : Int) = ((a + y * 128 ^ k : Nat) : Int) := by
  rw [or64 _ _ (by omega) (by omega), Nat.or_comm, pow7, Nat.mul_comm, ← Nat.two_pow_add_eq_or_of_lt (by rw [← pow7]; exact ha), Nat.add_comm]
theorem Rdd.turned {w w' : World} {g n c p q p' q' : Nat} {A : Option Addr} {l : List UInt8} (h : Turned w w' (rdr g A n c l p q) (rdr g A n c l p' q')) {p2 q2 : Nat} (hp : p' = p2) (hq : q' = q2) : Turned w w' (rdr g A n c l p q) (rdr g A n c l p2 q2) := by
  subst hp
  subst hq
  exact h


theorem tk_le (l : List UInt8) (p k : Nat) : (tkL l p k).length ≤ k := by unfold tkL; split <;> simp <;> omega
theorem be_bound {t : List UInt8} {k j : Nat} (hk : k < t.length) (ht : t.length ≤ j + 1) : be (t.take k) < 256 ^ j := by
  have h1 := be_lt (t.take k)
  rw [List.length_take, Nat.min_eq_left (by omega)] at h1
  exact Nat.lt_of_lt_of_le h1 (Nat.pow_le_pow_right (by decide) (by omega))
theorem or256 (a : Nat) (x : UInt8) : a * 256 ||| x.toNat = a * 256 + x.toNat := by
  rw [Nat.mul_comm, show (256 : Nat) = 2 ^ 8 from rfl, Nat.two_pow_add_eq_or_of_lt x.toNat_lt]
theorem or32 (a b : Nat) (ha : a < 4294967296) (hb : b < 4294967296) : bits .or .u32 (a : Int) (b : Int) = ((a ||| b : Nat) : Int) := by
  have h : a ||| b < 2 ^ 32 := Nat.or_lt_two_pow ha hb
  show IntKind.u32.wrap ((((BitVec.ofInt 32 (a : Int)) ||| (BitVec.ofInt 32 (b : Int)) : BitVec 32).toNat : Nat) : Int) = _
  rw [BitVec.ofInt_natCast, BitVec.ofInt_natCast, BitVec.toNat_or, BitVec.toNat_ofNat, BitVec.toNat_ofNat]
  rw [Nat.mod_eq_of_lt (by omega), Nat.mod_eq_of_lt (by omega), IntKind.wrap_u32]
  omega
theorem shl8_32 (a : Nat) (h : a < 256 ^ 3) : IntKind.u32.wrap ((a : Int) * 2 ^ (min (8 : Int).toNat IntKind.u32.bits)) = ((a * 256 : Nat) : Int) := by
  rw [show (2 : Int) ^ (min (8 : Int).toNat IntKind.u32.bits) = 256 by decide, IntKind.wrap_u32]
  omega
theorem shl8_64 (a : Nat) (h : a < 256 ^ 7) : IntKind.u64.wrap ((a : Int) * 2 ^ (min (8 : Int).toNat IntKind.u64.bits)) = ((a * 256 : Nat) : Int) := by
  rw [show (2 : Int) ^ (min (8 : Int).toNat IntKind.u64.bits) = 256 by decide, IntKind.wrap_u64]
  omega
theorem orbe32 (a : Nat) (x : UInt8) (h : a < 256 ^ 3) : bits .or .u32 ((a * 256 : Nat) : Int) (x.toNat : Int) = ((a * 256 + x.toNat : Nat) : Int) := by
  rw [or32 _ _ (by omega) (by have := x.toNat_lt; omega), or256]
theorem orbe64 (a : Nat) (x : UInt8) (h : a < 256 ^ 7) : bits .or .u64 ((a * 256 : Nat) : Int) (x.toNat : Int) = ((a * 256 + x.toNat : Nat) : Int) := by
  rw [or64 _ _ (by omega) (by have := x.toNat_lt; omega), or256]
theorem bL_getX {l : List UInt8} {k : Nat} {x : UInt8} (h : l[k]? = some x) : (bL l)[k]? = some (Value.int .u8 (x.toNat : Int)) := bL_get l k x h


theorem split1 {w0 w : World} {M : Nat → Prop} {r s : Res} (S : St w0 M [both r s] w) (hap : ∀ i, r.dom i → ¬ s.dom i) : St w0 M [r, s] w :=
  ⟨S.os, S.tape, S.output, S.size, S.old, fun q hq => by
    have h1 := S.res _ List.mem_cons_self
    rcases List.mem_cons.1 hq with rfl | hq
    · exact ⟨h1.1.1, fun i hi => h1.2 i (.inl hi)⟩
    · obtain rfl := List.mem_singleton.1 hq
      exact ⟨h1.1.2, fun i hi => h1.2 i (.inr hi)⟩, List.pairwise_cons.2 ⟨fun s' hs' => by obtain rfl := List.mem_singleton.1 hs'; exact hap, List.pairwise_singleton _ _⟩⟩
theorem Rdd.end2 {w0 w : World} {g n c p q p' q' : Nat} {A : Option Addr} {l : List UInt8} {X : Array Value} (S : St w0 (rdr g A n c l p q).dom [blk g 102 X, row 5 1 A n c (bL l)] w) (hX : X = #[.slice A n c, .int .i64 (p' : Int), .int .i64 (q' : Int)]) : Turned w0 w (rdr g A n c l p q) (rdr g A n c l p' q') :=
  Rdd.of (St.turned2 (r := blk g 102 #[.slice A n c, .int .i64 (p : Int), .int .i64 (q : Int)]) (s := row 5 1 A n c (bL l)) S 0 1 rfl rfl) hX


set_option maxRecDepth 100000 in
theorem rnumber (g : Nat) (A : Option Addr) (n c : Nat) (l : List UInt8) (p : Nat) (w0 : World) (hw : (rdr g A n c l p 0).holds w0) (hp : p ≤ l.length) (hn62 : n ≤ 4611686018427387904) :
    Calls Try.prog 56 #[.pointer (some ⟨g, 0, none⟩)] w0 fun e w' => ∃ u, e = .returned u ∧ u = .int .u64 ((numF (l.drop p) 0 0).1 : Int) ∧ Turned w0 w' (rdr g A n c l p 0) (rdr g A n c l (p + (numF (l.drop p) 0 0).2.1) (numF (l.drop p) 0 0).2.2) := by
  refine enter1 (env := [(0, .pointer (some ⟨g, 0, none⟩))]) [.pointer (some ⟨g, 0, none⟩)] Try.func56 rfl Try.ntmps56 rfl rfl ?_
  have hnl := rdr_len hw; have hnc := ownsRow_cap hw.2; have S0 := St.borrow1 (rdr g A n c l p 0) hw (rdr_lt hw)
  refine T_seq fun K1 hK1 => ?_
  refine T_region ?_
  refine L_y (y_assign rfl) rfl ?_
  refine L_nil ?_
  refine hK1 _ _ ?_
  refine T_seq fun K2 hK2 => ?_
  refine T_region ?_
  refine L_y (y_assign rfl) rfl ?_
  refine L_nil ?_
  refine hK2 _ _ ?_
  refine T_seq fun K3 hK3 => ?_
  refine T_region ?_
  refine L_y (y_assign rfl) rfl ?_
  refine L_nil ?_
  refine hK3 _ _ ?_
  refine T_block ?_
  refine T_loop2 [(0, _)] (fun (k : Nat) (a : Nat) => [(3, .int .u64 (a : Int)), (4, .int .i64 (k : Int))]) (fun (k : Nat) (a : Nat) => 10 - k) (fun (k : Nat) (a : Nat) (w : World) => ((k ≤ 9 ∧ p + k ≤ l.length ∧ a < 128 ^ k) ∧ numF (l.drop (p + k)) k a = numF (l.drop p) 0 0) ∧ St w0 (rdr g A n c l p 0).dom [rdr g A n c l (p + k) 0] w) 0 0 (Sub.cons rfl (by first | rfl | exact congrArg (Value.int _) (by omega)) (Sub.cons rfl (by first | rfl | exact congrArg (Value.int _) (by omega)) (Sub.nil _))) (Sub.cons rfl rfl (Sub.nil _)) ?_ ?_
  ·
    exact ⟨⟨⟨by omega, by omega, by decide⟩, rfl⟩, S0⟩
  ·
    intro k a w1 hrel
    obtain ⟨⟨⟨hk9, hpk, ha⟩, hN⟩, S1⟩ := hrel
    refine T_seq fun K4 hK4 => ?_
    refine T_block ?_
    refine T_seq fun K5 hK5 => ?_
    refine T_region ?_
    refine L_y (y_move rfl) rfl ?_
    refine L_o (o_call Try.func60 rfl rfl (rtake g A n c l (p + k) _ 1 w1 (S1.get 0 rfl) (by omega) (by omega) hn62) rfl rfl ?_)
    rintro e2 w2 ⟨v2, rfl, B2, d2, rfl, R2, T2⟩
    refine ⟨_, rfl, ?_⟩
    have S2 := S1.turn 0 rfl T2
    have RR := R2
    refine L_y (y_assign rfl) rfl ?_
    refine L_nil ?_
    refine hK5 _ _ ?_
    refine T_seq fun K6 hK6 => ?_
    refine T_seq fun K7 hK7 => ?_
    refine T_region ?_
    refine L_y (y_move rfl) rfl ?_
    refine L_y (y_nilp rfl) rfl ?_
    refine L_y (y_fieldA 2 Try.underlying102 rfl sz32 rfl rfl rfl) rfl ?_
    refine L_y (y_ldc Try.underlying32 rfl rfl (((S2.get 0 rfl).1.cell _).trans (by rfl))) rfl ?_
    refine L_y (y_neq rfl rfl) rfl ?_
    refine L_nil ?_
    refine hK7 _ _ ?_
    refine T_cond rfl (fun h15 => ?_) (fun h15 => ?_)
    ·
      have hk1 := tkE_caseN h15
      have hN2 : numF (l.drop p) 0 0 = (0, k, 10) := by rw [← hN, List.drop_eq_nil_of_le (by omega)]; rfl
      refine T_seq fun K8 hK8 => ?_
      refine T_region ?_
      refine L_y (y_assign rfl) rfl ?_
      refine L_nil ?_
      refine hK8 _ _ ?_
      refine T_ret ?_
      repeat (first | with_reducible refine up_then ?_ | with_reducible refine up_in ?_)
      refine ret1 rfl rfl ?_
      first | exact ⟨_, rfl, by rw [hN2]; rfl, Rdd.turned (S2.turned1 0 rfl) (by rw [hN2, tkP, if_neg hk1]) (by rw [hN2, tkE_no hk1])⟩ | exact ⟨_, rfl, by rw [hN2], Rdd.turned (S2.turned1 0 rfl) (by rw [hN2]) (by rw [hN2])⟩ | exact ⟨_, rfl, by rw [hN2]; rfl, by rw [hN2]; exact Rdd.end2 S2 rfl⟩
    ·
      have hk1 := tkE_case h15
      obtain ⟨x, hx, htk, hdr⟩ := tk_one hk1
      rw [show bL (tkL l (p + k) 1) = bL [x] from congrArg bL htk] at RR
      rw [show tkP l (p + k) 1 = p + (k + 1) by rw [tkP, if_pos hk1]; omega, tkE_ok hk1] at S2
      have hxl := x.toNat_lt
      refine T_skip ?_
      refine hK6 _ _ ?_
      refine T_seq fun K9 hK9 => ?_
      refine T_region ?_
      refine L_y (y_move rfl) rfl ?_
      refine L_y (y_idx Try.underlying22 sz5 rfl rfl (RR) inferInstance (by rw [tkL_ok hk1]; decide)) rfl ?_
      refine L_y (y_ldr Try.underlying5 rfl rfl RR (show ([bV x])[0]? = some (Value.int .u8 (x.toNat : Int)) from rfl)) rfl ?_
      refine L_y (y_assign rfl) rfl ?_
      refine L_nil ?_
      refine hK9 _ _ ?_
      refine T_seq fun K10 hK10 => ?_
      refine T_seq fun K11 hK11 => ?_
      refine T_region ?_
      refine L_y (y_move rfl) rfl ?_
      refine L_y (y_eql rfl rfl) rfl ?_
      refine L_y (y_move rfl) rfl ?_
      refine L_split 21 rfl (fun h21 => ?_) (fun h21 => ?_)
      ·
        refine L_gyes rfl rfl ?_
        refine L_y (y_move rfl) rfl ?_
        refine L_gyes rfl rfl ?_
        refine L_y (y_gtr rfl rfl) rfl ?_
        refine L_y ((by first | exact y_pickT rfl rfl | exact y_pickF rfl rfl)) rfl ?_
        refine L_y (y_move rfl) rfl ?_
        refine L_split 25 rfl (fun h25 => ?_) (fun h25 => ?_)
        ·
          refine L_gno rfl rfl rfl ?_
          refine L_gno rfl rfl rfl ?_
          refine L_gno rfl rfl rfl ?_
          refine L_gnu rfl rfl rfl ?_
          refine L_gnu rfl rfl rfl ?_
          refine L_gno rfl rfl rfl ?_
          refine L_y ((by first | exact y_pickT rfl rfl | exact y_pickF rfl rfl)) rfl ?_
          refine L_nil ?_
          refine hK11 _ _ ?_
          refine T_true rfl ?_
          refine T_seq fun K12 hK12 => ?_
          have hF : ((k = 9 ∧ 1 < x.toNat) ∨ (0 < k ∧ x.toNat = 0)) := by omega
          have hN2 : numF (l.drop p) 0 0 = (0, k + 1, 12) := by rw [← hN, hdr, numF, if_pos hF]
          refine T_region ?_
          refine L_y (y_move rfl) rfl ?_
          refine L_y (y_nilp rfl) rfl ?_
          have S5 := split1 S2 (rdr_apart (S2.get 0 rfl))
          refine L_y (y_fieldA 2 Try.underlying102 rfl sz32 rfl rfl rfl) rfl ?_
          refine L_o (o_st1 S5 0 rfl rfl rfl rfl sz32 (by simp; done) fun w6 S6 => ?_)
          refine L_nil ?_
          refine hK12 _ _ ?_
          refine T_seq fun K13 hK13 => ?_
          refine T_region ?_
          refine L_y (y_assign rfl) rfl ?_
          refine L_nil ?_
          refine hK13 _ _ ?_
          refine T_ret ?_
          repeat (first | with_reducible refine up_then ?_ | with_reducible refine up_in ?_)
          refine ret1 rfl rfl ?_
          first | exact ⟨_, rfl, by rw [hN2]; rfl, Rdd.turned (S6.turned1 0 rfl) (by rw [hN2, tkP, if_neg hk1]) (by rw [hN2, tkE_no hk1])⟩ | exact ⟨_, rfl, by rw [hN2], Rdd.turned (S6.turned1 0 rfl) (by rw [hN2]) (by rw [hN2])⟩ | exact ⟨_, rfl, by rw [hN2]; rfl, by rw [hN2]; exact Rdd.end2 S6 rfl⟩
        ·
          refine L_gyes rfl rfl ?_
          refine L_y (y_move rfl) rfl ?_
          refine L_gyes rfl rfl ?_
          refine L_y (y_gtr rfl rfl) rfl ?_
          refine L_gyes rfl rfl ?_
          refine L_y (y_move rfl) rfl ?_
          refine L_split 28 rfl (fun h28 => ?_) (fun h28 => ?_)
          ·
            refine L_gyes rfl rfl ?_
            refine L_y (y_move rfl) rfl ?_
            refine L_gyes rfl rfl ?_
            refine L_y (y_eql rfl rfl) rfl ?_
            refine L_gyes rfl rfl ?_
            refine L_y ((by first | exact y_pickT rfl rfl | exact y_pickF rfl rfl)) rfl ?_
            refine L_y ((by first | exact y_pickT rfl rfl | exact y_pickF rfl rfl)) rfl ?_
            refine L_nil ?_
            refine hK11 _ _ ?_
            refine T_cond rfl (fun h32 => ?_) (fun h32 => ?_)
            ·
              refine T_seq fun K14 hK14 => ?_
              have hF : ((k = 9 ∧ 1 < x.toNat) ∨ (0 < k ∧ x.toNat = 0)) := by omega
              have hN2 : numF (l.drop p) 0 0 = (0, k + 1, 12) := by rw [← hN, hdr, numF, if_pos hF]
              refine T_region ?_
              refine L_y (y_move rfl) rfl ?_
              refine L_y (y_nilp rfl) rfl ?_
              have S8 := split1 S2 (rdr_apart (S2.get 0 rfl))
              refine L_y (y_fieldA 2 Try.underlying102 rfl sz32 rfl rfl rfl) rfl ?_
              refine L_o (o_st1 S8 0 rfl rfl rfl rfl sz32 (by simp; done) fun w9 S9 => ?_)
              refine L_nil ?_
              refine hK14 _ _ ?_
              refine T_seq fun K15 hK15 => ?_
              refine T_region ?_
              refine L_y (y_assign rfl) rfl ?_
              refine L_nil ?_
              refine hK15 _ _ ?_
              refine T_ret ?_
              repeat (first | with_reducible refine up_then ?_ | with_reducible refine up_in ?_)
              refine ret1 rfl rfl ?_
              first | exact ⟨_, rfl, by rw [hN2]; rfl, Rdd.turned (S9.turned1 0 rfl) (by rw [hN2, tkP, if_neg hk1]) (by rw [hN2, tkE_no hk1])⟩ | exact ⟨_, rfl, by rw [hN2], Rdd.turned (S9.turned1 0 rfl) (by rw [hN2]) (by rw [hN2])⟩ | exact ⟨_, rfl, by rw [hN2]; rfl, by rw [hN2]; exact Rdd.end2 S9 rfl⟩
            ·
              refine T_skip ?_
              refine hK10 _ _ ?_
              refine T_seq fun K16 hK16 => ?_
              have hF : ¬ ((k = 9 ∧ 1 < x.toNat) ∨ (0 < k ∧ x.toNat = 0)) := by omega
              have hnm := num_lt hk9 ha (x := x.toNat) (by omega) (fun h => by omega)
              refine T_region ?_
              refine L_y (y_move rfl) rfl ?_
              refine L_y (y_move rfl) rfl ?_
              refine L_y (y_bits rfl rfl rfl (andX x)) rfl ?_
              refine L_y (y_conv is5 Try.underlying65 rfl (u64w (by omega))) rfl ?_
              refine L_y (y_move rfl) rfl ?_
              refine L_y (y_mul rfl rfl (i64w (by omega))) rfl ?_
              refine L_y (y_conv is3 Try.underlying94 rfl (u64w (by omega))) rfl ?_
              refine L_y (y_shl rfl rfl (by omega) (shl7 _ k hk9 hnm.1)) rfl ?_
              refine L_y (y_bits rfl rfl rfl (or7 a _ k ha hnm.2)) rfl ?_
              refine L_y (y_assign rfl) rfl ?_
              refine L_nil ?_
              refine hK16 _ _ ?_
              refine T_seq fun K17 hK17 => ?_
              refine T_region ?_
              refine L_y (y_move rfl) rfl ?_
              refine L_y (y_lss rfl rfl) rfl ?_
              refine L_nil ?_
              refine hK17 _ _ ?_
              refine T_cond rfl (fun h46 => ?_) (fun h46 => ?_)
              ·
                have hN2 : numF (l.drop p) 0 0 = (a + x.toNat % 128 * 128 ^ k, k + 1, 0) := by rw [← hN, hdr, numF, if_neg hF, if_pos (by omega)]
                refine T_seq fun K18 hK18 => ?_
                refine T_region ?_
                refine L_y (y_move rfl) rfl ?_
                refine L_y (y_assign rfl) rfl ?_
                refine L_nil ?_
                refine hK18 _ _ ?_
                refine T_ret ?_
                repeat (first | with_reducible refine up_then ?_ | with_reducible refine up_in ?_)
                refine ret1 rfl rfl ?_
                first | exact ⟨_, rfl, by rw [hN2]; rfl, Rdd.turned (S2.turned1 0 rfl) (by rw [hN2, tkP, if_neg hk1]) (by rw [hN2, tkE_no hk1])⟩ | exact ⟨_, rfl, by rw [hN2], Rdd.turned (S2.turned1 0 rfl) (by rw [hN2]) (by rw [hN2])⟩ | exact ⟨_, rfl, by rw [hN2]; rfl, by rw [hN2]; exact Rdd.end2 S2 rfl⟩
              ·
                refine T_skip ?_
                refine hK4 _ _ ?_
                refine T_region ?_
                refine L_y (y_move rfl) rfl ?_
                refine L_y (y_add rfl rfl (i64w (by omega))) rfl ?_
                refine L_y (y_assign rfl) rfl ?_
                refine L_nil ?_
                refine ⟨k + 1, a + x.toNat % 128 * 128 ^ k, by omega, ⟨⟨⟨by omega, by omega, num_next ha⟩, by rw [← hN, hdr, numF, if_neg hF, if_neg (by omega)]; rfl⟩, S2⟩, ?_⟩
                exact (Sub.cons rfl (by first | rfl | exact congrArg (Value.int _) (by omega)) (Sub.cons rfl (by first | rfl | exact congrArg (Value.int _) (by omega)) (Sub.cons rfl rfl (Sub.nil _))))
          ·
            refine L_gno rfl rfl rfl ?_
            refine L_gno rfl rfl rfl ?_
            refine L_gyes rfl rfl ?_
            refine L_y ((by first | exact y_pickT rfl rfl | exact y_pickF rfl rfl)) rfl ?_
            refine L_y ((by first | exact y_pickT rfl rfl | exact y_pickF rfl rfl)) rfl ?_
            refine L_nil ?_
            refine hK11 _ _ ?_
            refine T_false rfl ?_
            refine T_skip ?_
            refine hK10 _ _ ?_
            refine T_seq fun K19 hK19 => ?_
            have hF : ¬ ((k = 9 ∧ 1 < x.toNat) ∨ (0 < k ∧ x.toNat = 0)) := by omega
            have hnm := num_lt hk9 ha (x := x.toNat) (by omega) (fun h => by omega)
            refine T_region ?_
            refine L_y (y_move rfl) rfl ?_
            refine L_y (y_move rfl) rfl ?_
            refine L_y (y_bits rfl rfl rfl (andX x)) rfl ?_
            refine L_y (y_conv is5 Try.underlying65 rfl (u64w (by omega))) rfl ?_
            refine L_y (y_move rfl) rfl ?_
            refine L_y (y_mul rfl rfl (i64w (by omega))) rfl ?_
            refine L_y (y_conv is3 Try.underlying94 rfl (u64w (by omega))) rfl ?_
            refine L_y (y_shl rfl rfl (by omega) (shl7 _ k hk9 hnm.1)) rfl ?_
            refine L_y (y_bits rfl rfl rfl (or7 a _ k ha hnm.2)) rfl ?_
            refine L_y (y_assign rfl) rfl ?_
            refine L_nil ?_
            refine hK19 _ _ ?_
            refine T_seq fun K20 hK20 => ?_
            refine T_region ?_
            refine L_y (y_move rfl) rfl ?_
            refine L_y (y_lss rfl rfl) rfl ?_
            refine L_nil ?_
            refine hK20 _ _ ?_
            refine T_cond rfl (fun h46 => ?_) (fun h46 => ?_)
            ·
              have hN2 : numF (l.drop p) 0 0 = (a + x.toNat % 128 * 128 ^ k, k + 1, 0) := by rw [← hN, hdr, numF, if_neg hF, if_pos (by omega)]
              refine T_seq fun K21 hK21 => ?_
              refine T_region ?_
              refine L_y (y_move rfl) rfl ?_
              refine L_y (y_assign rfl) rfl ?_
              refine L_nil ?_
              refine hK21 _ _ ?_
              refine T_ret ?_
              repeat (first | with_reducible refine up_then ?_ | with_reducible refine up_in ?_)
              refine ret1 rfl rfl ?_
              first | exact ⟨_, rfl, by rw [hN2]; rfl, Rdd.turned (S2.turned1 0 rfl) (by rw [hN2, tkP, if_neg hk1]) (by rw [hN2, tkE_no hk1])⟩ | exact ⟨_, rfl, by rw [hN2], Rdd.turned (S2.turned1 0 rfl) (by rw [hN2]) (by rw [hN2])⟩ | exact ⟨_, rfl, by rw [hN2]; rfl, by rw [hN2]; exact Rdd.end2 S2 rfl⟩
            ·
              refine T_skip ?_
              refine hK4 _ _ ?_
              refine T_region ?_
              refine L_y (y_move rfl) rfl ?_
              refine L_y (y_add rfl rfl (i64w (by omega))) rfl ?_
              refine L_y (y_assign rfl) rfl ?_
              refine L_nil ?_
              refine ⟨k + 1, a + x.toNat % 128 * 128 ^ k, by omega, ⟨⟨⟨by omega, by omega, num_next ha⟩, by rw [← hN, hdr, numF, if_neg hF, if_neg (by omega)]; rfl⟩, S2⟩, ?_⟩
              exact (Sub.cons rfl (by first | rfl | exact congrArg (Value.int _) (by omega)) (Sub.cons rfl (by first | rfl | exact congrArg (Value.int _) (by omega)) (Sub.cons rfl rfl (Sub.nil _))))
      ·
        refine L_gno rfl rfl rfl ?_
        refine L_gno rfl rfl rfl ?_
        refine L_y ((by first | exact y_pickT rfl rfl | exact y_pickF rfl rfl)) rfl ?_
        refine L_y (y_move rfl) rfl ?_
        refine L_gyes rfl rfl ?_
        refine L_y (y_move rfl) rfl ?_
        refine L_gyes rfl rfl ?_
        refine L_y (y_gtr rfl rfl) rfl ?_
        refine L_gyes rfl rfl ?_
        refine L_y (y_move rfl) rfl ?_
        refine L_split 28 rfl (fun h28 => ?_) (fun h28 => ?_)
        ·
          refine L_gyes rfl rfl ?_
          refine L_y (y_move rfl) rfl ?_
          refine L_gyes rfl rfl ?_
          refine L_y (y_eql rfl rfl) rfl ?_
          refine L_gyes rfl rfl ?_
          refine L_y ((by first | exact y_pickT rfl rfl | exact y_pickF rfl rfl)) rfl ?_
          refine L_y ((by first | exact y_pickT rfl rfl | exact y_pickF rfl rfl)) rfl ?_
          refine L_nil ?_
          refine hK11 _ _ ?_
          refine T_cond rfl (fun h32 => ?_) (fun h32 => ?_)
          ·
            refine T_seq fun K22 hK22 => ?_
            have hF : ((k = 9 ∧ 1 < x.toNat) ∨ (0 < k ∧ x.toNat = 0)) := by omega
            have hN2 : numF (l.drop p) 0 0 = (0, k + 1, 12) := by rw [← hN, hdr, numF, if_pos hF]
            refine T_region ?_
            refine L_y (y_move rfl) rfl ?_
            refine L_y (y_nilp rfl) rfl ?_
            have S11 := split1 S2 (rdr_apart (S2.get 0 rfl))
            refine L_y (y_fieldA 2 Try.underlying102 rfl sz32 rfl rfl rfl) rfl ?_
            refine L_o (o_st1 S11 0 rfl rfl rfl rfl sz32 (by simp; done) fun w12 S12 => ?_)
            refine L_nil ?_
            refine hK22 _ _ ?_
            refine T_seq fun K23 hK23 => ?_
            refine T_region ?_
            refine L_y (y_assign rfl) rfl ?_
            refine L_nil ?_
            refine hK23 _ _ ?_
            refine T_ret ?_
            repeat (first | with_reducible refine up_then ?_ | with_reducible refine up_in ?_)
            refine ret1 rfl rfl ?_
            first | exact ⟨_, rfl, by rw [hN2]; rfl, Rdd.turned (S12.turned1 0 rfl) (by rw [hN2, tkP, if_neg hk1]) (by rw [hN2, tkE_no hk1])⟩ | exact ⟨_, rfl, by rw [hN2], Rdd.turned (S12.turned1 0 rfl) (by rw [hN2]) (by rw [hN2])⟩ | exact ⟨_, rfl, by rw [hN2]; rfl, by rw [hN2]; exact Rdd.end2 S12 rfl⟩
          ·
            refine T_skip ?_
            refine hK10 _ _ ?_
            refine T_seq fun K24 hK24 => ?_
            have hF : ¬ ((k = 9 ∧ 1 < x.toNat) ∨ (0 < k ∧ x.toNat = 0)) := by omega
            have hnm := num_lt hk9 ha (x := x.toNat) (by omega) (fun h => by omega)
            refine T_region ?_
            refine L_y (y_move rfl) rfl ?_
            refine L_y (y_move rfl) rfl ?_
            refine L_y (y_bits rfl rfl rfl (andX x)) rfl ?_
            refine L_y (y_conv is5 Try.underlying65 rfl (u64w (by omega))) rfl ?_
            refine L_y (y_move rfl) rfl ?_
            refine L_y (y_mul rfl rfl (i64w (by omega))) rfl ?_
            refine L_y (y_conv is3 Try.underlying94 rfl (u64w (by omega))) rfl ?_
            refine L_y (y_shl rfl rfl (by omega) (shl7 _ k hk9 hnm.1)) rfl ?_
            refine L_y (y_bits rfl rfl rfl (or7 a _ k ha hnm.2)) rfl ?_
            refine L_y (y_assign rfl) rfl ?_
            refine L_nil ?_
            refine hK24 _ _ ?_
            refine T_seq fun K25 hK25 => ?_
            refine T_region ?_
            refine L_y (y_move rfl) rfl ?_
            refine L_y (y_lss rfl rfl) rfl ?_
            refine L_nil ?_
            refine hK25 _ _ ?_
            refine T_cond rfl (fun h46 => ?_) (fun h46 => ?_)
            ·
              have hN2 : numF (l.drop p) 0 0 = (a + x.toNat % 128 * 128 ^ k, k + 1, 0) := by rw [← hN, hdr, numF, if_neg hF, if_pos (by omega)]
              refine T_seq fun K26 hK26 => ?_
              refine T_region ?_
              refine L_y (y_move rfl) rfl ?_
              refine L_y (y_assign rfl) rfl ?_
              refine L_nil ?_
              refine hK26 _ _ ?_
              refine T_ret ?_
              repeat (first | with_reducible refine up_then ?_ | with_reducible refine up_in ?_)
              refine ret1 rfl rfl ?_
              first | exact ⟨_, rfl, by rw [hN2]; rfl, Rdd.turned (S2.turned1 0 rfl) (by rw [hN2, tkP, if_neg hk1]) (by rw [hN2, tkE_no hk1])⟩ | exact ⟨_, rfl, by rw [hN2], Rdd.turned (S2.turned1 0 rfl) (by rw [hN2]) (by rw [hN2])⟩ | exact ⟨_, rfl, by rw [hN2]; rfl, by rw [hN2]; exact Rdd.end2 S2 rfl⟩
            ·
              refine T_skip ?_
              refine hK4 _ _ ?_
              refine T_region ?_
              refine L_y (y_move rfl) rfl ?_
              refine L_y (y_add rfl rfl (i64w (by omega))) rfl ?_
              refine L_y (y_assign rfl) rfl ?_
              refine L_nil ?_
              refine ⟨k + 1, a + x.toNat % 128 * 128 ^ k, by omega, ⟨⟨⟨by omega, by omega, num_next ha⟩, by rw [← hN, hdr, numF, if_neg hF, if_neg (by omega)]; rfl⟩, S2⟩, ?_⟩
              exact (Sub.cons rfl (by first | rfl | exact congrArg (Value.int _) (by omega)) (Sub.cons rfl (by first | rfl | exact congrArg (Value.int _) (by omega)) (Sub.cons rfl rfl (Sub.nil _))))
        ·
          refine L_gno rfl rfl rfl ?_
          refine L_gno rfl rfl rfl ?_
          refine L_gyes rfl rfl ?_
          refine L_y ((by first | exact y_pickT rfl rfl | exact y_pickF rfl rfl)) rfl ?_
          refine L_y ((by first | exact y_pickT rfl rfl | exact y_pickF rfl rfl)) rfl ?_
          refine L_nil ?_
          refine hK11 _ _ ?_
          refine T_false rfl ?_
          refine T_skip ?_
          refine hK10 _ _ ?_
          refine T_seq fun K27 hK27 => ?_
          have hF : ¬ ((k = 9 ∧ 1 < x.toNat) ∨ (0 < k ∧ x.toNat = 0)) := by omega
          have hnm := num_lt hk9 ha (x := x.toNat) (by omega) (fun h => by omega)
          refine T_region ?_
          refine L_y (y_move rfl) rfl ?_
          refine L_y (y_move rfl) rfl ?_
          refine L_y (y_bits rfl rfl rfl (andX x)) rfl ?_
          refine L_y (y_conv is5 Try.underlying65 rfl (u64w (by omega))) rfl ?_
          refine L_y (y_move rfl) rfl ?_
          refine L_y (y_mul rfl rfl (i64w (by omega))) rfl ?_
          refine L_y (y_conv is3 Try.underlying94 rfl (u64w (by omega))) rfl ?_
          refine L_y (y_shl rfl rfl (by omega) (shl7 _ k hk9 hnm.1)) rfl ?_
          refine L_y (y_bits rfl rfl rfl (or7 a _ k ha hnm.2)) rfl ?_
          refine L_y (y_assign rfl) rfl ?_
          refine L_nil ?_
          refine hK27 _ _ ?_
          refine T_seq fun K28 hK28 => ?_
          refine T_region ?_
          refine L_y (y_move rfl) rfl ?_
          refine L_y (y_lss rfl rfl) rfl ?_
          refine L_nil ?_
          refine hK28 _ _ ?_
          refine T_cond rfl (fun h46 => ?_) (fun h46 => ?_)
          ·
            have hN2 : numF (l.drop p) 0 0 = (a + x.toNat % 128 * 128 ^ k, k + 1, 0) := by rw [← hN, hdr, numF, if_neg hF, if_pos (by omega)]
            refine T_seq fun K29 hK29 => ?_
            refine T_region ?_
            refine L_y (y_move rfl) rfl ?_
            refine L_y (y_assign rfl) rfl ?_
            refine L_nil ?_
            refine hK29 _ _ ?_
            refine T_ret ?_
            repeat (first | with_reducible refine up_then ?_ | with_reducible refine up_in ?_)
            refine ret1 rfl rfl ?_
            first | exact ⟨_, rfl, by rw [hN2]; rfl, Rdd.turned (S2.turned1 0 rfl) (by rw [hN2, tkP, if_neg hk1]) (by rw [hN2, tkE_no hk1])⟩ | exact ⟨_, rfl, by rw [hN2], Rdd.turned (S2.turned1 0 rfl) (by rw [hN2]) (by rw [hN2])⟩ | exact ⟨_, rfl, by rw [hN2]; rfl, by rw [hN2]; exact Rdd.end2 S2 rfl⟩
          ·
            refine T_skip ?_
            refine hK4 _ _ ?_
            refine T_region ?_
            refine L_y (y_move rfl) rfl ?_
            refine L_y (y_add rfl rfl (i64w (by omega))) rfl ?_
            refine L_y (y_assign rfl) rfl ?_
            refine L_nil ?_
            refine ⟨k + 1, a + x.toNat % 128 * 128 ^ k, by omega, ⟨⟨⟨by omega, by omega, num_next ha⟩, by rw [← hN, hdr, numF, if_neg hF, if_neg (by omega)]; rfl⟩, S2⟩, ?_⟩
            exact (Sub.cons rfl (by first | rfl | exact congrArg (Value.int _) (by omega)) (Sub.cons rfl (by first | rfl | exact congrArg (Value.int _) (by omega)) (Sub.cons rfl rfl (Sub.nil _))))


theorem Rdd.join {w0 w : World} {M : Nat → Prop} {g n c p' q' : Nat} {A : Option Addr} {l : List UInt8} {X : Array Value} (S : St w0 M [blk g 102 X, row 5 1 A n c (bL l)] w) (hX : X = #[.slice A n c, .int .i64 (p' : Int), .int .i64 (q' : Int)]) : St w0 M [rdr g A n c l p' q'] w := by
  subst hX
  exact S.join
/-- What reading a number up to m gives, where it ends, and what is wrong then. -/
def vaN (l : List UInt8) (p q m : Nat) : Nat × Nat × Nat :=
  if q ≠ 0 then (0, p, q) else if (numF (l.drop p) 0 0).2.2 ≠ 0 then (0, p, (numF (l.drop p) 0 0).2.2) else if m < (numF (l.drop p) 0 0).1 then (0, p, 3) else ((numF (l.drop p) 0 0).1, p + (numF (l.drop p) 0 0).2.1, 0)


set_option maxRecDepth 100000 in
theorem rvar (g : Nat) (A : Option Addr) (n c : Nat) (l : List UInt8) (p q : Nat) (m : Nat) (w0 : World) (hw : (rdr g A n c l p q).holds w0) (hp : p ≤ l.length) (hn62 : n ≤ 4611686018427387904) :
    Calls Try.prog 44 #[.pointer (some ⟨g, 0, none⟩), .int .u64 (m : Int)] w0 fun e w' => ∃ u, e = .returned u ∧ u = .int .u64 ((vaN l p q m).1 : Int) ∧ Turned w0 w' (rdr g A n c l p q) (rdr g A n c l (vaN l p q m).2.1 (vaN l p q m).2.2) := by
  refine enterD1 (env := [(0, .pointer (some ⟨g, 0, none⟩)), (1, .int .u64 (m : Int))]) [.pointer (some ⟨g, 0, none⟩), .int .u64 (m : Int)] Try.func44 rfl Try.ntmps44 rfl rfl ?_
  have hnl := rdr_len hw; have hnc := ownsRow_cap hw.2; have S0 := St.borrow1 (rdr g A n c l p q) hw (rdr_lt hw)
  refine T_seq fun K1 hK1 => ?_
  refine T_region ?_
  refine L_y (y_assign rfl) rfl ?_
  refine L_nil ?_
  refine hK1 _ _ ?_
  refine T_seq fun K2 hK2 => ?_
  refine T_seq fun K3 hK3 => ?_
  refine T_region ?_
  refine L_y (y_move rfl) rfl ?_
  refine L_o (o_call Try.func54 rfl rfl (rdead g A n c l p _ w0 (S0.get 0 rfl) hp) rfl rfl ?_)
  rintro e1 w1 ⟨v1, rfl, l1, rfl⟩
  refine ⟨_, rfl, ?_⟩
  have S1 := S0.like l1
  refine L_nil ?_
  refine hK3 _ _ ?_
  refine T_cond rfl (fun h7 => ?_) (fun h7 => ?_)
  ·
    refine T_seq fun K4 hK4 => ?_
    refine T_region ?_
    refine L_y (y_assign rfl) rfl ?_
    refine L_nil ?_
    refine hK4 _ _ ?_
    refine T_ret ?_
    repeat (first | with_reducible refine up_then ?_ | with_reducible refine up_in ?_)
    refine retd1 rfl rfl ?_
    have hV : vaN l p q m = (0, p, q) := by rw [vaN, if_pos (by omega)]
    exact ⟨_, rfl, by rw [hV]; rfl, by rw [hV]; exact Rdd.turned (S1.turned1 0 rfl) rfl rfl⟩
  ·
    have hq : q = 0 := by omega
    subst hq
    refine T_skip ?_
    refine hK2 _ _ ?_
    refine T_seq fun K5 hK5 => ?_
    refine T_region ?_
    refine L_y (y_move rfl) rfl ?_
    refine L_y (y_move rfl) rfl ?_
    refine L_y (y_nilp rfl) rfl ?_
    refine L_y (y_fieldA 1 Try.underlying102 rfl sz3 rfl rfl rfl) rfl ?_
    refine L_y (y_ldc Try.underlying3 rfl rfl (((S1.get 0 rfl).1.cell _).trans (by rfl))) rfl ?_
    refine L_defer rfl ?_
    refine L_nil ?_
    refine hK5 _ _ ?_
    refine T_seq fun K6 hK6 => ?_
    refine T_region ?_
    refine L_y (y_move rfl) rfl ?_
    refine L_o (o_call Try.func56 rfl rfl (rnumber g A n c l p w1 (S1.get 0 rfl) hp hn62) rfl rfl ?_)
    rintro e2 w2 ⟨v2, rfl, rfl, T2⟩
    refine ⟨_, rfl, ?_⟩
    have S2 := S1.turn 0 rfl T2
    refine L_y (y_assign rfl) rfl ?_
    refine L_nil ?_
    refine hK6 _ _ ?_
    refine T_seq fun K7 hK7 => ?_
    refine T_seq fun K8 hK8 => ?_
    refine T_region ?_
    refine L_y (y_move rfl) rfl ?_
    refine L_y (y_nilp rfl) rfl ?_
    refine L_y (y_fieldA 2 Try.underlying102 rfl sz32 rfl rfl rfl) rfl ?_
    refine L_y (y_ldc Try.underlying32 rfl rfl (((S2.get 0 rfl).1.cell _).trans (by rfl))) rfl ?_
    refine L_y (y_eql rfl rfl) rfl ?_
    refine L_y (y_move rfl) rfl ?_
    refine L_split 20 rfl (fun h20 => ?_) (fun h20 => ?_)
    ·
      refine L_gyes rfl rfl ?_
      refine L_y (y_move rfl) rfl ?_
      refine L_gyes rfl rfl ?_
      refine L_y (y_move rfl) rfl ?_
      refine L_gyes rfl rfl ?_
      refine L_y (y_gtr rfl rfl) rfl ?_
      refine L_y ((by first | exact y_pickT rfl rfl | exact y_pickF rfl rfl)) rfl ?_
      refine L_nil ?_
      refine hK8 _ _ ?_
      refine T_cond rfl (fun h24 => ?_) (fun h24 => ?_)
      ·
        refine T_region ?_
        refine L_y (y_move rfl) rfl ?_
        refine L_y (y_nilp rfl) rfl ?_
        have S4 := split1 S2 (rdr_apart (S2.get 0 rfl))
        refine L_y (y_fieldA 2 Try.underlying102 rfl sz32 rfl rfl rfl) rfl ?_
        refine L_o (o_st1 S4 0 rfl rfl rfl rfl sz32 (by simp; done) fun w5 S5 => ?_)
        have S6 := Rdd.join S5 (q' := 3) rfl
        refine L_nil ?_
        refine hK7 _ _ ?_
        refine T_seq fun K9 hK9 => ?_
        refine T_seq fun K10 hK10 => ?_
        refine T_region ?_
        refine L_y (y_move rfl) rfl ?_
        refine L_y (y_nilp rfl) rfl ?_
        refine L_y (y_fieldA 2 Try.underlying102 rfl sz32 rfl rfl rfl) rfl ?_
        refine L_y (y_ldc Try.underlying32 rfl rfl (((S6.get 0 rfl).1.cell _).trans (by rfl))) rfl ?_
        refine L_y (y_neq rfl rfl) rfl ?_
        refine L_nil ?_
        refine hK10 _ _ ?_
        refine T_cond rfl (fun h32 => ?_) (fun h32 => ?_)
        ·
          refine T_seq fun K11 hK11 => ?_
          refine T_region ?_
          refine L_y (y_assign rfl) rfl ?_
          refine L_nil ?_
          refine hK11 _ _ ?_
          refine T_ret ?_
          repeat (first | with_reducible refine up_then ?_ | with_reducible refine up_in ?_)
          refine retD1 (f := 55) rfl rfl rfl Try.func55 rfl rfl (rback g A n c l _ _ p w5 (S6.get 0 rfl)) ?_
          rintro e7 w7 ⟨v7, rfl, T7⟩
          refine ⟨_, rfl, ?_⟩
          have S7 := S6.turn 0 rfl T7
          have hV : vaN l p 0 m = (0, p, 3) := by rw [vaN, if_neg (by omega), if_neg (by omega), if_pos (by omega)]
          exact ⟨_, rfl, by rw [hV]; rfl, by rw [hV]; exact Rdd.turned (S7.turned1 0 rfl) (if_pos (by decide)) rfl⟩
        ·
          refine T_skip ?_
          refine hK9 _ _ ?_
          refine T_seq fun K12 hK12 => ?_
          refine T_region ?_
          refine L_y (y_move rfl) rfl ?_
          refine L_y (y_assign rfl) rfl ?_
          refine L_nil ?_
          refine hK12 _ _ ?_
          refine T_ret ?_
          repeat (first | with_reducible refine up_then ?_ | with_reducible refine up_in ?_)
          refine retD1 (f := 55) rfl rfl rfl Try.func55 rfl rfl (rback g A n c l _ _ p w5 (S6.get 0 rfl)) ?_
          rintro e8 w8 ⟨v8, rfl, T8⟩
          refine ⟨_, rfl, ?_⟩
          have S8 := S6.turn 0 rfl T8
          exfalso
          omega
      ·
        refine T_skip ?_
        refine hK7 _ _ ?_
        refine T_seq fun K13 hK13 => ?_
        refine T_seq fun K14 hK14 => ?_
        refine T_region ?_
        refine L_y (y_move rfl) rfl ?_
        refine L_y (y_nilp rfl) rfl ?_
        refine L_y (y_fieldA 2 Try.underlying102 rfl sz32 rfl rfl rfl) rfl ?_
        refine L_y (y_ldc Try.underlying32 rfl rfl (((S2.get 0 rfl).1.cell _).trans (by rfl))) rfl ?_
        refine L_y (y_neq rfl rfl) rfl ?_
        refine L_nil ?_
        refine hK14 _ _ ?_
        refine T_cond rfl (fun h32 => ?_) (fun h32 => ?_)
        ·
          refine T_seq fun K15 hK15 => ?_
          refine T_region ?_
          refine L_y (y_assign rfl) rfl ?_
          refine L_nil ?_
          refine hK15 _ _ ?_
          refine T_ret ?_
          repeat (first | with_reducible refine up_then ?_ | with_reducible refine up_in ?_)
          refine retD1 (f := 55) rfl rfl rfl Try.func55 rfl rfl (rback g A n c l _ _ p w2 (S2.get 0 rfl)) ?_
          rintro e9 w9 ⟨v9, rfl, T9⟩
          refine ⟨_, rfl, ?_⟩
          have S9 := S2.turn 0 rfl T9
          exfalso
          omega
        ·
          refine T_skip ?_
          refine hK13 _ _ ?_
          refine T_seq fun K16 hK16 => ?_
          refine T_region ?_
          refine L_y (y_move rfl) rfl ?_
          refine L_y (y_assign rfl) rfl ?_
          refine L_nil ?_
          refine hK16 _ _ ?_
          refine T_ret ?_
          repeat (first | with_reducible refine up_then ?_ | with_reducible refine up_in ?_)
          refine retD1 (f := 55) rfl rfl rfl Try.func55 rfl rfl (rback g A n c l _ _ p w2 (S2.get 0 rfl)) ?_
          rintro e10 w10 ⟨v10, rfl, T10⟩
          refine ⟨_, rfl, ?_⟩
          have S10 := S2.turn 0 rfl T10
          have hV : vaN l p 0 m = ((numF (l.drop p) 0 0).1, p + (numF (l.drop p) 0 0).2.1, 0) := by rw [vaN, if_neg (by omega), if_neg (by omega), if_neg (by omega)]
          exact ⟨_, rfl, by rw [hV], by rw [hV]; exact Rdd.turned (S10.turned1 0 rfl) (if_neg (by omega)) (show (numF (l.drop p) 0 0).2.2 = 0 by omega)⟩
    ·
      refine L_gno rfl rfl rfl ?_
      refine L_gno rfl rfl rfl ?_
      refine L_gno rfl rfl rfl ?_
      refine L_y ((by first | exact y_pickT rfl rfl | exact y_pickF rfl rfl)) rfl ?_
      refine L_nil ?_
      refine hK8 _ _ ?_
      refine T_false rfl ?_
      refine T_skip ?_
      refine hK7 _ _ ?_
      refine T_seq fun K17 hK17 => ?_
      refine T_seq fun K18 hK18 => ?_
      refine T_region ?_
      refine L_y (y_move rfl) rfl ?_
      refine L_y (y_nilp rfl) rfl ?_
      refine L_y (y_fieldA 2 Try.underlying102 rfl sz32 rfl rfl rfl) rfl ?_
      refine L_y (y_ldc Try.underlying32 rfl rfl (((S2.get 0 rfl).1.cell _).trans (by rfl))) rfl ?_
      refine L_y (y_neq rfl rfl) rfl ?_
      refine L_nil ?_
      refine hK18 _ _ ?_
      refine T_cond rfl (fun h32 => ?_) (fun h32 => ?_)
      ·
        refine T_seq fun K19 hK19 => ?_
        refine T_region ?_
        refine L_y (y_assign rfl) rfl ?_
        refine L_nil ?_
        refine hK19 _ _ ?_
        refine T_ret ?_
        repeat (first | with_reducible refine up_then ?_ | with_reducible refine up_in ?_)
        refine retD1 (f := 55) rfl rfl rfl Try.func55 rfl rfl (rback g A n c l _ _ p w2 (S2.get 0 rfl)) ?_
        rintro e11 w11 ⟨v11, rfl, T11⟩
        refine ⟨_, rfl, ?_⟩
        have S11 := S2.turn 0 rfl T11
        have hV : vaN l p 0 m = (0, p, (numF (l.drop p) 0 0).2.2) := by rw [vaN, if_neg (by omega), if_pos (by omega)]
        exact ⟨_, rfl, by rw [hV]; rfl, by rw [hV]; exact Rdd.turned (S11.turned1 0 rfl) (if_pos (by omega)) rfl⟩
      ·
        refine T_skip ?_
        refine hK17 _ _ ?_
        refine T_seq fun K20 hK20 => ?_
        refine T_region ?_
        refine L_y (y_move rfl) rfl ?_
        refine L_y (y_assign rfl) rfl ?_
        refine L_nil ?_
        refine hK20 _ _ ?_
        refine T_ret ?_
        repeat (first | with_reducible refine up_then ?_ | with_reducible refine up_in ?_)
        refine retD1 (f := 55) rfl rfl rfl Try.func55 rfl rfl (rback g A n c l _ _ p w2 (S2.get 0 rfl)) ?_
        rintro e12 w12 ⟨v12, rfl, T12⟩
        refine ⟨_, rfl, ?_⟩
        have S12 := S2.turn 0 rfl T12
        exfalso
        omega


theorem numF_le : ∀ (r : List UInt8) (k a : Nat), (numF r k a).2.1 ≤ k + r.length
  | [], k, a => by simp [numF]
  | c :: r, k, a => by
    have h := numF_le r (k + 1) (a + c.toNat % 128 * 128 ^ k)
    unfold numF
    split
    · simp
    · split
      · simp
      · simp only [List.length_cons]
        omega
theorem numF_at (l : List UInt8) (p : Nat) (h : p ≤ l.length) : p + (numF (l.drop p) 0 0).2.1 ≤ l.length := by
  have := numF_le (l.drop p) 0 0
  rw [List.length_drop] at this
  omega
/-- What reading a text up to m gives, where it ends, and what is wrong then. -/
def txN (l : List UInt8) (p q : Nat) (m : Int) : List UInt8 × Nat × Nat :=
  if q ≠ 0 then ([], p, q) else if (numF (l.drop p) 0 0).2.2 ≠ 0 then ([], p, (numF (l.drop p) 0 0).2.2) else if m < 0 ∨ m < (numF (l.drop p) 0 0).1 then ([], p, 3)
  else if (numF (l.drop p) 0 0).1 ≤ l.length - (p + (numF (l.drop p) 0 0).2.1) then (tkL l (p + (numF (l.drop p) 0 0).2.1) (numF (l.drop p) 0 0).1, p + (numF (l.drop p) 0 0).2.1 + (numF (l.drop p) 0 0).1, 0) else ([], p, 10)
/-- What reading so many bytes gives. -/
def rnL (l : List UInt8) (p q : Nat) (m : Int) : List UInt8 := if m < 0 then [] else rwL l p q m.toNat
def rnP (l : List UInt8) (p q : Nat) (m : Int) : Nat := if m < 0 then p else rwP l p q m.toNat
def rnE (l : List UInt8) (p q : Nat) (m : Int) : Nat := if m < 0 then (if q ≠ 0 then q else 3) else rwE l p q m.toNat


theorem rdr_same {g n c p q p' q' : Nat} {A : Option Addr} {l : List UInt8} {i : Nat} (h : (rdr g A n c l p q).dom i) : (rdr g A n c l p' q').dom i := h


set_option maxRecDepth 100000 in
theorem rraw (g : Nat) (A : Option Addr) (n c : Nat) (l : List UInt8) (p q : Nat) (m : Int) (w0 : World) (hw : (rdr g A n c l p q).holds w0) (hp : p ≤ l.length) (hn62 : n ≤ 70368744177664) (hm : m ≤ 9223372036854775807) :
    Calls Try.prog 58 #[.pointer (some ⟨g, 0, none⟩), .int .i64 m] w0 fun e w' => ∃ u, e = .returned u ∧ Turned w0 w' (rdr g A n c l p q) (rdr g A n c l (rnP l p q m) (rnE l p q m)) ∧ ∃ B c2, u = .slice B (rnL l p q m).length c2 ∧ (row 5 1 B (rnL l p q m).length c2 (bL (rnL l p q m))).holds w' ∧ ∀ i, (row 5 1 B (rnL l p q m).length c2 (bL (rnL l p q m))).dom i → w0.heap.size ≤ i := by
  refine enter1 (env := [(0, .pointer (some ⟨g, 0, none⟩)), (1, .int .i64 m)]) [.pointer (some ⟨g, 0, none⟩), .int .i64 m] Try.func58 rfl Try.ntmps58 rfl rfl ?_
  have hnl := rdr_len hw; have hnc := ownsRow_cap hw.2; have S0 := St.borrow1 (rdr g A n c l p q) hw (rdr_lt hw)
  refine T_seq fun K1 hK1 => ?_
  refine T_region ?_
  refine L_y (y_assign rfl) rfl ?_
  refine L_nil ?_
  refine hK1 _ _ ?_
  refine T_seq fun K2 hK2 => ?_
  refine T_seq fun K3 hK3 => ?_
  refine T_region ?_
  refine L_y (y_move rfl) rfl ?_
  refine L_o (o_call Try.func54 rfl rfl (rdead g A n c l p _ w0 (S0.get 0 rfl) hp) rfl rfl ?_)
  rintro e1 w1 ⟨v1, rfl, l1, rfl⟩
  refine ⟨_, rfl, ?_⟩
  have S1 := S0.like l1
  refine L_nil ?_
  refine hK3 _ _ ?_
  refine T_cond rfl (fun h6 => ?_) (fun h6 => ?_)
  ·
    refine T_seq fun K4 hK4 => ?_
    refine T_region ?_
    refine L_y (y_assign rfl) rfl ?_
    refine L_nil ?_
    refine hK4 _ _ ?_
    refine T_ret ?_
    repeat (first | with_reducible refine up_then ?_ | with_reducible refine up_in ?_)
    refine ret1 rfl rfl ?_
    have e1 : rnL l p q m = [] := by unfold rnL rwL; split; rfl; rw [if_neg (by omega)]
    have e2 : rnP l p q m = p := by unfold rnP rwP; split; rfl; rw [if_neg (by omega)]
    have e3 : rnE l p q m = q := by unfold rnE rwE; split; rw [if_pos (by omega)]; rw [if_neg (by omega)]
    exact ⟨_, rfl, by rw [e2, e3]; exact S1.turned1 0 rfl, none, 0, by rw [e1]; rfl, by rw [e1]; exact ⟨by simp [bL], .inl ⟨rfl, rfl⟩⟩, fun i hi => by rw [e1] at hi; simp [row, Value.ownBlock] at hi⟩
  ·
    have hq : q = 0 := by omega
    subst hq
    refine T_skip ?_
    refine hK2 _ _ ?_
    refine T_seq fun K5 hK5 => ?_
    refine T_seq fun K6 hK6 => ?_
    refine T_region ?_
    refine L_y (y_move rfl) rfl ?_
    refine L_y (y_lss rfl rfl) rfl ?_
    refine L_nil ?_
    refine hK6 _ _ ?_
    refine T_cond rfl (fun h8 => ?_) (fun h8 => ?_)
    ·
      refine T_seq fun K7 hK7 => ?_
      refine T_region ?_
      refine L_y (y_move rfl) rfl ?_
      refine L_y (y_move rfl) rfl ?_
      refine L_y (y_nilp rfl) rfl ?_
      refine L_y (y_fieldA 1 Try.underlying102 rfl sz3 rfl rfl rfl) rfl ?_
      refine L_y (y_ldc Try.underlying3 rfl rfl (((S1.get 0 rfl).1.cell _).trans (by rfl))) rfl ?_
      refine L_o (o_call Try.func61 rfl rfl (rfail g A n c l _ _ p 3 w1 (S1.get 0 rfl) hp) rfl rfl ?_)
      rintro e2 w2 ⟨v2, rfl, T2⟩
      refine ⟨_, rfl, ?_⟩
      have S2 := S1.turn 0 rfl T2
      refine L_nil ?_
      refine hK7 _ _ ?_
      refine T_seq fun K8 hK8 => ?_
      refine T_region ?_
      refine L_y (y_assign rfl) rfl ?_
      refine L_nil ?_
      refine hK8 _ _ ?_
      refine T_ret ?_
      repeat (first | with_reducible refine up_then ?_ | with_reducible refine up_in ?_)
      refine ret1 rfl rfl ?_
      have e1 : rnL l p 0 m = [] := by rw [rnL, if_pos (by omega)]
      have e2 : rnP l p 0 m = p := by rw [rnP, if_pos (by omega)]
      have e3 : rnE l p 0 m = 3 := by rw [rnE, if_pos (by omega)]; rfl
      exact ⟨_, rfl, by rw [e2, e3]; exact S2.turned1 0 rfl, none, 0, by rw [e1]; rfl, by rw [e1]; exact ⟨by simp [bL], .inl ⟨rfl, rfl⟩⟩, fun i hi => by rw [e1] at hi; simp [row, Value.ownBlock] at hi⟩
    ·
      obtain ⟨k, rfl⟩ : ∃ k : Nat, m = (k : Int) := ⟨m.toNat, by omega⟩
      refine T_skip ?_
      refine hK5 _ _ ?_
      refine T_seq fun K9 hK9 => ?_
      refine T_region ?_
      refine L_y (y_move rfl) rfl ?_
      refine L_y (y_move rfl) rfl ?_
      refine L_o (o_call Try.func60 rfl rfl (rtake g A n c l p _ k w1 (S1.get 0 rfl) hp (by omega) (by omega)) rfl rfl ?_)
      rintro e3 w3 ⟨v3, rfl, B3, d3, rfl, RR, T3⟩
      refine ⟨_, rfl, ?_⟩
      have S3 := S1.turn 0 rfl T3
      have htl := tk_le l p k
      have htn : (tkL l p k).length ≤ l.length := by unfold tkL; split; simp; omega; simp
      refine L_o (o_app0 te22 S3 rfl rfl (RR) (bL_one _) rfl (by omega) (by omega) fun A4 c4 w4 S4 => ?_)
      refine L_y (y_assign rfl) rfl ?_
      refine L_nil ?_
      refine hK9 _ _ ?_
      refine T_ret ?_
      repeat (first | with_reducible refine up_then ?_ | with_reducible refine up_in ?_)
      refine ret1 rfl rfl ?_
      have e1 : rnL l p 0 (k : Int) = tkL l p k := by rw [rnL, if_neg (by omega), rwL, if_pos rfl, Int.toNat_natCast]
      have e2 : rnP l p 0 (k : Int) = tkP l p k := by rw [rnP, if_neg (by omega), rwP, if_pos rfl, Int.toNat_natCast]
      have e3 : rnE l p 0 (k : Int) = tkE l p k 0 := by rw [rnE, if_neg (by omega), rwE, if_pos rfl, Int.toNat_natCast]
      exact ⟨_, rfl, by rw [e2, e3]; exact S4.turned1 0 rfl, _, _, by rw [e1], by rw [e1]; exact S4.get 1 rfl, fun i hi => by rw [e1] at hi; have h9 := (S4.res _ (List.mem_of_getElem? (show _ = some _ from (rfl : [rdr g A n c l (tkP l p k) (tkE l p k 0), _][1]? = some _)))).2 i hi; rcases h9.2 with h9 | h9; exact h9; exact absurd hi (St.apart_ S4 0 1 rfl rfl rfl i (rdr_same h9))⟩


set_option maxRecDepth 100000 in
theorem rbyte (g : Nat) (A : Option Addr) (n c : Nat) (l : List UInt8) (p q : Nat) (w0 : World) (hw : (rdr g A n c l p q).holds w0) (hp : p ≤ l.length) (hn62 : n ≤ 4611686018427387904) :
    Calls Try.prog 57 #[.pointer (some ⟨g, 0, none⟩)] w0 fun e w' => ∃ u, e = .returned u ∧ u = .int .u8 (be (rwL l p q 1) : Int) ∧ Turned w0 w' (rdr g A n c l p q) (rdr g A n c l (rwP l p q 1) (rwE l p q 1)) := by
  refine enter1 (env := [(0, .pointer (some ⟨g, 0, none⟩))]) [.pointer (some ⟨g, 0, none⟩)] Try.func57 rfl Try.ntmps57 rfl rfl ?_
  have hnl := rdr_len hw; have hnc := ownsRow_cap hw.2; have S0 := St.borrow1 (rdr g A n c l p q) hw (rdr_lt hw)
  refine T_seq fun K1 hK1 => ?_
  refine T_region ?_
  refine L_y (y_assign rfl) rfl ?_
  refine L_nil ?_
  refine hK1 _ _ ?_
  refine T_seq fun K2 hK2 => ?_
  refine T_seq fun K3 hK3 => ?_
  refine T_region ?_
  refine L_y (y_move rfl) rfl ?_
  refine L_o (o_call Try.func54 rfl rfl (rdead g A n c l p _ w0 (S0.get 0 rfl) hp) rfl rfl ?_)
  rintro e1 w1 ⟨v1, rfl, l1, rfl⟩
  refine ⟨_, rfl, ?_⟩
  have S1 := S0.like l1
  refine L_nil ?_
  refine hK3 _ _ ?_
  refine T_cond rfl (fun h5 => ?_) (fun h5 => ?_)
  ·
    refine T_seq fun K4 hK4 => ?_
    refine T_region ?_
    refine L_y (y_assign rfl) rfl ?_
    refine L_nil ?_
    refine hK4 _ _ ?_
    refine T_ret ?_
    repeat (first | with_reducible refine up_then ?_ | with_reducible refine up_in ?_)
    refine ret1 rfl rfl ?_
    first | exact ⟨_, rfl, by rw [rwL, if_neg (by omega)]; rfl, Rdd.turned (S1.turned1 0 rfl) (by rw [rwP, if_neg (by omega)]) (by rw [rwE, if_neg (by omega)])⟩ | (have hk := tkE_caseN h12; exact ⟨_, rfl, by rw [rwL, if_pos rfl, tkL_no hk]; rfl, Rdd.turned (S1.turned1 0 rfl) rfl rfl⟩) | exact ⟨_, rfl, by rw [rwL, if_pos rfl, htk]; simp [be], Rdd.turned (S1.turned1 0 rfl) rfl rfl⟩
  ·
    have hq : q = 0 := by omega
    subst hq
    refine T_skip ?_
    refine hK2 _ _ ?_
    refine T_seq fun K5 hK5 => ?_
    refine T_region ?_
    refine L_y (y_move rfl) rfl ?_
    refine L_o (o_call Try.func60 rfl rfl (rtake g A n c l p _ 1 w1 (S1.get 0 rfl) hp (by omega) hn62) rfl rfl ?_)
    rintro e2 w2 ⟨v2, rfl, B2, d2, rfl, R2, T2⟩
    refine ⟨_, rfl, ?_⟩
    have S2 := S1.turn 0 rfl T2
    have RR := R2
    refine L_y (y_assign rfl) rfl ?_
    refine L_nil ?_
    refine hK5 _ _ ?_
    refine T_seq fun K6 hK6 => ?_
    refine T_seq fun K7 hK7 => ?_
    refine T_region ?_
    refine L_y (y_move rfl) rfl ?_
    refine L_y (y_nilp rfl) rfl ?_
    refine L_y (y_fieldA 2 Try.underlying102 rfl sz32 rfl rfl rfl) rfl ?_
    refine L_y (y_ldc Try.underlying32 rfl rfl (((S2.get 0 rfl).1.cell _).trans (by rfl))) rfl ?_
    refine L_y (y_neq rfl rfl) rfl ?_
    refine L_nil ?_
    refine hK7 _ _ ?_
    refine T_cond rfl (fun h12 => ?_) (fun h12 => ?_)
    ·
      refine T_seq fun K8 hK8 => ?_
      refine T_region ?_
      refine L_y (y_assign rfl) rfl ?_
      refine L_nil ?_
      refine hK8 _ _ ?_
      refine T_ret ?_
      repeat (first | with_reducible refine up_then ?_ | with_reducible refine up_in ?_)
      refine ret1 rfl rfl ?_
      first | exact ⟨_, rfl, by rw [rwL, if_neg (by omega)]; rfl, Rdd.turned (S2.turned1 0 rfl) (by rw [rwP, if_neg (by omega)]) (by rw [rwE, if_neg (by omega)])⟩ | (have hk := tkE_caseN h12; exact ⟨_, rfl, by rw [rwL, if_pos rfl, tkL_no hk]; rfl, Rdd.turned (S2.turned1 0 rfl) rfl rfl⟩) | exact ⟨_, rfl, by rw [rwL, if_pos rfl, htk]; simp [be], Rdd.turned (S2.turned1 0 rfl) rfl rfl⟩
    ·
      have hk := tkE_case h12
      obtain ⟨x, hx, htk, hdr⟩ := tk_one hk
      rw [show bL (tkL l p 1) = bL [x] from congrArg bL htk] at RR
      refine T_skip ?_
      refine hK6 _ _ ?_
      refine T_seq fun K9 hK9 => ?_
      refine T_region ?_
      refine L_y (y_move rfl) rfl ?_
      refine L_y (y_idx Try.underlying22 sz5 rfl rfl (RR) inferInstance (by rw [tkL_ok hk]; decide)) rfl ?_
      refine L_y (y_ldr Try.underlying5 rfl rfl RR (show ([bV x])[0]? = some (Value.int .u8 (x.toNat : Int)) from rfl)) rfl ?_
      refine L_y (y_assign rfl) rfl ?_
      refine L_nil ?_
      refine hK9 _ _ ?_
      refine T_ret ?_
      repeat (first | with_reducible refine up_then ?_ | with_reducible refine up_in ?_)
      refine ret1 rfl rfl ?_
      first | exact ⟨_, rfl, by rw [rwL, if_neg (by omega)]; rfl, Rdd.turned (S2.turned1 0 rfl) (by rw [rwP, if_neg (by omega)]) (by rw [rwE, if_neg (by omega)])⟩ | (have hk := tkE_caseN h12; exact ⟨_, rfl, by rw [rwL, if_pos rfl, tkL_no hk]; rfl, Rdd.turned (S2.turned1 0 rfl) rfl rfl⟩) | exact ⟨_, rfl, by rw [rwL, if_pos rfl, htk]; simp [be], Rdd.turned (S2.turned1 0 rfl) rfl rfl⟩
end Go.Proofs.Ytpcgldkllnkaeaa

/-
  The document: the Reader.
-/
namespace Go.Proofs.Ytpcgldkllnkaeaa
open Go.RowKit Zk Zx
set_option linter.unusedVariables false
set_option linter.unusedSimpArgs false
theorem ofNat_toNat8 {c : UInt8} {x : Nat} (h : x = c.toNat) : UInt8.ofNat x = c := by
  subst h
  exact UInt8.ofNat_toNat
theorem triple {x : Nat × Nat × Nat} (h : x.2.2 = 0) : x = (x.1, x.2.1, 0) := Prod.ext rfl (Prod.ext rfl h)
theorem numF_vr : ∀ (r : List UInt8) (k a v j : Nat), numF r k a = (v, j, 0) → ∃ t, v = a + t * 128 ^ k ∧ k < j ∧ j ≤ k + r.length ∧ vr t = r.take (j - k) ∧ (0 < k → 0 < t)
  | [], k, a, v, j, h => by simp [numF] at h
  | c :: r, k, a, v, j, h => by
    have hc := c.toNat_lt
    rw [numF] at h
    split at h
    · simp at h
    · rename_i hF
      split at h
      · rename_i hl
        simp only [Prod.mk.injEq, and_true] at h
        refine ⟨c.toNat, by rw [← h.1, Nat.mod_eq_of_lt hl], by omega, by simp; omega, ?_, fun hk => by omega⟩
        rw [vr_low _ hl, show j - k = 1 by omega, List.take_succ_cons, List.take_zero, UInt8.ofNat_toNat]
      · rename_i hl
        obtain ⟨t, h1, h2, h3, h4, h5⟩ := numF_vr r (k + 1) _ v j h
        have h6 := h5 (by omega)
        refine ⟨c.toNat % 128 + t * 128, ?_, by omega, by simp only [List.length_cons]; omega, ?_, fun _ => by omega⟩
        · rw [h1, Nat.pow_succ, Nat.add_mul, Nat.add_assoc, Nat.mul_assoc t, Nat.mul_comm 128]
        · rw [vr_big _ (by omega), show j - k = (j - (k + 1)) + 1 by omega, List.take_succ_cons, show (c.toNat % 128 + t * 128) / 128 = t by omega, h4, ofNat_toNat8 (c := c) (by omega)]
theorem numF_max : ∀ (r : List UInt8) (k a : Nat), k ≤ 9 → a < 128 ^ k → (numF r k a).1 ≤ 18446744073709551615
  | [], k, a, hk, ha => by simp [numF]
  | c :: r, k, a, hk, ha => by
    have hc := c.toNat_lt
    rw [numF]
    split
    · simp
    · rename_i hF
      split
      · exact (num_lt hk ha (x := c.toNat) (by omega) (fun h => by omega)).2
      · exact numF_max r (k + 1) _ (by omega) (num_next ha)
theorem numF_back (rest : List UInt8) : ∀ (n t k a : Nat), t ≤ n → k ≤ 9 → (k = 9 → t ≤ 1) → (0 < k → 0 < t) → (t * 128 ^ k ≤ 18446744073709551615) → numF (vr t ++ rest) k a = (a + t * 128 ^ k, k + (vr t).length, 0)
  | n, t, k, a, hn, hk, h9, h0, hm => by
    by_cases hl : t < 128
    · rw [vr_low _ hl, List.singleton_append, numF, show (UInt8.ofNat t).toNat = t by rw [UInt8.toNat_ofNat']; omega, if_neg (by omega), if_pos hl, Nat.mod_eq_of_lt hl]
      rfl
    · have hk9 : k ≠ 9 := fun h => by have := h9 h; omega
      have e1 : (UInt8.ofNat (t % 128 + 128)).toNat = t % 128 + 128 := by rw [UInt8.toNat_ofNat']; omega
      have e2 : t / 128 * 128 ^ (k + 1) + t % 128 * 128 ^ k = t * 128 ^ k := by
        rw [Nat.pow_succ, Nat.mul_comm (128 ^ k), ← Nat.mul_assoc, ← Nat.add_mul]
        congr 1
        omega
      match n, hn with
      | 0, hn => exact absurd hn (by omega)
      | n + 1, hn =>
        have ih := numF_back rest n (t / 128) (k + 1) (a + t % 128 * 128 ^ k) (by omega) (by omega) (fun h => by
          have h8 : k = 8 := by omega
          subst h8
          have h4 : (128 : Nat) ^ 8 = 72057594037927936 := rfl
          rw [h4] at hm
          omega) (fun _ => by omega) (by omega)
        rw [vr_big _ (by omega), List.cons_append, numF, e1, if_neg (by omega), if_neg (by omega), show (t % 128 + 128) % 128 = t % 128 by omega, ih, List.length_cons]
        simp only [Prod.mk.injEq, and_true]
        omega
theorem numF_of_vr (rest : List UInt8) (t : Nat) (h : t ≤ 18446744073709551615) : numF (vr t ++ rest) 0 0 = (t, (vr t).length, 0) := by
  have := numF_back rest t t 0 0 (Nat.le_refl _) (by omega) (by omega) (by omega) (by omega)
  simpa using this
theorem vaN_le (l : List UInt8) (p q m : Nat) (hp : p ≤ l.length) : (vaN l p q m).2.1 ≤ l.length := by
  unfold vaN
  have := numF_at l p hp
  repeat' split
  all_goals simp only; omega
theorem txN_le (l : List UInt8) (p q : Nat) (m : Int) (hp : p ≤ l.length) : (txN l p q m).2.1 ≤ l.length := by
  unfold txN
  have := numF_at l p hp
  repeat' split
  all_goals simp only; omega
theorem vaN_max (l : List UInt8) (p q m : Nat) : (vaN l p q m).1 ≤ 18446744073709551615 := by
  have := numF_max (l.drop p) 0 0 (by omega) (by decide)
  unfold vaN
  repeat' split
  all_goals simp only; omega
/-- What is read without an error is what writing it makes. -/
theorem just_law (l : List UInt8) (M : Nat) (m : Int) (h : (txN l (vaN l 0 0 M).2.1 (vaN l 0 0 M).2.2 m).2.2 = 0) :
    vr (vaN l 0 0 M).1 ++ (vr (txN l (vaN l 0 0 M).2.1 (vaN l 0 0 M).2.2 m).1.length ++ (txN l (vaN l 0 0 M).2.1 (vaN l 0 0 M).2.2 m).1) = l.take (txN l (vaN l 0 0 M).2.1 (vaN l 0 0 M).2.2 m).2.1 := by
  have hq : (vaN l 0 0 M).2.2 = 0 := by
    by_cases hq : (vaN l 0 0 M).2.2 = 0
    · exact hq
    · rw [txN, if_pos hq] at h
      exact absurd h hq
  have hv : vaN l 0 0 M = ((numF l 0 0).1, (numF l 0 0).2.1, 0) ∧ (numF l 0 0).2.2 = 0 := by
    unfold vaN at hq ⊢
    rw [if_neg (by omega), List.drop_zero] at hq ⊢
    split at hq
    · rename_i h1; exact absurd hq h1
    · rename_i h1
      split at hq
      · simp at hq
      · rename_i h2
        rw [if_neg h1, if_neg h2]
        exact ⟨by rw [Nat.zero_add], by omega⟩
  obtain ⟨hv, he⟩ := hv
  rw [hv] at h ⊢
  simp only at h ⊢
  obtain ⟨t, h1, h2, h3, h4, _⟩ := numF_vr l 0 0 (numF l 0 0).1 (numF l 0 0).2.1 (triple he)
  have hvt : (numF l 0 0).1 = t := by omega
  have htx : txN l (numF l 0 0).2.1 0 m = (tkL l ((numF l 0 0).2.1 + (numF (l.drop (numF l 0 0).2.1) 0 0).2.1) (numF (l.drop (numF l 0 0).2.1) 0 0).1, (numF l 0 0).2.1 + (numF (l.drop (numF l 0 0).2.1) 0 0).2.1 + (numF (l.drop (numF l 0 0).2.1) 0 0).1, 0) ∧ (numF (l.drop (numF l 0 0).2.1) 0 0).2.2 = 0 ∧ (numF (l.drop (numF l 0 0).2.1) 0 0).1 ≤ l.length - ((numF l 0 0).2.1 + (numF (l.drop (numF l 0 0).2.1) 0 0).2.1) := by
    unfold txN at h ⊢
    rw [if_neg (by omega)] at h ⊢
    split at h
    · rename_i h5; exact absurd h h5
    · rename_i h5
      split at h
      · simp at h
      · rename_i h6
        split at h
        · rename_i h7
          rw [if_neg h5, if_neg h6, if_pos h7]
          exact ⟨rfl, by omega, h7⟩
        · simp at h
  obtain ⟨htx, he2, hle⟩ := htx
  rw [htx]
  simp only
  generalize hj : (numF l 0 0).2.1 = j at *
  obtain ⟨t2, g1, g2, g3, g4, _⟩ := numF_vr (l.drop j) 0 0 (numF (l.drop j) 0 0).1 (numF (l.drop j) 0 0).2.1 (triple he2)
  generalize (numF (l.drop j) 0 0).2.1 = i at *
  generalize (numF (l.drop j) 0 0).1 = s at *
  have hs : s = t2 := by omega
  rw [tkL_ok hle, hvt, h4, hs, g4, tkL, if_pos (by omega), Nat.sub_zero, Nat.sub_zero]
  have e1 : l.take (j + i + t2) = l.take j ++ ((l.drop j).take i ++ ((l.drop j).drop i).take t2) := by
    rw [Nat.add_assoc, List.take_add, List.take_add]
  rw [e1, List.drop_drop]


/-- The document's Reader at block g. -/
def xr (g : Nat) (A : Option Addr) (n c p q : Nat) : Res := blk g 88 #[.slice A n c, .int .i64 (p : Int), .int .i64 (q : Int)]
theorem xr_lt {w : World} {g n c p q : Nat} {A : Option Addr} (h : (xr g A n c p q).holds w) : ∀ i, (xr g A n c p q).dom i → i < w.heap.size := fun i hi => by
  have hi' : i = g := hi
  subst hi'
  exact Blk.lt h
theorem xr_like {w w' : World} {g n c p q : Nat} {A : Option Addr} (h : (xr g A n c p q).holds w) (k : Like w w') : (xr g A n c p q).holds w' := (xr g A n c p q).stable w w' (fun i hi => k.block i (xr_lt h i hi)) h
/-- A reading of old memory that the call does not write to. -/
theorem St.rdM {w0 w : World} {M : Nat → Prop} {rs : List Res} (S : St w0 M rs w) {size n c : Nat} {A : Option Addr} {xs : List Value} (h : Rs w0 size A n c xs) (hM : ∀ ad, 0 < n → A = some ad → ¬ M ad.block) : Rs w size A n c xs :=
  (fixed size A n c xs).stable w0 w (fun i ⟨ad, hn, hA, hi⟩ => by
    subst hi
    obtain ⟨ad', hA', hb, _⟩ := h.rd.2 hn
    rw [hA] at hA'
    cases hA'
    exact S.old _ hb (hM ad hn hA)) h
theorem xr_of {w w' : World} {g n c p' q' : Nat} {A : Option Addr} {r : Res} {X : Array Value} (h : Turned w w' r (blk g 88 X)) (hX : X = #[.slice A n c, .int .i64 (p' : Int), .int .i64 (q' : Int)]) : Turned w w' r (xr g A n c p' q') := by
  subst hX
  exact h
theorem mul7 (x k : Nat) (h : x % 128 * 128 ^ k ≤ 18446744073709551615) : IntKind.u64.wrap (((x : Int) % 128) * ((128 ^ k : Nat) : Int)) = ((x % 128 * 128 ^ k : Nat) : Int) := by
  rw [show ((x : Int) % 128) * ((128 ^ k : Nat) : Int) = ((x % 128 * 128 ^ k : Nat) : Int) by push_cast; rfl, IntKind.wrap_u64]
  omega
theorem pow7s (k : Nat) (h : k ≤ 8) : IntKind.u64.wrap (((128 ^ k : Nat) : Int) * 128) = ((128 ^ (k + 1) : Nat) : Int) := by
  have := pow_eight h
  rw [IntKind.wrap_u64, Nat.pow_succ]
  omega
/-- What the document's number tells. -/
def nuN (l : List UInt8) (p : Nat) : Nat × Nat × Nat := if (numF (l.drop p) 0 0).2.2 = 0 then numF (l.drop p) 0 0 else (0, 0, (numF (l.drop p) 0 0).2.2)
theorem at_one {l : List UInt8} {p : Nat} (h : p < l.length) : ∃ x, l[p]? = some x ∧ l.drop p = x :: l.drop (p + 1) :=
  ⟨l[p], List.getElem?_eq_getElem h, List.drop_eq_getElem_cons h⟩


set_option maxRecDepth 100000 in
theorem xnumber (g : Nat) (A : Option Addr) (n c : Nat) (l : List UInt8) (p q : Nat) (w0 : World) (hw : (xr g A n c p q).holds w0) (hb : Rs w0 1 A n c (bL l)) (hp : p ≤ l.length) (hn62 : n ≤ 70368744177664) :
    Calls Try.prog 59 #[.pointer (some ⟨g, 0, none⟩)] w0 fun e w' => ∃ u, e = .returned u ∧ Like w0 w' ∧ u = .tuple #[.int .u64 ((nuN l p).1 : Int), .int .i64 ((nuN l p).2.1 : Int), .int .i64 ((nuN l p).2.2 : Int)] := by
  refine enter1 (env := [(0, .pointer (some ⟨g, 0, none⟩))]) [.pointer (some ⟨g, 0, none⟩)] Try.func59 rfl Try.ntmps59 rfl rfl ?_
  have hnl := hb.lenb; have hcap := hb.cap; have hmx := hb.max; have S0 := St.start w0 noM
  refine T_seq fun K1 hK1 => ?_
  refine T_region ?_
  refine L_y (y_assign rfl) rfl ?_
  refine L_y (y_assign rfl) rfl ?_
  refine L_y (y_assign rfl) rfl ?_
  refine L_nil ?_
  refine hK1 _ _ ?_
  refine T_seq fun K2 hK2 => ?_
  refine T_region ?_
  refine L_y (y_assign rfl) rfl ?_
  refine L_y (y_assign rfl) rfl ?_
  refine L_nil ?_
  refine hK2 _ _ ?_
  refine T_seq fun K3 hK3 => ?_
  refine T_seq fun K4 hK4 => ?_
  refine T_region ?_
  refine L_y (y_assign rfl) rfl ?_
  refine L_nil ?_
  refine hK4 _ _ ?_
  refine T_block ?_
  refine T_loop2 [(0, _)] (fun (k : Nat) (a : Nat) => [(5, .int .u64 (a : Int)), (6, .int .u64 ((128 ^ k : Nat) : Int)), (7, .int .i64 (k : Int))]) (fun (k : Nat) (a : Nat) => 10 - k) (fun (k : Nat) (a : Nat) (w : World) => ((k ≤ 9 ∧ p + k ≤ l.length ∧ a < 128 ^ k) ∧ numF (l.drop (p + k)) k a = numF (l.drop p) 0 0) ∧ St w0 noM [] w) 0 0 (Sub.cons rfl (by first | rfl | exact congrArg (Value.int _) (by first | omega | decide)) (Sub.cons rfl (by first | rfl | exact congrArg (Value.int _) (by first | omega | decide)) (Sub.cons rfl (by first | rfl | exact congrArg (Value.int _) (by first | omega | decide)) (Sub.nil _)))) (Sub.cons rfl rfl (Sub.nil _)) ?_ ?_
  ·
    exact ⟨⟨⟨by omega, by omega, by decide⟩, rfl⟩, S0⟩
  ·
    intro k a w1 hrel
    obtain ⟨⟨⟨hk9, hpk, ha⟩, hN⟩, S1⟩ := hrel
    refine T_seq fun K5 hK5 => ?_
    refine T_seq fun K6 hK6 => ?_
    refine T_region ?_
    refine L_y (y_move rfl) rfl ?_
    refine L_y (y_lss rfl rfl) rfl ?_
    refine L_nil ?_
    refine hK6 _ _ ?_
    refine T_cond rfl (fun h10 => ?_) (fun h10 => ?_)
    ·
      refine T_skip ?_
      refine hK5 _ _ ?_
      refine T_seq fun K7 hK7 => ?_
      refine T_block ?_
      refine T_seq fun K8 hK8 => ?_
      refine T_seq fun K9 hK9 => ?_
      refine T_drawnL [(0, true), (1, true), (2, true), (3, true), (4, true), (5, true), (6, true), (7, true), (8, true), (9, true), (10, true), (11, true)] hmix (by kernel_rfl) fun w2 l2 => ?_
      have S2 := S1.like l2
      refine DL_y rfl (y_move rfl) rfl ?_
      refine DL_y rfl (y_nilp rfl) rfl ?_
      refine DL_y rfl (y_fieldA 1 Try.underlying88 rfl sz3 rfl rfl rfl) rfl ?_
      refine DL_y rfl (y_ldc Try.underlying3 rfl rfl (((S2.rdB hw).cell _).trans (show (#[.slice A n c, .int .i64 (p : Int), .int .i64 (q : Int)] : Array Value)[1]? = some (Value.int .i64 (p : Int)) from rfl))) rfl ?_
      refine DL_y rfl (y_move rfl) rfl ?_
      refine DL_y rfl (y_add rfl rfl (i64w (by omega))) rfl ?_
      refine DL_y rfl (y_move rfl) rfl ?_
      refine DL_y rfl (y_nilp rfl) rfl ?_
      refine DL_y rfl (y_fieldA 0 Try.underlying88 rfl sz22 rfl rfl rfl) rfl ?_
      refine DL_y rfl (y_ldc Try.underlying22 rfl rfl (((S2.rdB hw).cell _).trans (show (#[.slice A n c, .int .i64 (p : Int), .int .i64 (q : Int)] : Array Value)[0]? = some (Value.slice A n c) from rfl))) rfl ?_
      refine DL_y rfl (y_len Try.underlying22 rfl) rfl ?_
      refine DL_y rfl (y_geq rfl rfl) rfl ?_
      refine DL_nil ?_
      refine hK9 _ _ ?_
      refine T_cond rfl (fun h24 => ?_) (fun h24 => ?_)
      ·
        have hN2 : numF (l.drop p) 0 0 = (0, k, 10) := by rw [← hN, List.drop_eq_nil_of_le (by omega)]; rfl
        refine T_seq fun K10 hK10 => ?_
        refine T_region ?_
        refine L_y (y_assign rfl) rfl ?_
        refine L_y (y_assign rfl) rfl ?_
        refine L_y (y_assign rfl) rfl ?_
        refine L_nil ?_
        refine hK10 _ _ ?_
        refine T_ret ?_
        repeat (first | with_reducible refine up_then ?_ | with_reducible refine up_in ?_)
        refine ret3 rfl rfl rfl rfl ?_
        first | exact ⟨_, rfl, S2.like0, by rw [nuN, hN2, if_neg (by simp)]; rfl⟩ | exact ⟨_, rfl, S2.like0, by rw [nuN, hN2, if_pos (by simp)]; rfl⟩
      ·
        obtain ⟨x, hx, hdr⟩ := at_one (show p + k < l.length by omega)
        have hxl := x.toNat_lt
        refine T_skip ?_
        refine hK8 _ _ ?_
        refine T_seq fun K11 hK11 => ?_
        refine T_drawnL [(0, true), (1, true), (2, true), (3, true), (4, true), (5, true), (6, true), (7, true), (8, true), (9, true), (10, true), (11, true), (12, true), (13, true)] hmix (by kernel_rfl) fun w3 l3 => ?_
        have S3 := S2.like l3
        refine DL_y rfl (y_move rfl) rfl ?_
        refine DL_y rfl (y_nilp rfl) rfl ?_
        refine DL_y rfl (y_fieldA 0 Try.underlying88 rfl sz22 rfl rfl rfl) rfl ?_
        refine DL_y rfl (y_ldc Try.underlying22 rfl rfl (((S3.rdB hw).cell _).trans (show (#[.slice A n c, .int .i64 (p : Int), .int .i64 (q : Int)] : Array Value)[0]? = some (Value.slice A n c) from rfl))) rfl ?_
        refine DL_y rfl (y_move rfl) rfl ?_
        refine DL_y rfl (y_nilp rfl) rfl ?_
        refine DL_y rfl (y_fieldA 1 Try.underlying88 rfl sz3 rfl rfl rfl) rfl ?_
        refine DL_y rfl (y_ldc Try.underlying3 rfl rfl (((S3.rdB hw).cell _).trans (show (#[.slice A n c, .int .i64 (p : Int), .int .i64 (q : Int)] : Array Value)[1]? = some (Value.int .i64 (p : Int)) from rfl))) rfl ?_
        refine DL_y rfl (y_move rfl) rfl ?_
        refine DL_y rfl (y_add rfl rfl (i64w (by omega))) rfl ?_
        refine DL_y rfl (y_idx Try.underlying22 sz5 rfl rfl (S3.rd hb) inferInstance (by omega)) rfl ?_
        refine DL_y rfl (y_ldr Try.underlying5 rfl rfl (S3.rd hb) (bL_getX hx)) rfl ?_
        refine DL_y rfl (y_conv is5 Try.underlying65 rfl (u64w (by omega))) rfl ?_
        refine DL_y rfl (y_assign rfl) rfl ?_
        refine DL_nil ?_
        refine hK11 _ _ ?_
        refine T_seq fun K12 hK12 => ?_
        refine T_seq fun K13 hK13 => ?_
        refine T_region ?_
        refine L_y (y_move rfl) rfl ?_
        refine L_y (y_eql rfl rfl) rfl ?_
        refine L_y (y_move rfl) rfl ?_
        refine L_split 40 rfl (fun h40 => ?_) (fun h40 => ?_)
        ·
          refine L_gyes rfl rfl ?_
          refine L_y (y_move rfl) rfl ?_
          refine L_gyes rfl rfl ?_
          refine L_y (y_gtr rfl rfl) rfl ?_
          refine L_y ((by first | exact y_pickT rfl rfl | exact y_pickF rfl rfl)) rfl ?_
          refine L_y (y_move rfl) rfl ?_
          refine L_split 44 rfl (fun h44 => ?_) (fun h44 => ?_)
          ·
            refine L_gno rfl rfl rfl ?_
            refine L_gno rfl rfl rfl ?_
            refine L_gno rfl rfl rfl ?_
            refine L_gnu rfl rfl rfl ?_
            refine L_gnu rfl rfl rfl ?_
            refine L_gno rfl rfl rfl ?_
            refine L_y ((by first | exact y_pickT rfl rfl | exact y_pickF rfl rfl)) rfl ?_
            refine L_nil ?_
            refine hK13 _ _ ?_
            refine T_true rfl ?_
            refine T_seq fun K14 hK14 => ?_
            have hF : ((k = 9 ∧ 1 < x.toNat) ∨ (0 < k ∧ x.toNat = 0)) := by omega
            have hN2 : numF (l.drop p) 0 0 = (0, k + 1, 12) := by rw [← hN, hdr, numF, if_pos hF]
            refine T_region ?_
            refine L_y (y_assign rfl) rfl ?_
            refine L_y (y_assign rfl) rfl ?_
            refine L_y (y_assign rfl) rfl ?_
            refine L_nil ?_
            refine hK14 _ _ ?_
            refine T_ret ?_
            repeat (first | with_reducible refine up_then ?_ | with_reducible refine up_in ?_)
            refine ret3 rfl rfl rfl rfl ?_
            first | exact ⟨_, rfl, S3.like0, by rw [nuN, hN2, if_neg (by simp)]; rfl⟩ | exact ⟨_, rfl, S3.like0, by rw [nuN, hN2, if_pos (by simp)]; rfl⟩
          ·
            refine L_gyes rfl rfl ?_
            refine L_y (y_move rfl) rfl ?_
            refine L_gyes rfl rfl ?_
            refine L_y (y_gtr rfl rfl) rfl ?_
            refine L_gyes rfl rfl ?_
            refine L_y (y_move rfl) rfl ?_
            refine L_split 47 rfl (fun h47 => ?_) (fun h47 => ?_)
            ·
              refine L_gyes rfl rfl ?_
              refine L_y (y_move rfl) rfl ?_
              refine L_gyes rfl rfl ?_
              refine L_y (y_eql rfl rfl) rfl ?_
              refine L_gyes rfl rfl ?_
              refine L_y ((by first | exact y_pickT rfl rfl | exact y_pickF rfl rfl)) rfl ?_
              refine L_y ((by first | exact y_pickT rfl rfl | exact y_pickF rfl rfl)) rfl ?_
              refine L_nil ?_
              refine hK13 _ _ ?_
              refine T_cond rfl (fun h51 => ?_) (fun h51 => ?_)
              ·
                refine T_seq fun K15 hK15 => ?_
                have hF : ((k = 9 ∧ 1 < x.toNat) ∨ (0 < k ∧ x.toNat = 0)) := by omega
                have hN2 : numF (l.drop p) 0 0 = (0, k + 1, 12) := by rw [← hN, hdr, numF, if_pos hF]
                refine T_region ?_
                refine L_y (y_assign rfl) rfl ?_
                refine L_y (y_assign rfl) rfl ?_
                refine L_y (y_assign rfl) rfl ?_
                refine L_nil ?_
                refine hK15 _ _ ?_
                refine T_ret ?_
                repeat (first | with_reducible refine up_then ?_ | with_reducible refine up_in ?_)
                refine ret3 rfl rfl rfl rfl ?_
                first | exact ⟨_, rfl, S3.like0, by rw [nuN, hN2, if_neg (by simp)]; rfl⟩ | exact ⟨_, rfl, S3.like0, by rw [nuN, hN2, if_pos (by simp)]; rfl⟩
              ·
                refine T_skip ?_
                refine hK12 _ _ ?_
                refine T_seq fun K16 hK16 => ?_
                have hF : ¬ ((k = 9 ∧ 1 < x.toNat) ∨ (0 < k ∧ x.toNat = 0)) := by omega
                have hnm := num_lt hk9 ha (x := x.toNat) (by omega) (fun h => by omega)
                refine T_region ?_
                refine L_y (y_move rfl) rfl ?_
                refine L_y (y_move rfl) rfl ?_
                refine L_y (y_rem rfl rfl (by omega) (remI (by omega))) rfl ?_
                refine L_y (y_move rfl) rfl ?_
                refine L_y (y_mul rfl rfl (mul7 _ k hnm.1)) rfl ?_
                refine L_y (y_add rfl rfl (show _ = ((a + x.toNat % 128 * 128 ^ k : Nat) : Int) by rw [IntKind.wrap_u64]; omega)) rfl ?_
                refine L_y (y_assign rfl) rfl ?_
                refine L_nil ?_
                refine hK16 _ _ ?_
                refine T_seq fun K17 hK17 => ?_
                refine T_seq fun K18 hK18 => ?_
                refine T_region ?_
                refine L_y (y_move rfl) rfl ?_
                refine L_y (y_lss rfl rfl) rfl ?_
                refine L_nil ?_
                refine hK18 _ _ ?_
                refine T_cond rfl (fun h59 => ?_) (fun h59 => ?_)
                ·
                  have hN2 : numF (l.drop p) 0 0 = (a + x.toNat % 128 * 128 ^ k, k + 1, 0) := by rw [← hN, hdr, numF, if_neg hF, if_pos (by omega)]
                  refine T_seq fun K19 hK19 => ?_
                  refine T_region ?_
                  refine L_y (y_move rfl) rfl ?_
                  refine L_y (y_move rfl) rfl ?_
                  refine L_y (y_add rfl rfl (i64w (by omega))) rfl ?_
                  refine L_y (y_assign rfl) rfl ?_
                  refine L_y (y_assign rfl) rfl ?_
                  refine L_y (y_assign rfl) rfl ?_
                  refine L_nil ?_
                  refine hK19 _ _ ?_
                  refine T_ret ?_
                  repeat (first | with_reducible refine up_then ?_ | with_reducible refine up_in ?_)
                  refine ret3 rfl rfl rfl rfl ?_
                  first | exact ⟨_, rfl, S3.like0, by rw [nuN, hN2, if_neg (by simp)]; rfl⟩ | exact ⟨_, rfl, S3.like0, by rw [nuN, hN2, if_pos (by simp)]; rfl⟩
                ·
                  refine T_skip ?_
                  refine hK17 _ _ ?_
                  have hk8 : k ≤ 8 := by omega
                  refine T_region ?_
                  refine L_y (y_move rfl) rfl ?_
                  refine L_y (y_mul rfl rfl (pow7s k hk8)) rfl ?_
                  refine L_y (y_assign rfl) rfl ?_
                  refine L_nil ?_
                  refine hK7 _ _ ?_
                  refine T_region ?_
                  refine L_y (y_move rfl) rfl ?_
                  refine L_y (y_add rfl rfl (i64w (by omega))) rfl ?_
                  refine L_y (y_assign rfl) rfl ?_
                  refine L_nil ?_
                  refine ⟨k + 1, a + x.toNat % 128 * 128 ^ k, by omega, ⟨⟨⟨by omega, by omega, num_next ha⟩, by rw [← hN, hdr, numF, if_neg hF, if_neg (by omega)]; rfl⟩, S3⟩, ?_⟩
                  exact (Sub.cons rfl (by first | rfl | exact congrArg (Value.int _) (by omega)) (Sub.cons rfl (by first | rfl | exact congrArg (Value.int _) (by omega)) (Sub.cons rfl (by first | rfl | exact congrArg (Value.int _) (by omega)) (Sub.cons rfl rfl (Sub.nil _)))))
            ·
              refine L_gno rfl rfl rfl ?_
              refine L_gno rfl rfl rfl ?_
              refine L_gyes rfl rfl ?_
              refine L_y ((by first | exact y_pickT rfl rfl | exact y_pickF rfl rfl)) rfl ?_
              refine L_y ((by first | exact y_pickT rfl rfl | exact y_pickF rfl rfl)) rfl ?_
              refine L_nil ?_
              refine hK13 _ _ ?_
              refine T_false rfl ?_
              refine T_skip ?_
              refine hK12 _ _ ?_
              refine T_seq fun K20 hK20 => ?_
              have hF : ¬ ((k = 9 ∧ 1 < x.toNat) ∨ (0 < k ∧ x.toNat = 0)) := by omega
              have hnm := num_lt hk9 ha (x := x.toNat) (by omega) (fun h => by omega)
              refine T_region ?_
              refine L_y (y_move rfl) rfl ?_
              refine L_y (y_move rfl) rfl ?_
              refine L_y (y_rem rfl rfl (by omega) (remI (by omega))) rfl ?_
              refine L_y (y_move rfl) rfl ?_
              refine L_y (y_mul rfl rfl (mul7 _ k hnm.1)) rfl ?_
              refine L_y (y_add rfl rfl (show _ = ((a + x.toNat % 128 * 128 ^ k : Nat) : Int) by rw [IntKind.wrap_u64]; omega)) rfl ?_
              refine L_y (y_assign rfl) rfl ?_
              refine L_nil ?_
              refine hK20 _ _ ?_
              refine T_seq fun K21 hK21 => ?_
              refine T_seq fun K22 hK22 => ?_
              refine T_region ?_
              refine L_y (y_move rfl) rfl ?_
              refine L_y (y_lss rfl rfl) rfl ?_
              refine L_nil ?_
              refine hK22 _ _ ?_
              refine T_cond rfl (fun h59 => ?_) (fun h59 => ?_)
              ·
                have hN2 : numF (l.drop p) 0 0 = (a + x.toNat % 128 * 128 ^ k, k + 1, 0) := by rw [← hN, hdr, numF, if_neg hF, if_pos (by omega)]
                refine T_seq fun K23 hK23 => ?_
                refine T_region ?_
                refine L_y (y_move rfl) rfl ?_
                refine L_y (y_move rfl) rfl ?_
                refine L_y (y_add rfl rfl (i64w (by omega))) rfl ?_
                refine L_y (y_assign rfl) rfl ?_
                refine L_y (y_assign rfl) rfl ?_
                refine L_y (y_assign rfl) rfl ?_
                refine L_nil ?_
                refine hK23 _ _ ?_
                refine T_ret ?_
                repeat (first | with_reducible refine up_then ?_ | with_reducible refine up_in ?_)
                refine ret3 rfl rfl rfl rfl ?_
                first | exact ⟨_, rfl, S3.like0, by rw [nuN, hN2, if_neg (by simp)]; rfl⟩ | exact ⟨_, rfl, S3.like0, by rw [nuN, hN2, if_pos (by simp)]; rfl⟩
              ·
                refine T_skip ?_
                refine hK21 _ _ ?_
                have hk8 : k ≤ 8 := by omega
                refine T_region ?_
                refine L_y (y_move rfl) rfl ?_
                refine L_y (y_mul rfl rfl (pow7s k hk8)) rfl ?_
                refine L_y (y_assign rfl) rfl ?_
                refine L_nil ?_
                refine hK7 _ _ ?_
                refine T_region ?_
                refine L_y (y_move rfl) rfl ?_
                refine L_y (y_add rfl rfl (i64w (by omega))) rfl ?_
                refine L_y (y_assign rfl) rfl ?_
                refine L_nil ?_
                refine ⟨k + 1, a + x.toNat % 128 * 128 ^ k, by omega, ⟨⟨⟨by omega, by omega, num_next ha⟩, by rw [← hN, hdr, numF, if_neg hF, if_neg (by omega)]; rfl⟩, S3⟩, ?_⟩
                exact (Sub.cons rfl (by first | rfl | exact congrArg (Value.int _) (by omega)) (Sub.cons rfl (by first | rfl | exact congrArg (Value.int _) (by omega)) (Sub.cons rfl (by first | rfl | exact congrArg (Value.int _) (by omega)) (Sub.cons rfl rfl (Sub.nil _)))))
        ·
          refine L_gno rfl rfl rfl ?_
          refine L_gno rfl rfl rfl ?_
          refine L_y ((by first | exact y_pickT rfl rfl | exact y_pickF rfl rfl)) rfl ?_
          refine L_y (y_move rfl) rfl ?_
          refine L_gyes rfl rfl ?_
          refine L_y (y_move rfl) rfl ?_
          refine L_gyes rfl rfl ?_
          refine L_y (y_gtr rfl rfl) rfl ?_
          refine L_gyes rfl rfl ?_
          refine L_y (y_move rfl) rfl ?_
          refine L_split 47 rfl (fun h47 => ?_) (fun h47 => ?_)
          ·
            refine L_gyes rfl rfl ?_
            refine L_y (y_move rfl) rfl ?_
            refine L_gyes rfl rfl ?_
            refine L_y (y_eql rfl rfl) rfl ?_
            refine L_gyes rfl rfl ?_
            refine L_y ((by first | exact y_pickT rfl rfl | exact y_pickF rfl rfl)) rfl ?_
            refine L_y ((by first | exact y_pickT rfl rfl | exact y_pickF rfl rfl)) rfl ?_
            refine L_nil ?_
            refine hK13 _ _ ?_
            refine T_cond rfl (fun h51 => ?_) (fun h51 => ?_)
            ·
              refine T_seq fun K24 hK24 => ?_
              have hF : ((k = 9 ∧ 1 < x.toNat) ∨ (0 < k ∧ x.toNat = 0)) := by omega
              have hN2 : numF (l.drop p) 0 0 = (0, k + 1, 12) := by rw [← hN, hdr, numF, if_pos hF]
              refine T_region ?_
              refine L_y (y_assign rfl) rfl ?_
              refine L_y (y_assign rfl) rfl ?_
              refine L_y (y_assign rfl) rfl ?_
              refine L_nil ?_
              refine hK24 _ _ ?_
              refine T_ret ?_
              repeat (first | with_reducible refine up_then ?_ | with_reducible refine up_in ?_)
              refine ret3 rfl rfl rfl rfl ?_
              first | exact ⟨_, rfl, S3.like0, by rw [nuN, hN2, if_neg (by simp)]; rfl⟩ | exact ⟨_, rfl, S3.like0, by rw [nuN, hN2, if_pos (by simp)]; rfl⟩
            ·
              refine T_skip ?_
              refine hK12 _ _ ?_
              refine T_seq fun K25 hK25 => ?_
              have hF : ¬ ((k = 9 ∧ 1 < x.toNat) ∨ (0 < k ∧ x.toNat = 0)) := by omega
              have hnm := num_lt hk9 ha (x := x.toNat) (by omega) (fun h => by omega)
              refine T_region ?_
              refine L_y (y_move rfl) rfl ?_
              refine L_y (y_move rfl) rfl ?_
              refine L_y (y_rem rfl rfl (by omega) (remI (by omega))) rfl ?_
              refine L_y (y_move rfl) rfl ?_
              refine L_y (y_mul rfl rfl (mul7 _ k hnm.1)) rfl ?_
              refine L_y (y_add rfl rfl (show _ = ((a + x.toNat % 128 * 128 ^ k : Nat) : Int) by rw [IntKind.wrap_u64]; omega)) rfl ?_
              refine L_y (y_assign rfl) rfl ?_
              refine L_nil ?_
              refine hK25 _ _ ?_
              refine T_seq fun K26 hK26 => ?_
              refine T_seq fun K27 hK27 => ?_
              refine T_region ?_
              refine L_y (y_move rfl) rfl ?_
              refine L_y (y_lss rfl rfl) rfl ?_
              refine L_nil ?_
              refine hK27 _ _ ?_
              refine T_cond rfl (fun h59 => ?_) (fun h59 => ?_)
              ·
                have hN2 : numF (l.drop p) 0 0 = (a + x.toNat % 128 * 128 ^ k, k + 1, 0) := by rw [← hN, hdr, numF, if_neg hF, if_pos (by omega)]
                refine T_seq fun K28 hK28 => ?_
                refine T_region ?_
                refine L_y (y_move rfl) rfl ?_
                refine L_y (y_move rfl) rfl ?_
                refine L_y (y_add rfl rfl (i64w (by omega))) rfl ?_
                refine L_y (y_assign rfl) rfl ?_
                refine L_y (y_assign rfl) rfl ?_
                refine L_y (y_assign rfl) rfl ?_
                refine L_nil ?_
                refine hK28 _ _ ?_
                refine T_ret ?_
                repeat (first | with_reducible refine up_then ?_ | with_reducible refine up_in ?_)
                refine ret3 rfl rfl rfl rfl ?_
                first | exact ⟨_, rfl, S3.like0, by rw [nuN, hN2, if_neg (by simp)]; rfl⟩ | exact ⟨_, rfl, S3.like0, by rw [nuN, hN2, if_pos (by simp)]; rfl⟩
              ·
                refine T_skip ?_
                refine hK26 _ _ ?_
                have hk8 : k ≤ 8 := by omega
                refine T_region ?_
                refine L_y (y_move rfl) rfl ?_
                refine L_y (y_mul rfl rfl (pow7s k hk8)) rfl ?_
                refine L_y (y_assign rfl) rfl ?_
                refine L_nil ?_
                refine hK7 _ _ ?_
                refine T_region ?_
                refine L_y (y_move rfl) rfl ?_
                refine L_y (y_add rfl rfl (i64w (by omega))) rfl ?_
                refine L_y (y_assign rfl) rfl ?_
                refine L_nil ?_
                refine ⟨k + 1, a + x.toNat % 128 * 128 ^ k, by omega, ⟨⟨⟨by omega, by omega, num_next ha⟩, by rw [← hN, hdr, numF, if_neg hF, if_neg (by omega)]; rfl⟩, S3⟩, ?_⟩
                exact (Sub.cons rfl (by first | rfl | exact congrArg (Value.int _) (by omega)) (Sub.cons rfl (by first | rfl | exact congrArg (Value.int _) (by omega)) (Sub.cons rfl (by first | rfl | exact congrArg (Value.int _) (by omega)) (Sub.cons rfl rfl (Sub.nil _)))))
          ·
            refine L_gno rfl rfl rfl ?_
            refine L_gno rfl rfl rfl ?_
            refine L_gyes rfl rfl ?_
            refine L_y ((by first | exact y_pickT rfl rfl | exact y_pickF rfl rfl)) rfl ?_
            refine L_y ((by first | exact y_pickT rfl rfl | exact y_pickF rfl rfl)) rfl ?_
            refine L_nil ?_
            refine hK13 _ _ ?_
            refine T_false rfl ?_
            refine T_skip ?_
            refine hK12 _ _ ?_
            refine T_seq fun K29 hK29 => ?_
            have hF : ¬ ((k = 9 ∧ 1 < x.toNat) ∨ (0 < k ∧ x.toNat = 0)) := by omega
            have hnm := num_lt hk9 ha (x := x.toNat) (by omega) (fun h => by omega)
            refine T_region ?_
            refine L_y (y_move rfl) rfl ?_
            refine L_y (y_move rfl) rfl ?_
            refine L_y (y_rem rfl rfl (by omega) (remI (by omega))) rfl ?_
            refine L_y (y_move rfl) rfl ?_
            refine L_y (y_mul rfl rfl (mul7 _ k hnm.1)) rfl ?_
            refine L_y (y_add rfl rfl (show _ = ((a + x.toNat % 128 * 128 ^ k : Nat) : Int) by rw [IntKind.wrap_u64]; omega)) rfl ?_
            refine L_y (y_assign rfl) rfl ?_
            refine L_nil ?_
            refine hK29 _ _ ?_
            refine T_seq fun K30 hK30 => ?_
            refine T_seq fun K31 hK31 => ?_
            refine T_region ?_
            refine L_y (y_move rfl) rfl ?_
            refine L_y (y_lss rfl rfl) rfl ?_
            refine L_nil ?_
            refine hK31 _ _ ?_
            refine T_cond rfl (fun h59 => ?_) (fun h59 => ?_)
            ·
              have hN2 : numF (l.drop p) 0 0 = (a + x.toNat % 128 * 128 ^ k, k + 1, 0) := by rw [← hN, hdr, numF, if_neg hF, if_pos (by omega)]
              refine T_seq fun K32 hK32 => ?_
              refine T_region ?_
              refine L_y (y_move rfl) rfl ?_
              refine L_y (y_move rfl) rfl ?_
              refine L_y (y_add rfl rfl (i64w (by omega))) rfl ?_
              refine L_y (y_assign rfl) rfl ?_
              refine L_y (y_assign rfl) rfl ?_
              refine L_y (y_assign rfl) rfl ?_
              refine L_nil ?_
              refine hK32 _ _ ?_
              refine T_ret ?_
              repeat (first | with_reducible refine up_then ?_ | with_reducible refine up_in ?_)
              refine ret3 rfl rfl rfl rfl ?_
              first | exact ⟨_, rfl, S3.like0, by rw [nuN, hN2, if_neg (by simp)]; rfl⟩ | exact ⟨_, rfl, S3.like0, by rw [nuN, hN2, if_pos (by simp)]; rfl⟩
            ·
              refine T_skip ?_
              refine hK30 _ _ ?_
              have hk8 : k ≤ 8 := by omega
              refine T_region ?_
              refine L_y (y_move rfl) rfl ?_
              refine L_y (y_mul rfl rfl (pow7s k hk8)) rfl ?_
              refine L_y (y_assign rfl) rfl ?_
              refine L_nil ?_
              refine hK7 _ _ ?_
              refine T_region ?_
              refine L_y (y_move rfl) rfl ?_
              refine L_y (y_add rfl rfl (i64w (by omega))) rfl ?_
              refine L_y (y_assign rfl) rfl ?_
              refine L_nil ?_
              refine ⟨k + 1, a + x.toNat % 128 * 128 ^ k, by omega, ⟨⟨⟨by omega, by omega, num_next ha⟩, by rw [← hN, hdr, numF, if_neg hF, if_neg (by omega)]; rfl⟩, S3⟩, ?_⟩
              exact (Sub.cons rfl (by first | rfl | exact congrArg (Value.int _) (by omega)) (Sub.cons rfl (by first | rfl | exact congrArg (Value.int _) (by omega)) (Sub.cons rfl (by first | rfl | exact congrArg (Value.int _) (by omega)) (Sub.cons rfl rfl (Sub.nil _)))))
    ·
      exfalso; omega


theorem new_of {w0 w : World} {M : Nat → Prop} {rs : List Res} (S : St w0 M rs w) (k : Nat) {s : Res} (hk : rs[k]? = some s) (hM : ∀ i, M i → ¬ s.dom i) : ∀ i, s.dom i → w0.heap.size ≤ i := fun i hi => by
  have h := ((S.res _ (List.mem_of_getElem? hk)).2 i hi).2
  rcases h with h | h
  · exact h
  · exact absurd hi (hM i h)
theorem nu_e (l : List UInt8) (p : Nat) : (nuN l p).2.2 = (numF (l.drop p) 0 0).2.2 := by
  unfold nuN
  split
  · rfl
  · rfl
theorem nu_ok {l : List UInt8} {p : Nat} (h : (numF (l.drop p) 0 0).2.2 = 0) : nuN l p = numF (l.drop p) 0 0 := by rw [nuN, if_pos h]
theorem nu_at (l : List UInt8) (p : Nat) (h : p ≤ l.length) : p + (nuN l p).2.1 ≤ l.length := by
  have := numF_at l p h
  unfold nuN
  split
  · exact this
  · exact h
theorem nu_max (l : List UInt8) (p : Nat) : (nuN l p).1 ≤ 18446744073709551615 := by
  have := numF_max (l.drop p) 0 0 (by omega) (by decide)
  unfold nuN
  split
  · exact this
  · simp
theorem rn_nat (l : List UInt8) (p q k : Nat) : rnL l p q (k : Int) = rwL l p q k ∧ rnP l p q (k : Int) = rwP l p q k ∧ rnE l p q (k : Int) = rwE l p q k :=
  ⟨by rw [rnL, if_neg (by omega), Int.toNat_natCast], by rw [rnP, if_neg (by omega), Int.toNat_natCast], by rw [rnE, if_neg (by omega), Int.toNat_natCast]⟩
theorem rw_dead {l : List UInt8} {p q k : Nat} (h : q ≠ 0) : rwL l p q k = [] ∧ rwP l p q k = p ∧ rwE l p q k = q := ⟨by rw [rwL, if_neg h], by rw [rwP, if_neg h], by rw [rwE, if_neg h]⟩
theorem rn_dead {l : List UInt8} {p q : Nat} {m : Int} (h : q ≠ 0) : rnL l p q m = [] ∧ rnP l p q m = p ∧ rnE l p q m = q := by
  obtain ⟨h1, h2, h3⟩ := rw_dead (l := l) (p := p) (k := m.toNat) h
  refine ⟨?_, ?_, ?_⟩
  · rw [rnL]; split; rfl; exact h1
  · rw [rnP]; split; rfl; exact h2
  · by_cases hm : m < 0; rw [rnE, if_pos hm, if_pos h]; rw [rnE, if_neg hm]; exact h3
theorem rn_neg {l : List UInt8} {p : Nat} {m : Int} (h : m < 0) : rnL l p 0 m = [] ∧ rnP l p 0 m = p ∧ rnE l p 0 m = 3 := ⟨by rw [rnL, if_pos h], by rw [rnP, if_pos h], by rw [rnE, if_pos h]; rfl⟩
theorem rn_no {l : List UInt8} {p k : Nat} (h : ¬ k ≤ l.length - p) : rnL l p 0 (k : Int) = [] ∧ rnP l p 0 (k : Int) = p ∧ rnE l p 0 (k : Int) = 10 := by
  obtain ⟨e1, e2, e3⟩ := rn_nat l p 0 k
  exact ⟨by rw [e1, rwL, if_pos rfl, tkL_no h], by rw [e2, rwP, if_pos rfl, tkP, if_neg h], by rw [e3, rwE, if_pos rfl, tkE_no h]⟩
theorem rn_ok {l : List UInt8} {p k : Nat} (h : k ≤ l.length - p) : rnL l p 0 (k : Int) = (l.drop p).take k ∧ rnP l p 0 (k : Int) = p + k ∧ rnE l p 0 (k : Int) = 0 := by
  obtain ⟨e1, e2, e3⟩ := rn_nat l p 0 k
  exact ⟨by rw [e1, rwL, if_pos rfl, tkL, if_pos h], by rw [e2, rwP, if_pos rfl, tkP, if_pos h], by rw [e3, rwE, if_pos rfl, tkE_ok h]⟩


set_option maxRecDepth 100000 in
theorem xraw (g : Nat) (A : Option Addr) (n c : Nat) (l : List UInt8) (p q : Nat) (m : Int) (w0 : World) (hw : (xr g A n c p q).holds w0) (hb : Rs w0 1 A n c (bL l)) (hp : p ≤ l.length) (hn62 : n ≤ 70368744177664) (hbg : ∀ ad, 0 < n → A = some ad → ad.block ≠ g) (hm : m ≤ 9223372036854775807) :
    Calls Try.prog 50 #[.pointer (some ⟨g, 0, none⟩), .int .i64 m] w0 fun e w' => ∃ u, e = .returned u ∧ Turned w0 w' (xr g A n c p q) (xr g A n c (rnP l p q m) (rnE l p q m)) ∧ ∃ B c2, u = .slice B (rnL l p q m).length c2 ∧ (row 5 1 B (rnL l p q m).length c2 (bL (rnL l p q m))).holds w' ∧ ∀ i, (row 5 1 B (rnL l p q m).length c2 (bL (rnL l p q m))).dom i → w0.heap.size ≤ i := by
  refine enter1 (env := [(0, .pointer (some ⟨g, 0, none⟩)), (1, .int .i64 m)]) [.pointer (some ⟨g, 0, none⟩), .int .i64 m] Try.func50 rfl Try.ntmps50 rfl rfl ?_
  have hnl := hb.lenb; have hcap := hb.cap; have hmx := hb.max; have S0 := St.borrow1 (blk g 88 #[.slice A n c, .int .i64 (p : Int), .int .i64 (q : Int)]) hw (xr_lt hw)
  refine T_seq fun K1 hK1 => ?_
  refine T_region ?_
  refine L_y (y_assign rfl) rfl ?_
  refine L_nil ?_
  refine hK1 _ _ ?_
  refine T_seq fun K2 hK2 => ?_
  refine T_seq fun K3 hK3 => ?_
  refine T_region ?_
  refine L_y (y_move rfl) rfl ?_
  refine L_y (y_nilp rfl) rfl ?_
  refine L_y (y_fieldA 2 Try.underlying88 rfl sz3 rfl rfl rfl) rfl ?_
  refine L_y (y_ldc Try.underlying3 rfl rfl (((S0.blk 0 rfl).cell _).trans (by rfl))) rfl ?_
  refine L_y (y_neq rfl rfl) rfl ?_
  refine L_nil ?_
  refine hK3 _ _ ?_
  refine T_cond rfl (fun h10 => ?_) (fun h10 => ?_)
  ·
    refine T_seq fun K4 hK4 => ?_
    refine T_region ?_
    refine L_y (y_assign rfl) rfl ?_
    refine L_nil ?_
    refine hK4 _ _ ?_
    refine T_ret ?_
    repeat (first | with_reducible refine up_then ?_ | with_reducible refine up_in ?_)
    refine ret1 rfl rfl ?_
    obtain ⟨e1, e2, e3⟩ := rn_dead (l := l) (p := p) (m := m) (show q ≠ 0 by omega)
    exact ⟨_, rfl, by rw [e2, e3]; exact xr_of (S0.turned1 0 rfl) rfl, none, 0, by rw [e1]; rfl, by rw [e1]; exact ⟨by simp [bL], .inl ⟨rfl, rfl⟩⟩, fun i hi => by rw [e1] at hi; simp [row, Value.ownBlock] at hi⟩
  ·
    have hq : q = 0 := by omega
    subst hq
    refine T_skip ?_
    refine hK2 _ _ ?_
    refine T_seq fun K5 hK5 => ?_
    refine T_seq fun K6 hK6 => ?_
    refine T_region ?_
    refine L_y (y_move rfl) rfl ?_
    refine L_y (y_lss rfl rfl) rfl ?_
    refine L_nil ?_
    refine hK6 _ _ ?_
    refine T_cond rfl (fun h12 => ?_) (fun h12 => ?_)
    ·
      refine T_seq fun K7 hK7 => ?_
      refine T_region ?_
      refine L_y (y_move rfl) rfl ?_
      refine L_y (y_nilp rfl) rfl ?_
      refine L_y (y_fieldA 2 Try.underlying88 rfl sz3 rfl rfl rfl) rfl ?_
      refine L_o (o_st1 S0 0 rfl rfl rfl rfl sz3 (by simp; done) fun w1 S1 => ?_)
      refine L_nil ?_
      refine hK7 _ _ ?_
      refine T_seq fun K8 hK8 => ?_
      refine T_region ?_
      refine L_y (y_assign rfl) rfl ?_
      refine L_nil ?_
      refine hK8 _ _ ?_
      refine T_ret ?_
      repeat (first | with_reducible refine up_then ?_ | with_reducible refine up_in ?_)
      refine ret1 rfl rfl ?_
      obtain ⟨e1, e2, e3⟩ := rn_neg (l := l) (p := p) (m := m) (by omega)
      exact ⟨_, rfl, by rw [e2, e3]; exact xr_of (S1.turned1 0 rfl) rfl, none, 0, by rw [e1]; rfl, by rw [e1]; exact ⟨by simp [bL], .inl ⟨rfl, rfl⟩⟩, fun i hi => by rw [e1] at hi; simp [row, Value.ownBlock] at hi⟩
    ·
      obtain ⟨k, rfl⟩ : ∃ k : Nat, m = (k : Int) := ⟨m.toNat, by omega⟩
      refine T_skip ?_
      refine hK5 _ _ ?_
      refine T_seq fun K9 hK9 => ?_
      refine T_seq fun K10 hK10 => ?_
      refine T_drawnL [(0, true), (1, true), (2, true), (3, true), (4, true), (5, true), (6, true), (7, true), (8, true), (9, true), (10, true), (11, true)] hmix (by kernel_rfl) fun w2 l2 => ?_
      have S2 := S0.like l2
      refine DL_y rfl (y_move rfl) rfl ?_
      refine DL_y rfl (y_move rfl) rfl ?_
      refine DL_y rfl (y_nilp rfl) rfl ?_
      refine DL_y rfl (y_fieldA 0 Try.underlying88 rfl sz22 rfl rfl rfl) rfl ?_
      refine DL_y rfl (y_ldc Try.underlying22 rfl rfl (((S2.blk 0 rfl).cell _).trans (by rfl))) rfl ?_
      refine DL_y rfl (y_len Try.underlying22 rfl) rfl ?_
      refine DL_y rfl (y_move rfl) rfl ?_
      refine DL_y rfl (y_nilp rfl) rfl ?_
      refine DL_y rfl (y_fieldA 1 Try.underlying88 rfl sz3 rfl rfl rfl) rfl ?_
      refine DL_y rfl (y_ldc Try.underlying3 rfl rfl (((S2.blk 0 rfl).cell _).trans (by rfl))) rfl ?_
      refine DL_y rfl (y_sub rfl rfl (i64w (by omega))) rfl ?_
      refine DL_y rfl (y_gtr rfl rfl) rfl ?_
      refine DL_nil ?_
      refine hK10 _ _ ?_
      refine T_cond rfl (fun h27 => ?_) (fun h27 => ?_)
      ·
        refine T_seq fun K11 hK11 => ?_
        refine T_region ?_
        refine L_y (y_move rfl) rfl ?_
        refine L_y (y_nilp rfl) rfl ?_
        refine L_y (y_fieldA 2 Try.underlying88 rfl sz3 rfl rfl rfl) rfl ?_
        refine L_o (o_st1 S2 0 rfl rfl rfl rfl sz3 (by simp; done) fun w3 S3 => ?_)
        refine L_nil ?_
        refine hK11 _ _ ?_
        refine T_seq fun K12 hK12 => ?_
        refine T_region ?_
        refine L_y (y_assign rfl) rfl ?_
        refine L_nil ?_
        refine hK12 _ _ ?_
        refine T_ret ?_
        repeat (first | with_reducible refine up_then ?_ | with_reducible refine up_in ?_)
        refine ret1 rfl rfl ?_
        obtain ⟨e1, e2, e3⟩ := rn_no (l := l) (p := p) (k := k) (by omega)
        exact ⟨_, rfl, by rw [e2, e3]; exact xr_of (S3.turned1 0 rfl) rfl, none, 0, by rw [e1]; rfl, by rw [e1]; exact ⟨by simp [bL], .inl ⟨rfl, rfl⟩⟩, fun i hi => by rw [e1] at hi; simp [row, Value.ownBlock] at hi⟩
      ·
        refine T_skip ?_
        refine hK9 _ _ ?_
        refine T_seq fun K13 hK13 => ?_
        refine T_region ?_
        have S4 := S2.nilrow 5 1
        refine L_y (y_assign rfl) rfl ?_
        refine L_nil ?_
        refine hK13 _ _ ?_
        refine T_seq fun K14 hK14 => ?_
        refine T_tail 16 hmix (by kernel_rfl) fun w5 l5 K15 hK15 => ?_
        have S5 := S4.like l5
        refine HL_y (y_move rfl) rfl ?_
        refine HL_y (y_move rfl) rfl ?_
        refine HL_y (y_nilp rfl) rfl ?_
        refine HL_y (y_fieldA 0 Try.underlying88 rfl sz22 rfl rfl rfl) rfl ?_
        refine HL_y (y_ldc Try.underlying22 rfl rfl (((S5.blk 0 rfl).cell _).trans (by rfl))) rfl ?_
        refine HL_y (y_move rfl) rfl ?_
        refine HL_y (y_nilp rfl) rfl ?_
        refine HL_y (y_fieldA 1 Try.underlying88 rfl sz3 rfl rfl rfl) rfl ?_
        refine HL_y (y_ldc Try.underlying3 rfl rfl (((S5.blk 0 rfl).cell _).trans (by rfl))) rfl ?_
        refine HL_y (y_move rfl) rfl ?_
        refine HL_y (y_nilp rfl) rfl ?_
        refine HL_y (y_fieldA 1 Try.underlying88 rfl sz3 rfl rfl rfl) rfl ?_
        refine HL_y (y_ldc Try.underlying3 rfl rfl (((S5.blk 0 rfl).cell _).trans (by rfl))) rfl ?_
        refine HL_y (y_move rfl) rfl ?_
        refine HL_y (y_add rfl rfl (i64w (by omega))) rfl ?_
        refine HL_y (y_slice Try.underlying22 sz5 rfl rfl rfl inferInstance inferInstance (by omega) (by omega)) rfl ?_
        refine HL_nil ?_
        refine hK15 _ ?_
        refine L_o (o_app te22 S5 1 rfl rfl rfl (((S5.rdM hb hbg).cutb (l := p) (u := p + k) (by omega) (by omega))) (bL_one _) rfl (by omega) (by omega) fun A6 c6 w6 S6 => ?_)
        refine L_y (y_assign rfl) rfl ?_
        refine L_nil ?_
        refine hK14 _ _ ?_
        refine T_seq fun K16 hK16 => ?_
        refine T_region ?_
        refine L_y (y_move rfl) rfl ?_
        refine L_y (y_move rfl) rfl ?_
        refine L_y (y_nilp rfl) rfl ?_
        refine L_y (y_fieldA 1 Try.underlying88 rfl sz3 rfl rfl rfl) rfl ?_
        refine L_y (y_ldc Try.underlying3 rfl rfl (((S6.blk 0 rfl).cell _).trans (by rfl))) rfl ?_
        refine L_y (y_move rfl) rfl ?_
        refine L_y (y_add rfl rfl (i64w (by omega))) rfl ?_
        refine L_y (y_nilp rfl) rfl ?_
        refine L_y (y_fieldA 1 Try.underlying88 rfl sz3 rfl rfl rfl) rfl ?_
        refine L_o (o_st1 S6 0 rfl rfl rfl rfl sz3 (by simp; done) fun w7 S7 => ?_)
        refine L_nil ?_
        refine hK16 _ _ ?_
        refine T_seq fun K17 hK17 => ?_
        refine T_region ?_
        refine L_y (y_move rfl) rfl ?_
        refine L_y (y_assign rfl) rfl ?_
        refine L_nil ?_
        refine hK17 _ _ ?_
        refine T_ret ?_
        repeat (first | with_reducible refine up_then ?_ | with_reducible refine up_in ?_)
        refine ret1 rfl rfl ?_
        obtain ⟨e1, e2, e3⟩ := rn_ok (l := l) (p := p) (k := k) (by omega)
        have e4 : p + k - p = k := by omega
        have e5 : (rnL l p 0 (k : Int)).length = 0 + (p + k - p) := by rw [e1, List.length_take, List.length_drop]; omega
        have S99 := S7.rowc 1 rfl (n' := (rnL l p 0 (k : Int)).length) (xs' := bL (rnL l p 0 (k : Int))) e5.symm (by rw [e1, e4]; rfl)
        refine ⟨_, rfl, by rw [e2, e3]; exact xr_of (S99.turned1 0 rfl) rfl, _, _, by rw [e5], S99.get 1 rfl, new_of S99 1 rfl (fun i hi => St.apart_ S99 0 1 rfl rfl rfl i hi)⟩


theorem rw_le (l : List UInt8) (p q k : Nat) : (rwL l p q k).length ≤ k := by
  unfold rwL
  split
  · exact tk_le l p k
  · simp


set_option maxRecDepth 100000 in
theorem xbig (g : Nat) (A : Option Addr) (n c : Nat) (l : List UInt8) (p q : Nat) (j : Nat) (w0 : World) (hw : (xr g A n c p q).holds w0) (hb : Rs w0 1 A n c (bL l)) (hp : p ≤ l.length) (hn62 : n ≤ 70368744177664) (hbg : ∀ ad, 0 < n → A = some ad → ad.block ≠ g) (hj : j ≤ 8) :
    Calls Try.prog 49 #[.pointer (some ⟨g, 0, none⟩), .int .i64 (j : Int)] w0 fun e w' => ∃ u, e = .returned u ∧ u = .int .u64 (be (rwL l p q j) : Int) ∧ Turned w0 w' (xr g A n c p q) (xr g A n c (rwP l p q j) (rwE l p q j)) := by
  refine enter1 (env := [(0, .pointer (some ⟨g, 0, none⟩)), (1, .int .i64 (j : Int))]) [.pointer (some ⟨g, 0, none⟩), .int .i64 (j : Int)] Try.func49 rfl Try.ntmps49 rfl rfl ?_
  have hnl := hb.lenb; have hcap := hb.cap; have hmx := hb.max; have S0 := St.borrow1 (blk g 88 #[.slice A n c, .int .i64 (p : Int), .int .i64 (q : Int)]) hw (xr_lt hw)
  refine T_seq fun K1 hK1 => ?_
  refine T_region ?_
  refine L_y (y_assign rfl) rfl ?_
  refine L_nil ?_
  refine hK1 _ _ ?_
  refine T_seq fun K2 hK2 => ?_
  refine T_region ?_
  refine L_y (y_move rfl) rfl ?_
  refine L_y (y_move rfl) rfl ?_
  refine L_o (o_call Try.func50 rfl rfl (xraw g A n c l p q (j : Int) w0 (S0.get 0 rfl) hb hp hn62 hbg (by omega)) rfl rfl ?_)
  rintro e1 w1 ⟨v1, rfl, T1, B9, d9, rfl, hr1, hd1⟩
  refine ⟨_, rfl, ?_⟩
  have S1 := S0.turn 0 rfl T1
  obtain ⟨e1, e2, e3⟩ := rn_nat l p q j
  have HR := rs_of_row hr1
  rw [show (rnL l p q (j : Int)).length = (rwL l p q j).length from congrArg _ e1, show bL (rnL l p q (j : Int)) = bL (rwL l p q j) from congrArg _ e1] at HR
  rw [show (Value.slice B9 (rnL l p q (j : Int)).length d9) = Value.slice B9 (rwL l p q j).length d9 by rw [e1]]
  rw [e2, e3] at S1
  have htl := rw_le l p q j
  refine L_y (y_assign rfl) rfl ?_
  refine L_nil ?_
  refine hK2 _ _ ?_
  refine T_seq fun K3 hK3 => ?_
  refine T_region ?_
  refine L_y (y_assign rfl) rfl ?_
  refine L_nil ?_
  refine hK3 _ _ ?_
  refine T_seq fun K4 hK4 => ?_
  refine T_seq fun K5 hK5 => ?_
  refine T_region ?_
  refine L_y (y_assign rfl) rfl ?_
  refine L_nil ?_
  refine hK5 _ _ ?_
  refine T_block ?_
  refine T_loop1 [(5, _)] (fun (k : Nat) => [(6, .int .u64 (be ((rwL l p q j).take k) : Int)), (7, .int .i64 (k : Int))]) (fun (k : Nat) => (rwL l p q j).length - k) (fun (k : Nat) (w : World) => (k ≤ (rwL l p q j).length ∧ Rs w 1 B9 (rwL l p q j).length d9 (bL (rwL l p q j))) ∧ St w0 (xr g A n c p q).dom [xr g A n c (rwP l p q j) (rwE l p q j)] w) 0 (Sub.cons rfl (by first | rfl | exact congrArg (Value.int _) (by omega)) (Sub.cons rfl (by first | rfl | exact congrArg (Value.int _) (by omega)) (Sub.nil _))) (Sub.cons rfl rfl (Sub.nil _)) ?_ ?_
  ·
    exact ⟨⟨Nat.zero_le _, HR⟩, S1⟩
  ·
    intro k w2 hrel
    obtain ⟨⟨hk, RX⟩, S2⟩ := hrel
    refine T_seq fun K6 hK6 => ?_
    refine T_seq fun K7 hK7 => ?_
    refine T_region ?_
    refine L_y (y_move rfl) rfl ?_
    refine L_y (y_move rfl) rfl ?_
    refine L_y (y_len Try.underlying22 rfl) rfl ?_
    refine L_y (y_lss rfl rfl) rfl ?_
    refine L_nil ?_
    refine hK7 _ _ ?_
    refine T_cond rfl (fun h14 => ?_) (fun h14 => ?_)
    ·
      obtain ⟨x, hx⟩ : ∃ x, (rwL l p q j)[k]? = some x := ⟨_, List.getElem?_eq_getElem (by omega)⟩
      have hxl := x.toNat_lt
      have hbb := be_bound (k := k) (j := 7) (show k < (rwL l p q j).length by omega) (by omega)
      refine T_skip ?_
      refine hK6 _ _ ?_
      refine T_seq fun K8 hK8 => ?_
      refine T_block ?_
      refine T_region ?_
      refine L_y (y_move rfl) rfl ?_
      refine L_y (y_mul rfl rfl (IntKind.wrap_u64 _)) rfl ?_
      refine L_y (y_move rfl) rfl ?_
      refine L_y (y_move rfl) rfl ?_
      refine L_y (y_idx Try.underlying22 sz5 rfl rfl (RX) inferInstance (by omega)) rfl ?_
      refine L_y (y_ldr Try.underlying5 rfl rfl RX (bL_getX hx)) rfl ?_
      refine L_y (y_conv is5 Try.underlying65 rfl (u64w (by omega))) rfl ?_
      refine L_y (y_add rfl rfl (IntKind.wrap_u64 _)) rfl ?_
      refine L_y (y_assign rfl) rfl ?_
      refine L_nil ?_
      refine hK8 _ _ ?_
      refine T_region ?_
      refine L_y (y_move rfl) rfl ?_
      refine L_y (y_add rfl rfl (i64w (by omega))) rfl ?_
      refine L_y (y_assign rfl) rfl ?_
      refine L_nil ?_
      refine ⟨k + 1, by omega, ⟨⟨by omega, RX⟩, S2⟩, ?_⟩
      exact (Sub.cons rfl (congrArg (Value.int _) (by rw [be_take hx]; omega)) (Sub.cons rfl (by first | rfl | exact congrArg (Value.int _) (by omega)) (Sub.cons rfl rfl (Sub.nil _))))
    ·
      have hke : k = (rwL l p q j).length := by omega
      subst hke
      refine T_exit ?_
      refine hK4 _ _ ?_
      refine T_seq fun K9 hK9 => ?_
      refine T_region ?_
      refine L_y (y_move rfl) rfl ?_
      refine L_y (y_assign rfl) rfl ?_
      refine L_nil ?_
      refine hK9 _ _ ?_
      refine T_ret ?_
      repeat (first | with_reducible refine up_then ?_ | with_reducible refine up_in ?_)
      refine ret1 rfl rfl ?_
      exact ⟨_, rfl, by rw [List.take_length], S2.turned1 0 rfl⟩


set_option maxRecDepth 100000 in
theorem xvar (g : Nat) (A : Option Addr) (n c : Nat) (l : List UInt8) (p q : Nat) (m : Nat) (w0 : World) (hw : (xr g A n c p q).holds w0) (hb : Rs w0 1 A n c (bL l)) (hp : p ≤ l.length) (hn62 : n ≤ 70368744177664) (hbg : ∀ ad, 0 < n → A = some ad → ad.block ≠ g) :
    Calls Try.prog 48 #[.pointer (some ⟨g, 0, none⟩), .int .u64 (m : Int)] w0 fun e w' => ∃ u, e = .returned u ∧ u = .int .u64 ((vaN l p q m).1 : Int) ∧ Turned w0 w' (xr g A n c p q) (xr g A n c (vaN l p q m).2.1 (vaN l p q m).2.2) := by
  refine enter1 (env := [(0, .pointer (some ⟨g, 0, none⟩)), (1, .int .u64 (m : Int))]) [.pointer (some ⟨g, 0, none⟩), .int .u64 (m : Int)] Try.func48 rfl Try.ntmps48 rfl rfl ?_
  have hnl := hb.lenb; have hcap := hb.cap; have hmx := hb.max; have S0 := St.borrow1 (blk g 88 #[.slice A n c, .int .i64 (p : Int), .int .i64 (q : Int)]) hw (xr_lt hw)
  refine T_seq fun K1 hK1 => ?_
  refine T_region ?_
  refine L_y (y_assign rfl) rfl ?_
  refine L_nil ?_
  refine hK1 _ _ ?_
  refine T_seq fun K2 hK2 => ?_
  refine T_seq fun K3 hK3 => ?_
  refine T_region ?_
  refine L_y (y_move rfl) rfl ?_
  refine L_y (y_nilp rfl) rfl ?_
  refine L_y (y_fieldA 2 Try.underlying88 rfl sz3 rfl rfl rfl) rfl ?_
  refine L_y (y_ldc Try.underlying3 rfl rfl (((S0.blk 0 rfl).cell _).trans (by rfl))) rfl ?_
  refine L_y (y_neq rfl rfl) rfl ?_
  refine L_nil ?_
  refine hK3 _ _ ?_
  refine T_cond rfl (fun h12 => ?_) (fun h12 => ?_)
  ·
    refine T_seq fun K4 hK4 => ?_
    refine T_region ?_
    refine L_y (y_assign rfl) rfl ?_
    refine L_nil ?_
    refine hK4 _ _ ?_
    refine T_ret ?_
    repeat (first | with_reducible refine up_then ?_ | with_reducible refine up_in ?_)
    refine ret1 rfl rfl ?_
    have hV : vaN l p q m = (0, p, q) := by rw [vaN, if_pos (by omega)]
    exact ⟨_, rfl, by rw [hV]; rfl, by rw [hV]; exact xr_of (S0.turned1 0 rfl) rfl⟩
  ·
    have hq : q = 0 := by omega
    subst hq
    refine T_skip ?_
    refine hK2 _ _ ?_
    refine T_seq fun K5 hK5 => ?_
    refine T_region ?_
    refine L_y (y_move rfl) rfl ?_
    refine L_o (o_call Try.func59 rfl rfl (xnumber g A n c l p _ w0 (S0.get 0 rfl) hb hp hn62) rfl rfl ?_)
    rintro e1 w1 ⟨v1, rfl, l1, rfl⟩
    refine ⟨_, rfl, ?_⟩
    have S1 := S0.like l1
    have hE := nu_e l p
    have hat := nu_at l p hp
    have hmx2 := nu_max l p
    refine L_y (y_move rfl) rfl ?_
    refine L_y (y_extract rfl rfl) rfl ?_
    refine L_y (y_extract rfl rfl) rfl ?_
    refine L_y (y_extract rfl rfl) rfl ?_
    refine L_y (y_assign rfl) rfl ?_
    refine L_y (y_assign rfl) rfl ?_
    refine L_y (y_assign rfl) rfl ?_
    refine L_nil ?_
    refine hK5 _ _ ?_
    refine T_seq fun K6 hK6 => ?_
    refine T_seq fun K7 hK7 => ?_
    refine T_region ?_
    refine L_y (y_move rfl) rfl ?_
    refine L_y (y_eql rfl rfl) rfl ?_
    refine L_y (y_move rfl) rfl ?_
    refine L_split 21 rfl (fun h21 => ?_) (fun h21 => ?_)
    ·
      refine L_gyes rfl rfl ?_
      refine L_y (y_move rfl) rfl ?_
      refine L_gyes rfl rfl ?_
      refine L_y (y_move rfl) rfl ?_
      refine L_gyes rfl rfl ?_
      refine L_y (y_gtr rfl rfl) rfl ?_
      refine L_y ((by first | exact y_pickT rfl rfl | exact y_pickF rfl rfl)) rfl ?_
      refine L_nil ?_
      refine hK7 _ _ ?_
      refine T_cond rfl (fun h25 => ?_) (fun h25 => ?_)
      ·
        refine T_region ?_
        refine L_y (y_assign rfl) rfl ?_
        refine L_nil ?_
        refine hK6 _ _ ?_
        refine T_seq fun K8 hK8 => ?_
        refine T_seq fun K9 hK9 => ?_
        refine T_region ?_
        refine L_y (y_move rfl) rfl ?_
        refine L_y (y_neq rfl rfl) rfl ?_
        refine L_nil ?_
        refine hK9 _ _ ?_
        refine T_cond rfl (fun h27 => ?_) (fun h27 => ?_)
        ·
          refine T_seq fun K10 hK10 => ?_
          refine T_region ?_
          refine L_y (y_move rfl) rfl ?_
          refine L_y (y_move rfl) rfl ?_
          refine L_y (y_nilp rfl) rfl ?_
          refine L_y (y_fieldA 2 Try.underlying88 rfl sz3 rfl rfl rfl) rfl ?_
          refine L_o (o_st1 S1 0 rfl rfl rfl rfl sz3 (by simp; done) fun w3 S3 => ?_)
          refine L_nil ?_
          refine hK10 _ _ ?_
          refine T_seq fun K11 hK11 => ?_
          refine T_region ?_
          refine L_y (y_assign rfl) rfl ?_
          refine L_nil ?_
          refine hK11 _ _ ?_
          refine T_ret ?_
          repeat (first | with_reducible refine up_then ?_ | with_reducible refine up_in ?_)
          refine ret1 rfl rfl ?_
          have hV : vaN l p 0 m = (0, p, 3) := by rw [vaN, if_neg (by omega), if_neg (by omega), if_pos (by rw [← nu_ok (by omega)]; omega)]
          exact ⟨_, rfl, by rw [hV]; rfl, by rw [hV]; exact xr_of (S3.turned1 0 rfl) rfl⟩
        ·
          refine T_skip ?_
          refine hK8 _ _ ?_
          refine T_seq fun K12 hK12 => ?_
          refine T_region ?_
          refine L_y (y_move rfl) rfl ?_
          refine L_y (y_move rfl) rfl ?_
          refine L_y (y_nilp rfl) rfl ?_
          refine L_y (y_fieldA 1 Try.underlying88 rfl sz3 rfl rfl rfl) rfl ?_
          refine L_y (y_ldc Try.underlying3 rfl rfl (((S1.blk 0 rfl).cell _).trans (by rfl))) rfl ?_
          refine L_y (y_move rfl) rfl ?_
          refine L_y (y_add rfl rfl (i64w (by omega))) rfl ?_
          refine L_y (y_nilp rfl) rfl ?_
          refine L_y (y_fieldA 1 Try.underlying88 rfl sz3 rfl rfl rfl) rfl ?_
          refine L_o (o_st1 S1 0 rfl rfl rfl rfl sz3 (by simp; done) fun w4 S4 => ?_)
          refine L_nil ?_
          refine hK12 _ _ ?_
          refine T_seq fun K13 hK13 => ?_
          refine T_region ?_
          refine L_y (y_move rfl) rfl ?_
          refine L_y (y_assign rfl) rfl ?_
          refine L_nil ?_
          refine hK13 _ _ ?_
          refine T_ret ?_
          repeat (first | with_reducible refine up_then ?_ | with_reducible refine up_in ?_)
          refine ret1 rfl rfl ?_
          exfalso; omega
      ·
        refine T_skip ?_
        refine hK6 _ _ ?_
        refine T_seq fun K14 hK14 => ?_
        refine T_seq fun K15 hK15 => ?_
        refine T_region ?_
        refine L_y (y_move rfl) rfl ?_
        refine L_y (y_neq rfl rfl) rfl ?_
        refine L_nil ?_
        refine hK15 _ _ ?_
        refine T_cond rfl (fun h27 => ?_) (fun h27 => ?_)
        ·
          refine T_seq fun K16 hK16 => ?_
          refine T_region ?_
          refine L_y (y_move rfl) rfl ?_
          refine L_y (y_move rfl) rfl ?_
          refine L_y (y_nilp rfl) rfl ?_
          refine L_y (y_fieldA 2 Try.underlying88 rfl sz3 rfl rfl rfl) rfl ?_
          refine L_o (o_st1 S1 0 rfl rfl rfl rfl sz3 (by simp; done) fun w5 S5 => ?_)
          refine L_nil ?_
          refine hK16 _ _ ?_
          refine T_seq fun K17 hK17 => ?_
          refine T_region ?_
          refine L_y (y_assign rfl) rfl ?_
          refine L_nil ?_
          refine hK17 _ _ ?_
          refine T_ret ?_
          repeat (first | with_reducible refine up_then ?_ | with_reducible refine up_in ?_)
          refine ret1 rfl rfl ?_
          exfalso; omega
        ·
          refine T_skip ?_
          refine hK14 _ _ ?_
          refine T_seq fun K18 hK18 => ?_
          refine T_region ?_
          refine L_y (y_move rfl) rfl ?_
          refine L_y (y_move rfl) rfl ?_
          refine L_y (y_nilp rfl) rfl ?_
          refine L_y (y_fieldA 1 Try.underlying88 rfl sz3 rfl rfl rfl) rfl ?_
          refine L_y (y_ldc Try.underlying3 rfl rfl (((S1.blk 0 rfl).cell _).trans (by rfl))) rfl ?_
          refine L_y (y_move rfl) rfl ?_
          refine L_y (y_add rfl rfl (i64w (by omega))) rfl ?_
          refine L_y (y_nilp rfl) rfl ?_
          refine L_y (y_fieldA 1 Try.underlying88 rfl sz3 rfl rfl rfl) rfl ?_
          refine L_o (o_st1 S1 0 rfl rfl rfl rfl sz3 (by simp; done) fun w6 S6 => ?_)
          refine L_nil ?_
          refine hK18 _ _ ?_
          refine T_seq fun K19 hK19 => ?_
          refine T_region ?_
          refine L_y (y_move rfl) rfl ?_
          refine L_y (y_assign rfl) rfl ?_
          refine L_nil ?_
          refine hK19 _ _ ?_
          refine T_ret ?_
          repeat (first | with_reducible refine up_then ?_ | with_reducible refine up_in ?_)
          refine ret1 rfl rfl ?_
          have hV : vaN l p 0 m = ((nuN l p).1, p + (nuN l p).2.1, 0) := by rw [vaN, if_neg (by omega), if_neg (by omega), if_neg (by rw [← nu_ok (by omega)]; omega), nu_ok (by omega)]
          exact ⟨_, rfl, by rw [hV]; rfl, by rw [hV]; exact xr_of (S6.turned1 0 rfl) rfl⟩
    ·
      refine L_gno rfl rfl rfl ?_
      refine L_gno rfl rfl rfl ?_
      refine L_gno rfl rfl rfl ?_
      refine L_y ((by first | exact y_pickT rfl rfl | exact y_pickF rfl rfl)) rfl ?_
      refine L_nil ?_
      refine hK7 _ _ ?_
      refine T_false rfl ?_
      refine T_skip ?_
      refine hK6 _ _ ?_
      refine T_seq fun K20 hK20 => ?_
      refine T_seq fun K21 hK21 => ?_
      refine T_region ?_
      refine L_y (y_move rfl) rfl ?_
      refine L_y (y_neq rfl rfl) rfl ?_
      refine L_nil ?_
      refine hK21 _ _ ?_
      refine T_cond rfl (fun h27 => ?_) (fun h27 => ?_)
      ·
        refine T_seq fun K22 hK22 => ?_
        refine T_region ?_
        refine L_y (y_move rfl) rfl ?_
        refine L_y (y_move rfl) rfl ?_
        refine L_y (y_nilp rfl) rfl ?_
        refine L_y (y_fieldA 2 Try.underlying88 rfl sz3 rfl rfl rfl) rfl ?_
        refine L_o (o_st1 S1 0 rfl rfl rfl rfl sz3 (by simp; done) fun w7 S7 => ?_)
        refine L_nil ?_
        refine hK22 _ _ ?_
        refine T_seq fun K23 hK23 => ?_
        refine T_region ?_
        refine L_y (y_assign rfl) rfl ?_
        refine L_nil ?_
        refine hK23 _ _ ?_
        refine T_ret ?_
        repeat (first | with_reducible refine up_then ?_ | with_reducible refine up_in ?_)
        refine ret1 rfl rfl ?_
        have hV : vaN l p 0 m = (0, p, (nuN l p).2.2) := by rw [vaN, if_neg (by omega), if_pos (by omega), hE]
        exact ⟨_, rfl, by rw [hV]; rfl, by rw [hV]; exact xr_of (S7.turned1 0 rfl) rfl⟩
      ·
        refine T_skip ?_
        refine hK20 _ _ ?_
        refine T_seq fun K24 hK24 => ?_
        refine T_region ?_
        refine L_y (y_move rfl) rfl ?_
        refine L_y (y_move rfl) rfl ?_
        refine L_y (y_nilp rfl) rfl ?_
        refine L_y (y_fieldA 1 Try.underlying88 rfl sz3 rfl rfl rfl) rfl ?_
        refine L_y (y_ldc Try.underlying3 rfl rfl (((S1.blk 0 rfl).cell _).trans (by rfl))) rfl ?_
        refine L_y (y_move rfl) rfl ?_
        refine L_y (y_add rfl rfl (i64w (by omega))) rfl ?_
        refine L_y (y_nilp rfl) rfl ?_
        refine L_y (y_fieldA 1 Try.underlying88 rfl sz3 rfl rfl rfl) rfl ?_
        refine L_o (o_st1 S1 0 rfl rfl rfl rfl sz3 (by simp; done) fun w8 S8 => ?_)
        refine L_nil ?_
        refine hK24 _ _ ?_
        refine T_seq fun K25 hK25 => ?_
        refine T_region ?_
        refine L_y (y_move rfl) rfl ?_
        refine L_y (y_assign rfl) rfl ?_
        refine L_nil ?_
        refine hK25 _ _ ?_
        refine T_ret ?_
        repeat (first | with_reducible refine up_then ?_ | with_reducible refine up_in ?_)
        refine ret1 rfl rfl ?_
        exfalso; omega
end Go.Proofs.Ytpcgldkllnkaeaa

/-
  Put.
-/
namespace Go.Proofs.Ytpcgldkllnkaeaa
open Go.RowKit Zk Zx
set_option linter.unusedVariables false
set_option linter.unusedSimpArgs false

/-- An op as bytes, a script as bytes. -/
def encO (o : OV) : List UInt8 := if o.cp then 1 :: (vr o.fr.toNat ++ vr o.n.toNat) else 0 :: (vr o.l.length ++ o.l)
def encV (b t : Int) (l : List OV) : List UInt8 := vr b.toNat ++ vr t.toNat ++ l.flatMap encO
/-- What putting a script gives. -/
def putR (b t : Int) (l : List OV) : List UInt8 × Int := if errV b t l ≠ 0 then ([], errV b t l) else (encV b t l, 0)
theorem put_err {b t : Int} {l : List OV} (h : errV b t l ≠ 0) : putR b t l = ([], errV b t l) := by unfold putR; rw [if_pos h]
theorem put_ok {b t : Int} {l : List OV} (h : errV b t l = 0) : putR b t l = (encV b t l, 0) := by unfold putR; rw [if_neg (fun x => x h)]
theorem enc_cp {o : OP} (h : o.cp = true) : encO o.v = [1] ++ (vr o.fr.toNat ++ vr o.n.toNat) := by
  unfold encO
  rw [if_pos (show o.v.cp = true from h)]
  rfl
theorem enc_new {o : OP} (h : o.cp = false) : encO o.v = [0] ++ (vr o.p.l.length ++ o.p.l) := by
  unfold encO
  rw [if_neg (show ¬ o.v.cp = true from by rw [show o.v.cp = o.cp from rfl, h]; exact Bool.false_ne_true)]
  rfl
theorem enc_step {b t : Int} {l : List OP} {k : Nat} {o : OP} (ho : l[k]? = some o) : encV b t ((l.take (k + 1)).map OP.v) = encV b t ((l.take k).map OP.v) ++ encO o.v := by
  unfold encV
  rw [take1 ho, List.map_append, List.flatMap_append, List.append_assoc, List.append_assoc, List.append_assoc]
  simp
theorem vr_len4 (x : Nat) (h : x ≤ 5000) : (vr x).length ≤ 2 := vr_len x 1 (by omega)
theorem wt_fresh {w w' : World} {b : Nat} (h : w.heap.size ≤ b) (hw : (wt b none 0 0 []).holds w') : ∀ i, (wt b none 0 0 []).dom i → w.heap.size ≤ i ∧ i < w'.heap.size := fun i hi => by
  refine ⟨?_, wt_lt hw i hi⟩
  rcases hi with hi | hi
  · have hi' : i = b := hi
    omega
  · cases hi
theorem i_u64 {x : Int} (h : 0 ≤ x) (h2 : x ≤ 5000) : IntKind.u64.wrap x = ((x.toNat : Nat) : Int) := by
  rw [IntKind.wrap_u64]
  omega


set_option maxRecDepth 100000 in
theorem pput (A : Option Addr) (n c : Nat) (l : List OP) (b t : Int) (w0 : World) (hl : Rs w0 4 A n c (l.flatMap opf)) (hok : OkO w0 l) (hn4 : n ≤ 4000) :
    Calls Try.prog 18 #[.agg (scA b t A n c)] w0 fun e w' => ∃ u, e = .returned u ∧ Like w0 w' ∧ ∃ A' c', u = .tuple #[.slice A' (putR b t (l.map OP.v)).1.length c', .int .i64 (putR b t (l.map OP.v)).2] ∧ w'.ownsRow w0.heap.size 5 1 (.slice A' (putR b t (l.map OP.v)).1.length c') (putR b t (l.map OP.v)).1.length (bL (putR b t (l.map OP.v)).1) := by
  refine enter1 (env := [(0, .agg (scA b t A n c))]) [.agg (scA b t A n c)] Try.func18 rfl Try.ntmps18 rfl rfl ?_
  have hn := ops_n hl; have hcap := hl.cap; have hmax := hl.max; have S0 := St.start w0 noM
  refine T_seq fun K1 hK1 => ?_
  refine T_region ?_
  refine L_o (o_box rfl S0 rfl fun b1 w1 hb1 S1 => ?_)
  refine L_y (y_assign rfl) rfl ?_
  refine L_y (y_assign rfl) rfl ?_
  refine L_nil ?_
  refine hK1 _ _ ?_
  refine T_seq fun K2 hK2 => ?_
  refine T_seq fun K3 hK3 => ?_
  refine T_region ?_
  refine L_y (y_ldW Try.underlying25 rfl sz25 rfl (S1.blk 0 rfl) (show _ = (scA b t A n c).toList ∧ _ from ⟨rfl, rfl⟩)) rfl ?_
  refine L_o (o_call Try.func20 rfl rfl (pcheck A n c l b t w1 (S1.rd hl) (hok.like S1.like0)) rfl rfl ?_)
  rintro e2 w2 ⟨v2, rfl, l2, rfl⟩
  refine ⟨_, rfl, ?_⟩
  have S2 := S1.like l2
  refine L_y (y_assign rfl) rfl ?_
  refine L_nil ?_
  refine hK3 _ _ ?_
  refine T_seq fun K4 hK4 => ?_
  refine T_region ?_
  refine L_y (y_move rfl) rfl ?_
  refine L_y (y_neq rfl rfl) rfl ?_
  refine L_nil ?_
  refine hK4 _ _ ?_
  refine T_cond rfl (fun h11 => ?_) (fun h11 => ?_)
  ·
    refine T_seq fun K5 hK5 => ?_
    refine T_region ?_
    refine L_y (y_move rfl) rfl ?_
    refine L_y (y_assign rfl) rfl ?_
    refine L_y (y_assign rfl) rfl ?_
    refine L_nil ?_
    refine hK5 _ _ ?_
    refine T_ret ?_
    repeat (first | with_reducible refine up_then ?_ | with_reducible refine up_in ?_)
    refine ret2 rfl rfl rfl ?_
    first | exact ⟨_, rfl, S2.like0, none, 0, by rw [put_err h11]; rfl, by rw [put_err h11]; exact World.ownsRow_nil _ _ _ _⟩ | (have hke : k = n := by omega); subst hke; rw [List.take_of_length_le (by omega)] at hm; have hO := S2.own 2 rfl; have hL := (S2.row 2 rfl).lenb; subst hm; obtain rfl := hL; exact ⟨_, rfl, S2.like0, _, _, by rw [put_ok h110], by rw [put_ok h110]; exact hO⟩
  ·
    have h110 := Decidable.byContradiction h11
    obtain ⟨hrg, hall⟩ := errV_zero h110
    refine T_skip ?_
    refine hK2 _ _ ?_
    refine T_seq fun K6 hK6 => ?_
    refine T_region ?_
    refine L_o (o_call Try.func29 rfl rfl (wnew w2) rfl rfl ?_)
    rintro e3 w3 ⟨v3, rfl, l3, g, rfl, hb3, hh3⟩
    refine ⟨_, rfl, ?_⟩
    have S3 := S2.new l3 _ hh3 (wt_fresh hb3 hh3)
    refine L_y (y_assign rfl) rfl ?_
    refine L_nil ?_
    refine hK6 _ _ ?_
    refine T_seq fun K7 hK7 => ?_
    refine T_region ?_
    refine L_y (y_move rfl) rfl ?_
    refine L_y (y_fieldA 0 Try.underlying25 rfl sz3 rfl rfl rfl) rfl ?_
    refine L_y (y_ldc Try.underlying3 rfl rfl (((S3.blk 0 rfl).cell _).trans (by rfl))) rfl ?_
    refine L_y (y_conv is3 Try.underlying65 rfl (i_u64 (by omega) (by omega))) rfl ?_
    refine L_o (o_call Try.func30 rfl rfl (wvar g _ _ _ _ b.toNat w3 (S3.get 1 rfl) (by omega) (by simp)) rfl rfl ?_)
    rintro e4 w4 ⟨v4, rfl, ⟨A4, n4, c4, T4⟩⟩
    refine ⟨_, rfl, ?_⟩
    have S4 := S3.turn 1 rfl T4
    refine L_nil ?_
    refine hK7 _ _ ?_
    refine T_seq fun K8 hK8 => ?_
    refine T_region ?_
    refine L_y (y_move rfl) rfl ?_
    refine L_y (y_fieldA 1 Try.underlying25 rfl sz3 rfl rfl rfl) rfl ?_
    refine L_y (y_ldc Try.underlying3 rfl rfl (((S4.blk 0 rfl).cell _).trans (by rfl))) rfl ?_
    refine L_y (y_conv is3 Try.underlying65 rfl (i_u64 (by omega) (by omega))) rfl ?_
    refine L_o (o_call Try.func30 rfl rfl (wvar g _ _ _ _ t.toNat w4 (S4.get 1 rfl) (by omega) (by have := vr_len4 b.toNat (by omega); simp; omega)) rfl rfl ?_)
    rintro e5 w5 ⟨v5, rfl, ⟨A23, n23, c23, T5⟩⟩
    refine ⟨_, rfl, ?_⟩
    have S5 := S4.turn 1 rfl T5
    refine L_nil ?_
    refine hK8 _ _ ?_
    refine T_seq fun K9 hK9 => ?_
    refine T_seq fun K10 hK10 => ?_
    refine T_region ?_
    refine L_y (y_fieldA 2 Try.underlying25 rfl sz23 rfl rfl rfl) rfl ?_
    refine L_y (y_ldc Try.underlying23 rfl rfl (((S5.blk 0 rfl).cell _).trans (by rfl))) rfl ?_
    refine L_y (y_len Try.underlying23 rfl) rfl ?_
    refine L_y (y_move rfl) rfl ?_
    refine L_nil ?_
    refine hK10 _ _ ?_
    refine T_block ?_
    refine T_loop6 [(5, _), (25, _), (26, _)] (fun (k : Nat) (left : Int) (m : List UInt8) (A1 : Option Addr) (n1 : Nat) (c1 : Nat) => [(27, .int .i64 (k : Int))]) (fun (k : Nat) (left : Int) (m : List UInt8) (A1 : Option Addr) (n1 : Nat) (c1 : Nat) => n - k) (fun (k : Nat) (left : Int) (m : List UInt8) (A1 : Option Addr) (n1 : Nat) (c1 : Nat) (w : World) => (k ≤ n ∧ 0 ≤ left ∧ left ≤ 4000 ∧ chkL b left ((l.map OP.v).drop k) = true ∧ m = encV b t ((l.take k).map OP.v) ∧ m.length + left.toNat ≤ 4020 + 21 * k) ∧ St w0 noM [blk b1 25 (scA b t A n c), wt g A1 n1 c1 m] w) 0 t ([] ++ vr b.toNat ++ vr t.toNat) A23 n23 c23 (Sub.cons rfl (by first | rfl | exact congrArg (Value.int _) (by omega)) (Sub.nil _)) (Sub.cons rfl rfl (Sub.cons rfl rfl (Sub.cons rfl rfl (Sub.nil _)))) ?_ ?_
    ·
      exact ⟨⟨Nat.zero_le _, by omega, by omega, hall, by simp [encV], by have := vr_len4 b.toNat (by omega); have := vr_len4 t.toNat (by omega); simp; omega⟩, S5⟩
    ·
      intro k left m A1 n1 c1 w6 hrel
      obtain ⟨⟨hk, hl0, hl1, hch, hm, hml⟩, S6⟩ := hrel
      refine T_seq fun K11 hK11 => ?_
      refine T_region ?_
      refine L_y (y_lss rfl rfl) rfl ?_
      refine L_nil ?_
      refine hK11 _ _ ?_
      refine T_seq fun K12 hK12 => ?_
      refine T_cond rfl (fun h28 => ?_) (fun h28 => ?_)
      ·
        obtain ⟨o, ho⟩ : ∃ o, l[k]? = some o := ⟨_, List.getElem?_eq_getElem (by omega)⟩
        have hop := hok o (List.mem_of_getElem? ho)
        have hopn := hop.lenb; have hopc := hop.cap; have hopm := hop.max
        obtain ⟨hrt, hsz, hrest⟩ := chkL_next ho hch
        have hs1 := sz_nonneg hrt
        refine T_skip ?_
        refine hK12 _ _ ?_
        refine T_seq fun K13 hK13 => ?_
        refine T_block ?_
        refine T_seq fun K14 hK14 => ?_
        refine T_region ?_
        refine L_y (y_idx Try.underlying23 sz57 rfl rfl (S6.rd hl) (Nt.mk (by omega) : Nt _ (k)) (by omega)) rfl ?_
        refine L_y (y_ldp (f := opf) opf_len Try.underlying57 rfl sz57 rfl (S6.rd hl) (by omega) ho) rfl ?_
        refine L_o (o_alloc zz57 S6 rfl fun b7 w7 hb7 S7 => ?_)
        refine L_o (o_stW S7 2 rfl rfl rfl sz57 rfl (opf_one o) fun w8 S8 => ?_)
        refine L_nil ?_
        refine hK14 _ _ ?_
        refine T_seq fun K15 hK15 => ?_
        refine T_region ?_
        refine L_y (y_fieldA 0 Try.underlying57 rfl sz4 rfl rfl rfl) rfl ?_
        refine L_y (y_ldc Try.underlying4 rfl rfl (((S8.blk 2 rfl).cell _).trans (by rfl))) rfl ?_
        refine L_nil ?_
        refine hK15 _ _ ?_
        refine T_condB rfl (fun h32 => ?_) (fun h32 => ?_)
        ·
          have hcp : o.cp = true := h32
          obtain ⟨g1, g2, g3, g4, g5⟩ := rt_cp hrt hcp
          refine T_seq fun K16 hK16 => ?_
          refine T_region ?_
          refine L_y (y_move rfl) rfl ?_
          refine L_o (o_call Try.func31 rfl rfl (wbyte g _ _ _ _ 1 w8 (S8.get 1 rfl) (by omega)) rfl rfl ?_)
          rintro e9 w9 ⟨v9, rfl, ⟨A9, n9, c9, T9⟩⟩
          refine ⟨_, rfl, ?_⟩
          have S9 := S8.turn 1 rfl T9
          refine L_nil ?_
          refine hK16 _ _ ?_
          refine T_seq fun K17 hK17 => ?_
          refine T_region ?_
          refine L_y (y_move rfl) rfl ?_
          refine L_y (y_fieldA 1 Try.underlying57 rfl sz3 rfl rfl rfl) rfl ?_
          refine L_y (y_ldc Try.underlying3 rfl rfl (((S9.blk 2 rfl).cell _).trans (by rfl))) rfl ?_
          refine L_y (y_conv is3 Try.underlying65 rfl (i_u64 (by omega) (by omega))) rfl ?_
          refine L_o (o_call Try.func30 rfl rfl (wvar g _ _ _ _ o.fr.toNat w9 (S9.get 1 rfl) (by omega) (by simp; omega)) rfl rfl ?_)
          rintro e10 w10 ⟨v10, rfl, ⟨A10, n10, c10, T10⟩⟩
          refine ⟨_, rfl, ?_⟩
          have S10 := S9.turn 1 rfl T10
          refine L_nil ?_
          refine hK17 _ _ ?_
          refine T_region ?_
          refine L_y (y_move rfl) rfl ?_
          refine L_y (y_fieldA 2 Try.underlying57 rfl sz3 rfl rfl rfl) rfl ?_
          refine L_y (y_ldc Try.underlying3 rfl rfl (((S10.blk 2 rfl).cell _).trans (by rfl))) rfl ?_
          refine L_y (y_conv is3 Try.underlying65 rfl (i_u64 (by omega) (by omega))) rfl ?_
          refine L_o (o_call Try.func30 rfl rfl (wvar g _ _ _ _ o.n.toNat w10 (S10.get 1 rfl) (by omega) (by have := vr_len4 o.fr.toNat (by omega); simp; omega)) rfl rfl ?_)
          rintro e11 w11 ⟨v11, rfl, ⟨A11, n11, c11, T11⟩⟩
          refine ⟨_, rfl, ?_⟩
          have S11 := S10.turn 1 rfl T11
          refine L_nil ?_
          refine hK13 _ _ ?_
          refine T_region ?_
          refine L_y (y_add rfl rfl (i64w (by omega))) rfl ?_
          refine L_y (y_move rfl) rfl ?_
          refine L_nil ?_
          have S91 := S11.drop (rs' := [_, _]) (.cons_cons _ (.cons_cons _ (.cons _ (.refl _))))
          refine ⟨k + 1, left - szV o.v, _, _, _, _, by omega, ⟨⟨by omega, by omega, by omega, hrest, by rw [hm, enc_step ho, enc_cp hcp]; simp [List.append_assoc, ByteArray.size], by have := vr_len4 o.fr.toNat (by omega); have := vr_len4 o.n.toNat (by omega); simp; omega⟩, S91⟩, ?_⟩
          exact (Sub.cons rfl (by first | rfl | exact congrArg (Value.int _) (by omega)) (Sub.cons rfl rfl (Sub.cons rfl rfl (Sub.cons rfl rfl (Sub.nil _)))))
        ·
          have hcp : o.cp = false := h32
          obtain ⟨g1, g2⟩ := rt_new hrt hcp
          refine T_seq fun K18 hK18 => ?_
          refine T_region ?_
          refine L_y (y_move rfl) rfl ?_
          refine L_o (o_call Try.func31 rfl rfl (wbyte g _ _ _ _ 0 w8 (S8.get 1 rfl) (by omega)) rfl rfl ?_)
          rintro e12 w12 ⟨v12, rfl, ⟨A12, n12, c12, T12⟩⟩
          refine ⟨_, rfl, ?_⟩
          have S12 := S8.turn 1 rfl T12
          refine L_nil ?_
          refine hK18 _ _ ?_
          refine T_region ?_
          refine L_y (y_move rfl) rfl ?_
          refine L_y (y_fieldA 3 Try.underlying57 rfl sz22 rfl rfl rfl) rfl ?_
          refine L_y (y_ldc Try.underlying22 rfl rfl (((S12.blk 2 rfl).cell _).trans (by rfl))) rfl ?_
          refine L_y (y_bstr Try.underlying22 Try.underlying5 Try.underlying9 rfl (S12.rd hop)) rfl ?_
          refine L_o (o_call Try.func32 rfl rfl (wtext g _ _ _ _ ⟨o.p.l.toArray⟩ w12 (S12.get 1 rfl) (by simp [ByteArray.size]; omega)) rfl rfl ?_)
          rintro e13 w13 ⟨v13, rfl, ⟨A13, n13, c13, T13⟩⟩
          refine ⟨_, rfl, ?_⟩
          have S13 := S12.turn 1 rfl T13
          refine L_nil ?_
          refine hK13 _ _ ?_
          refine T_region ?_
          refine L_y (y_add rfl rfl (i64w (by omega))) rfl ?_
          refine L_y (y_move rfl) rfl ?_
          refine L_nil ?_
          have S91 := S13.drop (rs' := [_, _]) (.cons_cons _ (.cons_cons _ (.cons _ (.refl _))))
          refine ⟨k + 1, left - szV o.v, _, _, _, _, by omega, ⟨⟨by omega, by omega, by omega, hrest, by rw [hm, enc_step ho, enc_new hcp]; simp [List.append_assoc, ByteArray.size], by have := vr_len4 o.p.l.length (by omega); simp [ByteArray.size]; omega⟩, S91⟩, ?_⟩
          exact (Sub.cons rfl (by first | rfl | exact congrArg (Value.int _) (by omega)) (Sub.cons rfl rfl (Sub.cons rfl rfl (Sub.cons rfl rfl (Sub.nil _)))))
      ·
        refine T_exit ?_
        refine hK9 _ _ ?_
        refine T_seq fun K19 hK19 => ?_
        refine T_region ?_
        refine L_y (y_move rfl) rfl ?_
        refine L_o (o_call Try.func33 rfl rfl (wbytes g _ _ _ _ w6 (S6.get 1 rfl) (by omega)) rfl rfl ?_)
        rintro e14 w14 ⟨v14, rfl, l14, A14, m14, c14, rfl, O14⟩
        refine ⟨_, rfl, ?_⟩
        have S14 := S6.adopt l14 O14
        refine L_y (y_assign rfl) rfl ?_
        refine L_y (y_assign rfl) rfl ?_
        refine L_nil ?_
        refine hK19 _ _ ?_
        refine T_ret ?_
        repeat (first | with_reducible refine up_then ?_ | with_reducible refine up_in ?_)
        refine ret2 rfl rfl rfl ?_
        first | exact ⟨_, rfl, S14.like0, none, 0, by rw [put_err h11]; rfl, by rw [put_err h11]; exact World.ownsRow_nil _ _ _ _⟩ | (have hke : k = n := by omega); subst hke; rw [List.take_of_length_le (by omega)] at hm; have hO := S14.own 2 rfl; have hL := (S14.row 2 rfl).lenb; subst hm; obtain rfl := hL; exact ⟨_, rfl, S14.like0, _, _, by rw [put_ok h110], by rw [put_ok h110]; exact hO⟩
end Go.Proofs.Ytpcgldkllnkaeaa

/-
  Join.
-/
namespace Go.Proofs.Ytpcgldkllnkaeaa
open Go.RowKit Zk Zx
set_option linter.unusedVariables false
set_option linter.unusedSimpArgs false

def catP (ps : List Part) : List UInt8 := ps.flatMap Part.l
theorem catP_step {ps : List Part} {k : Nat} {p : Part} (hp : ps[k]? = some p) : catP (ps.take (k + 1)) = catP (ps.take k) ++ p.l := by
  unfold catP
  rw [take1 hp, List.flatMap_append]
  simp
def okP (w : World) (B : Nat) (ps : List Part) : Prop := ∀ p ∈ ps, p.ok w ∧ p.n ≤ B
theorem okP.nil (w : World) (B : Nat) : okP w B [] := fun p hp => by cases hp
theorem okP.cons {w : World} {B : Nat} {p : Part} {ps : List Part} (h1 : p.ok w) (h2 : p.n ≤ B) (h : okP w B ps) : okP w B (p :: ps) := fun q hq => by
  rcases List.mem_cons.1 hq with rfl | hq
  · exact ⟨h1, h2⟩
  · exact h q hq
theorem okP.like {w w' : World} {B : Nat} {ps : List Part} (h : okP w B ps) (lk : Like w w') : okP w' B ps := fun p hp => ⟨Rs.like (h p hp).1 lk, (h p hp).2⟩
theorem getP {ps : List Part} {k : Nat} {p : Part} (hp : ps[k]? = some p) : (ps.map pv)[k]? = some (.slice p.A p.n p.c) := by rw [List.getElem?_map, hp]; rfl


set_option maxRecDepth 100000 in
theorem rjoin (A : Option Addr) (n c : Nat) (ps : List Part) (w0 : World) (hps : Rs w0 1 A n c (ps.map pv)) (hok : okP w0 100000 ps) (hn8 : n ≤ 1000) :
    Calls Try.prog 34 #[.slice A n c] w0 fun e w' => ∃ u, e = .returned u ∧ Like w0 w' ∧ ∃ A' c', u = .slice A' (catP ps).length c' ∧ w'.ownsRow w0.heap.size 5 1 (.slice A' (catP ps).length c') (catP ps).length (bL (catP ps)) := by
  refine enter1 (env := [(0, .slice A n c)]) [.slice A n c] Try.func34 rfl Try.ntmps34 rfl rfl ?_
  have hn := hps.len; rw [List.length_map] at hn; have hcap := hps.cap; have hmax := hps.max; have S0 := St.start w0 noM
  refine T_seq fun K1 hK1 => ?_
  refine T_region ?_
  refine L_y (y_assign rfl) rfl ?_
  refine L_nil ?_
  refine hK1 _ _ ?_
  refine T_seq fun K2 hK2 => ?_
  refine T_region ?_
  have S1 := S0.nilrow 5 1
  refine L_y (y_assign rfl) rfl ?_
  refine L_nil ?_
  refine hK2 _ _ ?_
  refine T_seq fun K3 hK3 => ?_
  refine T_seq fun K4 hK4 => ?_
  refine T_region ?_
  refine L_y (y_assign rfl) rfl ?_
  refine L_nil ?_
  refine hK4 _ _ ?_
  refine T_block ?_
  refine T_loop4 [(0, _)] (fun (k : Nat) (m : List UInt8) (A1 : Option Addr) (c1 : Nat) => [(4, .int .i64 (k : Int)), (3, .slice A1 m.length c1)]) (fun (k : Nat) (m : List UInt8) (A1 : Option Addr) (c1 : Nat) => n - k) (fun (k : Nat) (m : List UInt8) (A1 : Option Addr) (c1 : Nat) (w : World) => (k ≤ n ∧ m = catP (ps.take k) ∧ m.length ≤ 100000 * k) ∧ St w0 noM [row 5 1 A1 m.length c1 (bL m)] w) 0 [] none 0 (Sub.cons rfl (by first | rfl | exact congrArg (Value.int _) (by omega)) (Sub.cons rfl (by first | rfl | exact congrArg (Value.int _) (by omega)) (Sub.nil _))) (Sub.cons rfl rfl (Sub.nil _)) ?_ ?_
  ·
    exact ⟨⟨Nat.zero_le _, rfl, Nat.zero_le _⟩, S1⟩
  ·
    intro k m A1 c1 w2 hrel
    obtain ⟨⟨hk, hm, hml⟩, S2⟩ := hrel
    refine T_seq fun K5 hK5 => ?_
    refine T_seq fun K6 hK6 => ?_
    refine T_region ?_
    refine L_y (y_move rfl) rfl ?_
    refine L_y (y_move rfl) rfl ?_
    refine L_y (y_len Try.underlying96 rfl) rfl ?_
    refine L_y (y_lss rfl rfl) rfl ?_
    refine L_nil ?_
    refine hK6 _ _ ?_
    refine T_cond rfl (fun h8 => ?_) (fun h8 => ?_)
    ·
      obtain ⟨p, hp⟩ : ∃ p, ps[k]? = some p := ⟨_, List.getElem?_eq_getElem (by omega)⟩
      obtain ⟨hpo, hpb⟩ := hok p (List.mem_of_getElem? hp)
      have hpn := hpo.lenb; have hpc := hpo.cap; have hpm := hpo.max
      refine T_skip ?_
      refine hK5 _ _ ?_
      refine T_seq fun K7 hK7 => ?_
      refine T_block ?_
      refine T_region ?_
      refine L_y (y_move rfl) rfl ?_
      refine L_y (y_move rfl) rfl ?_
      refine L_y (y_move rfl) rfl ?_
      refine L_y (y_idx Try.underlying96 sz22 rfl rfl (S2.rd hps) (Nt.mk (by omega) : Nt _ (k)) (by omega)) rfl ?_
      refine L_y (y_ldr Try.underlying22 rfl rfl (S2.rd hps) (getP hp)) rfl ?_
      refine L_o (o_app te22 S2 0 rfl rfl rfl (S2.rd hpo) (bL_one _) rfl (by omega) (by omega) fun A3 c3 w3 S3 => ?_)
      refine L_y (y_assign rfl) rfl ?_
      refine L_nil ?_
      refine hK7 _ _ ?_
      refine T_region ?_
      refine L_y (y_move rfl) rfl ?_
      refine L_y (y_add rfl rfl (i64w (by omega))) rfl ?_
      refine L_y (y_assign rfl) rfl ?_
      refine L_nil ?_
      have S91 := S3.rowc 0 rfl (n' := (m ++ p.l).length) (xs' := bL (m ++ p.l)) (by rw [List.length_append]; omega) (bL_app' _ _)
      refine ⟨k + 1, m ++ p.l, _, _, by omega, ⟨⟨by omega, by rw [catP_step hp, hm], by rw [List.length_append]; omega⟩, S91⟩, ?_⟩
      exact (Sub.cons rfl (by first | rfl | exact congrArg (Value.int _) (by omega)) (Sub.cons rfl (by rw [List.length_append]; congr 1; omega) (Sub.cons rfl rfl (Sub.nil _))))
    ·
      refine T_exit ?_
      refine hK3 _ _ ?_
      refine T_seq fun K8 hK8 => ?_
      refine T_region ?_
      refine L_y (y_move rfl) rfl ?_
      refine L_y (y_assign rfl) rfl ?_
      refine L_nil ?_
      refine hK8 _ _ ?_
      refine T_ret ?_
      repeat (first | with_reducible refine up_then ?_ | with_reducible refine up_in ?_)
      refine ret1 rfl rfl ?_
      have hke : k = n := by omega
      subst hke
      rw [List.take_of_length_le (by omega)] at hm
      subst hm
      exact ⟨_, rfl, S2.like0, _, _, rfl, S2.own 0 rfl⟩
end Go.Proofs.Ytpcgldkllnkaeaa

/-
  The document: Put.
-/
namespace Go.Proofs.Ytpcgldkllnkaeaa
open Go.RowKit Zk Zx
set_option linter.unusedVariables false
set_option linter.unusedSimpArgs false

set_option maxRecDepth 100000 in
theorem rput (A : Option Addr) (n c : Nat) (l : List OP) (b t : Int) (w0 : World) (hl : Rs w0 4 A n c (l.flatMap opf)) (hok : OkO w0 l) (hn4 : n ≤ 4000) :
    Calls Try.prog 19 #[.agg (scA b t A n c)] w0 fun e w' => ∃ u, e = .returned u ∧ Like w0 w' ∧ ∃ A' c', u = .tuple #[.slice A' (putR b t (l.map OP.v)).1.length c', .int .i64 (putR b t (l.map OP.v)).2] ∧ w'.ownsRow w0.heap.size 5 1 (.slice A' (putR b t (l.map OP.v)).1.length c') (putR b t (l.map OP.v)).1.length (bL (putR b t (l.map OP.v)).1) := by
  refine enter1 (env := [(0, .agg (scA b t A n c))]) [.agg (scA b t A n c)] Try.func19 rfl Try.ntmps19 rfl rfl ?_
  have hn := ops_n hl; have hcap := hl.cap; have hmax := hl.max; have S0 := St.start w0 noM
  refine T_seq fun K1 hK1 => ?_
  refine T_region ?_
  refine L_o (o_box rfl S0 rfl fun b1 w1 hb1 S1 => ?_)
  refine L_y (y_assign rfl) rfl ?_
  refine L_y (y_assign rfl) rfl ?_
  refine L_nil ?_
  refine hK1 _ _ ?_
  refine T_seq fun K2 hK2 => ?_
  refine T_region ?_
  refine L_y (y_ldW Try.underlying30 rfl sz30 rfl (S1.blk 0 rfl) (show _ = (scA b t A n c).toList ∧ _ from ⟨rfl, rfl⟩)) rfl ?_
  refine L_o (o_call Try.func21 rfl rfl (rcheck A n c l b t w1 (S1.rd hl) (hok.like S1.like0)) rfl rfl ?_)
  rintro e2 w2 ⟨v2, rfl, l2, rfl⟩
  refine ⟨_, rfl, ?_⟩
  have S2 := S1.like l2
  refine L_y (y_assign rfl) rfl ?_
  refine L_nil ?_
  refine hK2 _ _ ?_
  refine T_seq fun K3 hK3 => ?_
  refine T_seq fun K4 hK4 => ?_
  refine T_region ?_
  refine L_y (y_move rfl) rfl ?_
  refine L_y (y_neq rfl rfl) rfl ?_
  refine L_nil ?_
  refine hK4 _ _ ?_
  refine T_cond rfl (fun h11 => ?_) (fun h11 => ?_)
  ·
    refine T_seq fun K5 hK5 => ?_
    refine T_region ?_
    refine L_y (y_move rfl) rfl ?_
    refine L_y (y_assign rfl) rfl ?_
    refine L_y (y_assign rfl) rfl ?_
    refine L_nil ?_
    refine hK5 _ _ ?_
    refine T_ret ?_
    repeat (first | with_reducible refine up_then ?_ | with_reducible refine up_in ?_)
    refine ret2 rfl rfl rfl ?_
    first | exact ⟨_, rfl, S2.like0, none, 0, by rw [put_err h11]; rfl, by rw [put_err h11]; exact World.ownsRow_nil _ _ _ _⟩ | (have hke : k = n := by omega); subst hke; rw [List.take_of_length_le (by omega)] at hm; subst hm; exact ⟨_, rfl, S2.like0, _, _, by rw [put_ok h110], by rw [put_ok h110]; exact S2.own 1 rfl⟩
  ·
    have h110 := Decidable.byContradiction h11
    obtain ⟨hrg, hall⟩ := errV_zero h110
    have v1 := vr_len4 b.toNat (by omega)
    have v2 := vr_len4 t.toNat (by omega)
    refine T_skip ?_
    refine hK3 _ _ ?_
    refine T_seq fun K6 hK6 => ?_
    refine T_drawnX (fun w => Blk w b1 30 (scA b t A n c)) hmix (by kernel_rfl) (fun w l => (S2.like l).blk 0 rfl) fun w3 l3 => ?_
    have S3 := S2.like l3
    refine DX_y 0 (by kernel_rfl) rfl (y_fieldA 0 Try.underlying30 rfl sz3 rfl rfl rfl) rfl ?_
    refine DX_y 1 (by kernel_rfl) rfl (y_of fun w hw => y_ldc Try.underlying3 rfl rfl (((hw).cell _).trans (by rfl))) rfl ?_
    refine DX_y 2 (by kernel_rfl) rfl (y_conv is3 Try.underlying65 rfl (i_u64 (by omega) (by omega))) rfl ?_
    refine DX_y 4 (by kernel_rfl) rfl (y_fieldA 1 Try.underlying30 rfl sz3 rfl rfl rfl) rfl ?_
    refine DX_y 5 (by kernel_rfl) rfl (y_of fun w hw => y_ldc Try.underlying3 rfl rfl (((hw).cell _).trans (by rfl))) rfl ?_
    refine DX_y 6 (by kernel_rfl) rfl (y_conv is3 Try.underlying65 rfl (i_u64 (by omega) (by omega))) rfl ?_
    refine DX_o1 3 (by kernel_rfl) rfl ?_
    refine o_call Try.func35 rfl rfl (refvar b.toNat w3 (by omega)) rfl rfl ?_
    rintro e4 w4 ⟨v4, rfl, l4, A16, m16, c16, rfl, O4⟩
    refine ⟨_, rfl, ?_⟩
    have S4 := S3.adopt l4 O4
    refine ⟨S4.blk 0 rfl, ?_⟩
    refine DX_o1 7 (by kernel_rfl) rfl ?_
    refine o_call Try.func35 rfl rfl (refvar t.toNat w4 (by omega)) rfl rfl ?_
    rintro e5 w5 ⟨v5, rfl, l5, A20, m20, c20, rfl, O5⟩
    refine ⟨_, rfl, ?_⟩
    have S5 := S4.adopt l5 O5
    refine ⟨S5.blk 0 rfl, ?_⟩
    refine DX_o1 8 (by kernel_rfl) rfl ?_
    refine o_bsl [_, _] te96 zz22 S5 rfl rfl rfl rfl rfl rfl rfl rfl fun b6 w6 S6 => ?_
    refine ⟨S6.blk 0 rfl, ?_⟩
    refine DX_o1 9 (by kernel_rfl) rfl ?_
    refine o_call Try.func34 rfl rfl (rjoin _ 2 2 [⟨A16, m16, c16, (vr b.toNat)⟩, ⟨A20, m20, c20, (vr t.toNat)⟩] w6 (S6.row 3 rfl) (okP.cons (p := ⟨A16, m16, c16, (vr b.toNat)⟩) (S6.row 1 rfl) (by have h9 := (S6.row 1 rfl).lenb; show m16 ≤ 100000; omega) (okP.cons (p := ⟨A20, m20, c20, (vr t.toNat)⟩) (S6.row 2 rfl) (by have h9 := (S6.row 2 rfl).lenb; show m20 ≤ 100000; omega) (okP.nil _ _))) (by omega)) rfl rfl ?_
    rintro e7 w7 ⟨v7, rfl, l7, A22, c22, rfl, O7⟩
    refine ⟨_, rfl, ?_⟩
    have S7 := S6.adopt l7 O7
    refine ⟨S7.blk 0 rfl, ?_⟩
    refine DX_y 10 (by kernel_rfl) rfl (y_assign rfl) rfl ?_
    refine DX_nil (by kernel_rfl) ?_
    refine hK6 _ _ ?_
    refine T_seq fun K7 hK7 => ?_
    refine T_seq fun K8 hK8 => ?_
    refine T_region ?_
    refine L_y (y_assign rfl) rfl ?_
    refine L_nil ?_
    refine hK8 _ _ ?_
    refine T_block ?_
    refine T_loop5 [(1, _)] (fun (k : Nat) (left : Int) (m : List UInt8) (A1 : Option Addr) (c1 : Nat) => [(6, .int .i64 (k : Int)), (5, .slice A1 m.length c1)]) (fun (k : Nat) (left : Int) (m : List UInt8) (A1 : Option Addr) (c1 : Nat) => n - k) (fun (k : Nat) (left : Int) (m : List UInt8) (A1 : Option Addr) (c1 : Nat) (w : World) => (k ≤ n ∧ 0 ≤ left ∧ left ≤ 4000 ∧ chkL b left ((l.map OP.v).drop k) = true ∧ m = encV b t ((l.take k).map OP.v) ∧ m.length + left.toNat ≤ 4020 + 21 * k) ∧ St w0 noM [blk b1 30 (scA b t A n c), row 5 1 A1 m.length c1 (bL m)] w) 0 t (catP [⟨A16, m16, c16, (vr b.toNat)⟩, ⟨A20, m20, c20, (vr t.toNat)⟩]) A22 c22 (Sub.cons rfl (by first | rfl | exact congrArg (Value.int _) (by omega)) (Sub.cons rfl (by first | rfl | exact congrArg (Value.int _) (by omega)) (Sub.nil _))) (Sub.cons rfl rfl (Sub.nil _)) ?_ ?_
    ·
      have S90 := S7.sel [0, 4] (by decide)
      exact ⟨⟨Nat.zero_le _, by omega, by omega, hall, by simp [encV, catP], by simp [catP]; omega⟩, S90⟩
    ·
      intro k left m A1 c1 w8 hrel
      obtain ⟨⟨hk, hl0, hl1, hch, hm, hml⟩, S8⟩ := hrel
      refine T_seq fun K9 hK9 => ?_
      refine T_seq fun K10 hK10 => ?_
      refine T_region ?_
      refine L_y (y_move rfl) rfl ?_
      refine L_y (y_fieldA 2 Try.underlying30 rfl sz28 rfl rfl rfl) rfl ?_
      refine L_y (y_ldc Try.underlying28 rfl rfl (((S8.blk 0 rfl).cell _).trans (by rfl))) rfl ?_
      refine L_y (y_len Try.underlying28 rfl) rfl ?_
      refine L_y (y_lss rfl rfl) rfl ?_
      refine L_nil ?_
      refine hK10 _ _ ?_
      refine T_cond rfl (fun h27 => ?_) (fun h27 => ?_)
      ·
        obtain ⟨o, ho⟩ : ∃ o, l[k]? = some o := ⟨_, List.getElem?_eq_getElem (by omega)⟩
        have hop := hok o (List.mem_of_getElem? ho)
        have hopn := hop.lenb; have hopc := hop.cap; have hopm := hop.max
        obtain ⟨hrt, hsz, hrest⟩ := chkL_next ho hch
        have hs1 := sz_nonneg hrt
        refine T_skip ?_
        refine hK9 _ _ ?_
        refine T_seq fun K11 hK11 => ?_
        refine T_block ?_
        refine T_seq fun K12 hK12 => ?_
        refine T_region ?_
        refine L_y (y_fieldA 2 Try.underlying30 rfl sz28 rfl rfl rfl) rfl ?_
        refine L_y (y_ldc Try.underlying28 rfl rfl (((S8.blk 0 rfl).cell _).trans (by rfl))) rfl ?_
        refine L_y (y_move rfl) rfl ?_
        refine L_y (y_idx Try.underlying28 sz58 rfl rfl (S8.rd hl) (Nt.mk (by omega) : Nt _ (k)) (by omega)) rfl ?_
        refine L_y (y_ldp (f := opf) opf_len Try.underlying58 rfl sz58 rfl (S8.rd hl) (by omega) ho) rfl ?_
        refine L_o (o_alloc zz58 S8 rfl fun b9 w9 hb9 S9 => ?_)
        refine L_o (o_stW S9 2 rfl rfl rfl sz58 rfl (opf_one o) fun w10 S10 => ?_)
        refine L_nil ?_
        refine hK12 _ _ ?_
        refine T_seq fun K13 hK13 => ?_
        refine T_region ?_
        refine L_y (y_fieldA 0 Try.underlying58 rfl sz4 rfl rfl rfl) rfl ?_
        refine L_y (y_ldc Try.underlying4 rfl rfl (((S10.blk 2 rfl).cell _).trans (by rfl))) rfl ?_
        refine L_nil ?_
        refine hK13 _ _ ?_
        refine T_condB rfl (fun h36 => ?_) (fun h36 => ?_)
        ·
          have hcp : o.cp = true := h36
          obtain ⟨g1, g2, g3, g4, g5⟩ := rt_cp hrt hcp
          have v3 := vr_len4 o.fr.toNat (by omega)
          have v4 := vr_len4 o.n.toNat (by omega)
          refine T_drawnX (fun w => Blk w b9 58 (opf o).toArray) hmix (by kernel_rfl) (fun w l => (S10.like l).blk 2 rfl) fun w11 l11 => ?_
          have S11 := S10.like l11
          refine DX_y 0 (by kernel_rfl) rfl (y_move rfl) rfl ?_
          refine DX_y 2 (by kernel_rfl) rfl (y_fieldA 1 Try.underlying58 rfl sz3 rfl rfl rfl) rfl ?_
          refine DX_y 3 (by kernel_rfl) rfl (y_of fun w hw => y_ldc Try.underlying3 rfl rfl (((hw).cell _).trans (by rfl))) rfl ?_
          refine DX_y 4 (by kernel_rfl) rfl (y_conv is3 Try.underlying65 rfl (i_u64 (by omega) (by omega))) rfl ?_
          refine DX_y 6 (by kernel_rfl) rfl (y_fieldA 2 Try.underlying58 rfl sz3 rfl rfl rfl) rfl ?_
          refine DX_y 7 (by kernel_rfl) rfl (y_of fun w hw => y_ldc Try.underlying3 rfl rfl (((hw).cell _).trans (by rfl))) rfl ?_
          refine DX_y 8 (by kernel_rfl) rfl (y_conv is3 Try.underlying65 rfl (i_u64 (by omega) (by omega))) rfl ?_
          refine DX_o2 1 5 (by kernel_rfl) rfl rfl ?_ ?_
          ·
            refine o_bsl [_] te22 zz5 S11 rfl rfl rfl rfl rfl rfl rfl rfl fun b12 w12 S12 => ?_
            refine ⟨S12.blk 2 rfl, ?_⟩
            refine DX_o1 5 (by kernel_rfl) rfl ?_
            refine o_call Try.func35 rfl rfl (refvar o.fr.toNat w12 (by omega)) rfl rfl ?_
            rintro e13 w13 ⟨v13, rfl, l13, A42, m42, c42, rfl, O13⟩
            refine ⟨_, rfl, ?_⟩
            have S13 := S12.adopt l13 O13
            refine ⟨S13.blk 2 rfl, ?_⟩
            refine DX_o1 9 (by kernel_rfl) rfl ?_
            refine o_call Try.func35 rfl rfl (refvar o.n.toNat w13 (by omega)) rfl rfl ?_
            rintro e14 w14 ⟨v14, rfl, l14, A46, m46, c46, rfl, O14⟩
            refine ⟨_, rfl, ?_⟩
            have S14 := S13.adopt l14 O14
            refine ⟨S14.blk 2 rfl, ?_⟩
            refine DX_o1 10 (by kernel_rfl) rfl ?_
            refine o_bsl [_, _, _, _] te96 zz22 S14 rfl rfl rfl rfl rfl rfl rfl rfl fun b15 w15 S15 => ?_
            refine ⟨S15.blk 2 rfl, ?_⟩
            refine DX_o1 11 (by kernel_rfl) rfl ?_
            refine o_call Try.func34 rfl rfl (rjoin _ 4 4 [⟨A1, m.length, c1, m⟩, ⟨_, 1, 1, [1]⟩, ⟨A42, m42, c42, (vr o.fr.toNat)⟩, ⟨A46, m46, c46, (vr o.n.toNat)⟩] w15 (S15.row 6 rfl) (okP.cons (p := ⟨A1, m.length, c1, m⟩) (S15.row 1 rfl) (by show m.length ≤ 100000; omega) (okP.cons (p := ⟨_, 1, 1, [1]⟩) (S15.row 3 rfl) (by show 1 ≤ 100000; omega) (okP.cons (p := ⟨A42, m42, c42, (vr o.fr.toNat)⟩) (S15.row 4 rfl) (by have h9 := (S15.row 4 rfl).lenb; show m42 ≤ 100000; omega) (okP.cons (p := ⟨A46, m46, c46, (vr o.n.toNat)⟩) (S15.row 5 rfl) (by have h9 := (S15.row 5 rfl).lenb; show m46 ≤ 100000; omega) (okP.nil _ _))))) (by omega)) rfl rfl ?_
            rintro e16 w16 ⟨v16, rfl, l16, A48, c48, rfl, O16⟩
            refine ⟨_, rfl, ?_⟩
            have S16 := S15.adopt l16 O16
            refine ⟨S16.blk 2 rfl, ?_⟩
            refine DX_y 12 (by kernel_rfl) rfl (y_assign rfl) rfl ?_
            refine DX_nil (by kernel_rfl) ?_
            refine hK11 _ _ ?_
            refine T_region ?_
            refine L_y (y_move rfl) rfl ?_
            refine L_y (y_add rfl rfl (i64w (by omega))) rfl ?_
            refine L_y (y_assign rfl) rfl ?_
            refine L_nil ?_
            have S91 := S16.sel [0, 7] (by decide)
            refine ⟨k + 1, left - szV o.v, _, _, _, by omega, ⟨⟨by omega, by omega, by omega, hrest, by rw [enc_step ho, enc_cp hcp, ← hm]; simp [catP, ByteArray.size], by have := vr_len4 o.fr.toNat (by omega); have := vr_len4 o.n.toNat (by omega); simp [catP]; omega⟩, S91⟩, ?_⟩
            exact (Sub.cons rfl (by first | rfl | exact congrArg (Value.int _) (by omega)) (Sub.cons rfl rfl (Sub.cons rfl rfl (Sub.nil _))))
          ·
            refine o_call Try.func35 rfl rfl (refvar o.fr.toNat w11 (by omega)) rfl rfl ?_
            rintro e17 w17 ⟨v17, rfl, l17, A42, m42, c42, rfl, O17⟩
            refine ⟨_, rfl, ?_⟩
            have S17 := S11.adopt l17 O17
            refine ⟨S17.blk 2 rfl, ?_⟩
            refine DX_o2 1 9 (by kernel_rfl) rfl rfl ?_ ?_
            ·
              refine o_bsl [_] te22 zz5 S17 rfl rfl rfl rfl rfl rfl rfl rfl fun b18 w18 S18 => ?_
              refine ⟨S18.blk 2 rfl, ?_⟩
              refine DX_o1 9 (by kernel_rfl) rfl ?_
              refine o_call Try.func35 rfl rfl (refvar o.n.toNat w18 (by omega)) rfl rfl ?_
              rintro e19 w19 ⟨v19, rfl, l19, A46, m46, c46, rfl, O19⟩
              refine ⟨_, rfl, ?_⟩
              have S19 := S18.adopt l19 O19
              refine ⟨S19.blk 2 rfl, ?_⟩
              refine DX_o1 10 (by kernel_rfl) rfl ?_
              refine o_bsl [_, _, _, _] te96 zz22 S19 rfl rfl rfl rfl rfl rfl rfl rfl fun b20 w20 S20 => ?_
              refine ⟨S20.blk 2 rfl, ?_⟩
              refine DX_o1 11 (by kernel_rfl) rfl ?_
              refine o_call Try.func34 rfl rfl (rjoin _ 4 4 [⟨A1, m.length, c1, m⟩, ⟨_, 1, 1, [1]⟩, ⟨A42, m42, c42, (vr o.fr.toNat)⟩, ⟨A46, m46, c46, (vr o.n.toNat)⟩] w20 (S20.row 6 rfl) (okP.cons (p := ⟨A1, m.length, c1, m⟩) (S20.row 1 rfl) (by show m.length ≤ 100000; omega) (okP.cons (p := ⟨_, 1, 1, [1]⟩) (S20.row 4 rfl) (by show 1 ≤ 100000; omega) (okP.cons (p := ⟨A42, m42, c42, (vr o.fr.toNat)⟩) (S20.row 3 rfl) (by have h9 := (S20.row 3 rfl).lenb; show m42 ≤ 100000; omega) (okP.cons (p := ⟨A46, m46, c46, (vr o.n.toNat)⟩) (S20.row 5 rfl) (by have h9 := (S20.row 5 rfl).lenb; show m46 ≤ 100000; omega) (okP.nil _ _))))) (by omega)) rfl rfl ?_
              rintro e21 w21 ⟨v21, rfl, l21, A48, c48, rfl, O21⟩
              refine ⟨_, rfl, ?_⟩
              have S21 := S20.adopt l21 O21
              refine ⟨S21.blk 2 rfl, ?_⟩
              refine DX_y 12 (by kernel_rfl) rfl (y_assign rfl) rfl ?_
              refine DX_nil (by kernel_rfl) ?_
              refine hK11 _ _ ?_
              refine T_region ?_
              refine L_y (y_move rfl) rfl ?_
              refine L_y (y_add rfl rfl (i64w (by omega))) rfl ?_
              refine L_y (y_assign rfl) rfl ?_
              refine L_nil ?_
              have S91 := S21.sel [0, 7] (by decide)
              refine ⟨k + 1, left - szV o.v, _, _, _, by omega, ⟨⟨by omega, by omega, by omega, hrest, by rw [enc_step ho, enc_cp hcp, ← hm]; simp [catP, ByteArray.size], by have := vr_len4 o.fr.toNat (by omega); have := vr_len4 o.n.toNat (by omega); simp [catP]; omega⟩, S91⟩, ?_⟩
              exact (Sub.cons rfl (by first | rfl | exact congrArg (Value.int _) (by omega)) (Sub.cons rfl rfl (Sub.cons rfl rfl (Sub.nil _))))
            ·
              refine o_call Try.func35 rfl rfl (refvar o.n.toNat w17 (by omega)) rfl rfl ?_
              rintro e22 w22 ⟨v22, rfl, l22, A46, m46, c46, rfl, O22⟩
              refine ⟨_, rfl, ?_⟩
              have S22 := S17.adopt l22 O22
              refine ⟨S22.blk 2 rfl, ?_⟩
              refine DX_o1 1 (by kernel_rfl) rfl ?_
              refine o_bsl [_] te22 zz5 S22 rfl rfl rfl rfl rfl rfl rfl rfl fun b23 w23 S23 => ?_
              refine ⟨S23.blk 2 rfl, ?_⟩
              refine DX_o1 10 (by kernel_rfl) rfl ?_
              refine o_bsl [_, _, _, _] te96 zz22 S23 rfl rfl rfl rfl rfl rfl rfl rfl fun b24 w24 S24 => ?_
              refine ⟨S24.blk 2 rfl, ?_⟩
              refine DX_o1 11 (by kernel_rfl) rfl ?_
              refine o_call Try.func34 rfl rfl (rjoin _ 4 4 [⟨A1, m.length, c1, m⟩, ⟨_, 1, 1, [1]⟩, ⟨A42, m42, c42, (vr o.fr.toNat)⟩, ⟨A46, m46, c46, (vr o.n.toNat)⟩] w24 (S24.row 6 rfl) (okP.cons (p := ⟨A1, m.length, c1, m⟩) (S24.row 1 rfl) (by show m.length ≤ 100000; omega) (okP.cons (p := ⟨_, 1, 1, [1]⟩) (S24.row 5 rfl) (by show 1 ≤ 100000; omega) (okP.cons (p := ⟨A42, m42, c42, (vr o.fr.toNat)⟩) (S24.row 3 rfl) (by have h9 := (S24.row 3 rfl).lenb; show m42 ≤ 100000; omega) (okP.cons (p := ⟨A46, m46, c46, (vr o.n.toNat)⟩) (S24.row 4 rfl) (by have h9 := (S24.row 4 rfl).lenb; show m46 ≤ 100000; omega) (okP.nil _ _))))) (by omega)) rfl rfl ?_
              rintro e25 w25 ⟨v25, rfl, l25, A48, c48, rfl, O25⟩
              refine ⟨_, rfl, ?_⟩
              have S25 := S24.adopt l25 O25
              refine ⟨S25.blk 2 rfl, ?_⟩
              refine DX_y 12 (by kernel_rfl) rfl (y_assign rfl) rfl ?_
              refine DX_nil (by kernel_rfl) ?_
              refine hK11 _ _ ?_
              refine T_region ?_
              refine L_y (y_move rfl) rfl ?_
              refine L_y (y_add rfl rfl (i64w (by omega))) rfl ?_
              refine L_y (y_assign rfl) rfl ?_
              refine L_nil ?_
              have S91 := S25.sel [0, 7] (by decide)
              refine ⟨k + 1, left - szV o.v, _, _, _, by omega, ⟨⟨by omega, by omega, by omega, hrest, by rw [enc_step ho, enc_cp hcp, ← hm]; simp [catP, ByteArray.size], by have := vr_len4 o.fr.toNat (by omega); have := vr_len4 o.n.toNat (by omega); simp [catP]; omega⟩, S91⟩, ?_⟩
              exact (Sub.cons rfl (by first | rfl | exact congrArg (Value.int _) (by omega)) (Sub.cons rfl rfl (Sub.cons rfl rfl (Sub.nil _))))
        ·
          have hcp : o.cp = false := h36
          obtain ⟨g1, g2⟩ := rt_new hrt hcp
          have v3 := vr_len4 o.p.l.length (by omega)
          refine T_region ?_
          refine L_y (y_move rfl) rfl ?_
          refine L_o (o_bsl [_] te22 zz5 S10 rfl rfl rfl rfl rfl rfl rfl rfl fun b26 w26 S26 => ?_)
          refine L_y (y_fieldA 3 Try.underlying58 rfl sz22 rfl rfl rfl) rfl ?_
          refine L_y (y_ldc Try.underlying22 rfl rfl (((S26.blk 2 rfl).cell _).trans (by rfl))) rfl ?_
          refine L_y (y_bstr Try.underlying22 Try.underlying5 Try.underlying9 rfl (S26.rd hop)) rfl ?_
          refine L_o (o_call Try.func36 rfl rfl (reftext ⟨o.p.l.toArray⟩ w26 (by simp [ByteArray.size]; omega)) rfl rfl ?_)
          rintro e27 w27 ⟨v27, rfl, l27, A54, m54, c54, rfl, O27⟩
          refine ⟨_, rfl, ?_⟩
          have S27 := S26.adopt l27 O27
          refine L_o (o_bsl [_, _, _] te96 zz22 S27 rfl rfl rfl rfl rfl rfl rfl rfl fun b28 w28 S28 => ?_)
          refine L_o (o_call Try.func34 rfl rfl (rjoin _ 3 3 [⟨A1, m.length, c1, m⟩, ⟨_, 1, 1, [0]⟩, ⟨A54, m54, c54, (vr (ByteArray.size ⟨o.p.l.toArray⟩) ++ (⟨o.p.l.toArray⟩ : ByteArray).data.toList)⟩] w28 (S28.row 5 rfl) (okP.cons (p := ⟨A1, m.length, c1, m⟩) (S28.row 1 rfl) (by show m.length ≤ 100000; omega) (okP.cons (p := ⟨_, 1, 1, [0]⟩) (S28.row 3 rfl) (by show 1 ≤ 100000; omega) (okP.cons (p := ⟨A54, m54, c54, (vr (ByteArray.size ⟨o.p.l.toArray⟩) ++ (⟨o.p.l.toArray⟩ : ByteArray).data.toList)⟩) (S28.row 4 rfl) (by have h9 := (S28.row 4 rfl).lenb; simp [ByteArray.size] at h9; show m54 ≤ 100000; omega) (okP.nil _ _)))) (by omega)) rfl rfl ?_)
          rintro e29 w29 ⟨v29, rfl, l29, A56, c56, rfl, O29⟩
          refine ⟨_, rfl, ?_⟩
          have S29 := S28.adopt l29 O29
          refine L_y (y_assign rfl) rfl ?_
          refine L_nil ?_
          refine hK11 _ _ ?_
          refine T_region ?_
          refine L_y (y_move rfl) rfl ?_
          refine L_y (y_add rfl rfl (i64w (by omega))) rfl ?_
          refine L_y (y_assign rfl) rfl ?_
          refine L_nil ?_
          have S91 := S29.sel [0, 6] (by decide)
          refine ⟨k + 1, left - szV o.v, _, _, _, by omega, ⟨⟨by omega, by omega, by omega, hrest, by rw [enc_step ho, enc_new hcp, ← hm]; simp [catP, ByteArray.size], by have := vr_len4 o.p.l.length (by omega); simp [catP, ByteArray.size]; omega⟩, S91⟩, ?_⟩
          exact (Sub.cons rfl (by first | rfl | exact congrArg (Value.int _) (by omega)) (Sub.cons rfl rfl (Sub.cons rfl rfl (Sub.nil _))))
      ·
        refine T_exit ?_
        refine hK7 _ _ ?_
        refine T_seq fun K14 hK14 => ?_
        refine T_region ?_
        refine L_y (y_move rfl) rfl ?_
        refine L_y (y_assign rfl) rfl ?_
        refine L_y (y_assign rfl) rfl ?_
        refine L_nil ?_
        refine hK14 _ _ ?_
        refine T_ret ?_
        repeat (first | with_reducible refine up_then ?_ | with_reducible refine up_in ?_)
        refine ret2 rfl rfl rfl ?_
        first | exact ⟨_, rfl, S8.like0, none, 0, by rw [put_err h11]; rfl, by rw [put_err h11]; exact World.ownsRow_nil _ _ _ _⟩ | (have hke : k = n := by omega); subst hke; rw [List.take_of_length_le (by omega)] at hm; subst hm; exact ⟨_, rfl, S8.like0, _, _, by rw [put_ok h110], by rw [put_ok h110]; exact S8.own 1 rfl⟩
end Go.Proofs.Ytpcgldkllnkaeaa

/-
  The law DeltaPuts.
-/
namespace Go.Proofs.Ytpcgldkllnkaeaa
open Go.RowKit Zk Zx
set_option linter.unusedVariables false
set_option linter.unusedSimpArgs false

set_option maxRecDepth 100000 in
theorem lputs (A : Option Addr) (n c : Nat) (l : List OP) (b t : Int) (w0 : World) (hl : Rs w0 4 A n c (l.flatMap opf)) (hok : OkO w0 l) :
    Calls Try.prog 5 #[.agg (scA b t A n c)] w0 fun e w' => ∃ u, e = .returned u ∧ Like w0 w' ∧ u = .bool true := by
  refine enter1 (env := [(0, .agg (scA b t A n c))]) [.agg (scA b t A n c)] Try.func5 rfl Try.ntmps5 rfl rfl ?_
  have hn := ops_n hl; have hcap := hl.cap; have hmax := hl.max; have S0 := St.start w0 noM
  refine T_seq fun K1 hK1 => ?_
  refine T_region ?_
  refine L_o (o_box rfl S0 rfl fun b1 w1 hb1 S1 => ?_)
  refine L_y (y_assign rfl) rfl ?_
  refine L_nil ?_
  refine hK1 _ _ ?_
  refine T_seq fun K2 hK2 => ?_
  refine T_seq fun K3 hK3 => ?_
  refine T_region ?_
  refine L_y (y_fieldA 2 Try.underlying25 rfl sz23 rfl rfl rfl) rfl ?_
  refine L_y (y_ldc Try.underlying23 rfl rfl (((S1.blk 0 rfl).cell _).trans (by rfl))) rfl ?_
  refine L_y (y_len Try.underlying23 rfl) rfl ?_
  refine L_y (y_gtr rfl rfl) rfl ?_
  refine L_nil ?_
  refine hK3 _ _ ?_
  refine T_cond rfl (fun h10 => ?_) (fun h10 => ?_)
  ·
    refine T_seq fun K4 hK4 => ?_
    refine T_region ?_
    refine L_o (o_call Try.func9 rfl rfl (works w1) rfl rfl ?_)
    rintro e2 w2 ⟨v2, rfl, l2, rfl⟩
    refine ⟨_, rfl, ?_⟩
    have S2 := S1.like l2
    refine L_y (y_assign rfl) rfl ?_
    refine L_nil ?_
    refine hK4 _ _ ?_
    refine T_ret ?_
    repeat (first | with_reducible refine up_then ?_ | with_reducible refine up_in ?_)
    refine ret1 rfl rfl ?_
    exact ⟨_, rfl, S2.like0, rfl⟩
  ·
    refine T_skip ?_
    refine hK2 _ _ ?_
    refine T_seq fun K5 hK5 => ?_
    refine T_region ?_
    refine L_y (y_ldW Try.underlying25 rfl sz25 rfl (S1.blk 0 rfl) (show _ = (scA b t A n c).toList ∧ _ from ⟨rfl, rfl⟩)) rfl ?_
    refine L_o (o_call Try.func18 rfl rfl (pput A n c l b t w1 (S1.rd hl) (hok.like S1.like0) (by omega)) rfl rfl ?_)
    rintro e3 w3 ⟨v3, rfl, l3, A14, c14, rfl, O3⟩
    refine ⟨_, rfl, ?_⟩
    have S3 := S1.adopt l3 O3
    refine L_y (y_move rfl) rfl ?_
    refine L_y (y_extract rfl rfl) rfl ?_
    refine L_y (y_extract rfl rfl) rfl ?_
    refine L_y (y_assign rfl) rfl ?_
    refine L_y (y_assign rfl) rfl ?_
    refine L_nil ?_
    refine hK5 _ _ ?_
    refine T_seq fun K6 hK6 => ?_
    refine T_region ?_
    refine L_y (y_ldW Try.underlying25 rfl sz25 rfl (S3.blk 0 rfl) (show _ = (scA b t A n c).toList ∧ _ from ⟨rfl, rfl⟩)) rfl ?_
    refine L_o (o_call Try.func11 rfl rfl (plain A n c l b t w3 (S3.rd hl) (hok.like S3.like0) (by omega)) rfl rfl ?_)
    rintro e4 w4 ⟨v4, rfl, l4, A19, c19, rfl, O4⟩
    refine ⟨_, rfl, ?_⟩
    have S4 := S3.adopt l4 O4
    refine L_o (o_call Try.func19 rfl rfl (rput A19 n c19 l b t w4 (S4.row 2 rfl) (hok.like S4.like0) (by omega)) rfl rfl ?_)
    rintro e5 w5 ⟨v5, rfl, l5, A20, c20, rfl, O5⟩
    refine ⟨_, rfl, ?_⟩
    have S5 := S4.adopt l5 O5
    refine L_y (y_move rfl) rfl ?_
    refine L_y (y_extract rfl rfl) rfl ?_
    refine L_y (y_extract rfl rfl) rfl ?_
    refine L_y (y_assign rfl) rfl ?_
    refine L_y (y_assign rfl) rfl ?_
    refine L_nil ?_
    refine hK6 _ _ ?_
    refine T_seq fun K7 hK7 => ?_
    refine T_drawnL [(0, true), (1, true), (2, false), (3, true), (4, true), (5, true), (6, true), (7, true), (8, true), (9, true), (11, true), (10, false), (12, false), (13, false), (14, true), (15, true), (16, true), (17, false), (18, true), (19, true)] hmix (by kernel_rfl) fun w6 l6 => ?_
    have S6 := S5.like l6
    refine DL_y rfl (y_move rfl) rfl ?_
    refine DL_y rfl (y_move rfl) rfl ?_
    refine DL_o rfl (o_call Try.func14 rfl rfl (same1T A14 A20 (putR b t (l.map OP.v)).1.length c14 (putR b t (l.map OP.v)).1.length c20 (putR b t (l.map OP.v)).1 w6 (S6.row 1 rfl) (S6.row 3 rfl)) rfl rfl ?_)
    rintro e7 w7 ⟨v7, rfl, l7, rfl⟩
    refine ⟨_, rfl, l7, ?_⟩
    have S7 := S6.like l7
    have q7 := l7
    refine DL_y rfl (y_move rfl) rfl ?_
    refine DL_splitB 26 rfl (fun h26 => ?_) (fun h26 => ?_)
    ·
      refine DL_gyes rfl rfl rfl (y_move rfl) rfl ?_
      refine DL_gyes rfl rfl rfl (y_move rfl) rfl ?_
      refine DL_gyes rfl rfl rfl (y_eql rfl rfl) rfl ?_
      refine DL_y rfl ((by first | exact y_pickT rfl rfl | exact y_pickF rfl rfl)) rfl ?_
      refine DL_y rfl (y_move rfl) rfl ?_
      refine DL_split 31 rfl (fun h31 => ?_) (fun h31 => ?_)
      ·
        refine DL_gyes rfl rfl rfl (y_ldW Try.underlying25 rfl sz25 rfl (S6.blk 0 rfl) (show _ = (scA b t A n c).toList ∧ _ from ⟨rfl, rfl⟩)) rfl ?_
        refine DL_gyes rfl rfl rfl (y_ldW Try.underlying25 rfl sz25 rfl (S6.blk 0 rfl) (show _ = (scA b t A n c).toList ∧ _ from ⟨rfl, rfl⟩)) rfl ?_
        refine DL_ogyes rfl rfl rfl (o_call Try.func20 rfl rfl (pcheck A n c l b t w7 (S7.rd hl) (hok.like S7.like0)) rfl rfl ?_)
        rintro e8 w8 ⟨v8, rfl, l8, rfl⟩
        refine ⟨_, rfl, (Like.trans q7 l8), ?_⟩
        have S8 := S7.like l8
        have q8 := (Like.trans q7 l8)
        refine DL_ogyes rfl rfl rfl (o_call Try.func11 rfl rfl (plain A n c l b t w8 (S8.rd hl) (hok.like S8.like0) (by omega)) rfl rfl ?_)
        rintro e9 w9 ⟨v9, rfl, l9, A35, c35, rfl, O9⟩
        refine ⟨_, rfl, (Like.trans q8 l9), ?_⟩
        have S9 := S8.adopt l9 O9
        have q9 := (Like.trans q8 l9)
        refine DL_ogyes rfl rfl rfl (o_call Try.func21 rfl rfl (rcheck A35 n c35 l b t w9 (S9.row 4 rfl) (hok.like S9.like0)) rfl rfl ?_)
        rintro e10 w10 ⟨v10, rfl, l10, rfl⟩
        refine ⟨_, rfl, (Like.trans q9 l10), ?_⟩
        have S10 := S9.like l10
        have q10 := (Like.trans q9 l10)
        refine DL_gyes rfl rfl rfl (y_eql rfl rfl) rfl ?_
        refine DL_y rfl ((by first | exact y_pickT rfl rfl | exact y_pickF rfl rfl)) rfl ?_
        refine DL_y rfl (y_move rfl) rfl ?_
        refine DL_split 39 rfl (fun h39 => ?_) (fun h39 => ?_)
        ·
          refine DL_ogyes rfl rfl rfl (o_call Try.func9 rfl rfl (works w10) rfl rfl ?_)
          rintro e11 w11 ⟨v11, rfl, l11, rfl⟩
          refine ⟨_, rfl, (Like.trans q10 l11), ?_⟩
          have S11 := S10.like l11
          have q11 := (Like.trans q10 l11)
          refine DL_y rfl ((by first | exact y_pickT rfl rfl | exact y_pickF rfl rfl)) rfl ?_
          refine DL_y rfl (y_assign rfl) rfl ?_
          refine DL_nil ?_
          refine hK7 _ _ ?_
          refine T_ret ?_
          repeat (first | with_reducible refine up_then ?_ | with_reducible refine up_in ?_)
          refine ret1 rfl rfl ?_
          exact ⟨_, rfl, S11.like0, rfl⟩
        ·
          exact absurd rfl h39
      ·
        exact absurd rfl h31
    ·
      cases h26


theorem puts_law (A : Option Addr) (n c : Nat) (l : List OP) (b t : Int) (w0 : World) (hl : Rs w0 4 A n c (l.flatMap opf)) (hok : OkO w0 l) :
    Calls Try.prog 5 #[.agg (scA b t A n c)] w0 fun e w' => e = .returned (.bool true) ∧ Below w0.heap.size w0 w' :=
  (lputs A n c l b t w0 hl hok).mono fun e w' ⟨u, h1, h2, h3⟩ => by subst h3; exact ⟨h1, h2⟩
end Go.Proofs.Ytpcgldkllnkaeaa
