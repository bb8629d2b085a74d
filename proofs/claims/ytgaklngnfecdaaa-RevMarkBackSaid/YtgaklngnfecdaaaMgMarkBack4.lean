import Derived.Test.YtgaklngnfecdaaaMgMarkBack3
import Derived.Test.YtgaklngnfecdaaaMgMarkBack2

/-
  A commit's bytes and back: plain laws.
-/
namespace Go.Proofs.Ytgaklngnfecdaaa.Rev
open Go.RowKit Zk Zx
open Oid (idf hexL idf_len readR read_hex hex_read)
open Tre (nmOk)
set_option linter.unusedVariables false
set_option linter.unusedSimpArgs false

/-! ### numbers -/
theorem getD_left (a b : List UInt8) (h : 0 < a.length) : (a ++ b).getD 0 0 = a.getD 0 0 := by
  cases a with
  | nil => cases h
  | cons x r => rfl
theorem numV_dg0 : ∀ (k n : Nat), n ≤ k → numV (dg0 n) = n
  | 0, n, h => by
    obtain rfl : n = 0 := by omega
    rw [dg0_zero]
    rfl
  | k + 1, n, h => by
    by_cases h0 : n = 0
    · rw [h0, dg0_zero]; rfl
    · rw [dg0_step n (by omega), numV_snoc, numV_dg0 k (n / 10) (by omega), dig_nat]
      omega
theorem numV_dgt (n : Nat) : numV (dgt n) = n := by
  rw [dgt_eq, numV_snoc, numV_dg0 _ (n / 10) (Nat.le_refl _), dig_nat]
  omega
theorem isD_dig (n : Nat) : isD (dig n) = true := by
  unfold isD
  rw [dig_nat, decide_eq_true (by omega), decide_eq_true (by omega)]
  rfl
theorem all_dg0 : ∀ (k n : Nat), n ≤ k → (dg0 n).all isD = true
  | 0, n, h => by
    obtain rfl : n = 0 := by omega
    rw [dg0_zero]
    rfl
  | k + 1, n, h => by
    by_cases h0 : n = 0
    · rw [h0, dg0_zero]; rfl
    · rw [dg0_step n (by omega), List.all_append, all_dg0 k (n / 10) (by omega)]
      simp [isD_dig]
theorem all_dgt (n : Nat) : (dgt n).all isD = true := by
  rw [dgt_eq, List.all_append, all_dg0 _ (n / 10) (Nat.le_refl _)]
  simp [isD_dig]
theorem dg0_first : ∀ (k n : Nat), n ≤ k → 0 < n → (dg0 n).getD 0 0 ≠ 48
  | 0, n, h, h0 => by omega
  | k + 1, n, h, h0 => by
    rw [dg0_step n h0]
    by_cases h1 : n / 10 = 0
    · rw [h1, dg0_zero]
      show dig n ≠ 48
      intro e
      have := congrArg UInt8.toNat e
      rw [dig_nat] at this
      have h48 : (48 : UInt8).toNat = 48 := rfl
      omega
    · have ih := dg0_first k (n / 10) (by omega) (by omega)
      have hl : 0 < (dg0 (n / 10)).length := by
        rw [dg0_step (n / 10) (by omega), List.length_append]
        simp
      rwa [getD_left _ _ hl]
theorem dgt_pos0 {n : Nat} (h : 0 < n) : dgt n = dg0 n := by rw [dg0, if_neg (by omega)]
theorem numOk_dgt {n : Nat} (h : n < 10 ^ 15) : numOk (dgt n) = true := by
  unfold numOk
  rw [all_dgt, Bool.and_true, decide_eq_true_eq]
  refine ⟨dgt_pos n, dgt_len 14 n h, fun h2 => ?_⟩
  by_cases h0 : n = 0
  · have := dgt_len 0 n (by omega)
    omega
  · rw [dgt_pos0 (by omega)] at h2
    exact dg0_first _ n (Nat.le_refl _) (by omega) h2.1
theorem dig_of {c : UInt8} {m : Nat} (h : isD c = true) : dig (m * 10 + (c.toNat - 48)) = c := by
  have := isD_lo h
  apply UInt8.toNat_inj.1
  rw [dig_nat]
  omega
theorem dg0_numV : ∀ (k : Nat) (a : List UInt8), a.length = k → a.all isD = true → a.getD 0 0 ≠ 48 → dg0 (numV a) = a
  | 0, a, h, _, _ => by
    obtain rfl := List.eq_nil_of_length_eq_zero h
    exact dg0_zero
  | k + 1, a, h, hd, h0 => by
    have hne : a ≠ [] := fun e => by rw [e] at h; cases h
    obtain ⟨b, c, rfl⟩ : ∃ b c, a = b ++ [c] := ⟨a.dropLast, a.getLast hne, (List.dropLast_concat_getLast hne).symm⟩
    rw [List.all_append] at hd
    simp only [Bool.and_eq_true] at hd
    have hc : isD c = true := by simpa using hd.2
    have hl : b.length = k := by simpa using h
    have hlo := isD_lo hc
    rw [numV_snoc]
    cases hb : b with
    | nil =>
      rw [hb] at h0
      have h1 : c ≠ 48 := h0
      have h2 : c.toNat ≠ 48 := fun e => h1 (UInt8.toNat_inj.1 e)
      show dg0 (0 * 10 + (c.toNat - 48)) = [c]
      rw [dg0_step _ (by omega), show (0 * 10 + (c.toNat - 48)) / 10 = 0 by omega, dg0_zero, dig_of hc]
      rfl
    | cons x r =>
      have hbl : 0 < b.length := by rw [hb]; simp
      rw [getD_left _ _ hbl] at h0
      have ih := dg0_numV k b hl hd.1 h0
      rw [← hb]
      have hp : 0 < numV b := Nat.pos_of_ne_zero fun e => by
        rw [e, dg0_zero] at ih
        rw [← ih] at hbl
        cases hbl
      rw [dg0_step _ (by omega), show (numV b * 10 + (c.toNat - 48)) / 10 = numV b by omega, ih, dig_of hc]
theorem dgt_numV {a : List UInt8} (h : numOk a = true) : dgt (numV a) = a := by
  unfold numOk at h
  rw [Bool.and_eq_true, decide_eq_true_eq] at h
  obtain ⟨⟨h1, h2, h3⟩, h4⟩ := h
  by_cases h0 : a.getD 0 0 = 48
  · have hl : a.length = 1 := by
      have : ¬ 1 < a.length := fun e => h3 ⟨h0, e⟩
      omega
    obtain ⟨c, rfl⟩ := List.length_eq_one_iff.1 hl
    have hc : c = 48 := h0
    subst hc
    show dgt 0 = [48]
    rw [dgt_eq, show 0 / 10 = 0 from rfl, dg0_zero]
    rfl
  · have ih := dg0_numV _ a rfl h4 h0
    have hp : 0 < numV a := Nat.pos_of_ne_zero fun e => by
      rw [e, dg0_zero] at ih
      rw [← ih] at h1
      simp at h1
    rw [dgt_pos0 hp, ih]
theorem no10 {a : List UInt8} (h : a.all isD = true) : (10 : UInt8) ∉ a := fun hm => by
  rw [List.all_eq_true] at h
  have := h 10 hm
  revert this
  decide
/-! ### lines -/
theorem lineR_of {w a r : List UInt8} (hw : (10 : UInt8) ∉ w) (ha : (10 : UInt8) ∉ a) : lineR w (lineL w a ++ r) = some (a, r) := by
  have e : lineL w a ++ r = (w ++ [32] ++ a) ++ 10 :: r := by simp [lineL]
  rw [e]
  have hc := cutF_of (c := 10) (a := w ++ [32] ++ a) (b := r) (by simp [hw, ha])
  have hp : preP ((w ++ [32] ++ a) ++ 10 :: r) (w ++ [32]) := by
    unfold preP
    rw [List.append_assoc (w ++ [32]), List.take_left']
    rfl
  rw [lineR_yes hc ⟨hp, by simp⟩]
  congr 2
  rw [show w.length + 1 = (w ++ [32]).length by simp, List.drop_left]
theorem lineR_is {w s a b : List UInt8} (h : lineR w s = some (a, b)) : s = lineL w a ++ b := by
  unfold lineR at h
  split at h
  · cases h
  · rename_i a' b' hc
    split at h
    · rename_i hp
      cases h
      obtain ⟨h1, _⟩ := cutF_some hc
      have h2 : s.take (w ++ [32]).length = w ++ [32] := hp.1
      rw [h1, List.take_append_of_le_length (by rw [List.length_append]; simp; omega)] at h2
      have h3 : a' = (w ++ [32]) ++ a'.drop (w.length + 1) := by
        conv => lhs; rw [← List.take_append_drop (w ++ [32]).length a', h2]
        simp
      rw [h1]
      conv => lhs; rw [h3]
      simp [lineL]
    · cases h
theorem hex_no (z : List UInt8) : (10 : UInt8) ∉ hexL z := fun hm => by
  have := List.all_eq_true.1 (Oid.okS_hexL z) 10 hm
  revert this
  decide
theorem idR_of {w r : List UInt8} (p : Oid.Id) (hw : (10 : UInt8) ∉ w) : idR w (lineL w (hexL p.l) ++ r) = some (p, r) := by
  unfold idR
  rw [lineR_of hw (hex_no _)]
  have h := read_hex p.l p.h
  simp only [h, if_pos]
theorem idR_is {w s b : List UInt8} {p : Oid.Id} (h : idR w s = some (p, b)) : s = lineL w (hexL p.l) ++ b := by
  unfold idR at h
  split at h
  · cases h
  · rename_i a b' hl
    split at h
    · rename_i h0
      cases h
      rw [lineR_is hl]
      show _ = lineL w (hexL (readR a).1) ++ _
      rw [hex_read a h0]
    · cases h
theorem numbR_of {w r : List UInt8} {n : Nat} (hw : (10 : UInt8) ∉ w) (hn : n < 10 ^ 15) : numbR w (lineL w (dgt n) ++ r) = some (n, r) := by
  unfold numbR
  rw [lineR_of hw (no10 (all_dgt n))]
  simp [numOk_dgt hn, numV_dgt]
theorem numbR_is {w s b : List UInt8} {n : Nat} (h : numbR w s = some (n, b)) : s = lineL w (dgt n) ++ b := by
  unfold numbR at h
  split at h
  · cases h
  · rename_i a b' hl
    split at h
    · rename_i h0
      cases h
      rw [lineR_is hl, dgt_numV h0]
    · cases h
theorem textR_is {s t : List UInt8} (h : textR s = some t) : s = 10 :: t := by
  unfold textR at h
  split at h
  · rename_i hp
    cases h
    cases s with
    | nil => cases hp
    | cons x r =>
      have hx : [x] = [(10 : UInt8)] := hp
      cases hx
      rfl
  · cases h
theorem textR_of (t : List UInt8) : textR (10 :: t) = some t := by
  unfold textR
  rw [if_pos (show preP (10 :: t) [10] from rfl)]
  rfl
theorem parsR_of {r : List UInt8} (hr : ¬ preP r (wParent ++ [32])) : ∀ (ps : List Oid.Id) (m : Nat), ps.length ≤ m → parsR m (parL ps ++ r) = some (ps, r)
  | [], m, _ => parsR_end hr
  | p :: ps, 0, h => absurd h (by simp)
  | p :: ps, m + 1, h => by
    have e : parL (p :: ps) ++ r = lineL wParent (hexL p.l) ++ (parL ps ++ r) := by simp [parL]
    rw [e, parsR_step (b := parL ps ++ r) (p := p) ?_ (idR_of p (by decide)), parsR_of hr ps m (by simpa using h)]
    · rfl
    · unfold preP
      rw [lineL, List.append_assoc, List.append_assoc]
      exact List.take_left' rfl
theorem parsR_is : ∀ (m : Nat) {s b : List UInt8} {ps : List Oid.Id}, parsR m s = some (ps, b) → s = parL ps ++ b
  | 0, s, b, ps, h => by cases h; rfl
  | m + 1, s, b, ps, h => by
    rw [parsR] at h
    split at h
    · split at h
      · cases h
      · rename_i p b' hi
        cases hp : parsR m b' with
        | none => rw [hp] at h; cases h
        | some q =>
          rw [hp] at h
          cases h
          rw [idR_is hi, parsR_is m (ps := q.1) (b := q.2) hp]
          simp [parL]
    · cases h; rfl
theorem getR_is {s : List UInt8} {y : CmL} (h : getR s = some y) : revB (cmO y) = s := by
  unfold getR at h
  cases h1 : idR wTree s with
  | none => rw [h1] at h; cases h
  | some t =>
    cases h2 : parsR (s.length + 1) t.2 with
    | none => rw [h1] at h; simp [h2] at h
    | some p =>
      cases h3 : lineR wAuthor p.2 with
      | none => rw [h1] at h; simp [h2, h3] at h
      | some a =>
        cases h4 : numbR wTime a.2 with
        | none => rw [h1] at h; simp [h2, h3, h4] at h
        | some n =>
          cases h5 : textR n.2 with
          | none => rw [h1] at h; simp [h2, h3, h4, h5] at h
          | some x =>
            rw [h1] at h
            simp [h2, h3, h4, h5] at h
            subst h
            rw [idR_is (p := t.1) (b := t.2) h1]
            conv => rhs; rw [parsR_is _ (ps := p.1) (b := p.2) h2, lineR_is (a := a.1) (b := a.2) h3, numbR_is (n := n.1) (b := n.2) h4, textR_is h5]
            simp [revB, cmO, cmOf, digS_nat]
theorem aut_no (r a : List UInt8) : ¬ preP (lineL wAuthor a ++ r) (wParent ++ [32]) := fun h => by
  have h2 : (lineL wAuthor a ++ r).take 7 = wParent ++ [32] := h
  have h3 := congrArg List.head? h2
  simp [lineL, wAuthor, wParent] at h3
theorem nm_no {s : ByteArray} (h : nmOk s = true) : (10 : UInt8) ∉ s.data.toList := fun hm => by
  unfold nmOk at h
  simp only [Bool.and_eq_true, decide_eq_true_eq] at h
  have hs : Tre.seenP s := h.2.2.1
  obtain ⟨k, hk, he⟩ := List.getElem_of_mem hm
  have := hs k (by simpa using hk)
  have e : g8 s.data.toList k = ((s.data.toList[k]).toNat : Int) := by unfold g8; rw [List.getD_eq_getElem?_getD, List.getElem?_eq_getElem hk]; rfl
  rw [e, he] at this
  have h10 : (10 : UInt8).toNat = 10 := rfl
  omega
theorem getR_of {x : Cm} (hn : x.n = x.ps.length) (h : chk x = 0) : getR (revB x) = some ⟨x.tr, x.ps, x.au.data.toList, x.tm.toNat, x.tx.data.toList⟩ := by
  obtain ⟨c1, c2, c3, c4, c5, c6⟩ := chk_ok h
  have ha : (10 : UInt8) ∉ x.au.data.toList := nm_no c4
  have hd : digS x.tm = dgt x.tm.toNat := by rw [digS, if_neg (by omega)]
  have e : revB x = lineL wTree (hexL x.tr.l) ++ (parL x.ps ++ (lineL wAuthor x.au.data.toList ++ (lineL wTime (dgt x.tm.toNat) ++ (10 :: x.tx.data.toList)))) := by
    unfold revB
    rw [hd]
    simp
  rw [e]
  exact g6 (idR_of x.tr (by decide)) (parsR_of (aut_no _ _) x.ps _ (by
    rw [List.length_append, List.length_append, parL_len]; omega)) (lineR_of (by decide) ha) (numbR_of (by decide) (by omega)) (textR_of _)
end Go.Proofs.Ytgaklngnfecdaaa.Rev


/-
  The law RevBack.
-/
namespace Go.Proofs.Ytgaklngnfecdaaa.Rev
open Go.RowKit Zk Zx
open Oid (idf hexL idf_len readR)
open Tre (nmOk)
set_option linter.unusedVariables false
set_option linter.unusedSimpArgs false

theorem sameB_refl (x : Cm) : sameB x x = true := by simp [sameB]
theorem revB_len {x : Cm} (hn : x.n = x.ps.length) (h : chk x = 0) : (revB x).length ≤ 2000 := by
  obtain ⟨c1, c2, c3, c4, c5, c6⟩ := chk_ok h
  have h1 := nm_len c4
  have h2 : (digS x.tm).length ≤ 19 := digS_len (by omega)
  have h3 : x.tx.data.toList.length = x.tx.size := by simp
  unfold revB
  simp only [List.length_append, lineL_len, hexI_len, parL_len, List.length_cons, List.length_nil]
  have w1 : wTree.length = 4 := rfl
  have w2 : wAuthor.length = 6 := rfl
  have w3 : wTime.length = 4 := rfl
  omega
theorem back1 {x : Cm} (hn : x.n = x.ps.length) (h : chk x = 0) : gcode (revB x) = 0 ∧ ∀ A c, sameB (cmOf (gval (revB x)) A (gval (revB x)).ps.length c) x = true := by
  have hg := getR_of hn h
  obtain ⟨c1, c2, c3, c4, c5, c6⟩ := chk_ok h
  have hgo := go_some hg
  have e : chk (cmO ⟨x.tr, x.ps, x.au.data.toList, x.tm.toNat, x.tx.data.toList⟩) = chk x := by
    unfold cmO cmOf chk
    simp only [Int.toNat_of_nonneg c5, hn]
  rw [e, h] at hgo
  refine ⟨hgo.1, fun A c => ?_⟩
  have hv := hgo.2.trans (if_pos rfl)
  rw [hv]
  simp [sameB, cmOf, Int.toNat_of_nonneg c5]
theorem back2 {s : List UInt8} (h : gcode s = 0) : chk (cmO (gval s)) = 0 ∧ revB (cmO (gval s)) = s := by
  unfold gcode at h
  unfold gval
  cases e : getR s with
  | none => rw [e] at h; cases h
  | some y =>
    rw [e] at h
    have h2 : chk (cmO y) = 0 := h
    show chk (cmO (if chk (cmO y) = 0 then y else zL)) = 0 ∧ revB (cmO (if chk (cmO y) = 0 then y else zL)) = s
    rw [if_pos h2]
    exact ⟨h2, getR_is e⟩


set_option maxRecDepth 100000 in
theorem back (x y : Cm) (B : Option Addr) (m d : Nat) (s : List UInt8) (w0 : World) (hx : Rs w0 32 x.A x.n x.c (x.ps.flatMap idf)) (hy : Rs w0 32 y.A y.n y.c (y.ps.flatMap idf)) (hb : Rs w0 1 B m d (bL s)) :
    Calls Try.prog 8 #[.agg (cmf x).toArray, .agg (cmf y).toArray, .slice B m d] w0 fun e w' => ∃ u, e = .returned u ∧ Like w0 w' ∧ u = .bool true := by
  refine enter1 (env := [(0, .agg (cmf x).toArray), (1, .agg (cmf y).toArray), (2, .slice B m d)]) [.agg (cmf x).toArray, .agg (cmf y).toArray, .slice B m d] Try.func8 rfl Try.ntmps8 rfl rfl ?_
  have hxn := Oid.ids_n hx; have hm := hb.lenb; have hcap := hb.cap; have hmax := hb.max
  have S0 := St.start w0 noM
  refine T_seq fun K1 hK1 => ?_
  refine T_region ?_
  refine L_o (o_box rfl S0 rfl fun b1 w1 hb1 S1 => ?_)
  refine L_o (o_box rfl S1 rfl fun b2 w2 hb2 S2 => ?_)
  refine L_y (y_assign rfl) rfl ?_
  refine L_nil ?_
  refine hK1 _ _ ?_
  refine T_seq fun K2 hK2 => ?_
  refine T_seq fun K3 hK3 => ?_
  refine T_region ?_
  refine L_y (y_move rfl) rfl ?_
  refine L_y (y_len Try.underlying27 rfl) rfl ?_
  refine L_y (y_gtr rfl rfl) rfl ?_
  refine L_nil ?_
  refine hK3 _ _ ?_
  refine T_cond rfl (fun h17 => ?_) (fun h17 => ?_)
  ·
    refine T_seq fun K4 hK4 => ?_
    refine T_region ?_
    refine L_o (o_call Try.func23 rfl rfl (works w2) rfl rfl ?_)
    rintro e3 w3 ⟨v3, rfl, l3, rfl⟩
    refine ⟨_, rfl, ?_⟩
    have S3 := S2.like l3
    refine L_y (y_assign rfl) rfl ?_
    refine L_nil ?_
    refine hK4 _ _ ?_
    refine T_ret ?_
    repeat (first | with_reducible refine up_then ?_ | with_reducible refine up_in ?_)
    refine ret1 rfl rfl ?_
    exact ⟨_, rfl, S3.like0, rfl⟩
  ·
    refine T_skip ?_
    refine hK2 _ _ ?_
    refine T_seq fun K5 hK5 => ?_
    refine T_region ?_
    refine L_y (y_ldW Try.underlying26 rfl sz26 rfl (S2.blk 0 rfl) (cm_whole x)) rfl ?_
    refine L_o (o_call Try.func14 rfl rfl (put x w2 (S2.rd hx)) rfl rfl ?_)
    rintro e4 w4 ⟨v4, rfl, l4, B1, m1, d1, l1, e1, rfl, rfl, hl1, hf4⟩
    refine ⟨_, rfl, ?_⟩
    have S4 := S2.adoptF l4 hf4
    refine L_y (y_move rfl) rfl ?_
    refine L_y (y_extract rfl rfl) rfl ?_
    refine L_y (y_extract rfl rfl) rfl ?_
    refine L_y (y_assign rfl) rfl ?_
    refine L_y (y_assign rfl) rfl ?_
    refine L_nil ?_
    refine hK5 _ _ ?_
    refine T_seq fun K6 hK6 => ?_
    refine T_seq fun K7 hK7 => ?_
    refine T_region ?_
    refine L_y (y_move rfl) rfl ?_
    refine L_y (y_eql rfl rfl) rfl ?_
    refine L_nil ?_
    refine hK7 _ _ ?_
    refine T_cond rfl (fun h25 => ?_) (fun h25 => ?_)
    ·
      rw [if_pos h25] at hl1
      subst hl1
      have hgo := back1 hxn h25
      refine T_seq fun K8 hK8 => ?_
      refine T_region ?_
      refine L_y (y_move rfl) rfl ?_
      refine L_o (o_call Try.func35 rfl rfl (get _ _ _ (revB x) w4 (S4.fix 2 rfl) (revB_len hxn h25)) rfl rfl ?_)
      rintro e5 w5 ⟨v5, rfl, l5, A1, c1, hf5, rfl⟩
      refine ⟨_, rfl, ?_⟩
      have S5 := S4.adoptF l5 hf5
      refine L_y (y_move rfl) rfl ?_
      refine L_y (y_extract rfl rfl) rfl ?_
      refine L_y (y_extract rfl rfl) rfl ?_
      refine L_o (o_alloc zz26 S5 rfl fun b6 w6 hb6 S6 => ?_)
      refine L_o (o_stW S6 4 rfl rfl rfl (by rw [cmf_sz]; exact sz26) (by first | (rw [cmf_sz]; done) | (rw [cmf_sz]; rfl)) (fun u hu => cmf_one _ u (by rw [List.toList_toArray] at hu; exact hu)) fun w7 S7 => ?_)
      refine L_y (y_assign rfl) rfl ?_
      refine L_nil ?_
      refine hK8 _ _ ?_
      refine T_seq fun K9 hK9 => ?_
      refine T_region ?_
      refine L_y (y_move rfl) rfl ?_
      refine L_y (y_neq rfl rfl) rfl ?_
      refine L_y (y_move rfl) rfl ?_
      refine L_split 33 rfl (fun h33 => ?_) (fun h33 => ?_)
      ·
        exact absurd hgo.1 h33
      ·
        refine L_gyes rfl rfl ?_
        refine L_y (y_ldW Try.underlying26 rfl sz26 rfl (S7.blk 4 rfl) (cm_whole _)) rfl ?_
        refine L_gyes rfl rfl ?_
        refine L_y (y_ldW Try.underlying26 rfl sz26 rfl (S7.blk 0 rfl) (cm_whole x)) rfl ?_
        refine L_gyes rfl rfl ?_
        refine L_o (o_call Try.func37 rfl rfl (rsame (cmOf (gval (revB x)) A1 _ c1) x w7 (S7.fix 3 rfl) (S7.rd hx)) rfl rfl ?_)
        rintro e9 w9 ⟨v9, rfl, l9, hu9⟩
        refine ⟨_, rfl, ?_⟩
        have S9 := S7.like l9
        rw [hgo.2] at hu9
        subst hu9
        refine L_gyes rfl rfl ?_
        refine L_y ((by first | exact y_notD rfl | exact y_not rfl)) rfl ?_
        refine L_y ((by first | exact y_pickT rfl rfl | exact y_pickF rfl rfl)) rfl ?_
        refine L_nil ?_
        refine hK9 _ _ ?_
        refine T_condB rfl (fun h38 => ?_) (fun h38 => ?_)
        ·
          cases h38
        ·
          refine T_skip ?_
          refine hK6 _ _ ?_
          refine T_seq fun K10 hK10 => ?_
          refine T_region ?_
          refine L_y (y_move rfl) rfl ?_
          refine L_o (o_call Try.func35 rfl rfl (get _ _ _ s w9 (S9.rd hb) (by omega)) rfl rfl ?_)
          rintro e10 w10 ⟨v10, rfl, l10, A2, c2, hf10, rfl⟩
          refine ⟨_, rfl, ?_⟩
          have S10 := S9.adoptF l10 hf10
          refine L_y (y_move rfl) rfl ?_
          refine L_y (y_extract rfl rfl) rfl ?_
          refine L_y (y_extract rfl rfl) rfl ?_
          refine L_o (o_alloc zz26 S10 rfl fun b11 w11 hb11 S11 => ?_)
          refine L_o (o_stW S11 6 rfl rfl rfl (by rw [cmf_sz]; exact sz26) (by first | (rw [cmf_sz]; done) | (rw [cmf_sz]; rfl)) (fun u hu => cmf_one _ u (by rw [List.toList_toArray] at hu; exact hu)) fun w12 S12 => ?_)
          refine L_y (y_assign rfl) rfl ?_
          refine L_nil ?_
          refine hK10 _ _ ?_
          refine T_seq fun K11 hK11 => ?_
          refine T_seq fun K12 hK12 => ?_
          refine T_region ?_
          refine L_y (y_move rfl) rfl ?_
          refine L_y (y_eql rfl rfl) rfl ?_
          refine L_nil ?_
          refine hK12 _ _ ?_
          refine T_cond rfl (fun h45 => ?_) (fun h45 => ?_)
          ·
            refine T_seq fun K13 hK13 => ?_
            refine T_region ?_
            refine L_y (y_ldW Try.underlying26 rfl sz26 rfl (S12.blk 6 rfl) (cm_whole _)) rfl ?_
            refine L_o (o_call Try.func14 rfl rfl (put (cmOf (gval s) A2 _ c2) w12 (S12.fix 5 rfl)) rfl rfl ?_)
            rintro e13 w13 ⟨v13, rfl, l13, B3, m3, d3, l3, e3, rfl, rfl, hl3, hf13⟩
            refine ⟨_, rfl, ?_⟩
            have S13 := S12.adoptF l13 hf13
            have hb2 := back2 h45
            rw [if_pos (show chk (cmOf (gval s) A2 _ c2) = 0 from hb2.1)] at hl3
            obtain rfl : l3 = s := hl3.trans hb2.2
            refine L_y (y_move rfl) rfl ?_
            refine L_y (y_extract rfl rfl) rfl ?_
            refine L_y (y_extract rfl rfl) rfl ?_
            refine L_y (y_assign rfl) rfl ?_
            refine L_y (y_assign rfl) rfl ?_
            refine L_nil ?_
            refine hK13 _ _ ?_
            refine T_seq fun K14 hK14 => ?_
            refine T_region ?_
            refine L_y (y_move rfl) rfl ?_
            refine L_y (y_neq rfl rfl) rfl ?_
            refine L_y (y_move rfl) rfl ?_
            refine L_split 53 rfl (fun h53 => ?_) (fun h53 => ?_)
            ·
              exact absurd (show chk (cmOf (gval _) A2 _ c2) = 0 from hb2.1) h53
            ·
              refine L_gyes rfl rfl ?_
              refine L_y (y_move rfl) rfl ?_
              refine L_gyes rfl rfl ?_
              refine L_y (y_move rfl) rfl ?_
              refine L_gyes rfl rfl ?_
              refine L_o (o_call Try.func18 rfl rfl (Oct.same _ _ _ _ _ _ _ _ w13 (S13.fix 7 rfl) (S13.rd hb)) rfl rfl ?_)
              rintro e15 w15 ⟨v15, rfl, l15, rfl⟩
              refine ⟨_, rfl, ?_⟩
              have S15 := S13.like l15
              refine L_gyes rfl rfl ?_
              refine L_y ((by first | exact y_notD rfl | exact y_not rfl)) rfl ?_
              refine L_y ((by first | exact y_pickT rfl rfl | exact y_pickF rfl rfl)) rfl ?_
              refine L_nil ?_
              refine hK14 _ _ ?_
              refine T_cond rfl (fun h58 => ?_) (fun h58 => ?_)
              ·
                exact absurd rfl h58
              ·
                refine T_skip ?_
                refine hK11 _ _ ?_
                refine T_seq fun K15 hK15 => ?_
                refine T_drawnL [(0, true), (1, true), (3, true), (4, true), (2, false), (5, false), (6, true), (7, true), (8, true), (9, true), (10, false), (11, true), (12, true), (13, false), (14, true), (15, true)] hmix (by kernel_rfl) fun w16 l16 => ?_
                have S16 := S15.like l16
                refine DL_y rfl (y_ldW Try.underlying26 rfl sz26 rfl (S16.blk 0 rfl) (cm_whole x)) rfl ?_
                refine DL_y rfl (y_ldW Try.underlying26 rfl sz26 rfl (S16.blk 1 rfl) (cm_whole y)) rfl ?_
                refine DL_y rfl (y_ldW Try.underlying26 rfl sz26 rfl (S16.blk 0 rfl) (cm_whole x)) rfl ?_
                refine DL_y rfl (y_ldW Try.underlying26 rfl sz26 rfl (S16.blk 1 rfl) (cm_whole y)) rfl ?_
                refine DL_o rfl (o_call Try.func38 rfl rfl (same x y w16 (S16.rd hx) (S16.rd hy)) rfl rfl ?_)
                rintro e17 w17 ⟨v17, rfl, l17, rfl⟩
                refine ⟨_, rfl, l17, ?_⟩
                have S17 := S16.like l17
                have q17 := l17
                refine DL_o rfl (o_call Try.func37 rfl rfl (rsame x y w17 (S17.rd hx) (S17.rd hy)) rfl rfl ?_)
                rintro e18 w18 ⟨v18, rfl, l18, rfl⟩
                refine ⟨_, rfl, (Like.trans q17 l18), ?_⟩
                have S18 := S17.like l18
                have q18 := (Like.trans q17 l18)
                refine DL_y rfl (Oid.y_beqq rfl rfl rfl) rfl ?_
                refine DL_y rfl (y_move rfl) rfl ?_
                refine DL_splitB 66 rfl (fun h66 => ?_) (fun h66 => ?_)
                ·
                  refine DL_gyes rfl rfl rfl (y_ldW Try.underlying26 rfl sz26 rfl (S16.blk 0 rfl) (cm_whole x)) rfl ?_
                  refine DL_gyes rfl rfl rfl (y_ldW Try.underlying26 rfl sz26 rfl (S16.blk 0 rfl) (cm_whole x)) rfl ?_
                  refine DL_ogyes rfl rfl rfl (o_call Try.func38 rfl rfl (same x x w18 (S18.rd hx) (S18.rd hx)) rfl rfl ?_)
                  rintro e19 w19 ⟨v19, rfl, l19, hu19⟩
                  refine ⟨_, rfl, (Like.trans q18 l19), ?_⟩
                  have S19 := S18.like l19
                  rw [sameB_refl] at hu19
                  subst hu19
                  have q19 := (Like.trans q18 l19)
                  refine DL_y rfl ((by first | exact y_pickT rfl rfl | exact y_pickF rfl rfl)) rfl ?_
                  refine DL_y rfl (y_move rfl) rfl ?_
                  refine DL_splitB 71 rfl (fun h71 => ?_) (fun h71 => ?_)
                  ·
                    refine DL_ogyes rfl rfl rfl (o_call Try.func23 rfl rfl (works w19) rfl rfl ?_)
                    rintro e20 w20 ⟨v20, rfl, l20, rfl⟩
                    refine ⟨_, rfl, (Like.trans q19 l20), ?_⟩
                    have S20 := S19.like l20
                    have q20 := (Like.trans q19 l20)
                    refine DL_y rfl ((by first | exact y_pickT rfl rfl | exact y_pickF rfl rfl)) rfl ?_
                    refine DL_y rfl (y_assign rfl) rfl ?_
                    refine DL_nil ?_
                    refine hK15 _ _ ?_
                    refine T_ret ?_
                    repeat (first | with_reducible refine up_then ?_ | with_reducible refine up_in ?_)
                    refine ret1 rfl rfl ?_
                    exact ⟨_, rfl, S20.like0, rfl⟩
                  ·
                    cases h71
                ·
                  exact absurd h66 (by simp)
          ·
            refine T_skip ?_
            refine hK11 _ _ ?_
            refine T_seq fun K16 hK16 => ?_
            refine T_drawnL [(0, true), (1, true), (3, true), (4, true), (2, false), (5, false), (6, true), (7, true), (8, true), (9, true), (10, false), (11, true), (12, true), (13, false), (14, true), (15, true)] hmix (by kernel_rfl) fun w21 l21 => ?_
            have S21 := S12.like l21
            refine DL_y rfl (y_ldW Try.underlying26 rfl sz26 rfl (S21.blk 0 rfl) (cm_whole x)) rfl ?_
            refine DL_y rfl (y_ldW Try.underlying26 rfl sz26 rfl (S21.blk 1 rfl) (cm_whole y)) rfl ?_
            refine DL_y rfl (y_ldW Try.underlying26 rfl sz26 rfl (S21.blk 0 rfl) (cm_whole x)) rfl ?_
            refine DL_y rfl (y_ldW Try.underlying26 rfl sz26 rfl (S21.blk 1 rfl) (cm_whole y)) rfl ?_
            refine DL_o rfl (o_call Try.func38 rfl rfl (same x y w21 (S21.rd hx) (S21.rd hy)) rfl rfl ?_)
            rintro e22 w22 ⟨v22, rfl, l22, rfl⟩
            refine ⟨_, rfl, l22, ?_⟩
            have S22 := S21.like l22
            have q22 := l22
            refine DL_o rfl (o_call Try.func37 rfl rfl (rsame x y w22 (S22.rd hx) (S22.rd hy)) rfl rfl ?_)
            rintro e23 w23 ⟨v23, rfl, l23, rfl⟩
            refine ⟨_, rfl, (Like.trans q22 l23), ?_⟩
            have S23 := S22.like l23
            have q23 := (Like.trans q22 l23)
            refine DL_y rfl (Oid.y_beqq rfl rfl rfl) rfl ?_
            refine DL_y rfl (y_move rfl) rfl ?_
            refine DL_splitB 66 rfl (fun h66 => ?_) (fun h66 => ?_)
            ·
              refine DL_gyes rfl rfl rfl (y_ldW Try.underlying26 rfl sz26 rfl (S21.blk 0 rfl) (cm_whole x)) rfl ?_
              refine DL_gyes rfl rfl rfl (y_ldW Try.underlying26 rfl sz26 rfl (S21.blk 0 rfl) (cm_whole x)) rfl ?_
              refine DL_ogyes rfl rfl rfl (o_call Try.func38 rfl rfl (same x x w23 (S23.rd hx) (S23.rd hx)) rfl rfl ?_)
              rintro e24 w24 ⟨v24, rfl, l24, hu24⟩
              refine ⟨_, rfl, (Like.trans q23 l24), ?_⟩
              have S24 := S23.like l24
              rw [sameB_refl] at hu24
              subst hu24
              have q24 := (Like.trans q23 l24)
              refine DL_y rfl ((by first | exact y_pickT rfl rfl | exact y_pickF rfl rfl)) rfl ?_
              refine DL_y rfl (y_move rfl) rfl ?_
              refine DL_splitB 71 rfl (fun h71 => ?_) (fun h71 => ?_)
              ·
                refine DL_ogyes rfl rfl rfl (o_call Try.func23 rfl rfl (works w24) rfl rfl ?_)
                rintro e25 w25 ⟨v25, rfl, l25, rfl⟩
                refine ⟨_, rfl, (Like.trans q24 l25), ?_⟩
                have S25 := S24.like l25
                have q25 := (Like.trans q24 l25)
                refine DL_y rfl ((by first | exact y_pickT rfl rfl | exact y_pickF rfl rfl)) rfl ?_
                refine DL_y rfl (y_assign rfl) rfl ?_
                refine DL_nil ?_
                refine hK16 _ _ ?_
                refine T_ret ?_
                repeat (first | with_reducible refine up_then ?_ | with_reducible refine up_in ?_)
                refine ret1 rfl rfl ?_
                exact ⟨_, rfl, S25.like0, rfl⟩
              ·
                cases h71
            ·
              exact absurd h66 (by simp)
    ·
      refine T_skip ?_
      refine hK6 _ _ ?_
      refine T_seq fun K17 hK17 => ?_
      refine T_region ?_
      refine L_y (y_move rfl) rfl ?_
      refine L_o (o_call Try.func35 rfl rfl (get _ _ _ s w4 (S4.rd hb) (by omega)) rfl rfl ?_)
      rintro e26 w26 ⟨v26, rfl, l26, A2, c2, hf26, rfl⟩
      refine ⟨_, rfl, ?_⟩
      have S26 := S4.adoptF l26 hf26
      refine L_y (y_move rfl) rfl ?_
      refine L_y (y_extract rfl rfl) rfl ?_
      refine L_y (y_extract rfl rfl) rfl ?_
      refine L_o (o_alloc zz26 S26 rfl fun b27 w27 hb27 S27 => ?_)
      refine L_o (o_stW S27 4 rfl rfl rfl (by rw [cmf_sz]; exact sz26) (by first | (rw [cmf_sz]; done) | (rw [cmf_sz]; rfl)) (fun u hu => cmf_one _ u (by rw [List.toList_toArray] at hu; exact hu)) fun w28 S28 => ?_)
      refine L_y (y_assign rfl) rfl ?_
      refine L_nil ?_
      refine hK17 _ _ ?_
      refine T_seq fun K18 hK18 => ?_
      refine T_seq fun K19 hK19 => ?_
      refine T_region ?_
      refine L_y (y_move rfl) rfl ?_
      refine L_y (y_eql rfl rfl) rfl ?_
      refine L_nil ?_
      refine hK19 _ _ ?_
      refine T_cond rfl (fun h45 => ?_) (fun h45 => ?_)
      ·
        refine T_seq fun K20 hK20 => ?_
        refine T_region ?_
        refine L_y (y_ldW Try.underlying26 rfl sz26 rfl (S28.blk 4 rfl) (cm_whole _)) rfl ?_
        refine L_o (o_call Try.func14 rfl rfl (put (cmOf (gval s) A2 _ c2) w28 (S28.fix 3 rfl)) rfl rfl ?_)
        rintro e29 w29 ⟨v29, rfl, l29, B3, m3, d3, l3, e3, rfl, rfl, hl3, hf29⟩
        refine ⟨_, rfl, ?_⟩
        have S29 := S28.adoptF l29 hf29
        have hb2 := back2 h45
        rw [if_pos (show chk (cmOf (gval s) A2 _ c2) = 0 from hb2.1)] at hl3
        obtain rfl : l3 = s := hl3.trans hb2.2
        refine L_y (y_move rfl) rfl ?_
        refine L_y (y_extract rfl rfl) rfl ?_
        refine L_y (y_extract rfl rfl) rfl ?_
        refine L_y (y_assign rfl) rfl ?_
        refine L_y (y_assign rfl) rfl ?_
        refine L_nil ?_
        refine hK20 _ _ ?_
        refine T_seq fun K21 hK21 => ?_
        refine T_region ?_
        refine L_y (y_move rfl) rfl ?_
        refine L_y (y_neq rfl rfl) rfl ?_
        refine L_y (y_move rfl) rfl ?_
        refine L_split 53 rfl (fun h53 => ?_) (fun h53 => ?_)
        ·
          exact absurd (show chk (cmOf (gval _) A2 _ c2) = 0 from hb2.1) h53
        ·
          refine L_gyes rfl rfl ?_
          refine L_y (y_move rfl) rfl ?_
          refine L_gyes rfl rfl ?_
          refine L_y (y_move rfl) rfl ?_
          refine L_gyes rfl rfl ?_
          refine L_o (o_call Try.func18 rfl rfl (Oct.same _ _ _ _ _ _ _ _ w29 (S29.fix 5 rfl) (S29.rd hb)) rfl rfl ?_)
          rintro e31 w31 ⟨v31, rfl, l31, rfl⟩
          refine ⟨_, rfl, ?_⟩
          have S31 := S29.like l31
          refine L_gyes rfl rfl ?_
          refine L_y ((by first | exact y_notD rfl | exact y_not rfl)) rfl ?_
          refine L_y ((by first | exact y_pickT rfl rfl | exact y_pickF rfl rfl)) rfl ?_
          refine L_nil ?_
          refine hK21 _ _ ?_
          refine T_cond rfl (fun h58 => ?_) (fun h58 => ?_)
          ·
            exact absurd rfl h58
          ·
            refine T_skip ?_
            refine hK18 _ _ ?_
            refine T_seq fun K22 hK22 => ?_
            refine T_drawnL [(0, true), (1, true), (3, true), (4, true), (2, false), (5, false), (6, true), (7, true), (8, true), (9, true), (10, false), (11, true), (12, true), (13, false), (14, true), (15, true)] hmix (by kernel_rfl) fun w32 l32 => ?_
            have S32 := S31.like l32
            refine DL_y rfl (y_ldW Try.underlying26 rfl sz26 rfl (S32.blk 0 rfl) (cm_whole x)) rfl ?_
            refine DL_y rfl (y_ldW Try.underlying26 rfl sz26 rfl (S32.blk 1 rfl) (cm_whole y)) rfl ?_
            refine DL_y rfl (y_ldW Try.underlying26 rfl sz26 rfl (S32.blk 0 rfl) (cm_whole x)) rfl ?_
            refine DL_y rfl (y_ldW Try.underlying26 rfl sz26 rfl (S32.blk 1 rfl) (cm_whole y)) rfl ?_
            refine DL_o rfl (o_call Try.func38 rfl rfl (same x y w32 (S32.rd hx) (S32.rd hy)) rfl rfl ?_)
            rintro e33 w33 ⟨v33, rfl, l33, rfl⟩
            refine ⟨_, rfl, l33, ?_⟩
            have S33 := S32.like l33
            have q33 := l33
            refine DL_o rfl (o_call Try.func37 rfl rfl (rsame x y w33 (S33.rd hx) (S33.rd hy)) rfl rfl ?_)
            rintro e34 w34 ⟨v34, rfl, l34, rfl⟩
            refine ⟨_, rfl, (Like.trans q33 l34), ?_⟩
            have S34 := S33.like l34
            have q34 := (Like.trans q33 l34)
            refine DL_y rfl (Oid.y_beqq rfl rfl rfl) rfl ?_
            refine DL_y rfl (y_move rfl) rfl ?_
            refine DL_splitB 66 rfl (fun h66 => ?_) (fun h66 => ?_)
            ·
              refine DL_gyes rfl rfl rfl (y_ldW Try.underlying26 rfl sz26 rfl (S32.blk 0 rfl) (cm_whole x)) rfl ?_
              refine DL_gyes rfl rfl rfl (y_ldW Try.underlying26 rfl sz26 rfl (S32.blk 0 rfl) (cm_whole x)) rfl ?_
              refine DL_ogyes rfl rfl rfl (o_call Try.func38 rfl rfl (same x x w34 (S34.rd hx) (S34.rd hx)) rfl rfl ?_)
              rintro e35 w35 ⟨v35, rfl, l35, hu35⟩
              refine ⟨_, rfl, (Like.trans q34 l35), ?_⟩
              have S35 := S34.like l35
              rw [sameB_refl] at hu35
              subst hu35
              have q35 := (Like.trans q34 l35)
              refine DL_y rfl ((by first | exact y_pickT rfl rfl | exact y_pickF rfl rfl)) rfl ?_
              refine DL_y rfl (y_move rfl) rfl ?_
              refine DL_splitB 71 rfl (fun h71 => ?_) (fun h71 => ?_)
              ·
                refine DL_ogyes rfl rfl rfl (o_call Try.func23 rfl rfl (works w35) rfl rfl ?_)
                rintro e36 w36 ⟨v36, rfl, l36, rfl⟩
                refine ⟨_, rfl, (Like.trans q35 l36), ?_⟩
                have S36 := S35.like l36
                have q36 := (Like.trans q35 l36)
                refine DL_y rfl ((by first | exact y_pickT rfl rfl | exact y_pickF rfl rfl)) rfl ?_
                refine DL_y rfl (y_assign rfl) rfl ?_
                refine DL_nil ?_
                refine hK22 _ _ ?_
                refine T_ret ?_
                repeat (first | with_reducible refine up_then ?_ | with_reducible refine up_in ?_)
                refine ret1 rfl rfl ?_
                exact ⟨_, rfl, S36.like0, rfl⟩
              ·
                cases h71
            ·
              exact absurd h66 (by simp)
      ·
        refine T_skip ?_
        refine hK18 _ _ ?_
        refine T_seq fun K23 hK23 => ?_
        refine T_drawnL [(0, true), (1, true), (3, true), (4, true), (2, false), (5, false), (6, true), (7, true), (8, true), (9, true), (10, false), (11, true), (12, true), (13, false), (14, true), (15, true)] hmix (by kernel_rfl) fun w37 l37 => ?_
        have S37 := S28.like l37
        refine DL_y rfl (y_ldW Try.underlying26 rfl sz26 rfl (S37.blk 0 rfl) (cm_whole x)) rfl ?_
        refine DL_y rfl (y_ldW Try.underlying26 rfl sz26 rfl (S37.blk 1 rfl) (cm_whole y)) rfl ?_
        refine DL_y rfl (y_ldW Try.underlying26 rfl sz26 rfl (S37.blk 0 rfl) (cm_whole x)) rfl ?_
        refine DL_y rfl (y_ldW Try.underlying26 rfl sz26 rfl (S37.blk 1 rfl) (cm_whole y)) rfl ?_
        refine DL_o rfl (o_call Try.func38 rfl rfl (same x y w37 (S37.rd hx) (S37.rd hy)) rfl rfl ?_)
        rintro e38 w38 ⟨v38, rfl, l38, rfl⟩
        refine ⟨_, rfl, l38, ?_⟩
        have S38 := S37.like l38
        have q38 := l38
        refine DL_o rfl (o_call Try.func37 rfl rfl (rsame x y w38 (S38.rd hx) (S38.rd hy)) rfl rfl ?_)
        rintro e39 w39 ⟨v39, rfl, l39, rfl⟩
        refine ⟨_, rfl, (Like.trans q38 l39), ?_⟩
        have S39 := S38.like l39
        have q39 := (Like.trans q38 l39)
        refine DL_y rfl (Oid.y_beqq rfl rfl rfl) rfl ?_
        refine DL_y rfl (y_move rfl) rfl ?_
        refine DL_splitB 66 rfl (fun h66 => ?_) (fun h66 => ?_)
        ·
          refine DL_gyes rfl rfl rfl (y_ldW Try.underlying26 rfl sz26 rfl (S37.blk 0 rfl) (cm_whole x)) rfl ?_
          refine DL_gyes rfl rfl rfl (y_ldW Try.underlying26 rfl sz26 rfl (S37.blk 0 rfl) (cm_whole x)) rfl ?_
          refine DL_ogyes rfl rfl rfl (o_call Try.func38 rfl rfl (same x x w39 (S39.rd hx) (S39.rd hx)) rfl rfl ?_)
          rintro e40 w40 ⟨v40, rfl, l40, hu40⟩
          refine ⟨_, rfl, (Like.trans q39 l40), ?_⟩
          have S40 := S39.like l40
          rw [sameB_refl] at hu40
          subst hu40
          have q40 := (Like.trans q39 l40)
          refine DL_y rfl ((by first | exact y_pickT rfl rfl | exact y_pickF rfl rfl)) rfl ?_
          refine DL_y rfl (y_move rfl) rfl ?_
          refine DL_splitB 71 rfl (fun h71 => ?_) (fun h71 => ?_)
          ·
            refine DL_ogyes rfl rfl rfl (o_call Try.func23 rfl rfl (works w40) rfl rfl ?_)
            rintro e41 w41 ⟨v41, rfl, l41, rfl⟩
            refine ⟨_, rfl, (Like.trans q40 l41), ?_⟩
            have S41 := S40.like l41
            have q41 := (Like.trans q40 l41)
            refine DL_y rfl ((by first | exact y_pickT rfl rfl | exact y_pickF rfl rfl)) rfl ?_
            refine DL_y rfl (y_assign rfl) rfl ?_
            refine DL_nil ?_
            refine hK23 _ _ ?_
            refine T_ret ?_
            repeat (first | with_reducible refine up_then ?_ | with_reducible refine up_in ?_)
            refine ret1 rfl rfl ?_
            exact ⟨_, rfl, S41.like0, rfl⟩
          ·
            cases h71
        ·
          exact absurd h66 (by simp)


end Go.Proofs.Ytgaklngnfecdaaa.Rev


/-
  Tags: Check and Put.
-/
namespace Go.Proofs.Ytgaklngnfecdaaa.Rev
open Go.RowKit Zk Zx
open Oid (idf hexL ris ris_ne idf_len length_hexL)
open Tre (nmOk)
set_option linter.unusedVariables false
set_option linter.unusedSimpArgs false

theorem mkf_len (x : Mk) : (mkf x).length = 36 := by simp [mkf, idf_len]
theorem mkf_sz (x : Mk) : (mkf x).toArray.size = 36 := by rw [List.size_toArray, mkf_len]
theorem mkf_one (x : Mk) : ∀ u ∈ mkf x, u.oneCell' = true := fun u hu => by
  rcases List.mem_append.1 hu with h | h
  · exact bL_one _ u h
  · simp at h
    rcases h with rfl | rfl | rfl | rfl <;> rfl
theorem mk_ob (x : Mk) : ((mkf x).toArray.toList.drop 0).take 32 = idf x.ob ∧ (idf x.ob).length = 32 := ⟨by rw [List.drop_zero]; simp [mkf, List.take_append, idf_len], idf_len _⟩
theorem mk_at (x : Mk) (k : Nat) : (mkf x).toArray[32 + k]? = [Value.int .i64 x.kd, .string x.nm, .int .i64 x.tm, .string x.tx][k]? := by
  rw [List.getElem?_toArray, mkf, List.getElem?_append_right (by rw [idf_len]; omega), idf_len]
  congr 1
  omega
theorem mk32 (x : Mk) : (mkf x).toArray[32]? = some (.int .i64 x.kd) := mk_at x 0
theorem mk33 (x : Mk) : (mkf x).toArray[33]? = some (.string x.nm) := mk_at x 1
theorem mk34 (x : Mk) : (mkf x).toArray[34]? = some (.int .i64 x.tm) := mk_at x 2
theorem mk35 (x : Mk) : (mkf x).toArray[35]? = some (.string x.tx) := mk_at x 3
theorem mk_whole (x : Mk) : ((mkf x).toArray.toList.drop 0).take 36 = mkf x ∧ (mkf x).length = 36 := ⟨by rw [List.drop_zero]; exact List.take_of_length_le (by have := mkf_len x; simp only [] at this ⊢; omega), mkf_len x⟩
/-- What CheckMark answers. -/
def chkM (x : Mk) : Int := if 400 < x.tx.size then 3 else if x.kd < 1 ∨ 4 < x.kd then 19 else if nmOk x.nm = false then 15 else if x.tm < 0 ∨ 1099511627776 < x.tm then 2 else 0
theorem chkM_ok {x : Mk} (h : chkM x = 0) : x.tx.size ≤ 400 ∧ 1 ≤ x.kd ∧ x.kd ≤ 4 ∧ nmOk x.nm = true ∧ 0 ≤ x.tm ∧ x.tm ≤ 1099511627776 := by
  unfold chkM at h
  split at h
  · cases h
  · split at h
    · cases h
    · split at h
      · cases h
      · split at h
        · cases h
        · rename_i h1 h2 h3 h4
          exact ⟨by omega, by omega, by omega, by simpa using h3, by omega, by omega⟩
def wObject : List UInt8 := [111, 98, 106, 101, 99, 116]
def wKind : List UInt8 := [107, 105, 110, 100]
def wName : List UInt8 := [110, 97, 109, 101]
/-- A tag's bytes. -/
def markB (x : Mk) : List UInt8 := lineL wObject (hexL x.ob.l) ++ lineL wKind (digS x.kd) ++ lineL wName x.nm.data.toList ++ lineL wTime (digS x.tm) ++ [10] ++ x.tx.data.toList
theorem wObject_len : wObject.length = 6 := rfl
theorem wKind_len : wKind.length = 4 := rfl
theorem wName_len : wName.length = 4 := rfl


set_option maxRecDepth 100000 in
theorem checkM (x : Mk) (w0 : World)  :
    Calls Try.prog 43 #[.agg (mkf x).toArray] w0 fun e w' => ∃ u, e = .returned u ∧ Like w0 w' ∧ u = .int .i64 (chkM x) := by
  refine enter1 (env := [(0, .agg (mkf x).toArray)]) [.agg (mkf x).toArray] Try.func43 rfl Try.ntmps43 rfl rfl ?_
  have S0 := St.start w0 noM
  refine T_seq fun K1 hK1 => ?_
  refine T_region ?_
  refine L_o (o_box rfl S0 rfl fun b1 w1 hb1 S1 => ?_)
  refine L_y (y_assign rfl) rfl ?_
  refine L_nil ?_
  refine hK1 _ _ ?_
  refine T_seq fun K2 hK2 => ?_
  refine T_block ?_
  refine T_seq fun K3 hK3 => ?_
  refine T_region ?_
  refine L_y (y_fieldA 35 Try.underlying74 rfl sz9 rfl rfl rfl) rfl ?_
  refine L_y (y_ldc Try.underlying9 rfl rfl (((S1.blk 0 rfl).cell _).trans (mk35 x))) rfl ?_
  refine L_y (y_lens Try.underlying9 rfl) rfl ?_
  refine L_y (y_gtr rfl rfl) rfl ?_
  refine L_y (y_assign rfl) rfl ?_
  refine L_nil ?_
  refine hK3 _ _ ?_
  refine T_cond rfl (fun h3 => ?_) (fun h3 => ?_)
  ·
    refine T_seq fun K4 hK4 => ?_
    refine T_region ?_
    refine L_y (y_assign rfl) rfl ?_
    refine L_nil ?_
    refine hK4 _ _ ?_
    refine T_ret ?_
    repeat (first | with_reducible refine up_then ?_ | with_reducible refine up_in ?_)
    refine ret1 rfl rfl ?_
    exact ⟨_, rfl, S1.like0, by unfold chkM; first | rw [if_pos (by omega)] | rw [if_neg (by omega), if_pos (by omega)] | rw [if_neg (by omega), if_neg (by omega), if_pos hnm] | rw [if_neg (by omega), if_neg (by omega), if_neg hnm, if_pos htm] | rw [if_neg (by omega), if_neg (by omega), if_neg hnm, if_neg htm]⟩
  ·
    refine T_seq fun K5 hK5 => ?_
    refine T_region ?_
    refine L_y (y_fieldA 32 Try.underlying74 rfl sz3 rfl rfl rfl) rfl ?_
    refine L_y (y_ldc Try.underlying3 rfl rfl (((S1.blk 0 rfl).cell _).trans (mk32 x))) rfl ?_
    refine L_y (y_lss rfl rfl) rfl ?_
    refine L_y (y_move rfl) rfl ?_
    refine L_split 12 rfl (fun h12 => ?_) (fun h12 => ?_)
    ·
      refine L_gno rfl rfl rfl ?_
      refine L_gno rfl rfl rfl ?_
      refine L_gno rfl rfl rfl ?_
      refine L_y ((by first | exact y_pickT rfl rfl | exact y_pickF rfl rfl)) rfl ?_
      refine L_y (y_assign rfl) rfl ?_
      refine L_nil ?_
      refine hK5 _ _ ?_
      refine T_true rfl ?_
      refine T_seq fun K6 hK6 => ?_
      refine T_region ?_
      refine L_y (y_assign rfl) rfl ?_
      refine L_nil ?_
      refine hK6 _ _ ?_
      refine T_ret ?_
      repeat (first | with_reducible refine up_then ?_ | with_reducible refine up_in ?_)
      refine ret1 rfl rfl ?_
      exact ⟨_, rfl, S1.like0, by unfold chkM; first | rw [if_pos (by omega)] | rw [if_neg (by omega), if_pos (by omega)] | rw [if_neg (by omega), if_neg (by omega), if_pos hnm] | rw [if_neg (by omega), if_neg (by omega), if_neg hnm, if_pos htm] | rw [if_neg (by omega), if_neg (by omega), if_neg hnm, if_neg htm]⟩
    ·
      refine L_gyes rfl rfl ?_
      refine L_y (y_fieldA 32 Try.underlying74 rfl sz3 rfl rfl rfl) rfl ?_
      refine L_gyes rfl rfl ?_
      refine L_y (y_ldc Try.underlying3 rfl rfl (((S1.blk 0 rfl).cell _).trans (mk32 x))) rfl ?_
      refine L_gyes rfl rfl ?_
      refine L_y (y_gtr rfl rfl) rfl ?_
      refine L_y ((by first | exact y_pickT rfl rfl | exact y_pickF rfl rfl)) rfl ?_
      refine L_y (y_assign rfl) rfl ?_
      refine L_nil ?_
      refine hK5 _ _ ?_
      refine T_cond rfl (fun h8 => ?_) (fun h8 => ?_)
      ·
        refine T_seq fun K7 hK7 => ?_
        refine T_region ?_
        refine L_y (y_assign rfl) rfl ?_
        refine L_nil ?_
        refine hK7 _ _ ?_
        refine T_ret ?_
        repeat (first | with_reducible refine up_then ?_ | with_reducible refine up_in ?_)
        refine ret1 rfl rfl ?_
        exact ⟨_, rfl, S1.like0, by unfold chkM; first | rw [if_pos (by omega)] | rw [if_neg (by omega), if_pos (by omega)] | rw [if_neg (by omega), if_neg (by omega), if_pos hnm] | rw [if_neg (by omega), if_neg (by omega), if_neg hnm, if_pos htm] | rw [if_neg (by omega), if_neg (by omega), if_neg hnm, if_neg htm]⟩
      ·
        refine T_seq fun K8 hK8 => ?_
        refine T_region ?_
        refine L_y (y_fieldA 33 Try.underlying74 rfl sz9 rfl rfl rfl) rfl ?_
        refine L_y (y_ldc Try.underlying9 rfl rfl (((S1.blk 0 rfl).cell _).trans (mk33 x))) rfl ?_
        refine L_o (o_call Try.func59 rfl rfl (Tre.pname x.nm w1) rfl rfl ?_)
        rintro e3 w3 ⟨v3, rfl, l3, rfl⟩
        refine ⟨_, rfl, ?_⟩
        have S3 := S1.like l3
        refine L_y ((by first | exact y_notD rfl | exact y_not rfl)) rfl ?_
        refine L_y (y_assign rfl) rfl ?_
        refine L_nil ?_
        refine hK8 _ _ ?_
        refine T_condB rfl (fun h17 => ?_) (fun h17 => ?_)
        ·
          have hnm : nmOk x.nm = false := by simpa using h17
          refine T_seq fun K9 hK9 => ?_
          refine T_region ?_
          refine L_y (y_assign rfl) rfl ?_
          refine L_nil ?_
          refine hK9 _ _ ?_
          refine T_ret ?_
          repeat (first | with_reducible refine up_then ?_ | with_reducible refine up_in ?_)
          refine ret1 rfl rfl ?_
          exact ⟨_, rfl, S3.like0, by unfold chkM; first | rw [if_pos (by omega)] | rw [if_neg (by omega), if_pos (by omega)] | rw [if_neg (by omega), if_neg (by omega), if_pos hnm] | rw [if_neg (by omega), if_neg (by omega), if_neg hnm, if_pos htm] | rw [if_neg (by omega), if_neg (by omega), if_neg hnm, if_neg htm]⟩
        ·
          have hnm : ¬ nmOk x.nm = false := by simpa using h17
          refine T_seq fun K10 hK10 => ?_
          refine T_region ?_
          refine L_y (y_fieldA 34 Try.underlying74 rfl sz3 rfl rfl rfl) rfl ?_
          refine L_y (y_ldc Try.underlying3 rfl rfl (((S3.blk 0 rfl).cell _).trans (mk34 x))) rfl ?_
          refine L_o (o_call Try.func60 rfl rfl (time_ x.tm w3) rfl rfl ?_)
          rintro e4 w4 ⟨v4, rfl, l4, rfl⟩
          refine ⟨_, rfl, ?_⟩
          have S4 := S3.like l4
          refine L_y ((by first | exact y_notD rfl | exact y_not rfl)) rfl ?_
          refine L_y (y_assign rfl) rfl ?_
          refine L_nil ?_
          refine hK10 _ _ ?_
          refine T_condB rfl (fun h22 => ?_) (fun h22 => ?_)
          ·
            have htm : x.tm < 0 ∨ 1099511627776 < x.tm := by simpa using h22
            refine T_seq fun K11 hK11 => ?_
            refine T_region ?_
            refine L_y (y_assign rfl) rfl ?_
            refine L_nil ?_
            refine hK11 _ _ ?_
            refine T_ret ?_
            repeat (first | with_reducible refine up_then ?_ | with_reducible refine up_in ?_)
            refine ret1 rfl rfl ?_
            exact ⟨_, rfl, S4.like0, by unfold chkM; first | rw [if_pos (by omega)] | rw [if_neg (by omega), if_pos (by omega)] | rw [if_neg (by omega), if_neg (by omega), if_pos hnm] | rw [if_neg (by omega), if_neg (by omega), if_neg hnm, if_pos htm] | rw [if_neg (by omega), if_neg (by omega), if_neg hnm, if_neg htm]⟩
          ·
            have htm : ¬ (x.tm < 0 ∨ 1099511627776 < x.tm) := by simpa using h22
            refine T_skip ?_
            refine hK2 _ _ ?_
            refine T_seq fun K12 hK12 => ?_
            refine T_region ?_
            refine L_y (y_assign rfl) rfl ?_
            refine L_nil ?_
            refine hK12 _ _ ?_
            refine T_ret ?_
            repeat (first | with_reducible refine up_then ?_ | with_reducible refine up_in ?_)
            refine ret1 rfl rfl ?_
            exact ⟨_, rfl, S4.like0, by unfold chkM; first | rw [if_pos (by omega)] | rw [if_neg (by omega), if_pos (by omega)] | rw [if_neg (by omega), if_neg (by omega), if_pos hnm] | rw [if_neg (by omega), if_neg (by omega), if_neg hnm, if_pos htm] | rw [if_neg (by omega), if_neg (by omega), if_neg hnm, if_neg htm]⟩


set_option maxRecDepth 100000 in
theorem putM (x : Mk) (w0 : World)  :
    Calls Try.prog 39 #[.agg (mkf x).toArray] w0 fun e w' => ∃ u, e = .returned u ∧ Like w0 w' ∧ ∃ B m d l e, u = .tuple #[.slice B m d, .int .i64 e] ∧ e = chkM x ∧ l = (if chkM x = 0 then markB x else []) ∧ Fr w0 w' 1 B m d (bL l) := by
  refine enter1 (env := [(0, .agg (mkf x).toArray)]) [.agg (mkf x).toArray] Try.func39 rfl Try.ntmps39 rfl rfl ?_
  have S0 := St.start w0 noM
  refine T_seq fun K1 hK1 => ?_
  refine T_region ?_
  refine L_o (o_box rfl S0 rfl fun b1 w1 hb1 S1 => ?_)
  refine L_y (y_assign rfl) rfl ?_
  refine L_y (y_assign rfl) rfl ?_
  refine L_nil ?_
  refine hK1 _ _ ?_
  refine T_seq fun K2 hK2 => ?_
  refine T_seq fun K3 hK3 => ?_
  refine T_region ?_
  refine L_y (y_ldW Try.underlying74 rfl sz74 rfl (S1.blk 0 rfl) (mk_whole x)) rfl ?_
  refine L_o (o_call Try.func43 rfl rfl (checkM x w1) rfl rfl ?_)
  rintro e2 w2 ⟨v2, rfl, l2, rfl⟩
  refine ⟨_, rfl, ?_⟩
  have S2 := S1.like l2
  refine L_y (y_assign rfl) rfl ?_
  refine L_nil ?_
  refine hK3 _ _ ?_
  refine T_seq fun K4 hK4 => ?_
  refine T_region ?_
  refine L_y (y_move rfl) rfl ?_
  refine L_y (y_neq rfl rfl) rfl ?_
  refine L_nil ?_
  refine hK4 _ _ ?_
  refine T_cond rfl (fun h9 => ?_) (fun h9 => ?_)
  ·
    refine T_seq fun K5 hK5 => ?_
    refine T_region ?_
    refine L_y (y_move rfl) rfl ?_
    refine L_y (y_assign rfl) rfl ?_
    refine L_y (y_assign rfl) rfl ?_
    refine L_nil ?_
    refine hK5 _ _ ?_
    refine T_ret ?_
    repeat (first | with_reducible refine up_then ?_ | with_reducible refine up_in ?_)
    refine ret2 rfl rfl rfl ?_
    exact ⟨_, rfl, S2.like0, none, 0, 0, [], chkM x, rfl, rfl, by rw [if_neg (fun e => h9 e)], ⟨Rs.nil _ 1, fun ad h => absurd h (by omega)⟩⟩
  ·
    have h0 : chkM x = 0 := Classical.not_not.1 h9
    obtain ⟨ht4, hk1, hk4, hnm, htm0, htm1⟩ := chkM_ok h0
    have haul := nm_size hnm
    have haul2 := nm_len hnm
    have hdl := digS_len (n := x.tm) (by omega)
    have hdk := digS_len (n := x.kd) (by omega)
    have htl : x.tx.data.toList.length ≤ 400 := by have h9 : x.tx.data.toList.length = x.tx.size := (by simp); omega
    refine T_skip ?_
    refine hK2 _ _ ?_
    refine T_seq fun K6 hK6 => ?_
    refine T_drawnL [(0, true), (1, true), (4, true), (5, true), (9, true), (10, true), (13, true), (14, true), (2, false), (3, false), (6, false), (7, false), (8, true), (11, false), (12, true), (15, false), (16, false), (17, true), (18, true)] hmix (by kernel_rfl) fun w3 l3 => ?_
    have S3 := S2.like l3
    refine DL_y rfl (y_fieldA 0 Try.underlying74 rfl sz23 rfl rfl rfl) rfl ?_
    refine DL_y rfl (y_ldW Try.underlying23 rfl sz23 rfl (S3.blk 0 rfl) (mk_ob x)) rfl ?_
    refine DL_y rfl (y_fieldA 32 Try.underlying74 rfl sz3 rfl rfl rfl) rfl ?_
    refine DL_y rfl (y_ldc Try.underlying3 rfl rfl (((S3.blk 0 rfl).cell _).trans (mk32 x))) rfl ?_
    refine DL_y rfl (y_fieldA 33 Try.underlying74 rfl sz9 rfl rfl rfl) rfl ?_
    refine DL_y rfl (y_ldc Try.underlying9 rfl rfl (((S3.blk 0 rfl).cell _).trans (mk33 x))) rfl ?_
    refine DL_y rfl (y_fieldA 34 Try.underlying74 rfl sz3 rfl rfl rfl) rfl ?_
    refine DL_y rfl (y_ldc Try.underlying3 rfl rfl (((S3.blk 0 rfl).cell _).trans (mk34 x))) rfl ?_
    refine DL_o rfl (o_call Try.func55 rfl rfl (hexN x.ob w3) rfl rfl ?_)
    rintro e4 w4 ⟨v4, rfl, l4, rfl⟩
    refine ⟨_, rfl, l4, ?_⟩
    have S4 := S3.like l4
    have q4 := l4
    refine DL_o rfl (o_call Try.func54 rfl rfl (linec wObject (hexL x.ob.l) w4 (by decide) (by have hq := hexI_len x.ob; omega)) rfl rfl ?_)
    rintro e5 w5 ⟨v5, rfl, l5, rfl⟩
    refine ⟨_, rfl, (Like.trans q4 l5), ?_⟩
    have S5 := S4.like l5
    have q5 := (Like.trans q4 l5)
    refine DL_o rfl (o_call Try.func21 rfl rfl (digits x.kd w5 (by omega)) rfl rfl ?_)
    rintro e6 w6 ⟨v6, rfl, l6, rfl⟩
    refine ⟨_, rfl, (Like.trans q5 l6), ?_⟩
    have S6 := S5.like l6
    have q6 := (Like.trans q5 l6)
    refine DL_o rfl (o_call Try.func54 rfl rfl (linec wKind (digS x.kd) w6 (by decide) (by have hq := hdk; omega)) rfl rfl ?_)
    rintro e7 w7 ⟨v7, rfl, l7, rfl⟩
    refine ⟨_, rfl, (Like.trans q6 l7), ?_⟩
    have S7 := S6.like l7
    have q7 := (Like.trans q6 l7)
    refine DL_y rfl (y_cat rfl rfl (by simp only [bsz, List.length_append, List.length_cons, List.length_nil, lineL_len, hexI_len, wObject_len, wKind_len, wName_len, wTime_len]; omega)) rfl ?_
    rw [strs_app]
    refine DL_o rfl (o_call Try.func54 rfl rfl (linec wName x.nm.data.toList w7 (by decide) (by omega)) rfl rfl ?_)
    rintro e8 w8 ⟨v8, rfl, l8, rfl⟩
    refine ⟨_, rfl, (Like.trans q7 l8), ?_⟩
    have S8 := S7.like l8
    have q8 := (Like.trans q7 l8)
    refine DL_y rfl (y_cat rfl rfl (by simp only [bsz, List.length_append, List.length_cons, List.length_nil, lineL_len, hexI_len, wObject_len, wKind_len, wName_len, wTime_len]; omega)) rfl ?_
    rw [strs_app]
    refine DL_o rfl (o_call Try.func21 rfl rfl (digits x.tm w8 (by omega)) rfl rfl ?_)
    rintro e9 w9 ⟨v9, rfl, l9, rfl⟩
    refine ⟨_, rfl, (Like.trans q8 l9), ?_⟩
    have S9 := S8.like l9
    have q9 := (Like.trans q8 l9)
    refine DL_o rfl (o_call Try.func54 rfl rfl (linec wTime (digS x.tm) w9 (by decide) (by have hq := hdl; omega)) rfl rfl ?_)
    rintro e10 w10 ⟨v10, rfl, l10, rfl⟩
    refine ⟨_, rfl, (Like.trans q9 l10), ?_⟩
    have S10 := S9.like l10
    have q10 := (Like.trans q9 l10)
    refine DL_y rfl (y_cat rfl rfl (by simp only [bsz, List.length_append, List.length_cons, List.length_nil, lineL_len, hexI_len, wObject_len, wKind_len, wName_len, wTime_len]; omega)) rfl ?_
    rw [strs_app]
    refine DL_y rfl (y_assign rfl) rfl ?_
    refine DL_nil ?_
    refine hK6 _ _ ?_
    refine T_seq fun K7 hK7 => ?_
    refine T_region ?_
    refine L_y (y_move rfl) rfl ?_
    refine L_y (y_cat rfl rfl (by simp only [bsz, List.length_append, List.length_cons, List.length_nil, lineL_len, hexI_len, wObject_len, wKind_len, wName_len, wTime_len]; omega)) rfl ?_
    rw [strs_app]
    refine L_y (y_fieldA 35 Try.underlying74 rfl sz9 rfl rfl rfl) rfl ?_
    refine L_y (y_ldc Try.underlying9 rfl rfl (((S10.blk 0 rfl).cell _).trans (mk35 x))) rfl ?_
    refine L_y (y_cat rfl rfl (by simp only [bsz, List.length_append, List.length_cons, List.length_nil, lineL_len, hexI_len, wObject_len, wKind_len, wName_len, wTime_len]; omega)) rfl ?_
    rw [strs_app2]
    refine L_o (o_sbytes Try.underlying9 Try.underlying27 Try.underlying5 rfl (by simp only [bsz, List.length_append, List.length_cons, List.length_nil, lineL_len, hexI_len, wObject_len, wKind_len, wName_len, wTime_len]; omega) S10 rfl fun b11 c11 w11 l11 S11 => ?_)
    refine L_y (y_assign rfl) rfl ?_
    refine L_y (y_assign rfl) rfl ?_
    refine L_nil ?_
    refine hK7 _ _ ?_
    refine T_ret ?_
    repeat (first | with_reducible refine up_then ?_ | with_reducible refine up_in ?_)
    refine ret2 rfl rfl rfl ?_
    exact ⟨_, rfl, S11.like0, _, _, _, _, 0, rfl, h0.symm, by rw [if_pos h0]; unfold markB; simp [lineL, wObject, wKind, wName, wTime], S11.fr 1 rfl⟩


end Go.Proofs.Ytgaklngnfecdaaa.Rev


/-
  Reading a tag.
-/
namespace Go.Proofs.Ytgaklngnfecdaaa.Rev
open Go.RowKit Zk Zx
open Oid (idf hexL idf_len readR)
open Tre (nmOk)
set_option linter.unusedVariables false
set_option linter.unusedSimpArgs false

/-- What the lines of a tag say. -/
structure MkL where
  ob : Oid.Id
  kd : Nat
  nm : List UInt8
  tm : Nat
  tx : List UInt8
def mkOf (y : MkL) : Mk := ⟨y.ob, (y.kd : Int), ⟨y.nm.toArray⟩, (y.tm : Int), ⟨y.tx.toArray⟩⟩
def zML : MkL := ⟨⟨List.replicate 32 0, rfl⟩, 0, [], 0, []⟩
theorem zML_mk : mkOf zML = zMk := by kernel_rfl
def markR (s : List UInt8) : Option MkL :=
  (idR wObject s).bind fun o => (numbR wKind o.2).bind fun k => if 9 < k.1 then none else (lineR wName k.2).bind fun a => (numbR wTime a.2).bind fun n => (textR n.2).map fun x => ⟨o.1, k.1, a.1, n.1, x⟩
section
variable {s s1 s2 s3 s4 a x : List UInt8} {o : Oid.Id} {k n : Nat}
theorem m1 (h : idR wObject s = none) : markR s = none := by unfold markR; rw [h]; rfl
theorem m2 (h : idR wObject s = some (o, s1)) (hk : numbR wKind s1 = none) : markR s = none := by unfold markR; rw [h]; simp [hk]
theorem m3 (h : idR wObject s = some (o, s1)) (hk : numbR wKind s1 = some (k, s2)) (h9 : 9 < k) : markR s = none := by unfold markR; rw [h]; simp [hk, h9]
theorem m4 (h : idR wObject s = some (o, s1)) (hk : numbR wKind s1 = some (k, s2)) (ha : lineR wName s2 = none) : markR s = none := by
  unfold markR; rw [h]; by_cases h9 : 9 < k <;> simp [hk, h9, ha]
theorem m5 (h : idR wObject s = some (o, s1)) (hk : numbR wKind s1 = some (k, s2)) (ha : lineR wName s2 = some (a, s3)) (hn : numbR wTime s3 = none) : markR s = none := by
  unfold markR; rw [h]; by_cases h9 : 9 < k <;> simp [hk, h9, ha, hn]
theorem m6 (h : idR wObject s = some (o, s1)) (hk : numbR wKind s1 = some (k, s2)) (ha : lineR wName s2 = some (a, s3)) (hn : numbR wTime s3 = some (n, s4)) (hx : textR s4 = none) : markR s = none := by
  unfold markR; rw [h]; by_cases h9 : 9 < k <;> simp [hk, h9, ha, hn, hx]
theorem m7 (h : idR wObject s = some (o, s1)) (hk : numbR wKind s1 = some (k, s2)) (h9 : ¬ 9 < k) (ha : lineR wName s2 = some (a, s3)) (hn : numbR wTime s3 = some (n, s4)) (hx : textR s4 = some x) : markR s = some ⟨o, k, a, n, x⟩ := by
  unfold markR; rw [h]; simp [hk, h9, ha, hn, hx]
end
theorem stm (x : Mk) (t : Oid.Id) : ((mkf x).toArray.toList.take 0 ++ (idf t).toArray.toList ++ (mkf x).toArray.toList.drop (0 + (idf t).toArray.size)).toArray = (mkf { x with ob := t }).toArray := by
  simp only [List.take_zero, List.nil_append, List.size_toArray, idf_len, Nat.zero_add]
  congr 1
  show idf t ++ (mkf x).drop 32 = _
  unfold mkf
  rw [List.drop_append_of_le_length (by rw [idf_len]; omega), List.drop_of_length_le (by rw [idf_len]; omega), List.nil_append]
theorem stm_at (x : Mk) (k : Nat) (v : Value) (hk : k < 4) : (mkf x).toArray.setIfInBounds (32 + k) v = (idf x.ob ++ [Value.int .i64 x.kd, .string x.nm, .int .i64 x.tm, .string x.tx].set k v).toArray := by
  rw [List.setIfInBounds_toArray]
  congr 1
  unfold mkf
  rw [List.set_append_right _ _ (by rw [idf_len]; omega), idf_len, show 32 + k - 32 = k by omega]
theorem stm32 (x : Mk) (v : Int) : (mkf x).toArray.setIfInBounds 32 (.int .i64 v) = (mkf { x with kd := v }).toArray := stm_at x 0 _ (by omega)
theorem stm33 (x : Mk) (v : ByteArray) : (mkf x).toArray.setIfInBounds 33 (.string v) = (mkf { x with nm := v }).toArray := stm_at x 1 _ (by omega)
theorem stm34 (x : Mk) (v : Int) : (mkf x).toArray.setIfInBounds 34 (.int .i64 v) = (mkf { x with tm := v }).toArray := stm_at x 2 _ (by omega)
theorem stm35 (x : Mk) (v : ByteArray) : (mkf x).toArray.setIfInBounds 35 (.string v) = (mkf { x with tx := v }).toArray := stm_at x 3 _ (by omega)
/-- What GetMark answers. -/
def mcode (s : List UInt8) : Int := match markR s with
  | none => 12
  | some y => chkM (mkOf y)
def mval (s : List UInt8) : MkL := match markR s with
  | none => zML
  | some y => if chkM (mkOf y) = 0 then y else zML
theorem mo_some {s : List UInt8} {y : MkL} (h : markR s = some y) : mcode s = chkM (mkOf y) ∧ mval s = if chkM (mkOf y) = 0 then y else zML := by unfold mcode mval; rw [h]; exact ⟨rfl, rfl⟩
theorem mo_none {s : List UInt8} (h : markR s = none) : mcode s = 12 ∧ mval s = zML := by unfold mcode mval; rw [h]; exact ⟨rfl, rfl⟩
def kval (s : List UInt8) : MkL := (markR s).getD zML
def kcode (s : List UInt8) : Int := if (markR s).isSome then 0 else 12
theorem kcode_0 {s : List UInt8} (h : kcode s = 0) : markR s = some (kval s) := by
  unfold kcode at h
  unfold kval
  cases e : markR s with
  | none => rw [e] at h; cases h
  | some y => rfl
theorem kcode_n {s : List UInt8} (h : ¬ kcode s = 0) : markR s = none ∧ kcode s = 12 := by
  unfold kcode at h ⊢
  cases e : markR s with
  | none => exact ⟨rfl, rfl⟩
  | some y => rw [e] at h; exact absurd rfl h
theorem k_none {s : List UInt8} (h : markR s = none) : Value.tuple #[.agg (mkf zMk).toArray, .int .i64 12] = .tuple #[.agg (mkf (mkOf (kval s))).toArray, .int .i64 (kcode s)] := by
  rw [show kval s = zML by rw [kval, h]; rfl, show kcode s = 12 by rw [kcode, h]; rfl, zML_mk]
theorem k_some {s : List UInt8} {y : MkL} (h : markR s = some y) : Value.tuple #[.agg (mkf (mkOf y)).toArray, .int .i64 0] = .tuple #[.agg (mkf (mkOf (kval s))).toArray, .int .i64 (kcode s)] := by
  rw [show kval s = y by rw [kval, h]; rfl, show kcode s = 0 by rw [kcode, h]; rfl]


set_option maxRecDepth 100000 in
theorem mark (g : Nat) (s : List UInt8) (w0 : World) (hw : (rdR g s).holds w0) (hl : s.length ≤ 100000) :
    Calls Try.prog 87 #[.pointer (some ⟨g, 0, none⟩)] w0 fun e w' => ∃ u, e = .returned u ∧ ∃ s', Turned w0 w' (rdR g s) (rdR g s') ∧ u = .tuple #[.agg (mkf (mkOf (kval s))).toArray, .int .i64 (kcode s)] := by
  refine enterD1 (env := [(0, .pointer (some ⟨g, 0, none⟩))]) [.pointer (some ⟨g, 0, none⟩)] Try.func87 rfl Try.ntmps87 rfl rfl ?_
  have S0 := St.borrow1 (rdR g s) hw (rd_lt hw)
  refine T_seq fun K1 hK1 => ?_
  refine T_region ?_
  refine L_o (o_alloc zz74 S0 rfl fun b1 w1 hb1 S1 => ?_)
  refine L_o (o_alloc zz28 S1 rfl fun b2 w2 hb2 S2 => ?_)
  have S3 : Zx.St w0 (rdR g s).dom [rdR g s, blk b1 74 (mkf zMk).toArray, blk b2 28 #[Value.int .i64 0]] w2 := S2.cast (by kernel_rfl)
  have hne : b1 ≠ b2 := fun e => St.apart_ S3 1 2 rfl rfl rfl b1 rfl e
  refine L_nil ?_
  refine hK1 _ _ ?_
  refine T_seq fun K2 hK2 => ?_
  refine T_region ?_
  refine L_y (y_makeFunc rfl rfl) rfl ?_
  refine L_deferV rfl ?_
  refine L_nil ?_
  refine hK2 _ _ ?_
  refine T_seq fun K3 hK3 => ?_
  refine T_region ?_
  refine L_y (y_move rfl) rfl ?_
  refine L_o (o_callP Try.func125 rfl rfl (idr g s wObject w2 (S3.get 0 rfl) (by decide) (by omega)) rfl rfl ?_)
  rintro e4 w4 (⟨rfl, s9, T4, hno⟩ | ⟨v4, rfl, o, s1, hid, T4, rfl⟩)
  · exact .inr ⟨_, rfl, mark_pan rfl rfl rfl ((S3.turn 0 rfl T4).blk 1 rfl) (mkf_sz _) ((S3.turn 0 rfl T4).blk 2 rfl) hne (fun w' T' => ⟨_, rfl, _, (st_pan ((S3.turn 0 rfl T4).sel [0, 1, 2] (by decide)) T').turned1 0 rfl, k_none (m1 hno)⟩)⟩
  refine .inl ⟨_, rfl, ?_⟩
  have S4 := S3.turn 0 rfl T4
  have hl1 := idR_len hid
  refine L_y (y_fieldA 0 Try.underlying74 rfl sz23 rfl rfl rfl) rfl ?_
  refine L_o (o_stR S4 1 rfl rfl rfl (by rw [List.size_toArray, idf_len]; exact sz23) (by rw [List.size_toArray, idf_len, mkf_sz]; omega) (fun u hu => bL_one _ u (by rw [List.toList_toArray] at hu; exact hu)) fun w5 S5 => ?_)
  have S6 := S5.blkc 1 rfl (show _ = (mkf (⟨o, 0, ⟨#[]⟩, 0, ⟨#[]⟩⟩ : Mk)).toArray from stm zMk o)
  have S7 : Zx.St w0 (rdR g s).dom [rdR g s1, blk b1 74 (mkf (⟨o, 0, ⟨#[]⟩, 0, ⟨#[]⟩⟩ : Mk)).toArray, blk b2 28 #[Value.int .i64 0]] w5 := S6.cast (by kernel_rfl)
  refine L_nil ?_
  refine hK3 _ _ ?_
  refine T_seq fun K4 hK4 => ?_
  refine T_region ?_
  refine L_y (y_move rfl) rfl ?_
  refine L_o (o_callP Try.func128 rfl rfl (numb g s1 wKind w5 (S7.get 0 rfl) (by decide) (by omega)) rfl rfl ?_)
  rintro e8 w8 (⟨rfl, s9, T8, hno⟩ | ⟨v8, rfl, kd, s2, hkd, T8, rfl⟩)
  · exact .inr ⟨_, rfl, mark_pan rfl rfl rfl ((S7.turn 0 rfl T8).blk 1 rfl) (mkf_sz _) ((S7.turn 0 rfl T8).blk 2 rfl) hne (fun w' T' => ⟨_, rfl, _, (st_pan ((S7.turn 0 rfl T8).sel [0, 1, 2] (by decide)) T').turned1 0 rfl, k_none (m2 hid hno)⟩)⟩
  refine .inl ⟨_, rfl, ?_⟩
  have S8 := S7.turn 0 rfl T8
  have hl2 := (numbR_len hkd).1
  refine L_y (y_fieldA 32 Try.underlying74 rfl sz3 rfl rfl rfl) rfl ?_
  refine L_o (o_st1 S8 1 rfl rfl rfl rfl sz3 (by rw [mkf_sz]; omega) fun w9 S9 => ?_)
  have S10 := S9.blkc 1 rfl (show _ = (mkf (⟨o, (kd : Int), ⟨#[]⟩, 0, ⟨#[]⟩⟩ : Mk)).toArray from stm32 (⟨o, 0, ⟨#[]⟩, 0, ⟨#[]⟩⟩ : Mk) _)
  have S11 : Zx.St w0 (rdR g s).dom [rdR g s2, blk b1 74 (mkf (⟨o, (kd : Int), ⟨#[]⟩, 0, ⟨#[]⟩⟩ : Mk)).toArray, blk b2 28 #[Value.int .i64 0]] w9 := S10.cast (by kernel_rfl)
  refine L_nil ?_
  refine hK4 _ _ ?_
  refine T_seq fun K5 hK5 => ?_
  refine T_seq fun K6 hK6 => ?_
  refine T_region ?_
  refine L_y (y_fieldA 32 Try.underlying74 rfl sz3 rfl rfl rfl) rfl ?_
  refine L_y (y_ldc Try.underlying3 rfl rfl (((S11.blk 1 rfl).cell _).trans (mk32 _))) rfl ?_
  refine L_y (y_gtr rfl rfl) rfl ?_
  refine L_nil ?_
  refine hK6 _ _ ?_
  refine T_cond rfl (fun h13 => ?_) (fun h13 => ?_)
  ·
    have h9k : (9 : Int) < (kd : Int) := h13
    refine T_region ?_
    refine L_y (y_build rfl (show _ = some #[Value.int .i64 12] by kernel_rfl)) rfl ?_
    refine L_y (y_mkI (by kernel_rfl) rfl) rfl ?_
    refine L_panic rfl ?_
    exact mark_pan rfl rfl rfl (S11.blk 1 rfl) (mkf_sz _) (S11.blk 2 rfl) hne (fun w' T' => ⟨_, rfl, _, (st_pan (S11.sel [0, 1, 2] (by decide)) T').turned1 0 rfl, k_none (m3 hid hkd (by omega))⟩)
  ·
    have h9k : ¬ (9 : Int) < (kd : Int) := h13
    refine T_skip ?_
    refine hK5 _ _ ?_
    refine T_seq fun K7 hK7 => ?_
    refine T_region ?_
    refine L_y (y_move rfl) rfl ?_
    refine L_o (o_callP Try.func127 rfl rfl (take g s2 wName w9 (S11.get 0 rfl) (by decide) (by omega)) rfl rfl ?_)
    rintro e12 w12 (⟨rfl, T12, hno⟩ | ⟨v12, rfl, nm, s3, hnm, T12, rfl⟩)
    · exact .inr ⟨_, rfl, mark_pan rfl rfl rfl ((S11.turn 0 rfl T12).blk 1 rfl) (mkf_sz _) ((S11.turn 0 rfl T12).blk 2 rfl) hne (fun w' T' => ⟨_, rfl, _, (st_pan ((S11.turn 0 rfl T12).sel [0, 1, 2] (by decide)) T').turned1 0 rfl, k_none (m4 hid hkd hno)⟩)⟩
    refine .inl ⟨_, rfl, ?_⟩
    have S12 := S11.turn 0 rfl T12
    have hl3 := lineR_len2 hnm
    refine L_y (y_fieldA 33 Try.underlying74 rfl sz9 rfl rfl rfl) rfl ?_
    refine L_o (o_st1 S12 1 rfl rfl rfl rfl sz9 (by rw [mkf_sz]; omega) fun w13 S13 => ?_)
    have S14 := S13.blkc 1 rfl (show _ = (mkf (⟨o, (kd : Int), ⟨nm.toArray⟩, 0, ⟨#[]⟩⟩ : Mk)).toArray from stm33 (⟨o, (kd : Int), ⟨#[]⟩, 0, ⟨#[]⟩⟩ : Mk) _)
    have S15 : Zx.St w0 (rdR g s).dom [rdR g s3, blk b1 74 (mkf (⟨o, (kd : Int), ⟨nm.toArray⟩, 0, ⟨#[]⟩⟩ : Mk)).toArray, blk b2 28 #[Value.int .i64 0]] w13 := S14.cast (by kernel_rfl)
    refine L_nil ?_
    refine hK7 _ _ ?_
    refine T_seq fun K8 hK8 => ?_
    refine T_region ?_
    refine L_y (y_move rfl) rfl ?_
    refine L_o (o_callP Try.func128 rfl rfl (numb g s3 wTime w13 (S15.get 0 rfl) (by decide) (by omega)) rfl rfl ?_)
    rintro e16 w16 (⟨rfl, s9, T16, hno⟩ | ⟨v16, rfl, tm, s4, htm, T16, rfl⟩)
    · exact .inr ⟨_, rfl, mark_pan rfl rfl rfl ((S15.turn 0 rfl T16).blk 1 rfl) (mkf_sz _) ((S15.turn 0 rfl T16).blk 2 rfl) hne (fun w' T' => ⟨_, rfl, _, (st_pan ((S15.turn 0 rfl T16).sel [0, 1, 2] (by decide)) T').turned1 0 rfl, k_none (m5 hid hkd hnm hno)⟩)⟩
    refine .inl ⟨_, rfl, ?_⟩
    have S16 := S15.turn 0 rfl T16
    have hl4 := (numbR_len htm).1
    refine L_y (y_fieldA 34 Try.underlying74 rfl sz3 rfl rfl rfl) rfl ?_
    refine L_o (o_st1 S16 1 rfl rfl rfl rfl sz3 (by rw [mkf_sz]; omega) fun w17 S17 => ?_)
    have S18 := S17.blkc 1 rfl (show _ = (mkf (⟨o, (kd : Int), ⟨nm.toArray⟩, (tm : Int), ⟨#[]⟩⟩ : Mk)).toArray from stm34 (⟨o, (kd : Int), ⟨nm.toArray⟩, 0, ⟨#[]⟩⟩ : Mk) _)
    have S19 : Zx.St w0 (rdR g s).dom [rdR g s4, blk b1 74 (mkf (⟨o, (kd : Int), ⟨nm.toArray⟩, (tm : Int), ⟨#[]⟩⟩ : Mk)).toArray, blk b2 28 #[Value.int .i64 0]] w17 := S18.cast (by kernel_rfl)
    refine L_nil ?_
    refine hK8 _ _ ?_
    refine T_seq fun K9 hK9 => ?_
    refine T_region ?_
    refine L_y (y_move rfl) rfl ?_
    refine L_o (o_callP Try.func129 rfl rfl (text_ g s4 w17 (S19.get 0 rfl)) rfl rfl ?_)
    rintro e20 w20 (⟨rfl, T20, hno⟩ | ⟨v20, rfl, tx, htx, T20, rfl⟩)
    · exact .inr ⟨_, rfl, mark_pan rfl rfl rfl ((S19.turn 0 rfl T20).blk 1 rfl) (mkf_sz _) ((S19.turn 0 rfl T20).blk 2 rfl) hne (fun w' T' => ⟨_, rfl, _, (st_pan ((S19.turn 0 rfl T20).sel [0, 1, 2] (by decide)) T').turned1 0 rfl, k_none (m6 hid hkd hnm htm hno)⟩)⟩
    refine .inl ⟨_, rfl, ?_⟩
    have S20 := S19.turn 0 rfl T20
    refine L_y (y_fieldA 35 Try.underlying74 rfl sz9 rfl rfl rfl) rfl ?_
    refine L_o (o_st1 S20 1 rfl rfl rfl rfl sz9 (by rw [mkf_sz]; omega) fun w21 S21 => ?_)
    have S22 := S21.blkc 1 rfl (show _ = (mkf (⟨o, (kd : Int), ⟨nm.toArray⟩, (tm : Int), ⟨tx.toArray⟩⟩ : Mk)).toArray from stm35 (⟨o, (kd : Int), ⟨nm.toArray⟩, (tm : Int), ⟨#[]⟩⟩ : Mk) _)
    have S23 : Zx.St w0 (rdR g s).dom [rdR g s4, blk b1 74 (mkf (⟨o, (kd : Int), ⟨nm.toArray⟩, (tm : Int), ⟨tx.toArray⟩⟩ : Mk)).toArray, blk b2 28 #[Value.int .i64 0]] w21 := S22.cast (by kernel_rfl)
    refine L_nil ?_
    refine hK9 _ _ ?_
    refine T_seq fun K10 hK10 => ?_
    refine T_region ?_
    refine L_y (y_ldW Try.underlying74 rfl sz74 rfl (S23.blk 1 rfl) (mk_whole _)) rfl ?_
    refine L_o (o_stW S23 1 rfl rfl rfl (by rw [mkf_sz]; exact sz74) (by rw [mkf_sz]) (fun u hu => mkf_one _ u (by rw [List.toList_toArray] at hu; exact hu)) fun w24 S24 => ?_)
    refine L_o (o_st1 S24 2 rfl rfl rfl rfl sz28 (by simp; done) fun w25 S25 => ?_)
    refine L_nil ?_
    refine hK10 _ _ ?_
    refine T_ret ?_
    repeat (first | with_reducible refine up_then ?_ | with_reducible refine up_in ?_)
    refine mark_ret rfl rfl rfl (S25.blk 1 rfl) (mkf_sz _) (S25.blk 2 rfl) ?_
    intro w' l'
    exact ⟨_, rfl, _, (S25.like l').turned1 0 rfl, k_some (y := ⟨o, kd, nm, tm, tx⟩) (m7 hid hkd (by omega) hnm htm htx)⟩
end Go.Proofs.Ytgaklngnfecdaaa.Rev


/-
  '==' on structs of any plain fields. General; nothing here names a program.
-/
namespace Go.Proofs.Ytgaklngnfecdaaa.Zx
open Go.RowKit Zk
set_option linter.unusedVariables false
set_option linter.unusedSimpArgs false
section
variable {P : Program}
/-- What '==' says of one field. -/
def FE (P : Program) (d : Nat) (xs ys : Array Value) (f : Field) (b : Bool) : Prop :=
  f.name ≠ "_" ∧ ∃ vx vy, (∀ w, (part f.type xs f.offset).run P w = .ok vx w) ∧ (∀ w, (part f.type ys f.offset).run P w = .ok vy w) ∧ (∀ w, (Op.equalIn d f.type vx vy).run P w = .ok b w)
inductive EqFs (P : Program) (d : Nat) (xs ys : Array Value) : List Field → Bool → Prop
  | nil : EqFs P d xs ys [] true
  | cons {f : Field} {fs : List Field} {b r : Bool} : FE P d xs ys f b → EqFs P d xs ys fs r → EqFs P d xs ys (f :: fs) (b && r)
theorem EqFs.run {d : Nat} {xs ys : Array Value} : ∀ {fs : List Field} {r : Bool}, EqFs P d xs ys fs r → ∀ w, (Op.eqFields d xs ys fs).run P w = .ok r w
  | _, _, .nil, w => rfl
  | _, _, .cons (f := f) (fs := fs) (b := b) (r := r) ⟨hn, vx, vy, h1, h2, h3⟩ h, w => by
    rw [Op.eqFields, if_pos hn, Sem.run_bind, h1 w, Result.andThen_ok, Sem.run_bind, h2 w, Result.andThen_ok, Sem.run_bind, h3 w, Result.andThen_ok]
    cases b with
    | true =>
      simp only [Bool.not_true, Bool.false_eq_true, if_false]
      rw [h.run w]
      rfl
    | false =>
      simp only [Bool.not_false, if_true, Sem.run_pure]
      rfl
theorem run_part_one {t : TypeId} {cs : Array Value} {o : Nat} {v : Value} (ha : ∀ w, (isAgg t).run P w = .ok false w) (hv : cs[o]? = some v) (w : World) : (part t cs o).run P w = .ok v w := by
  unfold part
  rw [Sem.run_bind, ha w]
  simp only [Result.andThen_ok, Bool.false_eq_true, if_false, hv, Sem.run_pure]
theorem run_part_agg {t : TypeId} {cs vs : Array Value} {o n : Nat} (ha : ∀ w, (isAgg t).run P w = .ok true w) (hs : ∀ w, (sizeOf t).run P w = .ok n w) (hv : cs.extract o (o + n) = vs) (w : World) : (part t cs o).run P w = .ok (.agg vs) w := by
  unfold part
  rw [Sem.run_bind, ha w]
  simp only [Result.andThen_ok, if_true, Sem.run_bind, hs w, Sem.run_pure, hv]
theorem FE_str {d : Nat} {xs ys : Array Value} {f : Field} {a b : ByteArray} (hn : f.name ≠ "_") (ht : P.underlying f.type = some .string) (hx : xs[f.offset]? = some (.string a)) (hy : ys[f.offset]? = some (.string b)) : FE P (d + 1) xs ys f (decide (a = b)) := by
  have ha : ∀ w, (isAgg f.type).run P w = .ok false w := fun w => by unfold isAgg; rw [Sem.run_bind, run_underlying ht w]; rfl
  refine ⟨hn, _, _, run_part_one ha hx, run_part_one ha hy, fun w => ?_⟩
  simp only [Op.equalIn, Sem.run_bind, run_underlying ht, Result.andThen_ok, Sem.run_pure]
  congr 1
  rw [beq_toListBytes, beq_str]
theorem FE_int {d : Nat} {xs ys : Array Value} {f : Field} {k : IntKind} {a b : Int} (hn : f.name ≠ "_") (ht : P.underlying f.type = some (.int k)) (hx : xs[f.offset]? = some (.int k a)) (hy : ys[f.offset]? = some (.int k b)) : FE P (d + 1) xs ys f (decide (a = b)) := by
  refine ⟨hn, _, _, run_part_int ht hx, run_part_int ht hy, fun w => ?_⟩
  rw [run_equalIn_int w d _ _ _ _ _ ht]
  congr 1
theorem FE_bytes {d n : Nat} {xs ys : Array Value} {f : Field} {e : TypeId} {a b : List UInt8} (hn : f.name ≠ "_") (ht : P.underlying f.type = some (.array n e)) (he : P.underlying e = some (.int .u8)) (hs : (P.info? e).map (·.size) = some 1) (hsz : ∀ w, (sizeOf f.type).run P w = .ok n w) (ha : a.length = n) (hb : b.length = n)
    (hx : xs.extract f.offset (f.offset + n) = bA a) (hy : ys.extract f.offset (f.offset + n) = bA b) : FE P (d + 2) xs ys f (decide (a = b)) := by
  have hag : ∀ w, (isAgg f.type).run P w = .ok true w := fun w => by unfold isAgg; rw [Sem.run_bind, run_underlying ht w]; rfl
  refine ⟨hn, _, _, run_part_agg hag hsz hx, run_part_agg hag hsz hy, fun w => ?_⟩
  rw [run_equalIn_bytes w d ht he hs a b ha hb _ _ (bA_get a) (bA_get b)]
  congr 1
  by_cases h : a = b <;> simp [h]
variable {S : World → Prop} {env : Env} {dst : Option Tmp} {ty : TypeId} {pos : String} {after : Array Edge} {g : Option (Nat × Bool)}
theorem y_eqS {x y : Operand} {t u : TypeId} {fs : Array Field} {xs ys : Array Value} {r : Bool} (ht : P.underlying t = some (.struct fs)) (hp : P.stoodInHeld t = false) (hm : P.eqGuardType P.depth t = false) (hf : EqFs P 9999 xs ys fs.toList r) (hx : ev env x = some (.agg xs)) (hy : ev env y = some (.agg ys)) :
    Y P S env ⟨dst, .binOp .eql t x y u, ty, pos, after, g⟩ (.bool r) := fun N a w ha _ => by
  have h1 := run_eql_struct (P := P) w t xs ys
  have e : P.fieldsOf t = fs := by simp [Program.fieldsOf, ht]
  rw [run_equalIn_struct w 9999 t _ _ (by rw [e]; exact ht) hp, e, hf.run w, Result.andThen_ok] at h1
  simp only [execOp, ha.eval hx, ha.eval hy, Sem.run_bind, eqGuard_run .eql x y _ _ hm w, Result.andThen_ok, h1, Sem.run_pure]
theorem y_neS {x y : Operand} {t u : TypeId} {fs : Array Field} {xs ys : Array Value} {r : Bool} (ht : P.underlying t = some (.struct fs)) (hp : P.stoodInHeld t = false) (hm : P.eqGuardType P.depth t = false) (hf : EqFs P 9999 xs ys fs.toList r) (hx : ev env x = some (.agg xs)) (hy : ev env y = some (.agg ys)) :
    Y P S env ⟨dst, .binOp .neq t x y u, ty, pos, after, g⟩ (.bool (!r)) := fun N a w ha _ => by
  have h1 := run_neq_struct (P := P) w t xs ys
  have e : P.fieldsOf t = fs := by simp [Program.fieldsOf, ht]
  rw [run_equalIn_struct w 9999 t _ _ (by rw [e]; exact ht) hp, e, hf.run w, Result.andThen_ok] at h1
  simp only [execOp, ha.eval hx, ha.eval hy, Sem.run_bind, eqGuard_run .neq x y _ _ hm w, Result.andThen_ok, h1, Sem.run_pure]
end
end Go.Proofs.Ytgaklngnfecdaaa.Zx


/-
  GetMark.
-/
namespace Go.Proofs.Ytgaklngnfecdaaa.Rev
open Go.RowKit Zk Zx
open Oid (idf hexL idf_len readR)
open Tre (nmOk)
set_option linter.unusedVariables false
set_option linter.unusedSimpArgs false

def meq (x y : Mk) : Bool := decide (x.ob.l = y.ob.l) && (decide (x.kd = y.kd) && (decide (x.nm = y.nm) && (decide (x.tm = y.tm) && (decide (x.tx = y.tx) && true))))
theorem meq_refl (x : Mk) : meq x x = true := by simp [meq]
theorem mk_id (x : Mk) : (mkf x).toArray.extract 0 (0 + 32) = bA x.ob.l := by
  apply Array.ext'
  rw [Array.toList_extract]
  simp only [mkf, bA]
  rw [List.extract_eq_take_drop]
  show List.take 32 (bL x.ob.l ++ _) = bL x.ob.l
  rw [List.take_append_of_le_length (by rw [length_bL, x.ob.h]; exact Nat.le_refl _)]
  exact List.take_of_length_le (by rw [length_bL, x.ob.h]; exact Nat.le_refl _)
theorem mk_eq (x y : Mk) {fs : Array Field} (hfs : Try.prog.underlying 74 = some (.struct fs)) : EqFs Try.prog 9999 (mkf x).toArray (mkf y).toArray fs.toList (meq x y) := by
  have h2 := Try.underlying74
  rw [hfs] at h2
  injection h2 with h2
  injection h2 with h2
  subst h2
  unfold meq
  exact .cons (FE_bytes (by decide) Try.underlying23 Try.underlying5 sz5 Try.sizeOf23 x.ob.h y.ob.h (mk_id x) (mk_id y)) (.cons (FE_int (by decide) Try.underlying3 (mk32 x) (mk32 y)) (.cons (FE_str (by decide) Try.underlying9 (mk33 x) (mk33 y)) (.cons (FE_int (by decide) Try.underlying3 (mk34 x) (mk34 y)) (.cons (FE_str (by decide) Try.underlying9 (mk35 x) (mk35 y)) .nil))))
set_option maxRecDepth 100000 in
theorem getM (B : Option Addr) (m d : Nat) (s : List UInt8) (w0 : World) (hb : Rs w0 1 B m d (bL s)) (hl : s.length ≤ 2000) :
    Calls Try.prog 41 #[.slice B m d] w0 fun e w' => ∃ u, e = .returned u ∧ Like w0 w' ∧ u = .tuple #[.agg (mkf (mkOf (mval s))).toArray, .int .i64 (mcode s)] := by
  refine enter1 (env := [(0, .slice B m d)]) [.slice B m d] Try.func41 rfl Try.ntmps41 rfl rfl ?_
  have S0 := St.start w0 noM
  refine T_seq fun K1 hK1 => ?_
  refine T_region ?_
  refine L_o (o_alloc zz74 S0 rfl fun b1 w1 hb1 S1 => ?_)
  refine L_y (y_assign rfl) rfl ?_
  refine L_nil ?_
  refine hK1 _ _ ?_
  refine T_seq fun K2 hK2 => ?_
  refine T_region ?_
  refine L_y (y_move rfl) rfl ?_
  refine L_y (y_bstr Try.underlying27 Try.underlying5 Try.underlying9 rfl (by first | exact S1.rd hb)) rfl ?_
  refine L_y (y_build rfl (show _ = some #[Value.string ⟨s.toArray⟩] by kernel_rfl)) rfl ?_
  refine L_o (o_box rfl S1 rfl fun b2 w2 hb2 S2 => ?_)
  have S3 : Zx.St w0 noM [blk b1 74 (mkf zMk).toArray, rdR b2 s] w2 := S2.cast (by kernel_rfl)
  refine L_y (y_assign rfl) rfl ?_
  refine L_nil ?_
  refine hK2 _ _ ?_
  refine T_seq fun K3 hK3 => ?_
  refine T_region ?_
  refine L_y (y_move rfl) rfl ?_
  refine L_o (o_call Try.func87 rfl rfl (mark b2 s w2 (S3.get 1 rfl) (by omega)) rfl rfl ?_)
  rintro e4 w4 ⟨v4, rfl, s9, T4, rfl⟩
  refine ⟨_, rfl, ?_⟩
  have S4 := S3.turn 1 rfl T4
  refine L_y (y_move rfl) rfl ?_
  refine L_y (y_extract rfl rfl) rfl ?_
  refine L_y (y_extract rfl rfl) rfl ?_
  refine L_o (o_alloc zz74 S4 rfl fun b5 w5 hb5 S5 => ?_)
  refine L_o (o_stW S5 2 rfl rfl rfl (by rw [mkf_sz]; exact sz74) (by first | (rw [mkf_sz]; done) | (rw [mkf_sz]; rfl)) (fun u hu => mkf_one _ u (by rw [List.toList_toArray] at hu; exact hu)) fun w6 S6 => ?_)
  refine L_y (y_assign rfl) rfl ?_
  refine L_nil ?_
  refine hK3 _ _ ?_
  refine T_seq fun K4 hK4 => ?_
  refine T_seq fun K5 hK5 => ?_
  refine T_region ?_
  refine L_y (y_move rfl) rfl ?_
  refine L_y (y_eql rfl rfl) rfl ?_
  refine L_nil ?_
  refine hK5 _ _ ?_
  refine T_cond rfl (fun h17 => ?_) (fun h17 => ?_)
  ·
    have hg := kcode_0 h17
    refine T_region ?_
    refine L_y (y_ldW Try.underlying74 rfl sz74 rfl (S6.blk 2 rfl) (mk_whole _)) rfl ?_
    refine L_o (o_call Try.func43 rfl rfl (checkM (mkOf (kval s)) w6) rfl rfl ?_)
    rintro e7 w7 ⟨v7, rfl, l7, rfl⟩
    refine ⟨_, rfl, ?_⟩
    have S7 := S6.like l7
    refine L_y (y_assign rfl) rfl ?_
    refine L_nil ?_
    refine hK4 _ _ ?_
    refine T_seq fun K6 hK6 => ?_
    refine T_seq fun K7 hK7 => ?_
    refine T_region ?_
    refine L_y (y_move rfl) rfl ?_
    refine L_y (y_neq rfl rfl) rfl ?_
    refine L_nil ?_
    refine hK7 _ _ ?_
    refine T_cond rfl (fun h21 => ?_) (fun h21 => ?_)
    ·
      refine T_seq fun K8 hK8 => ?_
      refine T_region ?_
      refine L_y (y_build rfl (show _ = some (mkf zMk).toArray by kernel_rfl)) rfl ?_
      refine L_y (y_move rfl) rfl ?_
      refine L_o (o_stW S7 0 rfl rfl rfl (by rw [mkf_sz]; exact sz74) (by first | (rw [mkf_sz]; done) | (rw [mkf_sz]; rfl)) (fun u hu => mkf_one _ u (by rw [List.toList_toArray] at hu; exact hu)) fun w8 S8 => ?_)
      refine L_y (y_assign rfl) rfl ?_
      refine L_nil ?_
      refine hK8 _ _ ?_
      refine T_ret ?_
      repeat (first | with_reducible refine up_then ?_ | with_reducible refine up_in ?_)
      refine retct rfl rfl rfl (S8.blk 0 rfl) Try.underlying74 rfl (by rw [mkf_sz]; exact sz74) ?_
      have hgo := mo_some hg
      have hv : mval s = zML := by rw [hgo.2, if_neg (show ¬ chkM (mkOf (kval s)) = 0 from fun e => h21 e)]
      rw [hv, hgo.1, zML_mk]
      exact ⟨_, rfl, S8.like0, rfl⟩
    ·
      refine T_skip ?_
      refine hK6 _ _ ?_
      refine T_seq fun K9 hK9 => ?_
      refine T_region ?_
      refine L_y (y_ldW Try.underlying74 rfl sz74 rfl (S7.blk 2 rfl) (mk_whole _)) rfl ?_
      refine L_o (o_stW S7 0 rfl rfl rfl (by rw [mkf_sz]; exact sz74) (by first | (rw [mkf_sz]; done) | (rw [mkf_sz]; rfl)) (fun u hu => mkf_one _ u (by rw [List.toList_toArray] at hu; exact hu)) fun w9 S9 => ?_)
      refine L_y (y_assign rfl) rfl ?_
      refine L_nil ?_
      refine hK9 _ _ ?_
      refine T_ret ?_
      repeat (first | with_reducible refine up_then ?_ | with_reducible refine up_in ?_)
      refine retct rfl rfl rfl (S9.blk 0 rfl) Try.underlying74 rfl (by rw [mkf_sz]; exact sz74) ?_
      have hgo := mo_some hg
      have h0 : chkM (mkOf (kval s)) = 0 := Classical.byContradiction fun e => h21 e
      have hv : mval s = kval s := by rw [hgo.2, if_pos h0]
      rw [hv, hgo.1, h0]
      exact ⟨_, rfl, S9.like0, rfl⟩
  ·
    have hg := kcode_n h17
    refine T_skip ?_
    refine hK4 _ _ ?_
    refine T_seq fun K10 hK10 => ?_
    refine T_seq fun K11 hK11 => ?_
    refine T_region ?_
    refine L_y (y_move rfl) rfl ?_
    refine L_y (y_neq rfl rfl) rfl ?_
    refine L_nil ?_
    refine hK11 _ _ ?_
    refine T_cond rfl (fun h21 => ?_) (fun h21 => ?_)
    ·
      refine T_seq fun K12 hK12 => ?_
      refine T_region ?_
      refine L_y (y_build rfl (show _ = some (mkf zMk).toArray by kernel_rfl)) rfl ?_
      refine L_y (y_move rfl) rfl ?_
      refine L_o (o_stW S6 0 rfl rfl rfl (by rw [mkf_sz]; exact sz74) (by first | (rw [mkf_sz]; done) | (rw [mkf_sz]; rfl)) (fun u hu => mkf_one _ u (by rw [List.toList_toArray] at hu; exact hu)) fun w10 S10 => ?_)
      refine L_y (y_assign rfl) rfl ?_
      refine L_nil ?_
      refine hK12 _ _ ?_
      refine T_ret ?_
      repeat (first | with_reducible refine up_then ?_ | with_reducible refine up_in ?_)
      refine retct rfl rfl rfl (S10.blk 0 rfl) Try.underlying74 rfl (by rw [mkf_sz]; exact sz74) ?_
      have hgo := mo_none hg.1
      have hv : mval s = zML := hgo.2
      rw [hv, hgo.1, zML_mk]
      exact ⟨_, rfl, S10.like0, by show Value.tuple #[.agg (mkf zMk).toArray, .int .i64 (kcode s)] = _; rw [hg.2]⟩
    ·
      refine T_skip ?_
      refine hK10 _ _ ?_
      refine T_seq fun K13 hK13 => ?_
      refine T_region ?_
      refine L_y (y_ldW Try.underlying74 rfl sz74 rfl (S6.blk 2 rfl) (mk_whole _)) rfl ?_
      refine L_o (o_stW S6 0 rfl rfl rfl (by rw [mkf_sz]; exact sz74) (by first | (rw [mkf_sz]; done) | (rw [mkf_sz]; rfl)) (fun u hu => mkf_one _ u (by rw [List.toList_toArray] at hu; exact hu)) fun w11 S11 => ?_)
      refine L_y (y_assign rfl) rfl ?_
      refine L_nil ?_
      refine hK13 _ _ ?_
      refine T_ret ?_
      repeat (first | with_reducible refine up_then ?_ | with_reducible refine up_in ?_)
      refine retct rfl rfl rfl (S11.blk 0 rfl) Try.underlying74 rfl (by rw [mkf_sz]; exact sz74) ?_
      exact absurd hg.2 (fun e => h21 (by rw [e]; decide))


end Go.Proofs.Ytgaklngnfecdaaa.Rev


/-
  The laws of tags.
-/
namespace Go.Proofs.Ytgaklngnfecdaaa.Rev
open Go.RowKit Zk Zx
open Oid (idf hexL idf_len readR)
open Tre (nmOk)
set_option linter.unusedVariables false
set_option linter.unusedSimpArgs false

theorem markR_is {s : List UInt8} {y : MkL} (h : markR s = some y) : markB (mkOf y) = s := by
  unfold markR at h
  cases h1 : idR wObject s with
  | none => rw [h1] at h; cases h
  | some o =>
    cases h2 : numbR wKind o.2 with
    | none => rw [h1] at h; simp [h2] at h
    | some k =>
      by_cases h9 : 9 < k.1
      · rw [h1] at h; simp [h2, h9] at h
      · cases h3 : lineR wName k.2 with
        | none => rw [h1] at h; simp [h2, h3, h9] at h
        | some a =>
          cases h4 : numbR wTime a.2 with
          | none => rw [h1] at h; simp [h2, h3, h4, h9] at h
          | some n =>
            cases h5 : textR n.2 with
            | none => rw [h1] at h; simp [h2, h3, h4, h5, h9] at h
            | some x =>
              rw [h1] at h
              simp [h2, h3, h4, h5, h9] at h
              subst h
              rw [idR_is (p := o.1) (b := o.2) h1]
              conv => rhs; rw [numbR_is (n := k.1) (b := k.2) h2, lineR_is (a := a.1) (b := a.2) h3, numbR_is (n := n.1) (b := n.2) h4, textR_is h5]
              simp [markB, mkOf, digS_nat]
theorem markR_of {x : Mk} (h : chkM x = 0) : markR (markB x) = some ⟨x.ob, x.kd.toNat, x.nm.data.toList, x.tm.toNat, x.tx.data.toList⟩ := by
  obtain ⟨c1, c2, c3, c4, c5, c6⟩ := chkM_ok h
  have ha : (10 : UInt8) ∉ x.nm.data.toList := nm_no c4
  have hd : digS x.tm = dgt x.tm.toNat := by rw [digS, if_neg (by omega)]
  have hk : digS x.kd = dgt x.kd.toNat := by rw [digS, if_neg (by omega)]
  have e : markB x = lineL wObject (hexL x.ob.l) ++ (lineL wKind (dgt x.kd.toNat) ++ (lineL wName x.nm.data.toList ++ (lineL wTime (dgt x.tm.toNat) ++ (10 :: x.tx.data.toList)))) := by
    unfold markB
    rw [hd, hk]
    simp
  rw [e]
  exact m7 (idR_of x.ob (by decide)) (numbR_of (by decide) (by omega)) (by omega) (lineR_of (by decide) ha) (numbR_of (by decide) (by omega)) (textR_of _)
theorem markB_len {x : Mk} (h : chkM x = 0) : (markB x).length ≤ 2000 := by
  obtain ⟨c1, c2, c3, c4, c5, c6⟩ := chkM_ok h
  have h1 := nm_len c4
  have h2 : (digS x.tm).length ≤ 19 := digS_len (by omega)
  have h4 : (digS x.kd).length ≤ 19 := digS_len (by omega)
  have h3 : x.tx.data.toList.length = x.tx.size := by simp
  unfold markB
  simp only [List.length_append, lineL_len, hexI_len, List.length_cons, List.length_nil, wObject_len, wKind_len, wName_len, wTime_len]
  omega
theorem mback1 {x : Mk} (h : chkM x = 0) : mcode (markB x) = 0 ∧ meq (mkOf (mval (markB x))) x = true := by
  have hg := markR_of h
  obtain ⟨c1, c2, c3, c4, c5, c6⟩ := chkM_ok h
  have hgo := mo_some hg
  have e : mkOf ⟨x.ob, x.kd.toNat, x.nm.data.toList, x.tm.toNat, x.tx.data.toList⟩ = x := by
    unfold mkOf
    simp only [Int.toNat_of_nonneg c5, Int.toNat_of_nonneg (show 0 ≤ x.kd by omega)]
  rw [e, h] at hgo
  refine ⟨hgo.1, ?_⟩
  rw [hgo.2.trans (if_pos rfl), e]
  exact meq_refl x
theorem mback2 {s : List UInt8} (h : mcode s = 0) : chkM (mkOf (mval s)) = 0 ∧ markB (mkOf (mval s)) = s := by
  unfold mcode at h
  unfold mval
  cases e : markR s with
  | none => rw [e] at h; cases h
  | some y =>
    rw [e] at h
    have h2 : chkM (mkOf y) = 0 := h
    show chkM (mkOf (if chkM (mkOf y) = 0 then y else zML)) = 0 ∧ markB (mkOf (if chkM (mkOf y) = 0 then y else zML)) = s
    rw [if_pos h2]
    exact ⟨h2, markR_is e⟩
theorem mback3 {s : List UInt8} (h : ¬ mcode s = 0) : mval s = zML := by
  unfold mcode at h
  unfold mval
  cases e : markR s with
  | none => rfl
  | some y =>
    rw [e] at h
    exact if_neg h


set_option maxRecDepth 100000 in
theorem markback (x : Mk) (B : Option Addr) (m d : Nat) (s : List UInt8) (w0 : World) (hb : Rs w0 1 B m d (bL s)) :
    Calls Try.prog 10 #[.agg (mkf x).toArray, .slice B m d] w0 fun e w' => ∃ u, e = .returned u ∧ Like w0 w' ∧ u = .bool true := by
  refine enter1 (env := [(0, .agg (mkf x).toArray), (1, .slice B m d)]) [.agg (mkf x).toArray, .slice B m d] Try.func10 rfl Try.ntmps10 rfl rfl ?_
  have hm := hb.lenb; have hcap := hb.cap; have hmax := hb.max
  have S0 := St.start w0 noM
  refine T_seq fun K1 hK1 => ?_
  refine T_region ?_
  refine L_o (o_box rfl S0 rfl fun b1 w1 hb1 S1 => ?_)
  refine L_y (y_assign rfl) rfl ?_
  refine L_nil ?_
  refine hK1 _ _ ?_
  refine T_seq fun K2 hK2 => ?_
  refine T_seq fun K3 hK3 => ?_
  refine T_region ?_
  refine L_y (y_move rfl) rfl ?_
  refine L_y (y_len Try.underlying27 rfl) rfl ?_
  refine L_y (y_gtr rfl rfl) rfl ?_
  refine L_nil ?_
  refine hK3 _ _ ?_
  refine T_cond rfl (fun h15 => ?_) (fun h15 => ?_)
  ·
    refine T_seq fun K4 hK4 => ?_
    refine T_region ?_
    refine L_o (o_call Try.func23 rfl rfl (works w1) rfl rfl ?_)
    rintro e2 w2 ⟨v2, rfl, l2, rfl⟩
    refine ⟨_, rfl, ?_⟩
    have S2 := S1.like l2
    refine L_y (y_assign rfl) rfl ?_
    refine L_nil ?_
    refine hK4 _ _ ?_
    refine T_ret ?_
    repeat (first | with_reducible refine up_then ?_ | with_reducible refine up_in ?_)
    refine ret1 rfl rfl ?_
    exact ⟨_, rfl, S2.like0, rfl⟩
  ·
    refine T_skip ?_
    refine hK2 _ _ ?_
    refine T_seq fun K5 hK5 => ?_
    refine T_region ?_
    refine L_y (y_ldW Try.underlying74 rfl sz74 rfl (S1.blk 0 rfl) (mk_whole x)) rfl ?_
    refine L_o (o_call Try.func39 rfl rfl (putM x w1) rfl rfl ?_)
    rintro e3 w3 ⟨v3, rfl, l3, B1, m1, d1, l1, e1, rfl, rfl, hl1, hf3⟩
    refine ⟨_, rfl, ?_⟩
    have S3 := S1.adoptF l3 hf3
    refine L_y (y_move rfl) rfl ?_
    refine L_y (y_extract rfl rfl) rfl ?_
    refine L_y (y_extract rfl rfl) rfl ?_
    refine L_y (y_assign rfl) rfl ?_
    refine L_y (y_assign rfl) rfl ?_
    refine L_nil ?_
    refine hK5 _ _ ?_
    refine T_seq fun K6 hK6 => ?_
    refine T_seq fun K7 hK7 => ?_
    refine T_region ?_
    refine L_y (y_move rfl) rfl ?_
    refine L_y (y_eql rfl rfl) rfl ?_
    refine L_nil ?_
    refine hK7 _ _ ?_
    refine T_cond rfl (fun h23 => ?_) (fun h23 => ?_)
    ·
      rw [if_pos h23] at hl1
      subst hl1
      have hgo := mback1 h23
      refine T_seq fun K8 hK8 => ?_
      refine T_region ?_
      refine L_y (y_move rfl) rfl ?_
      refine L_o (o_call Try.func41 rfl rfl (getM _ _ _ (markB x) w3 (S3.fix 1 rfl) (markB_len h23)) rfl rfl ?_)
      rintro e4 w4 ⟨v4, rfl, l4, rfl⟩
      refine ⟨_, rfl, ?_⟩
      have S4 := S3.like l4
      refine L_y (y_move rfl) rfl ?_
      refine L_y (y_extract rfl rfl) rfl ?_
      refine L_y (y_extract rfl rfl) rfl ?_
      refine L_o (o_alloc zz74 S4 rfl fun b5 w5 hb5 S5 => ?_)
      refine L_o (o_stW S5 2 rfl rfl rfl (by rw [mkf_sz]; exact sz74) (by first | (rw [mkf_sz]; done) | (rw [mkf_sz]; rfl)) (fun u hu => mkf_one _ u (by rw [List.toList_toArray] at hu; exact hu)) fun w6 S6 => ?_)
      refine L_y (y_assign rfl) rfl ?_
      refine L_nil ?_
      refine hK8 _ _ ?_
      refine T_seq fun K9 hK9 => ?_
      refine T_region ?_
      refine L_y (y_move rfl) rfl ?_
      refine L_y (y_neq rfl rfl) rfl ?_
      refine L_y (y_move rfl) rfl ?_
      refine L_split 31 rfl (fun h31 => ?_) (fun h31 => ?_)
      ·
        exact absurd hgo.1 h31
      ·
        refine L_gyes rfl rfl ?_
        refine L_y (y_ldW Try.underlying74 rfl sz74 rfl (S6.blk 2 rfl) (mk_whole _)) rfl ?_
        refine L_gyes rfl rfl ?_
        refine L_y (y_ldW Try.underlying74 rfl sz74 rfl (S6.blk 0 rfl) (mk_whole x)) rfl ?_
        refine L_gyes rfl rfl ?_
        refine L_y (y_neS Try.underlying74 (by kernel_rfl) (by kernel_rfl) (mk_eq (mkOf (mval (markB x))) x Try.underlying74) rfl rfl) rfl ?_
        refine L_y ((by first | exact y_pickT rfl rfl | exact y_pickF rfl rfl)) rfl ?_
        refine L_nil ?_
        refine hK9 _ _ ?_
        refine T_condB rfl (fun h35 => ?_) (fun h35 => ?_)
        ·
          exact absurd h35 (by rw [hgo.2]; decide)
        ·
          refine T_skip ?_
          refine hK6 _ _ ?_
          refine T_seq fun K10 hK10 => ?_
          refine T_region ?_
          refine L_y (y_move rfl) rfl ?_
          refine L_o (o_call Try.func41 rfl rfl (getM _ _ _ s w6 (S6.rd hb) (by omega)) rfl rfl ?_)
          rintro e8 w8 ⟨v8, rfl, l8, rfl⟩
          refine ⟨_, rfl, ?_⟩
          have S8 := S6.like l8
          refine L_y (y_move rfl) rfl ?_
          refine L_y (y_extract rfl rfl) rfl ?_
          refine L_y (y_extract rfl rfl) rfl ?_
          refine L_o (o_alloc zz74 S8 rfl fun b9 w9 hb9 S9 => ?_)
          refine L_o (o_stW S9 3 rfl rfl rfl (by rw [mkf_sz]; exact sz74) (by first | (rw [mkf_sz]; done) | (rw [mkf_sz]; rfl)) (fun u hu => mkf_one _ u (by rw [List.toList_toArray] at hu; exact hu)) fun w10 S10 => ?_)
          refine L_y (y_assign rfl) rfl ?_
          refine L_nil ?_
          refine hK10 _ _ ?_
          refine T_seq fun K11 hK11 => ?_
          refine T_seq fun K12 hK12 => ?_
          refine T_region ?_
          refine L_y (y_move rfl) rfl ?_
          refine L_y (y_neq rfl rfl) rfl ?_
          refine L_nil ?_
          refine hK12 _ _ ?_
          refine T_cond rfl (fun h42 => ?_) (fun h42 => ?_)
          ·
            refine T_seq fun K13 hK13 => ?_
            refine T_region ?_
            refine L_y (y_ldW Try.underlying74 rfl sz74 rfl (S10.blk 3 rfl) (mk_whole _)) rfl ?_
            refine L_y (y_build rfl (show _ = some (mkf zMk).toArray by kernel_rfl)) rfl ?_
            refine L_y (y_eqS Try.underlying74 (by kernel_rfl) (by kernel_rfl) (mk_eq (mkOf (mval s)) zMk Try.underlying74) rfl rfl) rfl ?_
            refine L_y (y_move rfl) rfl ?_
            refine L_splitB 46 rfl (fun h46 => ?_) (fun h46 => ?_)
            ·
              refine L_gyes rfl rfl ?_
              refine L_o (o_call Try.func23 rfl rfl (works w10) rfl rfl ?_)
              rintro e12 w12 ⟨v12, rfl, l12, rfl⟩
              refine ⟨_, rfl, ?_⟩
              have S12 := S10.like l12
              refine L_y ((by first | exact y_pickT rfl rfl | exact y_pickF rfl rfl)) rfl ?_
              refine L_y (y_assign rfl) rfl ?_
              refine L_nil ?_
              refine hK13 _ _ ?_
              refine T_ret ?_
              repeat (first | with_reducible refine up_then ?_ | with_reducible refine up_in ?_)
              refine ret1 rfl rfl ?_
              exact ⟨_, rfl, S12.like0, rfl⟩
            ·
              exact absurd h46 (by rw [mback3 h42, zML_mk, meq_refl]; decide)
          ·
            have hm0 : mcode s = 0 := Classical.not_not.1 h42
            have hb2 := mback2 hm0
            refine T_skip ?_
            refine hK11 _ _ ?_
            refine T_seq fun K14 hK14 => ?_
            refine T_region ?_
            refine L_y (y_ldW Try.underlying74 rfl sz74 rfl (S10.blk 3 rfl) (mk_whole _)) rfl ?_
            refine L_o (o_call Try.func39 rfl rfl (putM (mkOf (mval s)) w10) rfl rfl ?_)
            rintro e13 w13 ⟨v13, rfl, l13, B3, m3, d3, l3, e3, rfl, rfl, hl3, hf13⟩
            refine ⟨_, rfl, ?_⟩
            have S13 := S10.adoptF l13 hf13
            rw [if_pos hb2.1] at hl3
            obtain rfl : l3 = s := hl3.trans hb2.2
            refine L_y (y_move rfl) rfl ?_
            refine L_y (y_extract rfl rfl) rfl ?_
            refine L_y (y_extract rfl rfl) rfl ?_
            refine L_y (y_assign rfl) rfl ?_
            refine L_y (y_assign rfl) rfl ?_
            refine L_nil ?_
            refine hK14 _ _ ?_
            refine T_seq fun K15 hK15 => ?_
            refine T_region ?_
            refine L_y (y_move rfl) rfl ?_
            refine L_y (y_eql rfl rfl) rfl ?_
            refine L_y (y_move rfl) rfl ?_
            refine L_split 56 rfl (fun h56 => ?_) (fun h56 => ?_)
            ·
              refine L_gyes rfl rfl ?_
              refine L_y (y_move rfl) rfl ?_
              refine L_gyes rfl rfl ?_
              refine L_y (y_move rfl) rfl ?_
              refine L_gyes rfl rfl ?_
              refine L_o (o_call Try.func18 rfl rfl (Oct.same _ _ _ _ _ _ _ _ w13 (S13.fix 4 rfl) (S13.rd hb)) rfl rfl ?_)
              rintro e15 w15 ⟨v15, rfl, l15, rfl⟩
              refine ⟨_, rfl, ?_⟩
              have S15 := S13.like l15
              refine L_y ((by first | exact y_pickT rfl rfl | exact y_pickF rfl rfl)) rfl ?_
              refine L_y (y_move rfl) rfl ?_
              refine L_split 61 rfl (fun h61 => ?_) (fun h61 => ?_)
              ·
                refine L_gyes rfl rfl ?_
                refine L_o (o_call Try.func23 rfl rfl (works w15) rfl rfl ?_)
                rintro e17 w17 ⟨v17, rfl, l17, rfl⟩
                refine ⟨_, rfl, ?_⟩
                have S17 := S15.like l17
                refine L_y ((by first | exact y_pickT rfl rfl | exact y_pickF rfl rfl)) rfl ?_
                refine L_y (y_assign rfl) rfl ?_
                refine L_nil ?_
                refine hK15 _ _ ?_
                refine T_ret ?_
                repeat (first | with_reducible refine up_then ?_ | with_reducible refine up_in ?_)
                refine ret1 rfl rfl ?_
                exact ⟨_, rfl, S17.like0, rfl⟩
              ·
                exact absurd rfl h61
            ·
              exact absurd hb2.1 h56
    ·
      refine T_skip ?_
      refine hK6 _ _ ?_
      refine T_seq fun K16 hK16 => ?_
      refine T_region ?_
      refine L_y (y_move rfl) rfl ?_
      refine L_o (o_call Try.func41 rfl rfl (getM _ _ _ s w3 (S3.rd hb) (by omega)) rfl rfl ?_)
      rintro e18 w18 ⟨v18, rfl, l18, rfl⟩
      refine ⟨_, rfl, ?_⟩
      have S18 := S3.like l18
      refine L_y (y_move rfl) rfl ?_
      refine L_y (y_extract rfl rfl) rfl ?_
      refine L_y (y_extract rfl rfl) rfl ?_
      refine L_o (o_alloc zz74 S18 rfl fun b19 w19 hb19 S19 => ?_)
      refine L_o (o_stW S19 2 rfl rfl rfl (by rw [mkf_sz]; exact sz74) (by first | (rw [mkf_sz]; done) | (rw [mkf_sz]; rfl)) (fun u hu => mkf_one _ u (by rw [List.toList_toArray] at hu; exact hu)) fun w20 S20 => ?_)
      refine L_y (y_assign rfl) rfl ?_
      refine L_nil ?_
      refine hK16 _ _ ?_
      refine T_seq fun K17 hK17 => ?_
      refine T_seq fun K18 hK18 => ?_
      refine T_region ?_
      refine L_y (y_move rfl) rfl ?_
      refine L_y (y_neq rfl rfl) rfl ?_
      refine L_nil ?_
      refine hK18 _ _ ?_
      refine T_cond rfl (fun h42 => ?_) (fun h42 => ?_)
      ·
        refine T_seq fun K19 hK19 => ?_
        refine T_region ?_
        refine L_y (y_ldW Try.underlying74 rfl sz74 rfl (S20.blk 2 rfl) (mk_whole _)) rfl ?_
        refine L_y (y_build rfl (show _ = some (mkf zMk).toArray by kernel_rfl)) rfl ?_
        refine L_y (y_eqS Try.underlying74 (by kernel_rfl) (by kernel_rfl) (mk_eq (mkOf (mval s)) zMk Try.underlying74) rfl rfl) rfl ?_
        refine L_y (y_move rfl) rfl ?_
        refine L_splitB 46 rfl (fun h46 => ?_) (fun h46 => ?_)
        ·
          refine L_gyes rfl rfl ?_
          refine L_o (o_call Try.func23 rfl rfl (works w20) rfl rfl ?_)
          rintro e22 w22 ⟨v22, rfl, l22, rfl⟩
          refine ⟨_, rfl, ?_⟩
          have S22 := S20.like l22
          refine L_y ((by first | exact y_pickT rfl rfl | exact y_pickF rfl rfl)) rfl ?_
          refine L_y (y_assign rfl) rfl ?_
          refine L_nil ?_
          refine hK19 _ _ ?_
          refine T_ret ?_
          repeat (first | with_reducible refine up_then ?_ | with_reducible refine up_in ?_)
          refine ret1 rfl rfl ?_
          exact ⟨_, rfl, S22.like0, rfl⟩
        ·
          exact absurd h46 (by rw [mback3 h42, zML_mk, meq_refl]; decide)
      ·
        have hm0 : mcode s = 0 := Classical.not_not.1 h42
        have hb2 := mback2 hm0
        refine T_skip ?_
        refine hK17 _ _ ?_
        refine T_seq fun K20 hK20 => ?_
        refine T_region ?_
        refine L_y (y_ldW Try.underlying74 rfl sz74 rfl (S20.blk 2 rfl) (mk_whole _)) rfl ?_
        refine L_o (o_call Try.func39 rfl rfl (putM (mkOf (mval s)) w20) rfl rfl ?_)
        rintro e23 w23 ⟨v23, rfl, l23, B3, m3, d3, l3, e3, rfl, rfl, hl3, hf23⟩
        refine ⟨_, rfl, ?_⟩
        have S23 := S20.adoptF l23 hf23
        rw [if_pos hb2.1] at hl3
        obtain rfl : l3 = s := hl3.trans hb2.2
        refine L_y (y_move rfl) rfl ?_
        refine L_y (y_extract rfl rfl) rfl ?_
        refine L_y (y_extract rfl rfl) rfl ?_
        refine L_y (y_assign rfl) rfl ?_
        refine L_y (y_assign rfl) rfl ?_
        refine L_nil ?_
        refine hK20 _ _ ?_
        refine T_seq fun K21 hK21 => ?_
        refine T_region ?_
        refine L_y (y_move rfl) rfl ?_
        refine L_y (y_eql rfl rfl) rfl ?_
        refine L_y (y_move rfl) rfl ?_
        refine L_split 56 rfl (fun h56 => ?_) (fun h56 => ?_)
        ·
          refine L_gyes rfl rfl ?_
          refine L_y (y_move rfl) rfl ?_
          refine L_gyes rfl rfl ?_
          refine L_y (y_move rfl) rfl ?_
          refine L_gyes rfl rfl ?_
          refine L_o (o_call Try.func18 rfl rfl (Oct.same _ _ _ _ _ _ _ _ w23 (S23.fix 3 rfl) (S23.rd hb)) rfl rfl ?_)
          rintro e25 w25 ⟨v25, rfl, l25, rfl⟩
          refine ⟨_, rfl, ?_⟩
          have S25 := S23.like l25
          refine L_y ((by first | exact y_pickT rfl rfl | exact y_pickF rfl rfl)) rfl ?_
          refine L_y (y_move rfl) rfl ?_
          refine L_split 61 rfl (fun h61 => ?_) (fun h61 => ?_)
          ·
            refine L_gyes rfl rfl ?_
            refine L_o (o_call Try.func23 rfl rfl (works w25) rfl rfl ?_)
            rintro e27 w27 ⟨v27, rfl, l27, rfl⟩
            refine ⟨_, rfl, ?_⟩
            have S27 := S25.like l27
            refine L_y ((by first | exact y_pickT rfl rfl | exact y_pickF rfl rfl)) rfl ?_
            refine L_y (y_assign rfl) rfl ?_
            refine L_nil ?_
            refine hK21 _ _ ?_
            refine T_ret ?_
            repeat (first | with_reducible refine up_then ?_ | with_reducible refine up_in ?_)
            refine ret1 rfl rfl ?_
            exact ⟨_, rfl, S27.like0, rfl⟩
          ·
            exact absurd rfl h61
        ·
          exact absurd hb2.1 h56


theorem markback_law (x : Mk) (B : Option Addr) (m d : Nat) (s : List UInt8) (w0 : World) (hb : Rs w0 1 B m d (bL s)) :
    Calls Try.prog 10 #[.agg (mkf x).toArray, .slice B m d] w0 fun e w' => e = .returned (.bool true) ∧ Below w0.heap.size w0 w' :=
  (markback x B m d s w0 hb).mono fun e w' ⟨u, h1, h2, h3⟩ => by subst h3; exact ⟨h1, h2⟩
end Go.Proofs.Ytgaklngnfecdaaa.Rev


/-
  Tags as a law's arguments.
-/
namespace Go.Proofs.Ytgaklngnfecdaaa.Rev
open Go.ChangeShapes Go.WideShapes Go.ChangeAt Go.RowKit Go.Deep Zk Zx
open Oid (idf idf_len)
set_option linter.unusedVariables false
set_option linter.unusedSimpArgs false
set_option maxRecDepth 100000
section
variable {H : Type} {enc : TypeId × Value → H} {w : World} {base : Nat} {spare : Nat → Bool} {held : Bool}
theorem read_mk {fuel : Nat} {cs : List Value} {x : DataW H × List MemPlace} (hlen : cs.length = 36) (h : DataW.trod enc Try.prog w base spare held fuel 74 cs = some x) : ∃ y : Mk, cs = mkf y := by
  obtain ⟨xs, n, _, hx, hl, hlen2, hg⟩ := DataW.trod_struct Try.underlying74 h
  have e0 := hg 0 _ rfl
  have e1 := hg 1 _ rfl
  have e2 := hg 2 _ rfl
  have e3 := hg 3 _ rfl
  have e4 := hg 4 _ rfl
  change DataW.trod enc Try.prog w base spare held n 23 ((cs.drop 0).take (Try.prog.cellsOf 23)) = _ at e0
  change DataW.trod enc Try.prog w base spare held n 3 ((cs.drop 32).take (Try.prog.cellsOf 3)) = _ at e1
  change DataW.trod enc Try.prog w base spare held n 9 ((cs.drop 33).take (Try.prog.cellsOf 9)) = _ at e2
  change DataW.trod enc Try.prog w base spare held n 3 ((cs.drop 34).take (Try.prog.cellsOf 3)) = _ at e3
  change DataW.trod enc Try.prog w base spare held n 9 ((cs.drop 35).take (Try.prog.cellsOf 9)) = _ at e4
  rw [c23] at e0
  rw [c9] at e2 e4
  rw [c3] at e1 e3
  have hxl : xs.length = 5 := hlen2
  match xs, hxl with
  | [y0, y1, y2, y3, y4], _ =>
    have e0 : DataW.trod enc Try.prog w base spare held n 23 ((cs.drop 0).take 32) = some y0 := e0
    have e1 : DataW.trod enc Try.prog w base spare held n 3 ((cs.drop 32).take 1) = some y1 := e1
    have e2 : DataW.trod enc Try.prog w base spare held n 9 ((cs.drop 33).take 1) = some y2 := e2
    have e3 : DataW.trod enc Try.prog w base spare held n 3 ((cs.drop 34).take 1) = some y3 := e3
    have e4 : DataW.trod enc Try.prog w base spare held n 9 ((cs.drop 35).take 1) = some y4 := e4
    obtain ⟨z, hz⟩ := Oid.read_id e0
    obtain ⟨k, ha, _, _⟩ := DataW.trod_int Try.underlying3 e1
    obtain ⟨s, hs, _, _⟩ := DataW.trod_string Try.underlying9 e2
    obtain ⟨i, hi, _, _⟩ := DataW.trod_int Try.underlying3 e3
    obtain ⟨t, ht, _, _⟩ := DataW.trod_string Try.underlying9 e4
    refine ⟨⟨z, k, s, i, t⟩, ?_⟩
    rw [List.drop_zero] at hz
    have q : cs = cs.take 32 ++ ((cs.drop 32).take 1 ++ ((cs.drop 33).take 1 ++ ((cs.drop 34).take 1 ++ (cs.drop 35).take 1))) := by
      have g : ∀ k, k < cs.length → cs.drop k = (cs.drop k).take 1 ++ cs.drop (k + 1) := fun k hk => by rw [List.drop_eq_getElem_cons hk]; rfl
      have g4 : (cs.drop 35).take 1 = cs.drop 35 := List.take_of_length_le (by rw [List.length_drop]; omega)
      rw [g4, ← g 34 (by omega), ← g 33 (by omega), ← g 32 (by omega), List.take_append_drop]
    rw [q, hz, ha, hs, hi, ht]
    rfl
theorem open_mk {r : Reach} {b0 : Nat} {v : Value} {d : DataW H} {p : List MemPlace} (hv : Value.okWide Try.prog w r b0 74 v) (h : DataW.Trod enc Try.prog w base spare held 74 v d p) : ∃ y : Mk, v = .agg (mkf y).toArray := by
  obtain ⟨cs, rfl, hsz⟩ := okWide_struct Try.underlying74 hv
  obtain ⟨fuel, hf⟩ := h
  have c36 := c74
  obtain ⟨y, hy⟩ := read_mk (by show cs.toList.length = 36; rw [Array.length_toList]; omega) hf
  refine ⟨y, ?_⟩
  have hy' : cs.toList = mkf y := hy
  rw [← hy']
end
end Go.Proofs.Ytgaklngnfecdaaa.Rev
