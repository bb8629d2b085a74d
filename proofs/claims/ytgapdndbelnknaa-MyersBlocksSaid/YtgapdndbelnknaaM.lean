/-
  The field: fill.
-/
import Derived.Test.YtgapdndbelnknaaL
namespace Go.Proofs.Ytgapdndbelnknaa
open Go.RowKit Zk Zx
set_option linter.unusedVariables false
set_option linter.unusedSimpArgs false

theorem St_swap2 {w0 w : World} {M : Nat → Prop} {a b : Res} (S : St w0 M [a, b] w) : St w0 M [b, a] w :=
  ⟨S.os, S.tape, S.output, S.size, S.old, fun q hq => S.res q (by rcases List.mem_cons.1 hq with rfl | hq; exact List.mem_cons_of_mem _ (List.mem_singleton_self _); obtain rfl := List.mem_singleton.1 hq; exact List.mem_cons_self), by
    have h := S.apart
    rw [List.pairwise_cons] at h ⊢
    refine ⟨fun q hq i hi hx => ?_, List.pairwise_singleton _ _⟩
    obtain rfl := List.mem_singleton.1 hq
    exact h.1 _ (List.mem_singleton_self _) i hx hi⟩
theorem now_rs {t : Nat} {ss : Nat → Option (Array Value)} {w : World} (h : (heapR t ss).holds w) {b o n : Nat} {cur : Array Value} (hb : ss b = some cur) (ho : o + n ≤ cur.size) (hn : n ≤ 9223372036854775807) : Rs w 1 (some ⟨b, o, none⟩) n n ((cur.toList.drop o).take n) :=
  heapR_rs h hb (by rw [List.length_take, List.length_drop, Array.length_toList]; omega) (fun j u hu => by
    rw [List.getElem?_take] at hu
    split at hu
    · rw [List.getElem?_drop, Array.getElem?_toList] at hu; exact hu
    · cases hu) (Nat.le_refl _) hn
theorem pR_at (b o k size : Nat) : pR (some ⟨b, o, none⟩) k size = .pointer (some ⟨b, o + k * size, none⟩) := by
  unfold pR
  rw [Option.map_some, Addr.add_lit]
theorem fill_step {cur cur0 : Array Value} {fr j k : Nat} {xs : List Int} {v : Int} (hk : k = fr + j) (hxl : xs.length = j) (hb : k < cur.size) (h1 : ∀ i, i < fr → cur[i]? = cur0[i]?) (h2 : ∀ (t : Nat) y, xs[t]? = some y → cur[fr + t]? = some (Value.int .i64 y)) :
    (∀ i, i < fr → (cur.setIfInBounds k (.int .i64 v))[i]? = cur0[i]?) ∧ ∀ (t : Nat) y, (xs ++ [v])[t]? = some y → (cur.setIfInBounds k (.int .i64 v))[fr + t]? = some (Value.int .i64 y) := by
  subst hk
  refine ⟨fun i hi => ?_, fun t y hy => ?_⟩
  · rw [Array.getElem?_setIfInBounds_ne (by omega)]
    exact h1 i hi
  · rcases Nat.lt_or_ge t xs.length with ht | ht
    · rw [List.getElem?_append_left ht] at hy
      rw [Array.getElem?_setIfInBounds_ne (by omega)]
      exact h2 t y hy
    · rw [List.getElem?_append_right ht] at hy
      have h0 : t - xs.length = 0 := by have := (List.getElem?_eq_some_iff.1 hy).1; simp at this; omega
      rw [h0] at hy
      obtain rfl : v = y := by simpa using hy
      have e : t = j := by omega
      subst e
      rw [Array.getElem?_setIfInBounds_self_of_lt hb]
theorem good_step {la lb : List Int} {d j : Nat} {xs : List Int} {v : Int} (hxl : xs.length = j) (h : ∀ (t : Nat) y, xs[t]? = some y → Good la lb d ((t : Int) - d) y) (hv : Good la lb d ((j : Int) - d) v) : ∀ (t : Nat) y, (xs ++ [v])[t]? = some y → Good la lb d ((t : Int) - d) y := fun t y hy => by
  rcases Nat.lt_or_ge t xs.length with ht | ht
  · rw [List.getElem?_append_left ht] at hy
    exact h t y hy
  · rw [List.getElem?_append_right ht] at hy
    have h0 : t - xs.length = 0 := by have := (List.getElem?_eq_some_iff.1 hy).1; simp at this; omega
    rw [h0] at hy
    obtain rfl : v = y := by simpa using hy
    have e : t = j := by omega
    subst e
    exact hv


set_option maxRecDepth 100000 in
theorem ffill (g : Nat) (A : Option Addr) (n ca : Nat) (B : Option Addr) (m cb : Nat) (la lb : List Int) (w0 : World) (hw : Blk w0 g 54 #[.slice A n ca, .slice B m cb, .slice none 0 0, .slice none 0 0]) (hA1 : Rs w0 1 A n ca (iL la)) (hB1 : Rs w0 1 B m cb (iL lb)) (hAg : ∀ ad, 0 < n → A = some ad → ¬ ad.block = g) (hBg : ∀ ad, 0 < m → B = some ad → ¬ ad.block = g) (hn : n ≤ 4096) (hm : m ≤ 4096) :
    Calls Try.prog 23 #[.pointer (some ⟨g, 0, none⟩)] w0 fun e w' => ∃ u, e = .returned u ∧ ∃ X, Turned w0 w' (blk g 54 #[.slice A n ca, .slice B m cb, .slice none 0 0, .slice none 0 0]) (blk g 54 X) ∧ u = .int .i64 (rR la lb 0 0 : Int) ∧ ∃ D, FR w' g A n ca B m cb la lb D ∧ D.length = rR la lb 0 0 + 1 ∧ Tab la lb D := by
  refine enter1 (env := [(0, .pointer (some ⟨g, 0, none⟩))]) [.pointer (some ⟨g, 0, none⟩)] Try.func23 rfl Try.ntmps23 rfl rfl ?_
  have hla := lenI hA1; have hlb := lenI hB1; have hrf := rR_facts la lb 0 0; have S0 := St.borrow1 (blk g 54 #[.slice A n ca, .slice B m cb, .slice none 0 0, .slice none 0 0]) hw (fun i hi => by (have hi2 : i = g := hi); subst hi2; exact hw.lt)
  refine T_seq fun K1 hK1 => ?_
  refine T_region ?_
  refine L_y (y_assign rfl) rfl ?_
  refine L_nil ?_
  refine hK1 _ _ ?_
  refine T_seq fun K2 hK2 => ?_
  refine T_drawnL [(0, true), (1, true), (2, true), (3, true), (4, true), (5, true), (6, true), (7, true), (8, true), (9, true), (10, true), (11, true)] hmix (by kernel_rfl) fun w1 l1 => ?_
  have S1 := S0.like l1
  refine DL_y rfl (y_move rfl) rfl ?_
  refine DL_y rfl (y_nilp rfl) rfl ?_
  refine DL_y rfl (y_fieldA 0 Try.underlying54 rfl sz22 rfl rfl rfl) rfl ?_
  refine DL_y rfl (y_ldc Try.underlying22 rfl rfl (((S1.blk 0 rfl).cell _).trans (by rfl))) rfl ?_
  refine DL_y rfl (y_len Try.underlying22 rfl) rfl ?_
  refine DL_y rfl (y_move rfl) rfl ?_
  refine DL_y rfl (y_nilp rfl) rfl ?_
  refine DL_y rfl (y_fieldA 1 Try.underlying54 rfl sz22 rfl rfl rfl) rfl ?_
  refine DL_y rfl (y_ldc Try.underlying22 rfl rfl (((S1.blk 0 rfl).cell _).trans (by rfl))) rfl ?_
  refine DL_y rfl (y_len Try.underlying22 rfl) rfl ?_
  refine DL_y rfl (y_assign rfl) rfl ?_
  refine DL_y rfl (y_assign rfl) rfl ?_
  refine DL_nil ?_
  refine hK2 _ _ ?_
  refine T_seq fun K3 hK3 => ?_
  refine T_region ?_
  refine L_y (y_move rfl) rfl ?_
  refine L_y (y_move rfl) rfl ?_
  refine L_y (y_sub rfl rfl (i64w (by omega))) rfl ?_
  refine L_y (y_assign rfl) rfl ?_
  refine L_nil ?_
  refine hK3 _ _ ?_
  refine T_seq fun K4 hK4 => ?_
  refine T_region ?_
  refine L_y (y_assign rfl) rfl ?_
  refine L_nil ?_
  refine hK4 _ _ ?_
  refine T_block ?_
  refine T_loop9 [(0, _), (5, _)] (fun (d : Nat) (R : Option Addr) (cr : Nat) (vs : List Value) (SA : Option Addr) (ns : Nat) (cs : Nat) (ss : Nat → Option (Array Value)) (D : List (List Int)) => [(0, .pointer (some ⟨g, 0, none⟩)), (5, .int .i64 ((n : Int) - m)), (6, .int .i64 (d : Int))]) (fun (d : Nat) (R : Option Addr) (cr : Nat) (vs : List Value) (SA : Option Addr) (ns : Nat) (cs : Nat) (ss : Nat → Option (Array Value)) (D : List (List Int)) => rR la lb 0 0 + 1 - d) (fun (d : Nat) (R : Option Addr) (cr : Nat) (vs : List Value) (SA : Option Addr) (ns : Nat) (cs : Nat) (ss : Nat → Option (Array Value)) (D : List (List Int)) (w : World) => (d ≤ rR la lb 0 0 ∧ D.length = d ∧ vs.length = d ∧ Room ss SA ns cs ∧ RowsOk ss SA ns D vs ∧ Tab la lb D ∧ ns ≤ d * 1048576) ∧ St w0 (blk g 54 #[.slice A n ca, .slice B m cb, .slice none 0 0, .slice none 0 0]).dom [row 22 1 R d cr vs, blk g 54 #[.slice A n ca, .slice B m cb, .slice R d cr, .slice SA ns cs], heapR 3 ss] w) 0 none 0 [] none 0 0 (fun _ => none) [] (Sub.cons rfl (by first | rfl | exact congrArg (Value.int _) (by omega)) (Sub.cons rfl (by first | rfl | exact congrArg (Value.int _) (by omega)) (Sub.cons rfl (by first | rfl | exact congrArg (Value.int _) (by omega)) (Sub.nil _)))) (Sub.cons rfl rfl (Sub.cons rfl rfl (Sub.nil _))) ?_ ?_
  ·
    have S52 := St_swap2 (S1.nilrow 22 1)
    have S53 := S52.new (Like.refl _) (heapR 3 fun _ => none) (heapR_none _ _) (fun i hi => by cases hi)
    exact ⟨⟨Nat.zero_le _, rfl, rfl, .inl ⟨rfl, rfl, rfl⟩, (fun d x hx => by cases hx), tab_nil la lb, Nat.zero_le _⟩, S53⟩
  ·
    intro d R cr vs SA ns cs ss D w2 hrel
    obtain ⟨⟨hd, hDd, hvd, hroom, hrow, htab, hns⟩, S2⟩ := hrel
    refine T_seq fun K5 hK5 => ?_
    refine T_block ?_
    refine T_seq fun K6 hK6 => ?_
    have S60 := St.sepj (rs := [_]) S2
    refine T_region ?_
    refine L_y (y_move rfl) rfl ?_
    refine L_y (y_move rfl) rfl ?_
    refine L_y (y_mul rfl rfl (i64w (by omega))) rfl ?_
    refine L_y (y_add rfl rfl (i64w (by omega))) rfl ?_
    refine L_o (o_call Try.func25 rfl rfl (frow g _ _ _ SA ns cs ss (2 * d + 1) _ w2 (by omega) (S60.get 1 rfl) (S60.lt 1 rfl) hroom (by omega) (by omega) (by omega)) rfl rfl ?_)
    rintro e3 w3 ⟨v3, rfl, st, fr, cs2, cur0, rfl, T3, hcs, hfit, hcmx, hcase⟩
    refine ⟨_, rfl, ?_⟩
    have S3 := S60.turn 1 rfl T3
    have S62 := St.seps (rs := [_]) S3
    refine L_y (y_assign rfl) rfl ?_
    refine L_nil ?_
    refine hK6 _ _ ?_
    refine T_seq fun K7 hK7 => ?_
    refine T_seq fun K8 hK8 => ?_
    refine T_region ?_
    refine L_y (y_move rfl) rfl ?_
    refine L_y (y_neg rfl (i64w (by omega))) rfl ?_
    refine L_y (y_assign rfl) rfl ?_
    refine L_nil ?_
    refine hK8 _ _ ?_
    refine T_block ?_
    refine T_loop3 [(0, _), (5, _), (6, _), (7, _)] (fun (j : Nat) (cur : Array Value) (xs : List Int) => [(0, .pointer (some ⟨g, 0, none⟩)), (5, .int .i64 ((n : Int) - m)), (6, .int .i64 (d : Int)), (7, .slice (some ⟨st, fr, none⟩) (2 * d + 1) (2 * d + 1)), (8, .int .i64 ((j : Int) - d))]) (fun (j : Nat) (cur : Array Value) (xs : List Int) => 2 * d + 1 - j) (fun (j : Nat) (cur : Array Value) (xs : List Int) (w : World) => (j ≤ 2 * d + 1 ∧ xs.length = j ∧ cur.size = cs2 ∧ (∀ i, i < fr → cur[i]? = cur0[i]?) ∧ (∀ (t : Nat) y, xs[t]? = some y → cur[fr + t]? = some (Value.int .i64 y)) ∧ ∀ (t : Nat) y, xs[t]? = some y → Good la lb d ((t : Int) - d) y) ∧ St w0 (blk g 54 #[.slice A n ca, .slice B m cb, .slice none 0 0, .slice none 0 0]).dom [row 22 1 R d cr vs, blk g 54 #[.slice A n ca, .slice B m cb, .slice R d cr, .slice (some ⟨st, 0, none⟩) (fr + (2 * d + 1)) cs2], heapR 3 (Zx.upd ss st cur)] w) 0 cur0 [] (Sub.cons rfl (by first | rfl | exact congrArg (Value.int _) (by omega)) (Sub.cons rfl (by first | rfl | exact congrArg (Value.int _) (by omega)) (Sub.cons rfl (by first | rfl | exact congrArg (Value.int _) (by omega)) (Sub.cons rfl (by first | rfl | exact congrArg (Value.int _) (by omega)) (Sub.cons rfl (by first | rfl | exact congrArg (Value.int _) (by omega)) (Sub.nil _)))))) (Sub.cons rfl rfl (Sub.cons rfl rfl (Sub.cons rfl rfl (Sub.cons rfl rfl (Sub.nil _))))) ?_ ?_
    ·
      exact ⟨⟨Nat.zero_le _, rfl, hcs, fun i hi => rfl, (fun t y hy => by cases hy), (fun t y hy => by cases hy)⟩, S62⟩
    ·
      intro j cur xs w4 hrel
      obtain ⟨⟨hj, hxl, hcsz, hpre, hcell, hgood⟩, S4⟩ := hrel
      refine T_seq fun K9 hK9 => ?_
      refine T_seq fun K10 hK10 => ?_
      refine T_region ?_
      refine L_y (y_move rfl) rfl ?_
      refine L_y (y_move rfl) rfl ?_
      refine L_y (y_leq rfl rfl) rfl ?_
      refine L_nil ?_
      refine hK10 _ _ ?_
      refine T_cond rfl (fun h33 => ?_) (fun h33 => ?_)
      ·
        have hrow2 : RowsOk (Zx.upd ss st cur) SA ns D vs := hrow.upd fun c hc => by rcases hcase with ⟨q1, q2, q3⟩ | ⟨q1, q2⟩; (rw [q3] at hc; cases hc; exact ⟨q1, fun i hi => hpre i (by omega)⟩); (rw [q2] at hc; cases hc)
        refine T_skip ?_
        refine hK9 _ _ ?_
        refine T_seq fun K11 hK11 => ?_
        refine T_block ?_
        refine T_region ?_
        refine L_y (y_move rfl) rfl ?_
        refine L_y (y_move rfl) rfl ?_
        refine L_y (y_move rfl) rfl ?_
        refine L_y (y_add rfl rfl (i64w (by omega))) rfl ?_
        refine L_y (y_move rfl) rfl ?_
        refine L_y (y_move rfl) rfl ?_
        refine L_y (y_move rfl) rfl ?_
        refine L_y (y_move rfl) rfl ?_
        refine L_o (o_call Try.func26 rfl rfl (fbest g A n ca B m cb la lb D (d : Int) ((j : Int) - d) ((n : Int) - m) w4 (FR.of S4 (S4.rdM hA1 hAg) (S4.rdM hB1 hBg) hDd.symm hrow2 (by omega)) (by omega) (by omega) (by omega) (by omega) (by omega) (by omega) (by omega) rfl htab) rfl rfl ?_)
        rintro e5 w5 ⟨v5, rfl, l5, v, rfl, hgv⟩
        refine ⟨_, rfl, ?_⟩
        have S5 := S4.like l5
        refine L_y (y_idx Try.underlying22 sz3 rfl rfl (now_rs (S5.get 2 rfl) (upd_same _ _ _) (by omega) (by omega)) (Nt.mk (by omega) : Nt _ (j)) (by omega)) rfl ?_
        refine L_o (o_stH (o := fr + j * 1) S5 2 rfl (upd_same _ _ _) (congrArg some (pR_at st fr j 1)) rfl rfl sz3 (by rw [hcsz]; omega) fun w6 S6 => ?_)
        refine L_nil ?_
        refine hK11 _ _ ?_
        refine T_region ?_
        refine L_y (y_move rfl) rfl ?_
        refine L_y (y_add rfl rfl (i64w (by omega))) rfl ?_
        refine L_y (y_assign rfl) rfl ?_
        refine L_nil ?_
        have S91 := heapc S6 2 rfl (upd_upd _ _ _ _)
        have hst := fill_step (v := v) (k := fr + j * 1) (by omega) hxl (by omega) hpre hcell
        refine ⟨j + 1, _, xs ++ [v], by omega, ⟨⟨by omega, by rw [List.length_append]; simp only [List.length_cons, List.length_nil]; omega, by rw [Array.size_setIfInBounds]; exact hcsz, hst.1, hst.2, good_step hxl hgood hgv⟩, S91⟩, ?_⟩
        exact (Sub.cons rfl (by first | rfl | exact congrArg (Value.int _) (by omega)) (Sub.cons rfl (by first | rfl | exact congrArg (Value.int _) (by omega)) (Sub.cons rfl (by first | rfl | exact congrArg (Value.int _) (by omega)) (Sub.cons rfl (by first | rfl | exact congrArg (Value.int _) (by omega)) (Sub.cons rfl (by first | rfl | exact congrArg (Value.int _) (by omega)) (Sub.cons rfl rfl (Sub.cons rfl rfl (Sub.cons rfl rfl (Sub.cons rfl rfl (Sub.nil _))))))))))
      ·
        refine T_exit ?_
        refine hK7 _ _ ?_
        refine T_seq fun K12 hK12 => ?_
        refine T_region ?_
        refine L_y (y_move rfl) rfl ?_
        refine L_y (y_move rfl) rfl ?_
        refine L_y (y_nilp rfl) rfl ?_
        refine L_y (y_fieldA 2 Try.underlying54 rfl sz48 rfl rfl rfl) rfl ?_
        refine L_y (y_ldc Try.underlying48 rfl rfl (((S4.blk 1 rfl).cell _).trans (by rfl))) rfl ?_
        refine L_y (y_move rfl) rfl ?_
        refine L_o (o_bsl [_] te48 zz22 S4 rfl rfl rfl rfl rfl rfl rfl rfl fun b7 w7 S7 => ?_)
        refine L_o (o_app te48 S7 0 rfl rfl rfl (by first | exact S7.row 0 rfl | exact S7.row 3 rfl) (by first | exact bL_one _ | exact iL_one _ | (intro u hu; simp at hu; subst hu; rfl) | (simp; done) | (simp [Value.oneCell']; done)) rfl (by omega) (by omega) fun A8 c8 w8 S8 => ?_)
        have S8d := S8.drop (rs' := [_, _, _]) (.cons_cons _ (.cons_cons _ (.cons_cons _ (.cons _ (.refl _)))))
        refine L_y (y_nilp rfl) rfl ?_
        refine L_y (y_fieldA 2 Try.underlying54 rfl sz48 rfl rfl rfl) rfl ?_
        refine L_o (o_st1 S8d 1 rfl rfl rfl rfl sz48 (by simp; done) fun w9 S9 => ?_)
        refine L_nil ?_
        refine hK12 _ _ ?_
        refine T_seq fun K13 hK13 => ?_
        have S70 := S9.blkc 1 rfl (cs' := #[.slice A n ca, .slice B m cb, .slice A8 (d + 1) c8, .slice (some ⟨st, 0, none⟩) (fr + (2 * d + 1)) cs2]) rfl
        have hje : j = 2 * d + 1 := by omega
        have hrow3 := hrow.add (x := xs) (by omega) (by omega) hcase hpre hcell (k := 2 * d + 1) (by omega)
        have htab3 := tab_add htab (x := xs) (by omega) (by rw [hDd]; exact hgood)
        have hDl : (D ++ [xs]).length = d + 1 := by rw [List.length_append, hDd]; rfl
        have hfr3 := FR.of S70 (S70.rdM hA1 hAg) (S70.rdM hB1 hBg) hDl.symm hrow3 (by omega)
        have hgz := good_zero (la := la) (lb := lb) (d := (d : Int)) (v := atV (D ++ [xs]) d (0 - ((n : Int) - m))) (by rw [hla, hlb, ← Int.zero_sub]; exact htab3 d _ (by omega))
        refine T_region ?_
        refine L_y (y_move rfl) rfl ?_
        refine L_y (y_move rfl) rfl ?_
        refine L_y (y_move rfl) rfl ?_
        refine L_y (y_neg rfl (i64w (by omega))) rfl ?_
        refine L_o (o_call Try.func27 rfl rfl (fat g A n ca B m cb la lb (D ++ [xs]) (d : Int) (0 - ((n : Int) - m)) w9 hfr3 (by omega) (by omega) (by omega) (by omega)) rfl rfl ?_)
        rintro e10 w10 ⟨v10, rfl, l10, rfl⟩
        refine ⟨_, rfl, ?_⟩
        have S10 := S70.like l10
        refine L_y (y_eql rfl rfl) rfl ?_
        refine L_nil ?_
        refine hK13 _ _ ?_
        refine T_cond rfl (fun h61 => ?_) (fun h61 => ?_)
        ·
          have hle := hgz.1 h61
          have hde : d = rR la lb 0 0 := by omega
          refine T_seq fun K14 hK14 => ?_
          refine T_region ?_
          refine L_y (y_move rfl) rfl ?_
          refine L_y (y_assign rfl) rfl ?_
          refine L_nil ?_
          refine hK14 _ _ ?_
          refine T_ret ?_
          repeat (first | with_reducible refine up_then ?_ | with_reducible refine up_in ?_)
          refine ret1 rfl rfl ?_
          exact ⟨_, rfl, _, S10.turned1 1 rfl, by rw [hde], D ++ [xs], FR.of S10 (S10.rdM hA1 hAg) (S10.rdM hB1 hBg) hDl.symm hrow3 (by omega), by omega, htab3⟩
        ·
          have hne : ¬ ((d : Int) = rR la lb 0 0) := fun h => h61 (hgz.2 h)
          refine T_skip ?_
          refine hK5 _ _ ?_
          refine T_region ?_
          refine L_y (y_move rfl) rfl ?_
          refine L_y (y_add rfl rfl (i64w (by omega))) rfl ?_
          refine L_y (y_assign rfl) rfl ?_
          refine L_nil ?_
          refine ⟨d + 1, A8, c8, _, _, _, _, _, D ++ [xs], by omega, ⟨⟨by omega, hDl, by rw [List.length_append, hvd]; rfl, .inr ⟨st, cur, rfl, upd_same _ _ _, hcsz, by omega, by omega⟩, hrow3, htab3, by omega⟩, S10⟩, ?_⟩
          exact (Sub.cons rfl (by first | rfl | exact congrArg (Value.int _) (by omega)) (Sub.cons rfl (by first | rfl | exact congrArg (Value.int _) (by omega)) (Sub.cons rfl (by first | rfl | exact congrArg (Value.int _) (by omega)) (Sub.cons rfl rfl (Sub.cons rfl rfl (Sub.nil _))))))
end Go.Proofs.Ytgapdndbelnknaa
