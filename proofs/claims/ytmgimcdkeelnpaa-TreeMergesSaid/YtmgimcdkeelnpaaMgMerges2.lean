import Derived.Test.YtmgimcdkeelnpaaMgMerges1

/-
  rotate; insertion.
-/
namespace Go.Proofs.Ytmgimcdkeelnpaa.Mrg
open Go.RowKit Zk Zx
set_option linter.unusedVariables false
set_option linter.unusedSimpArgs false

set_option maxRecDepth 100000 in
theorem rotat (A : Option Addr) (n c : Nat) (a m b : Int) (pre X Y post : List EV) (fv : Value) (w0 : World) (hw : (enR A c (pre ++ X ++ Y ++ post)).holds w0) (hn : n = (pre ++ X ++ Y ++ post).length) (ha : a = (pre.length : Int)) (hm : m = ((pre.length + X.length : Nat) : Int)) (hb : b = ((pre.length + X.length + Y.length : Nat) : Int)) (hX : 0 < X.length) (hY : 0 < Y.length) (hn5 : n ≤ 10000) :
    Calls Try.prog 52 #[.slice A n c, .int .i64 a, .int .i64 m, .int .i64 b, fv] w0 fun e w' => ∃ u, e = .returned u ∧ Turned w0 w' (enR A c (pre ++ X ++ Y ++ post)) (enR A c (pre ++ Y ++ X ++ post)) := by
  refine enter1 (env := [(0, .slice A n c), (1, .int .i64 a), (2, .int .i64 m), (3, .int .i64 b), (4, fv)]) [.slice A n c, .int .i64 a, .int .i64 m, .int .i64 b, fv] Try.func52 rfl Try.ntmps52 rfl rfl ?_
  have hn0 := hn; simp only [List.length_append] at hn; subst ha hm hb; have S0 := St.borrow1 (enR A c (pre ++ X ++ Y ++ post)) hw (enR_lt hw)
  refine T_seq fun K1 hK1 => ?_
  refine T_region ?_
  refine L_y (y_move rfl) rfl ?_
  refine L_y (y_move rfl) rfl ?_
  refine L_y (y_sub rfl rfl (i64w (by omega))) rfl ?_
  refine L_y (y_assign rfl) rfl ?_
  refine L_nil ?_
  refine hK1 _ _ ?_
  refine T_seq fun K2 hK2 => ?_
  refine T_region ?_
  refine L_y (y_move rfl) rfl ?_
  refine L_y (y_move rfl) rfl ?_
  refine L_y (y_sub rfl rfl (i64w (by omega))) rfl ?_
  refine L_y (y_assign rfl) rfl ?_
  refine L_nil ?_
  refine hK2 _ _ ?_
  refine T_seq fun K3 hK3 => ?_
  refine T_block ?_
  refine T_loop4 [(0, _), (2, _), (4, _)] (fun (P : List EV) (U : List EV) (V : List EV) (Q : List EV) => [(10, .int .i64 (U.length : Int)), (11, .int .i64 (V.length : Int))]) (fun (P : List EV) (U : List EV) (V : List EV) (Q : List EV) => U.length + V.length) (fun (P : List EV) (U : List EV) (V : List EV) (Q : List EV) (w : World) => (P.length + U.length = X.length ∧ V.length + Q.length = Y.length ∧ P ++ V ++ U ++ Q = Y ++ X ∧ 0 < U.length ∧ 0 < V.length) ∧ St w0 (enR A c (pre ++ X ++ Y ++ post)).dom [enR A c (pre ++ (P ++ U ++ V ++ Q) ++ post)] w) [] X Y [] (Sub.cons rfl (by first | rfl | exact congrArg (Value.int _) (by omega)) (Sub.cons rfl (by first | rfl | exact congrArg (Value.int _) (by omega)) (Sub.nil _))) (Sub.cons rfl rfl (Sub.cons rfl rfl (Sub.cons rfl rfl (Sub.nil _)))) ?_ ?_
  ·
    exact ⟨⟨by simp, by simp, by simp, by omega, by omega⟩, by simpa using S0⟩
  ·
    intro P U V Q w1 hrel
    obtain ⟨⟨h1, h2, h3, h4, h5⟩, S1⟩ := hrel
    refine T_seq fun K4 hK4 => ?_
    refine T_seq fun K5 hK5 => ?_
    refine T_region ?_
    refine L_y (y_move rfl) rfl ?_
    refine L_y (y_move rfl) rfl ?_
    refine L_y (y_neq rfl rfl) rfl ?_
    refine L_nil ?_
    refine hK5 _ _ ?_
    refine T_cond rfl (fun h20 => ?_) (fun h20 => ?_)
    ·
      refine T_skip ?_
      refine hK4 _ _ ?_
      refine T_block ?_
      refine T_seq fun K6 hK6 => ?_
      refine T_region ?_
      refine L_y (y_move rfl) rfl ?_
      refine L_y (y_move rfl) rfl ?_
      refine L_y (y_gtr rfl rfl) rfl ?_
      refine L_nil ?_
      refine hK6 _ _ ?_
      refine T_cond rfl (fun h23 => ?_) (fun h23 => ?_)
      ·
        obtain ⟨U1, U2, rfl, hU⟩ : ∃ U1 U2, U = U1 ++ U2 ∧ U1.length = V.length := ⟨U.take V.length, U.drop V.length, (List.take_append_drop _ _).symm, by rw [List.length_take]; omega⟩
        have hUl : (U1 ++ U2).length = U1.length + U2.length := List.length_append
        rw [show (pre ++ (P ++ (U1 ++ U2) ++ V ++ Q) ++ post) = (pre ++ P) ++ U1 ++ U2 ++ V ++ (Q ++ post) from by simp] at S1
        refine T_seq fun K7 hK7 => ?_
        refine T_region ?_
        refine L_y (y_move rfl) rfl ?_
        refine L_y (y_move rfl) rfl ?_
        refine L_y (y_move rfl) rfl ?_
        refine L_y (y_sub rfl rfl (i64w (by omega))) rfl ?_
        refine L_y (y_move rfl) rfl ?_
        refine L_y (y_move rfl) rfl ?_
        refine L_y (y_move rfl) rfl ?_
        refine L_o (o_call Try.func60 rfl rfl (swapr A n c _ _ _ (pre ++ P) U1 U2 V (Q ++ post) fv w1 (S1.get 0 rfl) (by omega) (by rw [hn0]; simp at *; omega) (by simp; omega) (by simp; omega) (by omega) hn5) rfl rfl ?_)
        rintro e2 w2 ⟨v2, rfl, T2⟩
        refine ⟨_, rfl, ?_⟩
        have S2 := S1.turn 0 rfl T2
        refine L_nil ?_
        refine hK7 _ _ ?_
        refine T_region ?_
        refine L_y (y_move rfl) rfl ?_
        refine L_y (y_move rfl) rfl ?_
        refine L_y (y_sub rfl rfl (i64w (by omega))) rfl ?_
        refine L_y (y_assign rfl) rfl ?_
        refine L_nil ?_
        refine ⟨P ++ V, U2, U1, Q, by omega, ⟨⟨by simp; omega, by omega, by rw [← h3]; simp, by omega, by omega⟩, by simpa using S2⟩, ?_⟩
        exact (Sub.cons rfl (congrArg (Value.int _) (by omega)) (Sub.cons rfl (congrArg (Value.int _) (by omega)) (Sub.cons rfl rfl (Sub.cons rfl rfl (Sub.cons rfl rfl (Sub.nil _))))))
      ·
        obtain ⟨V1, V2, rfl, hV⟩ : ∃ V1 V2, V = V1 ++ V2 ∧ V2.length = U.length := ⟨V.take (V.length - U.length), V.drop (V.length - U.length), (List.take_append_drop _ _).symm, by rw [List.length_drop]; omega⟩
        have hVl : (V1 ++ V2).length = V1.length + V2.length := List.length_append
        rw [show (pre ++ (P ++ U ++ (V1 ++ V2) ++ Q) ++ post) = (pre ++ P) ++ U ++ V1 ++ V2 ++ (Q ++ post) from by simp] at S1
        refine T_seq fun K8 hK8 => ?_
        refine T_region ?_
        refine L_y (y_move rfl) rfl ?_
        refine L_y (y_move rfl) rfl ?_
        refine L_y (y_move rfl) rfl ?_
        refine L_y (y_sub rfl rfl (i64w (by omega))) rfl ?_
        refine L_y (y_move rfl) rfl ?_
        refine L_y (y_move rfl) rfl ?_
        refine L_y (y_add rfl rfl (i64w (by omega))) rfl ?_
        refine L_y (y_move rfl) rfl ?_
        refine L_y (y_sub rfl rfl (i64w (by omega))) rfl ?_
        refine L_y (y_move rfl) rfl ?_
        refine L_y (y_move rfl) rfl ?_
        refine L_o (o_call Try.func60 rfl rfl (swapr A n c _ _ _ (pre ++ P) U V1 V2 (Q ++ post) fv w1 (S1.get 0 rfl) (by omega) (by rw [hn0]; simp at *; omega) (by simp; omega) (by simp; omega) (by omega) hn5) rfl rfl ?_)
        rintro e3 w3 ⟨v3, rfl, T3⟩
        refine ⟨_, rfl, ?_⟩
        have S3 := S1.turn 0 rfl T3
        refine L_nil ?_
        refine hK8 _ _ ?_
        refine T_region ?_
        refine L_y (y_move rfl) rfl ?_
        refine L_y (y_move rfl) rfl ?_
        refine L_y (y_sub rfl rfl (i64w (by omega))) rfl ?_
        refine L_y (y_assign rfl) rfl ?_
        refine L_nil ?_
        refine ⟨P, V2, V1, U ++ Q, by omega, ⟨⟨by omega, by simp; omega, by rw [← h3]; simp, by omega, by omega⟩, by simpa using S3⟩, ?_⟩
        exact (Sub.cons rfl (congrArg (Value.int _) (by omega)) (Sub.cons rfl (congrArg (Value.int _) (by omega)) (Sub.cons rfl rfl (Sub.cons rfl rfl (Sub.cons rfl rfl (Sub.nil _))))))
    ·
      have hUV : U.length = V.length := by omega
      rw [show (pre ++ (P ++ U ++ V ++ Q) ++ post) = (pre ++ P) ++ U ++ [] ++ V ++ (Q ++ post) from by simp] at S1
      refine T_exit ?_
      refine hK3 _ _ ?_
      refine T_region ?_
      refine L_y (y_move rfl) rfl ?_
      refine L_y (y_move rfl) rfl ?_
      refine L_y (y_move rfl) rfl ?_
      refine L_y (y_sub rfl rfl (i64w (by omega))) rfl ?_
      refine L_y (y_move rfl) rfl ?_
      refine L_y (y_move rfl) rfl ?_
      refine L_y (y_move rfl) rfl ?_
      refine L_o (o_call Try.func60 rfl rfl (swapr A n c _ _ _ (pre ++ P) U [] V (Q ++ post) fv w1 (S1.get 0 rfl) (by omega) (by rw [hn0]; simp at *; omega) (by simp; omega) (by simp; omega) (by omega) hn5) rfl rfl ?_)
      rintro e4 w4 ⟨v4, rfl, T4⟩
      refine ⟨_, rfl, ?_⟩
      have S4 := S1.turn 0 rfl T4
      refine L_nil ?_
      first | refine end0 (fn := Try.f52) rfl ?_ | (simp only [thenQ, inB, if_true]; refine end0 (fn := Try.f52) rfl ?_)
      exact ⟨_, rfl, by have h := S4.turned1 0 rfl; rw [show (pre ++ P) ++ V ++ [] ++ U ++ (Q ++ post) = pre ++ (P ++ V ++ U ++ Q) ++ post from by simp, h3, show pre ++ (Y ++ X) ++ post = pre ++ Y ++ X ++ post from by simp] at h; exact h⟩


theorem drop_hd2 {α : Type} {l : List α} {k : Nat} {x : α} (h : l[k]? = some x) : l.drop k = x :: l.drop (k + 1) := by
  obtain ⟨h1, h2⟩ := List.getElem?_eq_some_iff.1 h
  rw [← h2, List.getElem_cons_drop]
theorem take_sn2 {α : Type} {l : List α} {k : Nat} {x : α} (h : l[k]? = some x) : l.take (k + 1) = l.take k ++ [x] := by rw [List.take_add_one, h]; rfl


set_option maxRecDepth 100000 in
theorem insor (A : Option Addr) (n c : Nat) (a b : Int) (pre seg post : List EV) (F : Nat) (lt : EV → EV → Bool) (w0 : World) (hw : (enR A c (pre ++ seg ++ post)).holds w0) (hC : CMP F lt) (hn : n = (pre ++ seg ++ post).length) (ha : a = (pre.length : Int)) (hb : b = ((pre.length + seg.length : Nat) : Int)) (hn5 : n ≤ 10000) :
    Calls Try.prog 44 #[.slice A n c, .int .i64 a, .int .i64 b, .func (.func F) #[] #[]] w0 fun e w' => ∃ u, e = .returned u ∧ Turned w0 w' (enR A c (pre ++ seg ++ post)) (enR A c (pre ++ srt lt seg ++ post)) := by
  refine enter1 (env := [(0, .slice A n c), (1, .int .i64 a), (2, .int .i64 b), (3, .func (.func F) #[] #[])]) [.slice A n c, .int .i64 a, .int .i64 b, .func (.func F) #[] #[]] Try.func44 rfl Try.ntmps44 rfl rfl ?_
  have hn0 := hn; simp only [List.length_append] at hn; subst ha hb; obtain ⟨fx, hfn, hnm, hbd⟩ := hC.fn; have S0 := St.borrow1 (enR A c (pre ++ seg ++ post)) hw (enR_lt hw)
  refine T_seq fun K1 hK1 => ?_
  refine T_region ?_
  refine L_y (y_move rfl) rfl ?_
  refine L_y (y_add rfl rfl (i64w (by omega))) rfl ?_
  refine L_y (y_assign rfl) rfl ?_
  refine L_nil ?_
  refine hK1 _ _ ?_
  refine T_block ?_
  refine T_loop1 [(0, _), (1, _), (2, _), (3, _)] (fun (k : Nat) => [(8, .int .i64 ((pre.length + k : Nat) : Int))]) (fun (k : Nat) => seg.length - k) (fun (k : Nat) (w : World) => (1 ≤ k ∧ (k ≤ seg.length ∨ k = 1)) ∧ St w0 (enR A c (pre ++ seg ++ post)).dom [enR A c (pre ++ srt lt (seg.take k) ++ seg.drop k ++ post)] w) 1 (Sub.cons rfl (by first | rfl | exact congrArg (Value.int _) (by omega)) (Sub.nil _)) (Sub.cons rfl rfl (Sub.cons rfl rfl (Sub.cons rfl rfl (Sub.cons rfl rfl (Sub.nil _))))) ?_ ?_
  ·
    have e1 : srt lt (seg.take 1) ++ seg.drop 1 = seg := by cases seg with | nil => rfl | cons z t => rfl
    exact ⟨⟨Nat.le_refl _, .inr rfl⟩, by rw [show (pre ++ srt lt (seg.take 1) ++ seg.drop 1 ++ post) = pre ++ seg ++ post from by rw [List.append_assoc pre, e1]]; exact S0⟩
  ·
    intro k w1 hrel
    obtain ⟨⟨hk1, hk⟩, S1⟩ := hrel
    refine T_seq fun K2 hK2 => ?_
    refine T_seq fun K3 hK3 => ?_
    refine T_region ?_
    refine L_y (y_move rfl) rfl ?_
    refine L_y (y_move rfl) rfl ?_
    refine L_y (y_lss rfl rfl) rfl ?_
    refine L_nil ?_
    refine hK3 _ _ ?_
    refine T_cond rfl (fun h14 => ?_) (fun h14 => ?_)
    ·
      obtain ⟨x, hx⟩ : ∃ x, seg[k]? = some x := ⟨_, List.getElem?_eq_getElem (by omega)⟩
      have hsl : (srt lt (seg.take k)).length = k := by rw [srt_len, List.length_take]; omega
      refine T_skip ?_
      refine hK2 _ _ ?_
      refine T_seq fun K4 hK4 => ?_
      refine T_block ?_
      refine T_seq fun K5 hK5 => ?_
      refine T_region ?_
      refine L_y (y_move rfl) rfl ?_
      refine L_y (y_assign rfl) rfl ?_
      refine L_nil ?_
      refine hK5 _ _ ?_
      refine T_block ?_
      refine T_loop2 [(0, _), (1, _), (2, _), (3, _), (8, _)] (fun (p : List EV) (q : List EV) => [(9, .int .i64 ((pre.length + p.length : Nat) : Int))]) (fun (p : List EV) (q : List EV) => p.length) (fun (p : List EV) (q : List EV) (w : World) => (p ++ q = srt lt (seg.take k) ∧ (∀ y ∈ q, lt x y = true)) ∧ St w0 (enR A c (pre ++ seg ++ post)).dom [enR A c (pre ++ p ++ x :: (q ++ seg.drop (k + 1) ++ post))] w) (srt lt (seg.take k)) [] (Sub.cons rfl (by first | rfl | exact congrArg (Value.int _) (by omega)) (Sub.nil _)) (Sub.cons rfl rfl (Sub.cons rfl rfl (Sub.cons rfl rfl (Sub.cons rfl rfl (Sub.cons rfl rfl (Sub.nil _)))))) ?_ ?_
      ·
        exact ⟨⟨by simp, fun y hy => by cases hy⟩, by rw [drop_hd2 hx] at S1; simpa using S1⟩
      ·
        intro p q w2 hrel
        obtain ⟨⟨hpq, hq⟩, S2⟩ := hrel
        have hpl : p.length + q.length = k := by rw [← List.length_append, hpq, srt_len, List.length_take]; omega
        have hln2 : (pre ++ p ++ x :: (q ++ seg.drop (k + 1) ++ post)).length = n := by simp; omega
        rw [show enR A c (pre ++ p ++ x :: (q ++ seg.drop (k + 1) ++ post)) = Zx.row 39 34 A n c ((pre ++ p ++ x :: (q ++ seg.drop (k + 1) ++ post)).flatMap enf) from by rw [← hln2]; rfl] at S2
        refine T_seq fun K6 hK6 => ?_
        refine T_seq fun K7 hK7 => ?_
        refine T_tail 14 hmix (by kernel_rfl) fun w3 l3 K8 hK8 => ?_
        have S3 := S2.like l3
        refine HL_y (y_move rfl) rfl ?_
        refine HL_y (y_move rfl) rfl ?_
        refine HL_y (y_gtr rfl rfl) rfl ?_
        refine HL_y (y_move rfl) rfl ?_
        refine HL_split 21 rfl (fun h21 => ?_) (fun h21 => ?_)
        ·
          obtain ⟨p2, y, rfl⟩ : ∃ p2 y, p = p2 ++ [y] := by rcases List.eq_nil_or_concat p with rfl | ⟨p2, y, rfl⟩; (simp at h21); exact ⟨p2, y, by simp⟩
          have hpl2 : (p2 ++ [y]).length = p2.length + 1 := by simp
          obtain ⟨gy, gx, hset⟩ := exch2 (l := (pre ++ (p2 ++ [y]) ++ x :: (q ++ seg.drop (k + 1) ++ post))) (i := pre.length + p2.length) (j := pre.length + p2.length + 1) (p := pre ++ p2) (q := []) (r := q ++ seg.drop (k + 1) ++ post) (x := y) (y := x) (by simp) (by simp) (by simp)
          refine HL_gyes rfl rfl ?_
          refine HL_y (y_move rfl) rfl ?_
          refine HL_gyes rfl rfl ?_
          refine HL_y (y_move rfl) rfl ?_
          refine HL_gyes rfl rfl ?_
          refine HL_y (y_move rfl) rfl ?_
          refine HL_gyes rfl rfl ?_
          refine HL_y (y_idx Try.underlying22 sz39 rfl rfl (S3.row 0 rfl) (Nt.mk (by omega) : Nt _ (pre.length + p2.length + 1)) (by omega)) rfl ?_
          refine HL_gyes rfl rfl ?_
          refine HL_y (y_ldp (f := enf) enf_len Try.underlying39 rfl sz39 rfl (S3.row 0 rfl) (by omega) gx) rfl ?_
          refine HL_gyes rfl rfl ?_
          refine HL_y (y_move rfl) rfl ?_
          refine HL_gyes rfl rfl ?_
          refine HL_y (y_move rfl) rfl ?_
          refine HL_gyes rfl rfl ?_
          refine HL_y (y_sub rfl rfl (i64w (by omega))) rfl ?_
          refine HL_gyes rfl rfl ?_
          refine HL_y (y_idx Try.underlying22 sz39 rfl rfl (S3.row 0 rfl) (Nt.mk (by omega) : Nt _ (pre.length + p2.length)) (by omega)) rfl ?_
          refine HL_gyes rfl rfl ?_
          refine HL_y (y_ldp (f := enf) enf_len Try.underlying39 rfl sz39 rfl (S3.row 0 rfl) (by omega) gy) rfl ?_
          refine HL_nil ?_
          refine hK8 _ ?_
          refine L_gyes rfl rfl ?_
          refine L_o (o_callv (fs := []) (cs := []) rfl hfn hnm hbd (hC.call x y w3) rfl rfl (fun d' hd => by cases hd <;> rfl) ?_)
          rintro e5 w5 ⟨v5, rfl, l5, v32, rfl, hv32⟩
          refine ⟨_, rfl, ?_⟩
          have S5 := S3.like l5
          refine L_gyes rfl rfl ?_
          refine L_y (y_lss rfl rfl) rfl ?_
          refine L_y (y_pk rfl rfl) rfl ?_
          refine L_nil ?_
          refine hK7 _ _ ?_
          refine T_cond rfl (fun h34 => ?_) (fun h34 => ?_)
          ·
            have hyx : lt x y = true := hv32.1 (by omega)
            refine T_skip ?_
            refine hK6 _ _ ?_
            refine T_seq fun K9 hK9 => ?_
            refine T_block ?_
            refine T_zed [0, 1, 5, 6, 7, 8, 9, 10, 11, 12, 13, 14] 15 [(2, 0), (3, 0), (4, 0), (0, 1), (1, 1), (5, 1), (6, 1), (7, 1), (8, 1), (9, 1), (10, 1), (11, 1), (12, 1), (13, 1), (14, 1), (15, 3), (16, 3), (17, 3)] hmix (by kernel_rfl) fun w6 l6 => ?_
            have S6 := S5.like l6
            refine ZA_y rfl (y_move rfl) rfl ?_
            refine ZA_y rfl (y_move rfl) rfl ?_
            refine ZA_y rfl (y_sub rfl rfl (i64w (by omega))) rfl ?_
            refine ZA_B (Like w6) (Like.refl _) ?_
            refine ZB_y rfl (y_move rfl) rfl ?_
            refine ZB_y rfl (y_move rfl) rfl ?_
            refine ZB_y rfl (y_move rfl) rfl ?_
            refine ZB_y rfl (y_move rfl) rfl ?_
            refine ZB_y rfl (y_sub rfl rfl (i64w (by omega))) rfl ?_
            refine ZB_y rfl (y_idx Try.underlying22 sz39 rfl rfl (S6.row 0 rfl) (Nt.mk (by omega) : Nt _ (pre.length + p2.length)) (by omega)) rfl ?_
            refine ZB_y rfl (y_ldp (f := enf) enf_len Try.underlying39 rfl sz39 rfl (S6.row 0 rfl) (by omega) gy) rfl ?_
            refine ZB_y rfl (y_move rfl) rfl ?_
            refine ZB_y rfl (y_move rfl) rfl ?_
            refine ZB_y rfl (y_idx Try.underlying22 sz39 rfl rfl (S6.row 0 rfl) (Nt.mk (by omega) : Nt _ (pre.length + p2.length + 1)) (by omega)) rfl ?_
            refine ZB_y rfl (y_ldp (f := enf) enf_len Try.underlying39 rfl sz39 rfl (S6.row 0 rfl) (by omega) gx) rfl ?_
            refine ZB_y rfl (y_idx Try.underlying22 sz39 rfl rfl (S6.row 0 rfl) (Nt.mk (by omega) : Nt _ (pre.length + p2.length + 1)) (by omega)) rfl ?_
            refine ZB_c rfl (o_strowE S6 0 rfl rfl rfl (enf_one y) (enf_len y) sz39 (by omega) fun w7 S7 => ?_)
            refine ZA_oy rfl (y_idx Try.underlying22 sz39 rfl rfl (S7.row 0 rfl) (Nt.mk (by omega) : Nt _ (pre.length + p2.length)) (by omega)) rfl ?_
            refine ZA_o rfl (o_strowE S7 0 rfl rfl rfl (enf_one x) (enf_len x) sz39 (by omega) fun w8 S8 => ?_)
            refine ZA_nil ?_
            refine hK9 _ _ ?_
            refine T_region ?_
            refine L_y (y_move rfl) rfl ?_
            refine L_y (y_sub rfl rfl (i64w (by omega))) rfl ?_
            refine L_y (y_assign rfl) rfl ?_
            refine L_nil ?_
            have S9 := S8.rowc 0 rfl (n' := (pre ++ p2 ++ x :: (y :: q ++ seg.drop (k + 1) ++ post)).length) (xs' := (pre ++ p2 ++ x :: (y :: q ++ seg.drop (k + 1) ++ post)).flatMap enf) (by rw [← hln2]; simp) (by rw [ens_set (by omega), ens_set (by rw [List.length_set]; omega), hset]; simp)
            refine ⟨p2, y :: q, by simp, ⟨⟨by rw [← hpq]; simp, fun z hz => by rcases List.mem_cons.1 hz with rfl | hz; exact hyx; exact hq z hz⟩, S9⟩, ?_⟩
            exact (Sub.cons rfl (congrArg (Value.int _) (by simp; omega)) (Sub.cons rfl rfl (Sub.cons rfl rfl (Sub.cons rfl rfl (Sub.cons rfl rfl (Sub.cons rfl rfl (Sub.nil _)))))))
          ·
            have hyx : lt x y = false := by cases h9 : lt x y with | false => rfl | true => exact absurd (hv32.2 h9) (by omega)
            have hres : insS lt (srt lt (seg.take k)) x = (p2 ++ [y]) ++ x :: q := by rw [← hpq]; exact ins_at (p2 ++ [y]) q (srt_last hC.ord (by have h8 := srt_sorted hC.ord (seg.take k); rw [← hpq] at h8; exact (List.pairwise_append.1 h8).1) hyx) (fun z hz => hq z (List.mem_of_getElem? hz))
            refine T_exit ?_
            refine hK4 _ _ ?_
            refine T_region ?_
            refine L_y (y_move rfl) rfl ?_
            refine L_y (y_add rfl rfl (i64w (by omega))) rfl ?_
            refine L_y (y_assign rfl) rfl ?_
            refine L_nil ?_
            have e9 : (pre ++ (p2 ++ [y]) ++ x :: (q ++ seg.drop (k + 1) ++ post)) = pre ++ srt lt (seg.take (k + 1)) ++ seg.drop (k + 1) ++ post := by rw [take_sn2 hx, srt_snoc, hres]; simp
            have S9 := S5.rowc 0 rfl (n' := (pre ++ srt lt (seg.take (k + 1)) ++ seg.drop (k + 1) ++ post).length) (xs' := (pre ++ srt lt (seg.take (k + 1)) ++ seg.drop (k + 1) ++ post).flatMap enf) (by rw [← hln2, e9]) (by rw [e9])
            refine ⟨k + 1, by omega, ⟨⟨by omega, by omega⟩, S9⟩, ?_⟩
            exact (Sub.cons rfl (congrArg (Value.int _) (by omega)) (Sub.cons rfl rfl (Sub.cons rfl rfl (Sub.cons rfl rfl (Sub.cons rfl rfl (Sub.nil _))))))
        ·
          have hp0 : p = [] := List.eq_nil_of_length_eq_zero (by omega)
          have hres : insS lt (srt lt (seg.take k)) x = p ++ x :: q := by rw [← hpq]; exact ins_at p q (fun z hz => by rw [hp0] at hz; cases hz) (fun z hz => hq z (List.mem_of_getElem? hz))
          refine HL_gno rfl rfl rfl ?_
          refine HL_gno rfl rfl rfl ?_
          refine HL_gno rfl rfl rfl ?_
          refine HL_gno rfl rfl rfl ?_
          refine HL_gno rfl rfl rfl ?_
          refine HL_gno rfl rfl rfl ?_
          refine HL_gno rfl rfl rfl ?_
          refine HL_gno rfl rfl rfl ?_
          refine HL_gno rfl rfl rfl ?_
          refine HL_gno rfl rfl rfl ?_
          refine HL_nil ?_
          refine hK8 _ ?_
          refine L_gno rfl rfl rfl ?_
          refine L_gno rfl rfl rfl ?_
          refine L_y (y_pk rfl rfl) rfl ?_
          refine L_nil ?_
          refine hK7 _ _ ?_
          refine T_false rfl ?_
          refine T_exit ?_
          refine hK4 _ _ ?_
          refine T_region ?_
          refine L_y (y_move rfl) rfl ?_
          refine L_y (y_add rfl rfl (i64w (by omega))) rfl ?_
          refine L_y (y_assign rfl) rfl ?_
          refine L_nil ?_
          have e9 : (pre ++ p ++ x :: (q ++ seg.drop (k + 1) ++ post)) = pre ++ srt lt (seg.take (k + 1)) ++ seg.drop (k + 1) ++ post := by rw [take_sn2 hx, srt_snoc, hres]; simp
          have S9 := S3.rowc 0 rfl (n' := (pre ++ srt lt (seg.take (k + 1)) ++ seg.drop (k + 1) ++ post).length) (xs' := (pre ++ srt lt (seg.take (k + 1)) ++ seg.drop (k + 1) ++ post).flatMap enf) (by rw [← hln2, e9]) (by rw [e9])
          refine ⟨k + 1, by omega, ⟨⟨by omega, by omega⟩, S9⟩, ?_⟩
          exact (Sub.cons rfl (congrArg (Value.int _) (by omega)) (Sub.cons rfl rfl (Sub.cons rfl rfl (Sub.cons rfl rfl (Sub.cons rfl rfl (Sub.nil _))))))
    ·
      refine T_exit ?_
      first | refine end0 (fn := Try.f44) rfl ?_ | (simp only [thenQ, inB, if_true]; refine end0 (fn := Try.f44) rfl ?_)
      have h := S1.turned1 0 rfl
      rw [List.take_of_length_le (by omega), List.drop_of_length_le (by omega), List.append_nil] at h
      exact ⟨_, rfl, h⟩
end Go.Proofs.Ytmgimcdkeelnpaa.Mrg


/-
  symMerge.
-/
namespace Go.Proofs.Ytmgimcdkeelnpaa.Mrg
open Go.RowKit Zk Zx
set_option linter.unusedVariables false
set_option linter.unusedSimpArgs false

theorem shr1 (x : Nat) : Int.fdiv (x : Int) (2 ^ (min (1 : Int).toNat IntKind.u64.bits)) = ((x / 2 : Nat) : Int) := by
  have e1 : min (1 : Int).toNat IntKind.u64.bits = 1 := by decide
  rw [e1, Int.fdiv_eq_ediv_of_nonneg _ (Int.pow_nonneg (by omega)), Int.natCast_ediv]
  rfl
theorem split_at {α : Type} (l : List α) (i : Nat) (h : i ≤ l.length) : ∃ u v, l = u ++ v ∧ u.length = i := ⟨l.take i, l.drop i, (List.take_append_drop _ _).symm, by rw [List.length_take]; omega⟩
/-- Where a merge is split: by what was found at the border alone. -/
theorem sym_split {lt : EV → EV → Bool} (O : Ord3 lt) {a1 b1 a2 b2 : List EV} (h1 : Srt lt (a1 ++ b1)) (h2 : Srt lt (a2 ++ b2))
    (hi : (a1 = [] ∨ b2 = []) ∨ ∃ x y, (a1 ++ b1)[a1.length - 1]? = some x ∧ (a2 ++ b2)[a2.length]? = some y ∧ lt y x = false ∧ 0 < a1.length)
    (hj : (b1 = [] ∨ a2 = []) ∨ ∃ x y, (a1 ++ b1)[a1.length]? = some x ∧ (a2 ++ b2)[a2.length - 1]? = some y ∧ lt y x = true ∧ 0 < a2.length) :
    mrg lt (a1 ++ b1) (a2 ++ b2) = mrg lt a1 a2 ++ mrg lt b1 b2 := by
  have p1 := List.pairwise_append.1 h1
  have p2 := List.pairwise_append.1 h2
  refine mrg_split a1 a2 b1 b2 (fun x hx y hy => ?_) (fun y hy x hx => ?_)
  · rcases hi with (h | h) | ⟨x0, y0, hx0, hy0, h0, hp⟩
    · rw [h] at hx; cases hx
    · rw [h] at hy; cases hy
    · obtain ⟨q, z, rfl⟩ : ∃ q z, a1 = q ++ [z] := by
        rcases List.eq_nil_or_concat a1 with rfl | ⟨q, z, rfl⟩
        · cases hx
        · exact ⟨q, z, by simp⟩
      have e1 : z = x0 := by simpa using hx0
      subst e1
      have h3 : lt y0 x = false := by
        rcases List.mem_append.1 hx with hx | hx
        · exact O.nt _ _ _ h0 ((List.pairwise_append.1 p1.1).2.2 x hx z (by simp))
        · rw [List.mem_singleton.1 hx]; exact h0
      cases b2 with
      | nil => cases hy
      | cons w b2 =>
        have e2 : w = y0 := by simpa using hy0
        subst e2
        exact srt_head O p2.2.1 h3 y hy
  · rcases hj with (h | h) | ⟨x0, y0, hx0, hy0, h0, hp⟩
    · rw [h] at hx; cases hx
    · rw [h] at hy; cases hy
    · obtain ⟨q, z, rfl⟩ : ∃ q z, a2 = q ++ [z] := by
        rcases List.eq_nil_or_concat a2 with rfl | ⟨q, z, rfl⟩
        · cases hy
        · exact ⟨q, z, by simp⟩
      have e1 : z = y0 := by simpa using hy0
      subst e1
      have h3 : lt y x0 = true := srt_last2 O p2.1 h0 y hy
      cases b1 with
      | nil => cases hx
      | cons w b1 =>
        have e2 : w = x0 := by simpa using hx0
        subst e2
        exact srt_head2 O p1.2.1 h3 x hx
/-- What symMerge does to two sorted parts. -/
def SMok (A : Option Addr) (n c F : Nat) (lt : EV → EV → Bool) (pre l1 l2 post : List EV) : Prop :=
  ∀ (a m b : Int) (w0 : World), (enR A c (pre ++ l1 ++ l2 ++ post)).holds w0 → n = (pre ++ l1 ++ l2 ++ post).length → a = (pre.length : Int) → m = ((pre.length + l1.length : Nat) : Int) → b = ((pre.length + l1.length + l2.length : Nat) : Int) →
    0 < l1.length → 0 < l2.length → Srt lt l1 → Srt lt l2 →
    Calls Try.prog 45 #[.slice A n c, .int .i64 a, .int .i64 m, .int .i64 b, .func (.func F) #[] #[]] w0 fun e w' => ∃ u, e = .returned u ∧ Turned w0 w' (enR A c (pre ++ l1 ++ l2 ++ post)) (enR A c (pre ++ mrg lt l1 l2 ++ post))


set_option maxRecDepth 100000 in
theorem symst (A : Option Addr) (n c N : Nat) (a m b : Int) (pre l1 l2 post : List EV) (F : Nat) (lt : EV → EV → Bool) (w0 : World) (hw : (enR A c (pre ++ l1 ++ l2 ++ post)).holds w0) (hC : CMP F lt) (hn : n = (pre ++ l1 ++ l2 ++ post).length) (ha : a = (pre.length : Int)) (hm : m = ((pre.length + l1.length : Nat) : Int)) (hb : b = ((pre.length + l1.length + l2.length : Nat) : Int)) (h1 : 0 < l1.length) (h2 : 0 < l2.length) (hs1 : Srt lt l1) (hs2 : Srt lt l2) (hN : l1.length + l2.length = N) (ih : ∀ pre l1 l2 post, l1.length + l2.length < N → SMok A n c F lt pre l1 l2 post) (hn5 : n ≤ 10000) :
    Calls Try.prog 45 #[.slice A n c, .int .i64 a, .int .i64 m, .int .i64 b, .func (.func F) #[] #[]] w0 fun e w' => ∃ u, e = .returned u ∧ Turned w0 w' (enR A c (pre ++ l1 ++ l2 ++ post)) (enR A c (pre ++ mrg lt l1 l2 ++ post)) := by
  refine enter1 (env := [(0, .slice A n c), (1, .int .i64 a), (2, .int .i64 m), (3, .int .i64 b), (4, .func (.func F) #[] #[])]) [.slice A n c, .int .i64 a, .int .i64 m, .int .i64 b, .func (.func F) #[] #[]] Try.func45 rfl Try.ntmps45 rfl rfl ?_
  have hn0 := hn; simp only [List.length_append] at hn; subst ha hm hb; obtain ⟨fx, hfn, hnm, hbd⟩ := hC.fn; have SS := St.borrow1 (enR A c (pre ++ l1 ++ l2 ++ post)) hw (enR_lt hw); have S0 := SS.rowc 0 rfl (n' := n) (xs' := (pre ++ l1 ++ l2 ++ post).flatMap enf) hn0.symm rfl
  refine T_seq fun K1 hK1 => ?_
  refine T_seq fun K2 hK2 => ?_
  refine T_region ?_
  refine L_y (y_move rfl) rfl ?_
  refine L_y (y_move rfl) rfl ?_
  refine L_y (y_sub rfl rfl (i64w (by omega))) rfl ?_
  refine L_y (y_eql rfl rfl) rfl ?_
  refine L_nil ?_
  refine hK2 _ _ ?_
  refine T_cond rfl (fun h28 => ?_) (fun h28 => ?_)
  ·
    obtain ⟨x, rfl⟩ : ∃ x, l1 = [x] := List.length_eq_one_iff.1 (by omega)
    have hx1 : [x].length = 1 := rfl
    have gx : (pre ++ [x] ++ l2 ++ post)[pre.length]? = some x := by simp
    refine T_seq fun K3 hK3 => ?_
    refine T_region ?_
    refine L_y (y_move rfl) rfl ?_
    refine L_y (y_assign rfl) rfl ?_
    refine L_nil ?_
    refine hK3 _ _ ?_
    refine T_seq fun K4 hK4 => ?_
    refine T_region ?_
    refine L_y (y_move rfl) rfl ?_
    refine L_y (y_assign rfl) rfl ?_
    refine L_nil ?_
    refine hK4 _ _ ?_
    refine T_seq fun K5 hK5 => ?_
    refine T_block ?_
    refine T_loop2 [(0, _), (1, _), (4, _)] (fun (i : Nat) (j : Nat) => [(10, .int .i64 ((pre.length + 1 + i : Nat) : Int)), (11, .int .i64 ((pre.length + 1 + j : Nat) : Int))]) (fun (i : Nat) (j : Nat) => j - i) (fun (i : Nat) (j : Nat) (w : World) => (i ≤ j ∧ j ≤ l2.length ∧ (∀ y, 0 < i → l2[i - 1]? = some y → lt y x = true) ∧ (∀ y, l2[j]? = some y → lt y x = false)) ∧ St w0 (enR A c (pre ++ [x] ++ l2 ++ post)).dom [Zx.row 39 34 A n c ((pre ++ [x] ++ l2 ++ post).flatMap enf)] w) 0 l2.length (Sub.cons rfl (by first | rfl | exact congrArg (Value.int _) (by omega)) (Sub.cons rfl (by first | rfl | exact congrArg (Value.int _) (by omega)) (Sub.nil _))) (Sub.cons rfl rfl (Sub.cons rfl rfl (Sub.cons rfl rfl (Sub.nil _)))) ?_ ?_
    ·
      exact ⟨⟨Nat.zero_le _, Nat.le_refl _, fun y h => absurd h (by omega), fun y h => by rw [List.getElem?_eq_none (Nat.le_refl _)] at h; cases h⟩, S0⟩
    ·
      intro i j w1 hrel
      obtain ⟨⟨hij, hjl, hlo, hhi⟩, S1⟩ := hrel
      refine T_seq fun K6 hK6 => ?_
      refine T_seq fun K7 hK7 => ?_
      refine T_region ?_
      refine L_y (y_move rfl) rfl ?_
      refine L_y (y_move rfl) rfl ?_
      refine L_y (y_lss rfl rfl) rfl ?_
      refine L_nil ?_
      refine hK7 _ _ ?_
      refine T_cond rfl (fun h33 => ?_) (fun h33 => ?_)
      ·
        obtain ⟨z, hz⟩ : ∃ z, l2[(i + j) / 2]? = some z := ⟨_, List.getElem?_eq_getElem (by omega)⟩
        have gz : (pre ++ [x] ++ l2 ++ post)[pre.length + 1 + (i + j) / 2]? = some z := by rw [List.append_assoc, List.getElem?_append_right (by simp), List.getElem?_append_left (by simp; omega)]; simpa [Nat.add_sub_cancel_left] using hz
        refine T_skip ?_
        refine hK6 _ _ ?_
        refine T_block ?_
        refine T_seq fun K8 hK8 => ?_
        refine T_region ?_
        refine L_y (y_move rfl) rfl ?_
        refine L_y (y_move rfl) rfl ?_
        refine L_y (y_add rfl rfl (i64w (by omega))) rfl ?_
        refine L_y (y_conv is3 Try.underlying81 rfl (show _ = ((pre.length + 1 + i + (pre.length + 1 + j) : Nat) : Int) by rw [IntKind.wrap_u64]; omega)) rfl ?_
        refine L_y (y_shr rfl rfl (by omega) (shr1 _)) rfl ?_
        refine L_y (y_conv is81 Try.underlying3 rfl (i64w (by omega))) rfl ?_
        refine L_y (y_assign rfl) rfl ?_
        refine L_nil ?_
        refine hK8 _ _ ?_
        refine T_seq fun K9 hK9 => ?_
        refine T_tail 9 hmix (by kernel_rfl) fun w2 l2 K10 hK10 => ?_
        have S2 := S1.like l2
        refine HL_y (y_move rfl) rfl ?_
        refine HL_y (y_move rfl) rfl ?_
        refine HL_y (y_move rfl) rfl ?_
        refine HL_y (y_idx Try.underlying22 sz39 rfl rfl (S2.row 0 rfl) (Nt.mk (by omega) : Nt _ (pre.length + 1 + (i + j) / 2)) (by omega)) rfl ?_
        refine HL_y (y_ldp (f := enf) enf_len Try.underlying39 rfl sz39 rfl (S2.row 0 rfl) (by omega) gz) rfl ?_
        refine HL_y (y_move rfl) rfl ?_
        refine HL_y (y_move rfl) rfl ?_
        refine HL_y (y_idx Try.underlying22 sz39 rfl rfl (S2.row 0 rfl) (Nt.mk (by omega) : Nt _ (pre.length)) (by omega)) rfl ?_
        refine HL_y (y_ldp (f := enf) enf_len Try.underlying39 rfl sz39 rfl (S2.row 0 rfl) (by omega) gx) rfl ?_
        refine HL_nil ?_
        refine hK10 _ ?_
        refine L_o (o_callv (fs := []) (cs := []) rfl hfn hnm hbd (hC.call z x w2) rfl rfl (fun d' hd => by cases hd <;> rfl) ?_)
        rintro e3 w3 ⟨v3, rfl, l3, vc, rfl, hvc⟩
        refine ⟨_, rfl, ?_⟩
        have S3 := S2.like l3
        refine L_y (y_lss rfl rfl) rfl ?_
        refine L_nil ?_
        refine hK9 _ _ ?_
        refine T_cond rfl (fun h50 => ?_) (fun h50 => ?_)
        ·
          refine T_region ?_
          refine L_y (y_move rfl) rfl ?_
          refine L_y (y_add rfl rfl (i64w (by omega))) rfl ?_
          refine L_y (y_assign rfl) rfl ?_
          refine L_nil ?_
          refine ⟨(i + j) / 2 + 1, j, by omega, ⟨⟨by omega, hjl, fun y _ h => by rw [Nat.add_sub_cancel, hz] at h; cases h; exact hvc.1 h50, hhi⟩, S3⟩, ?_⟩
          exact (Sub.cons rfl (congrArg (Value.int _) (by omega)) (Sub.cons rfl (congrArg (Value.int _) (by omega)) (Sub.cons rfl rfl (Sub.cons rfl rfl (Sub.cons rfl rfl (Sub.nil _))))))
        ·
          refine T_region ?_
          refine L_y (y_move rfl) rfl ?_
          refine L_y (y_assign rfl) rfl ?_
          refine L_nil ?_
          refine ⟨i, (i + j) / 2, by omega, ⟨⟨by omega, by omega, hlo, fun y h => by rw [hz] at h; cases h; cases h9 : lt z x with | false => rfl | true => exact absurd (hvc.2 h9) (by omega)⟩, S3⟩, ?_⟩
          exact (Sub.cons rfl (congrArg (Value.int _) (by omega)) (Sub.cons rfl (congrArg (Value.int _) (by omega)) (Sub.cons rfl rfl (Sub.cons rfl rfl (Sub.cons rfl rfl (Sub.nil _))))))
      ·
        have hije : i = j := by omega
        subst hije
        obtain ⟨u, v, rfl, hul⟩ := split_at l2 i hjl
        subst hul
        have hv0 : (u ++ v)[u.length]? = v[0]? := by rw [List.getElem?_append_right (Nat.le_refl _), Nat.sub_self]
        have hmr := mrg_one (x := x) hC.ord hs2 (fun y h hp => hlo y hp h) (fun y h => hhi y (by rw [hv0]; exact h))
        have huv : (u ++ v).length = u.length + v.length := List.length_append
        refine T_exit ?_
        refine hK5 _ _ ?_
        refine T_seq fun K11 hK11 => ?_
        refine T_seq fun K12 hK12 => ?_
        refine T_region ?_
        refine L_y (y_move rfl) rfl ?_
        refine L_y (y_assign rfl) rfl ?_
        refine L_nil ?_
        refine hK12 _ _ ?_
        refine T_block ?_
        refine T_loop1 [(0, _), (10, _)] (fun (t : Nat) => [(13, .int .i64 ((pre.length + t : Nat) : Int))]) (fun (t : Nat) => u.length - t) (fun (t : Nat) (w : World) => t ≤ u.length ∧ St w0 (enR A c (pre ++ [x] ++ (u ++ v) ++ post)).dom [enR A c (pre ++ u.take t ++ x :: (u.drop t ++ v ++ post))] w) 0 (Sub.cons rfl (by first | rfl | exact congrArg (Value.int _) (by omega)) (Sub.nil _)) (Sub.cons rfl rfl (Sub.cons rfl rfl (Sub.nil _))) ?_ ?_
        ·
          have e9 : (pre ++ [x] ++ (u ++ v) ++ post) = (pre ++ u.take 0 ++ x :: (u.drop 0 ++ v ++ post)) := by simp
          have S9 := S1.rowc 0 rfl (n' := (pre ++ u.take 0 ++ x :: (u.drop 0 ++ v ++ post)).length) (xs' := (pre ++ u.take 0 ++ x :: (u.drop 0 ++ v ++ post)).flatMap enf) (by rw [hn0, e9]) (by rw [e9])
          exact ⟨Nat.zero_le _, S9⟩
        ·
          intro t w4 hrel
          obtain ⟨ht, S4⟩ := hrel
          have hln : (pre ++ u.take t ++ x :: (u.drop t ++ v ++ post)).length = n := by simp at hn ⊢; omega
          rw [show enR A c (pre ++ u.take t ++ x :: (u.drop t ++ v ++ post)) = Zx.row 39 34 A n c ((pre ++ u.take t ++ x :: (u.drop t ++ v ++ post)).flatMap enf) from by rw [← hln]; rfl] at S4
          refine T_seq fun K13 hK13 => ?_
          refine T_seq fun K14 hK14 => ?_
          refine T_region ?_
          refine L_y (y_move rfl) rfl ?_
          refine L_y (y_move rfl) rfl ?_
          refine L_y (y_sub rfl rfl (i64w (by omega))) rfl ?_
          refine L_y (y_lss rfl rfl) rfl ?_
          refine L_nil ?_
          refine hK14 _ _ ?_
          refine T_cond rfl (fun h58 => ?_) (fun h58 => ?_)
          ·
            obtain ⟨y, hy⟩ : ∃ y, u[t]? = some y := ⟨_, List.getElem?_eq_getElem (by omega)⟩
            have htl : (u.take t).length = t := by rw [List.length_take]; omega
            obtain ⟨gx2, gy2, hset⟩ := exch (l := (pre ++ u.take t ++ x :: (u.drop t ++ v ++ post))) (i := pre.length + t) (j := pre.length + t + 1) (p := pre ++ u.take t) (q := []) (r := u.drop (t + 1) ++ v ++ post) (x := x) (y := y) (by rw [List.drop_eq_getElem_cons (show t < u.length by omega), show u[t]'(by omega) = y from Option.some.inj ((List.getElem?_eq_getElem _).symm.trans hy)]; rfl) (by simp; omega) (by simp; omega)
            refine T_skip ?_
            refine hK13 _ _ ?_
            refine T_seq fun K15 hK15 => ?_
            refine T_block ?_
            refine T_zed [0, 1, 5, 6, 7, 8, 9, 10, 11, 12, 13, 14] 15 [(2, 0), (3, 0), (4, 0), (0, 1), (1, 1), (5, 1), (6, 1), (7, 1), (8, 1), (9, 1), (10, 1), (11, 1), (12, 1), (13, 1), (14, 1), (15, 3), (16, 3), (17, 3)] hmix (by kernel_rfl) fun w5 l5 => ?_
            have S5 := S4.like l5
            refine ZA_y rfl (y_move rfl) rfl ?_
            refine ZA_y rfl (y_move rfl) rfl ?_
            refine ZA_y rfl (y_add rfl rfl (i64w (by omega))) rfl ?_
            refine ZA_B (Like w5) (Like.refl _) ?_
            refine ZB_y rfl (y_move rfl) rfl ?_
            refine ZB_y rfl (y_move rfl) rfl ?_
            refine ZB_y rfl (y_move rfl) rfl ?_
            refine ZB_y rfl (y_move rfl) rfl ?_
            refine ZB_y rfl (y_add rfl rfl (i64w (by omega))) rfl ?_
            refine ZB_y rfl (y_idx Try.underlying22 sz39 rfl rfl (S5.row 0 rfl) (Nt.mk (by omega) : Nt _ (pre.length + t + 1)) (by omega)) rfl ?_
            refine ZB_y rfl (y_ldp (f := enf) enf_len Try.underlying39 rfl sz39 rfl (S5.row 0 rfl) (by omega) gy2) rfl ?_
            refine ZB_y rfl (y_move rfl) rfl ?_
            refine ZB_y rfl (y_move rfl) rfl ?_
            refine ZB_y rfl (y_idx Try.underlying22 sz39 rfl rfl (S5.row 0 rfl) (Nt.mk (by omega) : Nt _ (pre.length + t)) (by omega)) rfl ?_
            refine ZB_y rfl (y_ldp (f := enf) enf_len Try.underlying39 rfl sz39 rfl (S5.row 0 rfl) (by omega) gx2) rfl ?_
            refine ZB_y rfl (y_idx Try.underlying22 sz39 rfl rfl (S5.row 0 rfl) (Nt.mk (by omega) : Nt _ (pre.length + t)) (by omega)) rfl ?_
            refine ZB_c rfl (o_strowE S5 0 rfl rfl rfl (enf_one y) (enf_len y) sz39 (by omega) fun w6 S6 => ?_)
            refine ZA_oy rfl (y_idx Try.underlying22 sz39 rfl rfl (S6.row 0 rfl) (Nt.mk (by omega) : Nt _ (pre.length + t + 1)) (by omega)) rfl ?_
            refine ZA_o rfl (o_strowE S6 0 rfl rfl rfl (enf_one x) (enf_len x) sz39 (by omega) fun w7 S7 => ?_)
            refine ZA_nil ?_
            refine hK15 _ _ ?_
            refine T_region ?_
            refine L_y (y_move rfl) rfl ?_
            refine L_y (y_add rfl rfl (i64w (by omega))) rfl ?_
            refine L_y (y_assign rfl) rfl ?_
            refine L_nil ?_
            have e9 : pre ++ u.take t ++ y :: ([] ++ x :: (u.drop (t + 1) ++ v ++ post)) = (pre ++ u.take (t + 1) ++ x :: (u.drop (t + 1) ++ v ++ post)) := by rw [List.take_add_one, hy]; simp
            have S9 := S7.rowc 0 rfl (n' := (pre ++ u.take (t + 1) ++ x :: (u.drop (t + 1) ++ v ++ post)).length) (xs' := (pre ++ u.take (t + 1) ++ x :: (u.drop (t + 1) ++ v ++ post)).flatMap enf) (by rw [← hln]; simp; omega) (by rw [ens_set (by omega), ens_set (by rw [List.length_set]; omega), hset, e9])
            refine ⟨t + 1, by omega, ⟨by omega, S9⟩, ?_⟩
            exact (Sub.cons rfl (congrArg (Value.int _) (by omega)) (Sub.cons rfl rfl (Sub.cons rfl rfl (Sub.nil _))))
          ·
            refine T_exit ?_
            refine hK11 _ _ ?_
            refine T_ret ?_
            refine ur ?_
            refine ret0 rfl ?_
            have ht9 : t = u.length := by omega
            subst ht9
            exact ⟨_, rfl, turn_en (S4.turned1 0 rfl) (by rw [hmr, ← hln]; simp) (by rw [hmr]; simp)⟩
  ·
    refine T_skip ?_
    refine hK1 _ _ ?_
    refine T_seq fun K16 hK16 => ?_
    refine T_seq fun K17 hK17 => ?_
    refine T_region ?_
    refine L_y (y_move rfl) rfl ?_
    refine L_y (y_move rfl) rfl ?_
    refine L_y (y_sub rfl rfl (i64w (by omega))) rfl ?_
    refine L_y (y_eql rfl rfl) rfl ?_
    refine L_nil ?_
    refine hK17 _ _ ?_
    refine T_cond rfl (fun h80 => ?_) (fun h80 => ?_)
    ·
      obtain ⟨y, rfl⟩ : ∃ y, l2 = [y] := List.length_eq_one_iff.1 (by omega)
      have hy1 : [y].length = 1 := rfl
      have gy : (pre ++ l1 ++ [y] ++ post)[pre.length + l1.length]? = some y := by rw [← List.length_append]; simp
      refine T_seq fun K18 hK18 => ?_
      refine T_region ?_
      refine L_y (y_move rfl) rfl ?_
      refine L_y (y_assign rfl) rfl ?_
      refine L_nil ?_
      refine hK18 _ _ ?_
      refine T_seq fun K19 hK19 => ?_
      refine T_region ?_
      refine L_y (y_move rfl) rfl ?_
      refine L_y (y_assign rfl) rfl ?_
      refine L_nil ?_
      refine hK19 _ _ ?_
      refine T_seq fun K20 hK20 => ?_
      refine T_block ?_
      refine T_loop2 [(0, _), (2, _), (4, _)] (fun (i : Nat) (j : Nat) => [(14, .int .i64 ((pre.length + i : Nat) : Int)), (15, .int .i64 ((pre.length + j : Nat) : Int))]) (fun (i : Nat) (j : Nat) => j - i) (fun (i : Nat) (j : Nat) (w : World) => (i ≤ j ∧ j ≤ l1.length ∧ (∀ x, 0 < i → l1[i - 1]? = some x → lt y x = false) ∧ (∀ x, l1[j]? = some x → lt y x = true)) ∧ St w0 (enR A c (pre ++ l1 ++ [y] ++ post)).dom [Zx.row 39 34 A n c ((pre ++ l1 ++ [y] ++ post).flatMap enf)] w) 0 l1.length (Sub.cons rfl (by first | rfl | exact congrArg (Value.int _) (by omega)) (Sub.cons rfl (by first | rfl | exact congrArg (Value.int _) (by omega)) (Sub.nil _))) (Sub.cons rfl rfl (Sub.cons rfl rfl (Sub.cons rfl rfl (Sub.nil _)))) ?_ ?_
      ·
        exact ⟨⟨Nat.zero_le _, Nat.le_refl _, fun y h => absurd h (by omega), fun y h => by rw [List.getElem?_eq_none (Nat.le_refl _)] at h; cases h⟩, S0⟩
      ·
        intro i j w8 hrel
        obtain ⟨⟨hij, hjl, hlo, hhi⟩, S8⟩ := hrel
        refine T_seq fun K21 hK21 => ?_
        refine T_seq fun K22 hK22 => ?_
        refine T_region ?_
        refine L_y (y_move rfl) rfl ?_
        refine L_y (y_move rfl) rfl ?_
        refine L_y (y_lss rfl rfl) rfl ?_
        refine L_nil ?_
        refine hK22 _ _ ?_
        refine T_cond rfl (fun h85 => ?_) (fun h85 => ?_)
        ·
          obtain ⟨z, hz⟩ : ∃ z, l1[(i + j) / 2]? = some z := ⟨_, List.getElem?_eq_getElem (by omega)⟩
          have gz : (pre ++ l1 ++ [y] ++ post)[pre.length + (i + j) / 2]? = some z := by rw [List.append_assoc, List.append_assoc, List.getElem?_append_right (by omega), List.getElem?_append_left (by omega)]; simpa [Nat.add_sub_cancel_left] using hz
          refine T_skip ?_
          refine hK21 _ _ ?_
          refine T_block ?_
          refine T_seq fun K23 hK23 => ?_
          refine T_region ?_
          refine L_y (y_move rfl) rfl ?_
          refine L_y (y_move rfl) rfl ?_
          refine L_y (y_add rfl rfl (i64w (by omega))) rfl ?_
          refine L_y (y_conv is3 Try.underlying81 rfl (show _ = ((pre.length + i + (pre.length + j) : Nat) : Int) by rw [IntKind.wrap_u64]; omega)) rfl ?_
          refine L_y (y_shr rfl rfl (by omega) (shr1 _)) rfl ?_
          refine L_y (y_conv is81 Try.underlying3 rfl (i64w (by omega))) rfl ?_
          refine L_y (y_assign rfl) rfl ?_
          refine L_nil ?_
          refine hK23 _ _ ?_
          refine T_seq fun K24 hK24 => ?_
          refine T_tail 9 hmix (by kernel_rfl) fun w9 l9 K25 hK25 => ?_
          have S9 := S8.like l9
          refine HL_y (y_move rfl) rfl ?_
          refine HL_y (y_move rfl) rfl ?_
          refine HL_y (y_move rfl) rfl ?_
          refine HL_y (y_idx Try.underlying22 sz39 rfl rfl (S9.row 0 rfl) (Nt.mk (by omega) : Nt _ (pre.length + l1.length)) (by omega)) rfl ?_
          refine HL_y (y_ldp (f := enf) enf_len Try.underlying39 rfl sz39 rfl (S9.row 0 rfl) (by omega) gy) rfl ?_
          refine HL_y (y_move rfl) rfl ?_
          refine HL_y (y_move rfl) rfl ?_
          refine HL_y (y_idx Try.underlying22 sz39 rfl rfl (S9.row 0 rfl) (Nt.mk (by omega) : Nt _ (pre.length + (i + j) / 2)) (by omega)) rfl ?_
          refine HL_y (y_ldp (f := enf) enf_len Try.underlying39 rfl sz39 rfl (S9.row 0 rfl) (by omega) gz) rfl ?_
          refine HL_nil ?_
          refine hK25 _ ?_
          refine L_o (o_callv (fs := []) (cs := []) rfl hfn hnm hbd (hC.call y z w9) rfl rfl (fun d' hd => by cases hd <;> rfl) ?_)
          rintro e10 w10 ⟨v10, rfl, l10, vc, rfl, hvc⟩
          refine ⟨_, rfl, ?_⟩
          have S10 := S9.like l10
          refine L_y (y_lss rfl rfl) rfl ?_
          refine L_y ((by first | exact y_notD rfl | exact y_not rfl)) rfl ?_
          refine L_nil ?_
          refine hK24 _ _ ?_
          refine T_cond rfl (fun h103 => ?_) (fun h103 => ?_)
          ·
            refine T_region ?_
            refine L_y (y_move rfl) rfl ?_
            refine L_y (y_add rfl rfl (i64w (by omega))) rfl ?_
            refine L_y (y_assign rfl) rfl ?_
            refine L_nil ?_
            refine ⟨(i + j) / 2 + 1, j, by omega, ⟨⟨by omega, hjl, fun x _ h => by rw [Nat.add_sub_cancel, hz] at h; cases h; cases h9 : lt y z with | false => rfl | true => exact absurd (hvc.2 h9) (by omega), hhi⟩, S10⟩, ?_⟩
            exact (Sub.cons rfl (congrArg (Value.int _) (by omega)) (Sub.cons rfl (congrArg (Value.int _) (by omega)) (Sub.cons rfl rfl (Sub.cons rfl rfl (Sub.cons rfl rfl (Sub.nil _))))))
          ·
            refine T_region ?_
            refine L_y (y_move rfl) rfl ?_
            refine L_y (y_assign rfl) rfl ?_
            refine L_nil ?_
            refine ⟨i, (i + j) / 2, by omega, ⟨⟨by omega, by omega, hlo, fun x h => by rw [hz] at h; cases h; exact hvc.1 (by omega)⟩, S10⟩, ?_⟩
            exact (Sub.cons rfl (congrArg (Value.int _) (by omega)) (Sub.cons rfl (congrArg (Value.int _) (by omega)) (Sub.cons rfl rfl (Sub.cons rfl rfl (Sub.cons rfl rfl (Sub.nil _))))))
        ·
          have hije : i = j := by omega
          subst hije
          obtain ⟨u, v, rfl, hul⟩ := split_at l1 i hjl
          subst hul
          have hv0 : (u ++ v)[u.length]? = v[0]? := by rw [List.getElem?_append_right (Nat.le_refl _), Nat.sub_self]
          have hmr := mrg_lst (y := y) hC.ord hs1 (fun x h hp => hlo x hp h) (fun x h => hhi x (by rw [hv0]; exact h))
          have huv : (u ++ v).length = u.length + v.length := List.length_append
          refine T_exit ?_
          refine hK20 _ _ ?_
          refine T_seq fun K26 hK26 => ?_
          refine T_seq fun K27 hK27 => ?_
          refine T_region ?_
          refine L_y (y_move rfl) rfl ?_
          refine L_y (y_assign rfl) rfl ?_
          refine L_nil ?_
          refine hK27 _ _ ?_
          refine T_block ?_
          refine T_loop1 [(0, _), (14, _)] (fun (t : Nat) => [(17, .int .i64 ((pre.length + u.length + t : Nat) : Int))]) (fun (t : Nat) => t) (fun (t : Nat) (w : World) => t ≤ v.length ∧ St w0 (enR A c (pre ++ (u ++ v) ++ [y] ++ post)).dom [enR A c (pre ++ u ++ v.take t ++ y :: (v.drop t ++ post))] w) v.length (Sub.cons rfl (by first | rfl | exact congrArg (Value.int _) (by omega)) (Sub.nil _)) (Sub.cons rfl rfl (Sub.cons rfl rfl (Sub.nil _))) ?_ ?_
          ·
            have e9 : (pre ++ (u ++ v) ++ [y] ++ post) = (pre ++ u ++ v.take v.length ++ y :: (v.drop v.length ++ post)) := by simp
            have S9 := S8.rowc 0 rfl (n' := (pre ++ u ++ v.take v.length ++ y :: (v.drop v.length ++ post)).length) (xs' := (pre ++ u ++ v.take v.length ++ y :: (v.drop v.length ++ post)).flatMap enf) (by rw [hn0, e9]) (by rw [e9])
            exact ⟨Nat.le_refl _, S9⟩
          ·
            intro t w11 hrel
            obtain ⟨ht, S11⟩ := hrel
            have hln : (pre ++ u ++ v.take t ++ y :: (v.drop t ++ post)).length = n := by simp at hn ⊢; omega
            rw [show enR A c (pre ++ u ++ v.take t ++ y :: (v.drop t ++ post)) = Zx.row 39 34 A n c ((pre ++ u ++ v.take t ++ y :: (v.drop t ++ post)).flatMap enf) from by rw [← hln]; rfl] at S11
            refine T_seq fun K28 hK28 => ?_
            refine T_seq fun K29 hK29 => ?_
            refine T_region ?_
            refine L_y (y_move rfl) rfl ?_
            refine L_y (y_move rfl) rfl ?_
            refine L_y (y_gtr rfl rfl) rfl ?_
            refine L_nil ?_
            refine hK29 _ _ ?_
            refine T_cond rfl (fun h110 => ?_) (fun h110 => ?_)
            ·
              obtain ⟨t, rfl⟩ : ∃ t9, t = t9 + 1 := ⟨t - 1, by omega⟩
              obtain ⟨z, hz⟩ : ∃ z, v[t]? = some z := ⟨_, List.getElem?_eq_getElem (by omega)⟩
              obtain ⟨gz2, gy2, hset⟩ := exch2 (l := (pre ++ u ++ v.take (t + 1) ++ y :: (v.drop (t + 1) ++ post))) (i := pre.length + u.length + t) (j := pre.length + u.length + t + 1) (p := pre ++ u ++ v.take t) (q := []) (r := v.drop (t + 1) ++ post) (x := z) (y := y) (by rw [take_sn2 hz]; simp) (by simp; omega) (by simp; omega)
              refine T_skip ?_
              refine hK28 _ _ ?_
              refine T_seq fun K30 hK30 => ?_
              refine T_block ?_
              refine T_zed [0, 1, 5, 6, 7, 8, 9, 10, 11, 12, 13, 14] 15 [(2, 0), (3, 0), (4, 0), (0, 1), (1, 1), (5, 1), (6, 1), (7, 1), (8, 1), (9, 1), (10, 1), (11, 1), (12, 1), (13, 1), (14, 1), (15, 3), (16, 3), (17, 3)] hmix (by kernel_rfl) fun w12 l12 => ?_
              have S12 := S11.like l12
              refine ZA_y rfl (y_move rfl) rfl ?_
              refine ZA_y rfl (y_move rfl) rfl ?_
              refine ZA_y rfl (y_sub rfl rfl (i64w (by omega))) rfl ?_
              refine ZA_B (Like w12) (Like.refl _) ?_
              refine ZB_y rfl (y_move rfl) rfl ?_
              refine ZB_y rfl (y_move rfl) rfl ?_
              refine ZB_y rfl (y_move rfl) rfl ?_
              refine ZB_y rfl (y_move rfl) rfl ?_
              refine ZB_y rfl (y_sub rfl rfl (i64w (by omega))) rfl ?_
              refine ZB_y rfl (y_idx Try.underlying22 sz39 rfl rfl (S12.row 0 rfl) (Nt.mk (by omega) : Nt _ (pre.length + u.length + t)) (by omega)) rfl ?_
              refine ZB_y rfl (y_ldp (f := enf) enf_len Try.underlying39 rfl sz39 rfl (S12.row 0 rfl) (by omega) gz2) rfl ?_
              refine ZB_y rfl (y_move rfl) rfl ?_
              refine ZB_y rfl (y_move rfl) rfl ?_
              refine ZB_y rfl (y_idx Try.underlying22 sz39 rfl rfl (S12.row 0 rfl) (Nt.mk (by omega) : Nt _ (pre.length + u.length + t + 1)) (by omega)) rfl ?_
              refine ZB_y rfl (y_ldp (f := enf) enf_len Try.underlying39 rfl sz39 rfl (S12.row 0 rfl) (by omega) gy2) rfl ?_
              refine ZB_y rfl (y_idx Try.underlying22 sz39 rfl rfl (S12.row 0 rfl) (Nt.mk (by omega) : Nt _ (pre.length + u.length + t + 1)) (by omega)) rfl ?_
              refine ZB_c rfl (o_strowE S12 0 rfl rfl rfl (enf_one z) (enf_len z) sz39 (by omega) fun w13 S13 => ?_)
              refine ZA_oy rfl (y_idx Try.underlying22 sz39 rfl rfl (S13.row 0 rfl) (Nt.mk (by omega) : Nt _ (pre.length + u.length + t)) (by omega)) rfl ?_
              refine ZA_o rfl (o_strowE S13 0 rfl rfl rfl (enf_one y) (enf_len y) sz39 (by omega) fun w14 S14 => ?_)
              refine ZA_nil ?_
              refine hK30 _ _ ?_
              refine T_region ?_
              refine L_y (y_move rfl) rfl ?_
              refine L_y (y_sub rfl rfl (i64w (by omega))) rfl ?_
              refine L_y (y_assign rfl) rfl ?_
              refine L_nil ?_
              have e9 : pre ++ u ++ v.take t ++ y :: ([] ++ z :: (v.drop (t + 1) ++ post)) = (pre ++ u ++ v.take t ++ y :: (v.drop t ++ post)) := by rw [drop_hd2 hz]; simp
              have S9 := S14.rowc 0 rfl (n' := (pre ++ u ++ v.take t ++ y :: (v.drop t ++ post)).length) (xs' := (pre ++ u ++ v.take t ++ y :: (v.drop t ++ post)).flatMap enf) (by rw [← hln]; simp; omega) (by rw [ens_set (by omega), ens_set (by rw [List.length_set]; omega), hset, e9])
              refine ⟨t, by omega, ⟨by omega, S9⟩, ?_⟩
              exact (Sub.cons rfl (congrArg (Value.int _) (by omega)) (Sub.cons rfl rfl (Sub.cons rfl rfl (Sub.nil _))))
            ·
              refine T_exit ?_
              refine hK26 _ _ ?_
              refine T_ret ?_
              refine ur ?_
              refine ret0 rfl ?_
              have ht9 : t = 0 := by omega
              subst ht9
              exact ⟨_, rfl, turn_en (S11.turned1 0 rfl) (by rw [hmr, ← hln]; simp) (by rw [hmr]; simp)⟩
    ·
      refine T_skip ?_
      refine hK16 _ _ ?_
      refine T_seq fun K31 hK31 => ?_
      refine T_region ?_
      refine L_y (y_move rfl) rfl ?_
      refine L_y (y_move rfl) rfl ?_
      refine L_y (y_add rfl rfl (i64w (by omega))) rfl ?_
      refine L_y (y_conv is3 Try.underlying81 rfl (show _ = ((pre.length + (pre.length + l1.length + l2.length) : Nat) : Int) by rw [IntKind.wrap_u64]; omega)) rfl ?_
      refine L_y (y_shr rfl rfl (by omega) (shr1 _)) rfl ?_
      refine L_y (y_conv is81 Try.underlying3 rfl (i64w (by omega))) rfl ?_
      refine L_y (y_assign rfl) rfl ?_
      refine L_nil ?_
      refine hK31 _ _ ?_
      refine T_seq fun K32 hK32 => ?_
      refine T_region ?_
      refine L_y (y_move rfl) rfl ?_
      refine L_y (y_move rfl) rfl ?_
      refine L_y (y_add rfl rfl (i64w (by omega))) rfl ?_
      refine L_y (y_assign rfl) rfl ?_
      refine L_nil ?_
      refine hK32 _ _ ?_
      refine T_seq fun K33 hK33 => ?_
      refine T_region ?_
      refine L_y (y_assign rfl) rfl ?_
      refine L_y (y_assign rfl) rfl ?_
      refine L_nil ?_
      refine hK33 _ _ ?_
      refine T_seqR (fun (e : Env) (w : World) => ∃ (s0 : Nat) (r0 : Nat), Sub [(0, .slice A n c), (1, .int .i64 (pre.length : Int)), (2, .int .i64 ((pre.length + l1.length : Nat) : Int)), (3, .int .i64 ((pre.length + l1.length + l2.length : Nat) : Int)), (4, .func (.func F) #[] #[]), (18, .int .i64 ((pre.length + ((l1.length + l2.length) / 2) : Nat) : Int)), (19, .int .i64 ((pre.length + ((l1.length + l2.length) / 2) + (pre.length + l1.length) : Nat) : Int)), (20, .int .i64 ((pre.length + s0 : Nat) : Int)), (21, .int .i64 ((pre.length + r0 : Nat) : Int))] e ∧ (s0 ≤ r0 ∧ r0 ≤ l1.length ∧ r0 ≤ ((l1.length + l2.length) / 2) ∧ ((l1.length + l2.length) / 2) ≤ s0 + l2.length ∧ (s0 = 0 ∨ s0 + l2.length = ((l1.length + l2.length) / 2)) ∧ (r0 = l1.length ∨ r0 = ((l1.length + l2.length) / 2))) ∧ St w0 (enR A c (pre ++ l1 ++ l2 ++ post)).dom [Zx.row 39 34 A n c ((pre ++ l1 ++ l2 ++ post).flatMap enf)] w) ?_ ?_
      ·
        refine T_seq fun K35 hK35 => ?_
        refine T_region ?_
        refine L_y (y_move rfl) rfl ?_
        refine L_y (y_move rfl) rfl ?_
        refine L_y (y_gtr rfl rfl) rfl ?_
        refine L_nil ?_
        refine hK35 _ _ ?_
        refine T_cond rfl (fun h140 => ?_) (fun h140 => ?_)
        ·
          refine T_seq fun K36 hK36 => ?_
          refine T_region ?_
          refine L_y (y_move rfl) rfl ?_
          refine L_y (y_move rfl) rfl ?_
          refine L_y (y_sub rfl rfl (i64w (by omega))) rfl ?_
          refine L_y (y_assign rfl) rfl ?_
          refine L_nil ?_
          refine hK36 _ _ ?_
          refine T_region ?_
          refine L_y (y_move rfl) rfl ?_
          refine L_y (y_assign rfl) rfl ?_
          refine L_nil ?_
          exact ⟨((l1.length + l2.length) / 2) - l2.length, ((l1.length + l2.length) / 2), (Sub.cons rfl (by first | rfl | exact congrArg (Value.int _) (by omega)) (Sub.cons rfl (by first | rfl | exact congrArg (Value.int _) (by omega)) (Sub.cons rfl (by first | rfl | exact congrArg (Value.int _) (by omega)) (Sub.cons rfl (by first | rfl | exact congrArg (Value.int _) (by omega)) (Sub.cons rfl (by first | rfl | exact congrArg (Value.int _) (by omega)) (Sub.cons rfl (congrArg (Value.int _) (by omega)) (Sub.cons rfl (congrArg (Value.int _) (by omega)) (Sub.cons rfl (congrArg (Value.int _) (by omega)) (Sub.cons rfl (congrArg (Value.int _) (by omega)) (Sub.nil _)))))))))), ⟨by omega, by omega, by omega, by omega, by omega, by omega⟩, S0⟩
        ·
          refine T_seq fun K37 hK37 => ?_
          refine T_region ?_
          refine L_y (y_move rfl) rfl ?_
          refine L_y (y_assign rfl) rfl ?_
          refine L_nil ?_
          refine hK37 _ _ ?_
          refine T_region ?_
          refine L_y (y_move rfl) rfl ?_
          refine L_y (y_assign rfl) rfl ?_
          refine L_nil ?_
          exact ⟨0, l1.length, (Sub.cons rfl (by first | rfl | exact congrArg (Value.int _) (by omega)) (Sub.cons rfl (by first | rfl | exact congrArg (Value.int _) (by omega)) (Sub.cons rfl (by first | rfl | exact congrArg (Value.int _) (by omega)) (Sub.cons rfl (by first | rfl | exact congrArg (Value.int _) (by omega)) (Sub.cons rfl (by first | rfl | exact congrArg (Value.int _) (by omega)) (Sub.cons rfl (congrArg (Value.int _) (by omega)) (Sub.cons rfl (congrArg (Value.int _) (by omega)) (Sub.cons rfl (congrArg (Value.int _) (by omega)) (Sub.cons rfl (congrArg (Value.int _) (by omega)) (Sub.nil _)))))))))), ⟨by omega, by omega, by omega, by omega, by omega, by omega⟩, S0⟩
      ·
        rintro e15 w15 ⟨s0, r0, hsub, ⟨⟨hsr0, hr1, hr2, hsq, hsb, hrb⟩, S15⟩⟩
        refine T_weak hsub ?_
        refine T_seq fun K38 hK38 => ?_
        refine T_region ?_
        refine L_y (y_move rfl) rfl ?_
        refine L_y (y_sub rfl rfl (i64w (by omega))) rfl ?_
        refine L_y (y_assign rfl) rfl ?_
        refine L_nil ?_
        refine hK38 _ _ ?_
        refine T_seq fun K39 hK39 => ?_
        refine T_block ?_
        refine T_loop2 [(0, _), (1, _), (2, _), (3, _), (4, _), (18, _), (19, _), (22, _)] (fun (s : Nat) (r : Nat) => [(20, .int .i64 ((pre.length + s : Nat) : Int)), (21, .int .i64 ((pre.length + r : Nat) : Int))]) (fun (s : Nat) (r : Nat) => r - s) (fun (s : Nat) (r : Nat) (w : World) => ((s0 ≤ s ∧ s ≤ r ∧ r ≤ r0) ∧ (s = s0 ∨ ∃ x y, l1[s - 1]? = some x ∧ l2[((l1.length + l2.length) / 2) - s]? = some y ∧ lt y x = false ∧ 0 < s) ∧ (r = r0 ∨ ∃ x y, l1[r]? = some x ∧ l2[((l1.length + l2.length) / 2) - 1 - r]? = some y ∧ lt y x = true ∧ r < ((l1.length + l2.length) / 2))) ∧ St w0 (enR A c (pre ++ l1 ++ l2 ++ post)).dom [Zx.row 39 34 A n c ((pre ++ l1 ++ l2 ++ post).flatMap enf)] w) s0 r0 (Sub.cons rfl (by first | rfl | exact congrArg (Value.int _) (by omega)) (Sub.cons rfl (by first | rfl | exact congrArg (Value.int _) (by omega)) (Sub.nil _))) (Sub.cons rfl rfl (Sub.cons rfl rfl (Sub.cons rfl rfl (Sub.cons rfl rfl (Sub.cons rfl rfl (Sub.cons rfl rfl (Sub.cons rfl rfl (Sub.cons rfl rfl (Sub.nil _))))))))) ?_ ?_
        ·
          exact ⟨⟨⟨Nat.le_refl _, hsr0, Nat.le_refl _⟩, .inl rfl, .inl rfl⟩, S15⟩
        ·
          intro s r w16 hrel
          obtain ⟨⟨⟨hs0, hsr, hr0⟩, hlo, hhi⟩, S16⟩ := hrel
          refine T_seq fun K40 hK40 => ?_
          refine T_seq fun K41 hK41 => ?_
          refine T_region ?_
          refine L_y (y_move rfl) rfl ?_
          refine L_y (y_move rfl) rfl ?_
          refine L_y (y_lss rfl rfl) rfl ?_
          refine L_nil ?_
          refine hK41 _ _ ?_
          refine T_cond rfl (fun h151 => ?_) (fun h151 => ?_)
          ·
            obtain ⟨x, hx⟩ : ∃ x, l1[(s + r) / 2]? = some x := ⟨_, List.getElem?_eq_getElem (by omega)⟩
            obtain ⟨y, hy⟩ : ∃ y, l2[((l1.length + l2.length) / 2) - 1 - (s + r) / 2]? = some y := ⟨_, List.getElem?_eq_getElem (by omega)⟩
            have gx : (pre ++ l1 ++ l2 ++ post)[pre.length + (s + r) / 2]? = some x := by rw [List.append_assoc, List.append_assoc, List.getElem?_append_right (by omega), List.getElem?_append_left (by omega)]; simpa [Nat.add_sub_cancel_left] using hx
            have gy : (pre ++ l1 ++ l2 ++ post)[pre.length + l1.length + (((l1.length + l2.length) / 2) - 1 - (s + r) / 2)]? = some y := by rw [List.append_assoc, List.getElem?_append_right (by simp), List.getElem?_append_left (by simp; omega)]; simpa [← Nat.add_assoc, Nat.add_sub_cancel_left] using hy
            refine T_skip ?_
            refine hK40 _ _ ?_
            refine T_block ?_
            refine T_seq fun K42 hK42 => ?_
            refine T_region ?_
            refine L_y (y_move rfl) rfl ?_
            refine L_y (y_move rfl) rfl ?_
            refine L_y (y_add rfl rfl (i64w (by omega))) rfl ?_
            refine L_y (y_conv is3 Try.underlying81 rfl (show _ = ((pre.length + s + (pre.length + r) : Nat) : Int) by rw [IntKind.wrap_u64]; omega)) rfl ?_
            refine L_y (y_shr rfl rfl (by omega) (shr1 _)) rfl ?_
            refine L_y (y_conv is81 Try.underlying3 rfl (i64w (by omega))) rfl ?_
            refine L_y (y_assign rfl) rfl ?_
            refine L_nil ?_
            refine hK42 _ _ ?_
            refine T_seq fun K43 hK43 => ?_
            refine T_tail 11 hmix (by kernel_rfl) fun w17 l17 K44 hK44 => ?_
            have S17 := S16.like l17
            refine HL_y (y_move rfl) rfl ?_
            refine HL_y (y_move rfl) rfl ?_
            refine HL_y (y_move rfl) rfl ?_
            refine HL_y (y_move rfl) rfl ?_
            refine HL_y (y_sub rfl rfl (i64w (by omega))) rfl ?_
            refine HL_y (y_idx Try.underlying22 sz39 rfl rfl (S17.row 0 rfl) (Nt.mk (by omega) : Nt _ (pre.length + l1.length + (((l1.length + l2.length) / 2) - 1 - (s + r) / 2))) (by omega)) rfl ?_
            refine HL_y (y_ldp (f := enf) enf_len Try.underlying39 rfl sz39 rfl (S17.row 0 rfl) (by omega) gy) rfl ?_
            refine HL_y (y_move rfl) rfl ?_
            refine HL_y (y_move rfl) rfl ?_
            refine HL_y (y_idx Try.underlying22 sz39 rfl rfl (S17.row 0 rfl) (Nt.mk (by omega) : Nt _ (pre.length + (s + r) / 2)) (by omega)) rfl ?_
            refine HL_y (y_ldp (f := enf) enf_len Try.underlying39 rfl sz39 rfl (S17.row 0 rfl) (by omega) gx) rfl ?_
            refine HL_nil ?_
            refine hK44 _ ?_
            refine L_o (o_callv (fs := []) (cs := []) rfl hfn hnm hbd (hC.call y x w17) rfl rfl (fun d' hd => by cases hd <;> rfl) ?_)
            rintro e18 w18 ⟨v18, rfl, l18, vc, rfl, hvc⟩
            refine ⟨_, rfl, ?_⟩
            have S18 := S17.like l18
            refine L_y (y_lss rfl rfl) rfl ?_
            refine L_y ((by first | exact y_notD rfl | exact y_not rfl)) rfl ?_
            refine L_nil ?_
            refine hK43 _ _ ?_
            refine T_cond rfl (fun h171 => ?_) (fun h171 => ?_)
            ·
              refine T_region ?_
              refine L_y (y_move rfl) rfl ?_
              refine L_y (y_add rfl rfl (i64w (by omega))) rfl ?_
              refine L_y (y_assign rfl) rfl ?_
              refine L_nil ?_
              refine ⟨(s + r) / 2 + 1, r, by omega, ⟨⟨⟨by omega, by omega, hr0⟩, .inr ⟨x, y, by rw [Nat.add_sub_cancel]; exact hx, by rw [show ((l1.length + l2.length) / 2) - ((s + r) / 2 + 1) = ((l1.length + l2.length) / 2) - 1 - (s + r) / 2 by omega]; exact hy, (by cases h9 : lt y x with | false => rfl | true => exact absurd (hvc.2 h9) (by omega)), by omega⟩, hhi⟩, S18⟩, ?_⟩
              exact (Sub.cons rfl (congrArg (Value.int _) (by omega)) (Sub.cons rfl (congrArg (Value.int _) (by omega)) (Sub.cons rfl rfl (Sub.cons rfl rfl (Sub.cons rfl rfl (Sub.cons rfl rfl (Sub.cons rfl rfl (Sub.cons rfl rfl (Sub.cons rfl rfl (Sub.cons rfl rfl (Sub.nil _)))))))))))
            ·
              refine T_region ?_
              refine L_y (y_move rfl) rfl ?_
              refine L_y (y_assign rfl) rfl ?_
              refine L_nil ?_
              refine ⟨s, (s + r) / 2, by omega, ⟨⟨⟨hs0, by omega, by omega⟩, hlo, .inr ⟨x, y, hx, hy, hvc.1 (by omega), by omega⟩⟩, S18⟩, ?_⟩
              exact (Sub.cons rfl (congrArg (Value.int _) (by omega)) (Sub.cons rfl (congrArg (Value.int _) (by omega)) (Sub.cons rfl rfl (Sub.cons rfl rfl (Sub.cons rfl rfl (Sub.cons rfl rfl (Sub.cons rfl rfl (Sub.cons rfl rfl (Sub.cons rfl rfl (Sub.cons rfl rfl (Sub.nil _)))))))))))
          ·
            have hse : r = s := by omega
            subst hse
            obtain ⟨a1, b1, rfl, ha1⟩ := split_at l1 r (by omega)
            obtain ⟨a2, b2, rfl, ha2⟩ := split_at l2 (((a1 ++ b1).length + l2.length) / 2 - r) (by omega)
            have hl1 : (a1 ++ b1).length = a1.length + b1.length := List.length_append
            have hl2 : (a2 ++ b2).length = a2.length + b2.length := List.length_append
            have hi9 : (a1 = [] ∨ b2 = []) ∨ ∃ x y, (a1 ++ b1)[a1.length - 1]? = some x ∧ (a2 ++ b2)[a2.length]? = some y ∧ lt y x = false ∧ 0 < a1.length := by rcases hlo with h | ⟨x, y, hx, hy, h0, hp⟩; (rcases hsb with q | q; exact .inl (.inl (List.eq_nil_of_length_eq_zero (by omega))); exact .inl (.inr (List.eq_nil_of_length_eq_zero (by omega)))); exact .inr ⟨x, y, by rw [ha1]; exact hx, by rw [ha2]; exact hy, h0, by omega⟩
            have hj9 : (b1 = [] ∨ a2 = []) ∨ ∃ x y, (a1 ++ b1)[a1.length]? = some x ∧ (a2 ++ b2)[a2.length - 1]? = some y ∧ lt y x = true ∧ 0 < a2.length := by rcases hhi with h | ⟨x, y, hx, hy, h0, hp⟩; (rcases hrb with q | q; exact .inl (.inl (List.eq_nil_of_length_eq_zero (by omega))); exact .inl (.inr (List.eq_nil_of_length_eq_zero (by omega)))); exact .inr ⟨x, y, by rw [ha1]; exact hx, by rw [ha2, show (((a1 ++ b1).length + (a2 ++ b2).length) / 2) - r - 1 = (((a1 ++ b1).length + (a2 ++ b2).length) / 2) - 1 - r by omega]; exact hy, h0, by omega⟩
            have hsp := sym_split hC.ord hs1 hs2 hi9 hj9
            have q1 := List.pairwise_append.1 hs1
            have q2 := List.pairwise_append.1 hs2
            refine T_exit ?_
            refine hK39 _ _ ?_
            refine T_seq fun K45 hK45 => ?_
            refine T_region ?_
            refine L_y (y_move rfl) rfl ?_
            refine L_y (y_move rfl) rfl ?_
            refine L_y (y_sub rfl rfl (i64w (by omega))) rfl ?_
            refine L_y (y_assign rfl) rfl ?_
            refine L_nil ?_
            refine hK45 _ _ ?_
            refine T_seqR (fun (e : Env) (w : World) => Sub [(0, .slice A n c), (1, .int .i64 (pre.length : Int)), (3, .int .i64 ((pre.length + (a1 ++ b1).length + (a2 ++ b2).length : Nat) : Int)), (4, .func (.func F) #[] #[]), (18, .int .i64 ((pre.length + a1.length + a2.length : Nat) : Int)), (20, .int .i64 ((pre.length + a1.length : Nat) : Int)), (24, .int .i64 ((pre.length + a1.length + b1.length + a2.length : Nat) : Int))] e ∧ St w0 (enR A c (pre ++ (a1 ++ b1) ++ (a2 ++ b2) ++ post)).dom [enR A c (pre ++ a1 ++ a2 ++ b1 ++ b2 ++ post)] w) ?_ ?_
            ·
              refine T_seq fun K47 hK47 => ?_
              refine T_region ?_
              refine L_y (y_move rfl) rfl ?_
              refine L_y (y_move rfl) rfl ?_
              refine L_y (y_lss rfl rfl) rfl ?_
              refine L_y (y_move rfl) rfl ?_
              refine L_split 181 rfl (fun h181 => ?_) (fun h181 => ?_)
              ·
                refine L_gyes rfl rfl ?_
                refine L_y (y_move rfl) rfl ?_
                refine L_gyes rfl rfl ?_
                refine L_y (y_move rfl) rfl ?_
                refine L_gyes rfl rfl ?_
                refine L_y (y_lss rfl rfl) rfl ?_
                refine L_y (y_pk rfl rfl) rfl ?_
                refine L_nil ?_
                refine hK47 _ _ ?_
                refine T_cond rfl (fun h185 => ?_) (fun h185 => ?_)
                ·
                  have S8 := S16.rowc 0 rfl (n' := (pre ++ a1 ++ b1 ++ a2 ++ (b2 ++ post)).length) (xs' := (pre ++ a1 ++ b1 ++ a2 ++ (b2 ++ post)).flatMap enf) (by rw [hn0]; simp) (by simp)
                  refine T_region ?_
                  refine L_y (y_move rfl) rfl ?_
                  refine L_y (y_move rfl) rfl ?_
                  refine L_y (y_move rfl) rfl ?_
                  refine L_y (y_move rfl) rfl ?_
                  refine L_y (y_move rfl) rfl ?_
                  refine L_o (o_call Try.func52 rfl rfl (rotat A n c _ _ _ (pre ++ a1) b1 a2 (b2 ++ post) (.func (.func F) #[] #[]) w16 (S8.get 0 rfl) (by rw [hn0]; simp) (by rw [List.length_append, ha1]) (by simp; omega) (by simp; omega) (by omega) (by omega) hn5) rfl rfl ?_)
                  rintro e20 w20 ⟨v20, rfl, T20⟩
                  refine ⟨_, rfl, ?_⟩
                  have S20 := S8.turn 0 rfl T20
                  refine L_nil ?_
                  exact ⟨(Sub.cons rfl (by first | rfl | exact congrArg (Value.int _) (by omega)) (Sub.cons rfl (by first | rfl | exact congrArg (Value.int _) (by omega)) (Sub.cons rfl (congrArg (Value.int _) (by omega)) (Sub.cons rfl (by first | rfl | exact congrArg (Value.int _) (by omega)) (Sub.cons rfl (congrArg (Value.int _) (by omega)) (Sub.cons rfl (congrArg (Value.int _) (by omega)) (Sub.cons rfl (congrArg (Value.int _) (by omega)) (Sub.nil _)))))))), by simpa using S20⟩
                ·
                  refine T_skip ?_
                  have hz : (pre ++ (a1 ++ b1) ++ (a2 ++ b2) ++ post) = (pre ++ a1 ++ a2 ++ b1 ++ b2 ++ post) := by rcases (show b1 = [] ∨ a2 = [] from by by_cases q9 : b1.length = 0; exact .inl (List.eq_nil_of_length_eq_zero q9); exact .inr (List.eq_nil_of_length_eq_zero (by omega))) with q | q <;> rw [q] <;> simp
                  have S9 := S16.rowc 0 rfl (n' := (pre ++ a1 ++ a2 ++ b1 ++ b2 ++ post).length) (xs' := (pre ++ a1 ++ a2 ++ b1 ++ b2 ++ post).flatMap enf) (by rw [hn0, hz]) (by rw [hz])
                  exact ⟨(Sub.cons rfl (by first | rfl | exact congrArg (Value.int _) (by omega)) (Sub.cons rfl (by first | rfl | exact congrArg (Value.int _) (by omega)) (Sub.cons rfl (congrArg (Value.int _) (by omega)) (Sub.cons rfl (by first | rfl | exact congrArg (Value.int _) (by omega)) (Sub.cons rfl (congrArg (Value.int _) (by omega)) (Sub.cons rfl (congrArg (Value.int _) (by omega)) (Sub.cons rfl (congrArg (Value.int _) (by omega)) (Sub.nil _)))))))), S9⟩
              ·
                refine L_gno rfl rfl rfl ?_
                refine L_gno rfl rfl rfl ?_
                refine L_gno rfl rfl rfl ?_
                refine L_y (y_pk rfl rfl) rfl ?_
                refine L_nil ?_
                refine hK47 _ _ ?_
                refine T_false rfl ?_
                refine T_skip ?_
                have hz : (pre ++ (a1 ++ b1) ++ (a2 ++ b2) ++ post) = (pre ++ a1 ++ a2 ++ b1 ++ b2 ++ post) := by rcases (show b1 = [] ∨ a2 = [] from by by_cases q9 : b1.length = 0; exact .inl (List.eq_nil_of_length_eq_zero q9); exact .inr (List.eq_nil_of_length_eq_zero (by omega))) with q | q <;> rw [q] <;> simp
                have S9 := S16.rowc 0 rfl (n' := (pre ++ a1 ++ a2 ++ b1 ++ b2 ++ post).length) (xs' := (pre ++ a1 ++ a2 ++ b1 ++ b2 ++ post).flatMap enf) (by rw [hn0, hz]) (by rw [hz])
                exact ⟨(Sub.cons rfl (by first | rfl | exact congrArg (Value.int _) (by omega)) (Sub.cons rfl (by first | rfl | exact congrArg (Value.int _) (by omega)) (Sub.cons rfl (congrArg (Value.int _) (by omega)) (Sub.cons rfl (by first | rfl | exact congrArg (Value.int _) (by omega)) (Sub.cons rfl (congrArg (Value.int _) (by omega)) (Sub.cons rfl (congrArg (Value.int _) (by omega)) (Sub.cons rfl (congrArg (Value.int _) (by omega)) (Sub.nil _)))))))), S9⟩
            ·
              rintro e21 w21 ⟨hsub, S21⟩
              refine T_weak hsub ?_
              refine T_seqR (fun (e : Env) (w : World) => Sub [(0, .slice A n c), (3, .int .i64 ((pre.length + (a1 ++ b1).length + (a2 ++ b2).length : Nat) : Int)), (4, .func (.func F) #[] #[]), (18, .int .i64 ((pre.length + a1.length + a2.length : Nat) : Int)), (24, .int .i64 ((pre.length + a1.length + b1.length + a2.length : Nat) : Int))] e ∧ St w0 (enR A c (pre ++ (a1 ++ b1) ++ (a2 ++ b2) ++ post)).dom [enR A c (pre ++ mrg lt a1 a2 ++ b1 ++ b2 ++ post)] w) ?_ ?_
              ·
                refine T_seq fun K49 hK49 => ?_
                refine T_region ?_
                refine L_y (y_move rfl) rfl ?_
                refine L_y (y_move rfl) rfl ?_
                refine L_y (y_lss rfl rfl) rfl ?_
                refine L_y (y_move rfl) rfl ?_
                refine L_split 195 rfl (fun h195 => ?_) (fun h195 => ?_)
                ·
                  refine L_gyes rfl rfl ?_
                  refine L_y (y_move rfl) rfl ?_
                  refine L_gyes rfl rfl ?_
                  refine L_y (y_move rfl) rfl ?_
                  refine L_gyes rfl rfl ?_
                  refine L_y (y_lss rfl rfl) rfl ?_
                  refine L_y (y_pk rfl rfl) rfl ?_
                  refine L_nil ?_
                  refine hK49 _ _ ?_
                  refine T_cond rfl (fun h199 => ?_) (fun h199 => ?_)
                  ·
                    rw [show pre ++ a1 ++ a2 ++ b1 ++ b2 ++ post = pre ++ a1 ++ a2 ++ (b1 ++ b2 ++ post) from by simp] at S21
                    refine T_region ?_
                    refine L_y (y_move rfl) rfl ?_
                    refine L_y (y_move rfl) rfl ?_
                    refine L_y (y_move rfl) rfl ?_
                    refine L_y (y_move rfl) rfl ?_
                    refine L_y (y_move rfl) rfl ?_
                    refine L_o (o_call Try.func45 rfl rfl (ih pre a1 a2 (b1 ++ b2 ++ post) (by omega) _ _ _ w21 (S21.get 0 rfl) (by rw [hn0]; simp; omega) (by omega) (by omega) (by omega) (by omega) (by omega) q1.1 q2.1) rfl rfl ?_)
                    rintro e23 w23 ⟨v23, rfl, T23⟩
                    refine ⟨_, rfl, ?_⟩
                    have S23 := S21.turn 0 rfl T23
                    refine L_nil ?_
                    exact ⟨(Sub.cons rfl (by first | rfl | exact congrArg (Value.int _) (by omega)) (Sub.cons rfl (congrArg (Value.int _) (by omega)) (Sub.cons rfl (by first | rfl | exact congrArg (Value.int _) (by omega)) (Sub.cons rfl (congrArg (Value.int _) (by omega)) (Sub.cons rfl (congrArg (Value.int _) (by omega)) (Sub.nil _)))))), by simpa using S23⟩
                  ·
                    refine T_skip ?_
                    have hz : mrg lt a1 a2 = a1 ++ a2 := by rcases (show a1 = [] ∨ a2 = [] from by by_cases q9 : a1.length = 0; exact .inl (List.eq_nil_of_length_eq_zero q9); exact .inr (List.eq_nil_of_length_eq_zero (by omega))) with q | q; rw [q, mrg_nil]; rfl; rw [q, mrg_nilr, List.append_nil]
                    have S9 := S21.rowc 0 rfl (n' := (pre ++ mrg lt a1 a2 ++ b1 ++ b2 ++ post).length) (xs' := (pre ++ mrg lt a1 a2 ++ b1 ++ b2 ++ post).flatMap enf) (by rw [hz]; simp) (by rw [hz]; simp)
                    exact ⟨(Sub.cons rfl (by first | rfl | exact congrArg (Value.int _) (by omega)) (Sub.cons rfl (congrArg (Value.int _) (by omega)) (Sub.cons rfl (by first | rfl | exact congrArg (Value.int _) (by omega)) (Sub.cons rfl (congrArg (Value.int _) (by omega)) (Sub.cons rfl (congrArg (Value.int _) (by omega)) (Sub.nil _)))))), S9⟩
                ·
                  refine L_gno rfl rfl rfl ?_
                  refine L_gno rfl rfl rfl ?_
                  refine L_gno rfl rfl rfl ?_
                  refine L_y (y_pk rfl rfl) rfl ?_
                  refine L_nil ?_
                  refine hK49 _ _ ?_
                  refine T_false rfl ?_
                  refine T_skip ?_
                  have hz : mrg lt a1 a2 = a1 ++ a2 := by rcases (show a1 = [] ∨ a2 = [] from by by_cases q9 : a1.length = 0; exact .inl (List.eq_nil_of_length_eq_zero q9); exact .inr (List.eq_nil_of_length_eq_zero (by omega))) with q | q; rw [q, mrg_nil]; rfl; rw [q, mrg_nilr, List.append_nil]
                  have S9 := S21.rowc 0 rfl (n' := (pre ++ mrg lt a1 a2 ++ b1 ++ b2 ++ post).length) (xs' := (pre ++ mrg lt a1 a2 ++ b1 ++ b2 ++ post).flatMap enf) (by rw [hz]; simp) (by rw [hz]; simp)
                  exact ⟨(Sub.cons rfl (by first | rfl | exact congrArg (Value.int _) (by omega)) (Sub.cons rfl (congrArg (Value.int _) (by omega)) (Sub.cons rfl (by first | rfl | exact congrArg (Value.int _) (by omega)) (Sub.cons rfl (congrArg (Value.int _) (by omega)) (Sub.cons rfl (congrArg (Value.int _) (by omega)) (Sub.nil _)))))), S9⟩
              ·
                rintro e24 w24 ⟨hsub, S24⟩
                refine T_weak hsub ?_
                refine T_seq fun K50 hK50 => ?_
                refine T_region ?_
                refine L_y (y_move rfl) rfl ?_
                refine L_y (y_move rfl) rfl ?_
                refine L_y (y_lss rfl rfl) rfl ?_
                refine L_y (y_move rfl) rfl ?_
                refine L_split 209 rfl (fun h209 => ?_) (fun h209 => ?_)
                ·
                  refine L_gyes rfl rfl ?_
                  refine L_y (y_move rfl) rfl ?_
                  refine L_gyes rfl rfl ?_
                  refine L_y (y_move rfl) rfl ?_
                  refine L_gyes rfl rfl ?_
                  refine L_y (y_lss rfl rfl) rfl ?_
                  refine L_y (y_pk rfl rfl) rfl ?_
                  refine L_nil ?_
                  refine hK50 _ _ ?_
                  refine T_cond rfl (fun h213 => ?_) (fun h213 => ?_)
                  ·
                    refine T_region ?_
                    refine L_y (y_move rfl) rfl ?_
                    refine L_y (y_move rfl) rfl ?_
                    refine L_y (y_move rfl) rfl ?_
                    refine L_y (y_move rfl) rfl ?_
                    refine L_y (y_move rfl) rfl ?_
                    refine L_o (o_call Try.func45 rfl rfl (ih (pre ++ mrg lt a1 a2) b1 b2 post (by omega) _ _ _ w24 (S24.get 0 rfl) (by rw [hn0]; simp [mrg_len]; omega) (by simp [mrg_len]; omega) (by simp [mrg_len]; omega) (by simp [mrg_len]; omega) (by omega) (by omega) q1.2.1 q2.2.1) rfl rfl ?_)
                    rintro e26 w26 ⟨v26, rfl, T26⟩
                    refine ⟨_, rfl, ?_⟩
                    have S26 := S24.turn 0 rfl T26
                    refine L_nil ?_
                    first | refine end0 (fn := Try.f45) rfl ?_ | (simp only [thenQ, inB, if_true]; refine end0 (fn := Try.f45) rfl ?_)
                    exact ⟨_, rfl, by have h := S26.turned1 0 rfl; rw [hsp, show pre ++ (mrg lt a1 a2 ++ mrg lt b1 b2) ++ post = pre ++ mrg lt a1 a2 ++ mrg lt b1 b2 ++ post from by simp]; exact h⟩
                  ·
                    refine T_skip ?_
                    first | refine end0 (fn := Try.f45) rfl ?_ | (simp only [thenQ, inB, if_true]; refine end0 (fn := Try.f45) rfl ?_)
                    have hz : mrg lt b1 b2 = b1 ++ b2 := by rcases (show b1 = [] ∨ b2 = [] from by by_cases q9 : b1.length = 0; exact .inl (List.eq_nil_of_length_eq_zero q9); exact .inr (List.eq_nil_of_length_eq_zero (by omega))) with q | q; rw [q, mrg_nil]; rfl; rw [q, mrg_nilr, List.append_nil]
                    exact ⟨_, rfl, by have h := S24.turned1 0 rfl; rw [hsp, hz]; rw [show pre ++ mrg lt a1 a2 ++ b1 ++ b2 ++ post = pre ++ (mrg lt a1 a2 ++ (b1 ++ b2)) ++ post from by simp] at h; exact h⟩
                ·
                  refine L_gno rfl rfl rfl ?_
                  refine L_gno rfl rfl rfl ?_
                  refine L_gno rfl rfl rfl ?_
                  refine L_y (y_pk rfl rfl) rfl ?_
                  refine L_nil ?_
                  refine hK50 _ _ ?_
                  refine T_false rfl ?_
                  refine T_skip ?_
                  first | refine end0 (fn := Try.f45) rfl ?_ | (simp only [thenQ, inB, if_true]; refine end0 (fn := Try.f45) rfl ?_)
                  have hz : mrg lt b1 b2 = b1 ++ b2 := by rcases (show b1 = [] ∨ b2 = [] from by by_cases q9 : b1.length = 0; exact .inl (List.eq_nil_of_length_eq_zero q9); exact .inr (List.eq_nil_of_length_eq_zero (by omega))) with q | q; rw [q, mrg_nil]; rfl; rw [q, mrg_nilr, List.append_nil]
                  exact ⟨_, rfl, by have h := S24.turned1 0 rfl; rw [hsp, hz]; rw [show pre ++ mrg lt a1 a2 ++ b1 ++ b2 ++ post = pre ++ (mrg lt a1 a2 ++ (b1 ++ b2)) ++ post from by simp] at h; exact h⟩


theorem symm_all {A : Option Addr} {n c F : Nat} {lt : EV → EV → Bool} (hC : CMP F lt) (hn5 : n ≤ 10000) : ∀ (N : Nat) (pre l1 l2 post : List EV), l1.length + l2.length < N → SMok A n c F lt pre l1 l2 post
  | 0, pre, l1, l2, post, h => absurd h (by omega)
  | N + 1, pre, l1, l2, post, h => fun a m b w0 hw hn ha hm hb h1 h2 hs1 hs2 =>
    symst A n c (l1.length + l2.length) a m b pre l1 l2 post F lt w0 hw hC hn ha hm hb h1 h2 hs1 hs2 rfl (fun pre' l1' l2' post' h' => symm_all hC hn5 N pre' l1' l2' post' (by omega)) hn5
theorem symm {A : Option Addr} {n c F : Nat} {lt : EV → EV → Bool} (hC : CMP F lt) (hn5 : n ≤ 10000) (pre l1 l2 post : List EV) : SMok A n c F lt pre l1 l2 post := symm_all hC hn5 (l1.length + l2.length + 1) pre l1 l2 post (by omega)
end Go.Proofs.Ytmgimcdkeelnpaa.Mrg


/-
  SortStableFunc.
-/
namespace Go.Proofs.Ytmgimcdkeelnpaa.Mrg
open Go.RowKit Zk Zx
set_option linter.unusedVariables false
set_option linter.unusedSimpArgs false

/-- Sorted in pieces of so many. -/
def cs (lt : EV → EV → Bool) (bs : Nat) (l : List EV) : List EV := if h : 0 < bs ∧ bs < l.length then srt lt (l.take bs) ++ cs lt bs (l.drop bs) else srt lt l
termination_by l.length
decreasing_by rw [List.length_drop]; omega
theorem cs_last {lt : EV → EV → Bool} {bs : Nat} {l : List EV} (h : l.length ≤ bs) : cs lt bs l = srt lt l := by rw [cs, dif_neg (by omega)]
theorem cs_step {lt : EV → EV → Bool} {bs : Nat} {l : List EV} (h0 : 0 < bs) (h : bs ≤ l.length) : cs lt bs l = srt lt (l.take bs) ++ cs lt bs (l.drop bs) := by
  rcases Nat.lt_or_ge bs l.length with q | q
  · rw [cs, dif_pos ⟨h0, q⟩]
  · have e : l.length = bs := by omega
    rw [cs_last (by omega), List.take_of_length_le (by omega), List.drop_of_length_le (by omega), cs_last (by simp)]
    simp [srt]
theorem cs_two {lt : EV → EV → Bool} {bs : Nat} {l : List EV} (h0 : 0 < bs) (h : 2 * bs ≤ l.length) : cs lt bs l = srt lt (l.take bs) ++ srt lt ((l.drop bs).take bs) ++ cs lt bs (l.drop (2 * bs)) := by
  rw [cs_step h0 (by omega), cs_step h0 (l := l.drop bs) (by rw [List.length_drop]; omega), List.drop_drop, List.append_assoc, show bs + bs = 2 * bs by omega]
theorem cs_one {lt : EV → EV → Bool} {bs : Nat} {l : List EV} (h0 : 0 < bs) (h : bs ≤ l.length) (h2 : l.length ≤ 2 * bs) : cs lt bs l = srt lt (l.take bs) ++ srt lt (l.drop bs) := by
  rw [cs_step h0 h, cs_last (by rw [List.length_drop]; omega)]
theorem srt_two {lt : EV → EV → Bool} (O : Ord3 lt) (l : List EV) (bs : Nat) : mrg lt (srt lt (l.take bs)) (srt lt ((l.drop bs).take bs)) = srt lt (l.take (2 * bs)) := by
  rw [mrg_srt O, show 2 * bs = bs + bs by omega, List.take_add]
theorem srt_two' {lt : EV → EV → Bool} (O : Ord3 lt) (l : List EV) (bs : Nat) : mrg lt (srt lt (l.take bs)) (srt lt (l.drop bs)) = srt lt l := by
  rw [mrg_srt O, List.take_append_drop]
theorem cs_len {lt : EV → EV → Bool} {bs : Nat} : ∀ (N : Nat) (l : List EV), l.length ≤ N → (cs lt bs l).length = l.length
  | N, l, h => by
    rw [cs]
    split
    · rename_i q
      match N, h with
      | 0, h => omega
      | N + 1, h =>
        rw [List.length_append, srt_len, cs_len N (l.drop bs) (by rw [List.length_drop]; omega), List.length_take, List.length_drop]
        omega
    · rw [srt_len]


set_option maxRecDepth 100000 in
theorem stabl (A : Option Addr) (n c : Nat) (l : List EV) (F : Nat) (lt : EV → EV → Bool) (w0 : World) (hw : (enR A c l).holds w0) (hC : CMP F lt) (hn : n = l.length) (hn5 : n ≤ 10000) :
    Calls Try.prog 34 #[.slice A n c, .int .i64 (n : Int), .func (.func F) #[] #[]] w0 fun e w' => ∃ u, e = .returned u ∧ Turned w0 w' (enR A c l) (enR A c (srt lt l)) := by
  refine enter1 (env := [(0, .slice A n c), (1, .int .i64 (n : Int)), (2, .func (.func F) #[] #[])]) [.slice A n c, .int .i64 (n : Int), .func (.func F) #[] #[]] Try.func34 rfl Try.ntmps34 rfl rfl ?_
  have S0 := St.borrow1 (enR A c l) hw (enR_lt hw)
  refine T_seq fun K1 hK1 => ?_
  refine T_region ?_
  refine L_y (y_assign rfl) rfl ?_
  refine L_nil ?_
  refine hK1 _ _ ?_
  refine T_seq fun K2 hK2 => ?_
  refine T_region ?_
  refine L_y (y_move rfl) rfl ?_
  refine L_y (y_assign rfl) rfl ?_
  refine L_y (y_assign rfl) rfl ?_
  refine L_nil ?_
  refine hK2 _ _ ?_
  refine T_seq fun K3 hK3 => ?_
  refine T_block ?_
  refine T_loop1 [(0, _), (1, _), (2, _), (6, _)] (fun (D : List EV) => [(7, .int .i64 (D.length : Int)), (8, .int .i64 ((D.length + 20 : Nat) : Int))]) (fun (D : List EV) => l.length - D.length) (fun (D : List EV) (w : World) => (D.length ≤ l.length ∧ D ++ cs lt 20 (l.drop D.length) = cs lt 20 l) ∧ St w0 (enR A c l).dom [enR A c (D ++ (l.drop D.length))] w) [] (Sub.cons rfl (by first | rfl | exact congrArg (Value.int _) (by omega)) (Sub.cons rfl (by first | rfl | exact congrArg (Value.int _) (by omega)) (Sub.nil _))) (Sub.cons rfl rfl (Sub.cons rfl rfl (Sub.cons rfl rfl (Sub.cons rfl rfl (Sub.nil _))))) ?_ ?_
  ·
    exact ⟨⟨Nat.zero_le _, rfl⟩, by simpa using S0⟩
  ·
    intro D w1 hrel
    obtain ⟨⟨hD, hcs⟩, S1⟩ := hrel
    have hRl : (l.drop D.length).length = l.length - D.length := List.length_drop
    refine T_seq fun K4 hK4 => ?_
    refine T_seq fun K5 hK5 => ?_
    refine T_region ?_
    refine L_y (y_move rfl) rfl ?_
    refine L_y (y_move rfl) rfl ?_
    refine L_y (y_leq rfl rfl) rfl ?_
    refine L_nil ?_
    refine hK5 _ _ ?_
    refine T_cond rfl (fun h13 => ?_) (fun h13 => ?_)
    ·
      rw [show D ++ (l.drop D.length) = D ++ (l.drop D.length).take 20 ++ (l.drop D.length).drop 20 from by rw [List.append_assoc, List.take_append_drop]] at S1
      refine T_skip ?_
      refine hK4 _ _ ?_
      refine T_block ?_
      refine T_seq fun K6 hK6 => ?_
      refine T_region ?_
      refine L_y (y_move rfl) rfl ?_
      refine L_y (y_move rfl) rfl ?_
      refine L_y (y_move rfl) rfl ?_
      refine L_y (y_move rfl) rfl ?_
      refine L_o (o_call Try.func44 rfl rfl (insor A n c _ _ D ((l.drop D.length).take 20) ((l.drop D.length).drop 20) F lt w1 (S1.get 0 rfl) hC (by simp; omega) rfl (by rw [List.length_take]; omega) (by omega)) rfl rfl ?_)
      rintro e2 w2 ⟨v2, rfl, T2⟩
      refine ⟨_, rfl, ?_⟩
      have S2 := S1.turn 0 rfl T2
      refine L_nil ?_
      refine hK6 _ _ ?_
      refine T_seq fun K7 hK7 => ?_
      refine T_region ?_
      refine L_y (y_move rfl) rfl ?_
      refine L_y (y_assign rfl) rfl ?_
      refine L_nil ?_
      refine hK7 _ _ ?_
      refine T_region ?_
      refine L_y (y_move rfl) rfl ?_
      refine L_y (y_move rfl) rfl ?_
      refine L_y (y_add rfl rfl (i64w (by omega))) rfl ?_
      refine L_y (y_assign rfl) rfl ?_
      refine L_nil ?_
      have hDl : (D ++ srt lt ((l.drop D.length).take 20)).length = D.length + 20 := by rw [List.length_append, srt_len, List.length_take]; omega
      rw [List.drop_drop] at S2
      refine ⟨D ++ srt lt ((l.drop D.length).take 20), by omega, ⟨⟨by omega, by rw [hDl, ← List.drop_drop, List.append_assoc, ← cs_step (by omega) (by omega), hcs]⟩, by rw [hDl]; exact S2⟩, ?_⟩
      exact (Sub.cons rfl (congrArg (Value.int _) (by omega)) (Sub.cons rfl (congrArg (Value.int _) (by omega)) (Sub.cons rfl rfl (Sub.cons rfl rfl (Sub.cons rfl rfl (Sub.cons rfl rfl (Sub.nil _)))))))
    ·
      rw [show D ++ (l.drop D.length) = D ++ (l.drop D.length) ++ [] from by simp] at S1
      refine T_exit ?_
      refine hK3 _ _ ?_
      refine T_seq fun K8 hK8 => ?_
      refine T_region ?_
      refine L_y (y_move rfl) rfl ?_
      refine L_y (y_move rfl) rfl ?_
      refine L_y (y_move rfl) rfl ?_
      refine L_y (y_move rfl) rfl ?_
      refine L_o (o_call Try.func44 rfl rfl (insor A n c _ _ D (l.drop D.length) [] F lt w1 (S1.get 0 rfl) hC (by simp; omega) rfl (by omega) (by omega)) rfl rfl ?_)
      rintro e3 w3 ⟨v3, rfl, T3⟩
      refine ⟨_, rfl, ?_⟩
      have S3 := S1.turn 0 rfl T3
      have e9 : D ++ srt lt (l.drop D.length) ++ [] = cs lt 20 l := by rw [List.append_nil, ← cs_last (bs := 20) (by omega), hcs]
      rw [e9] at S3
      refine L_nil ?_
      refine hK8 _ _ ?_
      refine T_block ?_
      refine T_loop1 [(0, _), (1, _), (2, _)] (fun (bs : Nat) => [(6, .int .i64 (bs : Int))]) (fun (bs : Nat) => n - bs) (fun (bs : Nat) (w : World) => (20 ≤ bs) ∧ St w0 (enR A c l).dom [enR A c (cs lt bs l)] w) 20 (Sub.cons rfl (by first | rfl | exact congrArg (Value.int _) (by omega)) (Sub.nil _)) (Sub.cons rfl rfl (Sub.cons rfl rfl (Sub.cons rfl rfl (Sub.nil _)))) ?_ ?_
      ·
        exact ⟨by omega, S3⟩
      ·
        intro bs w4 hrel
        obtain ⟨hbs, S4⟩ := hrel
        refine T_seq fun K9 hK9 => ?_
        refine T_seq fun K10 hK10 => ?_
        refine T_region ?_
        refine L_y (y_move rfl) rfl ?_
        refine L_y (y_move rfl) rfl ?_
        refine L_y (y_lss rfl rfl) rfl ?_
        refine L_nil ?_
        refine hK10 _ _ ?_
        refine T_cond rfl (fun h30 => ?_) (fun h30 => ?_)
        ·
          refine T_skip ?_
          refine hK9 _ _ ?_
          refine T_block ?_
          refine T_seq fun K11 hK11 => ?_
          refine T_region ?_
          refine L_y (y_move rfl) rfl ?_
          refine L_y (y_mul rfl rfl (i64w (by omega))) rfl ?_
          refine L_y (y_assign rfl) rfl ?_
          refine L_y (y_assign rfl) rfl ?_
          refine L_nil ?_
          refine hK11 _ _ ?_
          refine T_seq fun K12 hK12 => ?_
          refine T_block ?_
          refine T_loop1 [(0, _), (1, _), (2, _), (6, _)] (fun (E : List EV) => [(7, .int .i64 (E.length : Int)), (8, .int .i64 ((E.length + 2 * bs : Nat) : Int))]) (fun (E : List EV) => l.length - E.length) (fun (E : List EV) (w : World) => (E.length ≤ l.length ∧ E ++ cs lt (2 * bs) (l.drop E.length) = cs lt (2 * bs) l) ∧ St w0 (enR A c l).dom [enR A c (E ++ cs lt bs (l.drop E.length))] w) [] (Sub.cons rfl (by first | rfl | exact congrArg (Value.int _) (by first | omega | (simp; done) | (simp; omega))) (Sub.cons rfl (by first | rfl | exact congrArg (Value.int _) (by first | omega | (simp; done) | (simp; omega))) (Sub.nil _))) (Sub.cons rfl rfl (Sub.cons rfl rfl (Sub.cons rfl rfl (Sub.cons rfl rfl (Sub.nil _))))) ?_ ?_
          ·
            exact ⟨⟨Nat.zero_le _, rfl⟩, by simpa using S4⟩
          ·
            intro E w5 hrel
            obtain ⟨⟨hE, hcs2⟩, S5⟩ := hrel
            have hEl : (l.drop E.length).length = l.length - E.length := List.length_drop
            have hcl := cs_len (lt := lt) (bs := bs) _ (l.drop E.length) (Nat.le_refl _)
            refine T_seq fun K13 hK13 => ?_
            refine T_seq fun K14 hK14 => ?_
            refine T_region ?_
            refine L_y (y_move rfl) rfl ?_
            refine L_y (y_move rfl) rfl ?_
            refine L_y (y_leq rfl rfl) rfl ?_
            refine L_nil ?_
            refine hK14 _ _ ?_
            refine T_cond rfl (fun h35 => ?_) (fun h35 => ?_)
            ·
              rw [cs_two (by omega) (by omega), show E ++ (srt lt ((l.drop E.length).take bs) ++ srt lt (((l.drop E.length).drop bs).take bs) ++ cs lt bs ((l.drop E.length).drop (2 * bs))) = E ++ srt lt ((l.drop E.length).take bs) ++ srt lt (((l.drop E.length).drop bs).take bs) ++ cs lt bs ((l.drop E.length).drop (2 * bs)) from by simp] at S5
              have k1 : (srt lt ((l.drop E.length).take bs)).length = bs := by rw [srt_len, List.length_take]; omega
              have k2 : (srt lt (((l.drop E.length).drop bs).take bs)).length = bs := by rw [srt_len, List.length_take, List.length_drop]; omega
              have k3 := cs_len (lt := lt) (bs := bs) _ ((l.drop E.length).drop (2 * bs)) (Nat.le_refl _)
              rw [List.length_drop] at k3
              refine T_skip ?_
              refine hK13 _ _ ?_
              refine T_block ?_
              refine T_seq fun K15 hK15 => ?_
              refine T_region ?_
              refine L_y (y_move rfl) rfl ?_
              refine L_y (y_move rfl) rfl ?_
              refine L_y (y_move rfl) rfl ?_
              refine L_y (y_move rfl) rfl ?_
              refine L_y (y_add rfl rfl (i64w (by omega))) rfl ?_
              refine L_y (y_move rfl) rfl ?_
              refine L_y (y_move rfl) rfl ?_
              refine L_o (o_call Try.func45 rfl rfl (symm hC hn5 E (srt lt ((l.drop E.length).take bs)) (srt lt (((l.drop E.length).drop bs).take bs)) (cs lt bs ((l.drop E.length).drop (2 * bs))) _ _ _ w5 (S5.get 0 rfl) (by rw [List.length_append, List.length_append, List.length_append]; omega) rfl (by omega) (by omega) (by omega) (by omega) (srt_sorted hC.ord _) (srt_sorted hC.ord _)) rfl rfl ?_)
              rintro e6 w6 ⟨v6, rfl, T6⟩
              refine ⟨_, rfl, ?_⟩
              have S6 := S5.turn 0 rfl T6
              refine L_nil ?_
              refine hK15 _ _ ?_
              refine T_seq fun K16 hK16 => ?_
              refine T_region ?_
              refine L_y (y_move rfl) rfl ?_
              refine L_y (y_assign rfl) rfl ?_
              refine L_nil ?_
              refine hK16 _ _ ?_
              refine T_region ?_
              refine L_y (y_move rfl) rfl ?_
              refine L_y (y_move rfl) rfl ?_
              refine L_y (y_mul rfl rfl (i64w (by omega))) rfl ?_
              refine L_y (y_add rfl rfl (i64w (by omega))) rfl ?_
              refine L_y (y_assign rfl) rfl ?_
              refine L_nil ?_
              have hDl : (E ++ srt lt ((l.drop E.length).take (2 * bs))).length = E.length + 2 * bs := by rw [List.length_append, srt_len, List.length_take]; omega
              have e9 : E ++ mrg lt (srt lt ((l.drop E.length).take bs)) (srt lt (((l.drop E.length).drop bs).take bs)) ++ cs lt bs ((l.drop E.length).drop (2 * bs)) = E ++ srt lt ((l.drop E.length).take (2 * bs)) ++ cs lt bs (l.drop (E.length + 2 * bs)) := by rw [srt_two hC.ord, List.drop_drop]
              rw [e9] at S6
              refine ⟨E ++ srt lt ((l.drop E.length).take (2 * bs)), by omega, ⟨⟨by omega, by rw [hDl, ← List.drop_drop, List.append_assoc, ← cs_step (by omega) (by omega), hcs2]⟩, by rw [hDl]; exact S6⟩, ?_⟩
              exact (Sub.cons rfl (congrArg (Value.int _) (by first | omega | (simp; done) | (simp; omega))) (Sub.cons rfl (congrArg (Value.int _) (by first | omega | (simp; done) | (simp; omega))) (Sub.cons rfl rfl (Sub.cons rfl rfl (Sub.cons rfl rfl (Sub.cons rfl rfl (Sub.nil _)))))))
            ·
              refine T_exit ?_
              refine hK12 _ _ ?_
              refine T_seq fun K17 hK17 => ?_
              refine T_seq fun K18 hK18 => ?_
              refine T_region ?_
              refine L_y (y_move rfl) rfl ?_
              refine L_y (y_move rfl) rfl ?_
              refine L_y (y_add rfl rfl (i64w (by omega))) rfl ?_
              refine L_y (y_assign rfl) rfl ?_
              refine L_nil ?_
              refine hK18 _ _ ?_
              refine T_seq fun K19 hK19 => ?_
              refine T_region ?_
              refine L_y (y_move rfl) rfl ?_
              refine L_y (y_move rfl) rfl ?_
              refine L_y (y_lss rfl rfl) rfl ?_
              refine L_nil ?_
              refine hK19 _ _ ?_
              refine T_cond rfl (fun h54 => ?_) (fun h54 => ?_)
              ·
                rw [cs_one (by omega) (by omega) (by omega), show E ++ (srt lt ((l.drop E.length).take bs) ++ srt lt ((l.drop E.length).drop bs)) = E ++ srt lt ((l.drop E.length).take bs) ++ srt lt ((l.drop E.length).drop bs) ++ [] from by simp] at S5
                have k1 : (srt lt ((l.drop E.length).take bs)).length = bs := by rw [srt_len, List.length_take]; omega
                have k2 : (srt lt ((l.drop E.length).drop bs)).length = l.length - E.length - bs := by rw [srt_len, List.length_drop]; omega
                refine T_region ?_
                refine L_y (y_move rfl) rfl ?_
                refine L_y (y_move rfl) rfl ?_
                refine L_y (y_move rfl) rfl ?_
                refine L_y (y_move rfl) rfl ?_
                refine L_y (y_move rfl) rfl ?_
                refine L_o (o_call Try.func45 rfl rfl (symm hC hn5 E (srt lt ((l.drop E.length).take bs)) (srt lt ((l.drop E.length).drop bs)) [] _ _ _ w5 (S5.get 0 rfl) (by rw [List.length_append, List.length_append, List.length_append, List.length_nil]; omega) rfl (by omega) (by omega) (by omega) (by omega) (srt_sorted hC.ord _) (srt_sorted hC.ord _)) rfl rfl ?_)
                rintro e7 w7 ⟨v7, rfl, T7⟩
                refine ⟨_, rfl, ?_⟩
                have S7 := S5.turn 0 rfl T7
                have e9 : E ++ mrg lt (srt lt ((l.drop E.length).take bs)) (srt lt ((l.drop E.length).drop bs)) ++ [] = cs lt (2 * bs) l := by rw [srt_two' hC.ord, List.append_nil, ← cs_last (bs := 2 * bs) (by omega), hcs2]
                rw [e9] at S7
                refine L_nil ?_
                refine hK17 _ _ ?_
                refine T_region ?_
                refine L_y (y_move rfl) rfl ?_
                refine L_y (y_mul rfl rfl (i64w (by omega))) rfl ?_
                refine L_y (y_assign rfl) rfl ?_
                refine L_nil ?_
                refine ⟨2 * bs, by omega, ⟨by omega, S7⟩, ?_⟩
                exact (Sub.cons rfl (congrArg (Value.int _) (by omega)) (Sub.cons rfl rfl (Sub.cons rfl rfl (Sub.cons rfl rfl (Sub.nil _)))))
              ·
                rw [cs_last (bs := bs) (by omega), ← cs_last (bs := 2 * bs) (by omega), hcs2] at S5
                refine T_skip ?_
                refine hK17 _ _ ?_
                refine T_region ?_
                refine L_y (y_move rfl) rfl ?_
                refine L_y (y_mul rfl rfl (i64w (by omega))) rfl ?_
                refine L_y (y_assign rfl) rfl ?_
                refine L_nil ?_
                refine ⟨2 * bs, by omega, ⟨by omega, S5⟩, ?_⟩
                exact (Sub.cons rfl (congrArg (Value.int _) (by omega)) (Sub.cons rfl rfl (Sub.cons rfl rfl (Sub.cons rfl rfl (Sub.nil _)))))
        ·
          refine T_exit ?_
          first | refine end0 (fn := Try.f34) rfl ?_ | (simp only [thenQ, inB, if_true]; refine end0 (fn := Try.f34) rfl ?_)
          have h := S4.turned1 0 rfl
          rw [cs_last (by omega)] at h
          exact ⟨_, rfl, h⟩


set_option maxRecDepth 100000 in
theorem sortst (A : Option Addr) (n c : Nat) (l : List EV) (F : Nat) (lt : EV → EV → Bool) (w0 : World) (hw : (enR A c l).holds w0) (hC : CMP F lt) (hn : n = l.length) (hn5 : n ≤ 10000) :
    Calls Try.prog 24 #[.slice A n c, .func (.func F) #[] #[]] w0 fun e w' => ∃ u, e = .returned u ∧ Turned w0 w' (enR A c l) (enR A c (srt lt l)) := by
  refine enter1 (env := [(0, .slice A n c), (1, .func (.func F) #[] #[])]) [.slice A n c, .func (.func F) #[] #[]] Try.func24 rfl Try.ntmps24 rfl rfl ?_
  have S0 := St.borrow1 (enR A c l) hw (enR_lt hw)
  refine T_region ?_
  refine L_y (y_move rfl) rfl ?_
  refine L_y (y_move rfl) rfl ?_
  refine L_y (y_len Try.underlying22 rfl) rfl ?_
  refine L_y (y_move rfl) rfl ?_
  refine L_o (o_call Try.func34 rfl rfl (stabl A n c l F lt w0 (S0.get 0 rfl) hC hn hn5) rfl rfl ?_)
  rintro e1 w1 ⟨v1, rfl, T1⟩
  refine ⟨_, rfl, ?_⟩
  have S1 := S0.turn 0 rfl T1
  refine L_nil ?_
  first | refine end0 (fn := Try.f24) rfl ?_ | (simp only [thenQ, inB, if_true]; refine end0 (fn := Try.f24) rfl ?_)
  exact ⟨_, rfl, S1.turned1 0 rfl⟩
end Go.Proofs.Ytmgimcdkeelnpaa.Mrg


/-
  Entries; swapRange.
-/
namespace Go.Proofs.Ytmgimcdkeelnpaa
open Go.RowKit Zk Zx
set_option linter.unusedVariables false
set_option linter.unusedSimpArgs false

/-- An entry. -/
structure EV where
  nm : ByteArray
  md : Int
  id : List UInt8
  h : id.length = 32 ∧ nm.size ≤ 1000000000
deriving DecidableEq
def enf (e : EV) : List Value := Value.string e.nm :: Value.int .i64 e.md :: bL e.id
theorem enf_len (e : EV) : (enf e).length = 34 := by simp [enf, e.h.1]
theorem take_enf (e : EV) : List.take 34 (List.drop 0 (enf e).toArray.toList) = enf e := by
  rw [List.drop_zero]
  exact List.take_of_length_le (by rw [List.toList_toArray, enf_len]; exact Nat.le_refl _)
theorem enf_one (e : EV) : ∀ u ∈ enf e, u.oneCell' = true := fun u hu => by
  unfold enf at hu
  rcases List.mem_cons.1 hu with rfl | hu
  · rfl
  · rcases List.mem_cons.1 hu with rfl | hu
    · rfl
    · exact bL_one _ u hu
theorem ens_one (l : List EV) : ∀ u ∈ l.flatMap enf, u.oneCell' = true := fun u hu => by
  obtain ⟨o, _, ho⟩ := List.mem_flatMap.1 hu
  exact enf_one o u ho
theorem ens_len (l : List EV) : (l.flatMap enf).length = l.length * 34 := flat_len enf 34 enf_len l
theorem ens_n {w : World} {A : Option Addr} {n c : Nat} {l : List EV} (h : Rs w 34 A n c (l.flatMap enf)) : n = l.length := by
  have := h.len
  rw [ens_len] at this
  omega
/-- An own row of entries. -/
def enR (A : Option Addr) (c : Nat) (l : List EV) : Res := Zx.row 39 34 A l.length c (l.flatMap enf)
theorem enR_lt {w : World} {A : Option Addr} {c : Nat} {l : List EV} (h : (enR A c l).holds w) : ∀ i, (enR A c l).dom i → i < w.heap.size := fun i hi => (World.ownsRow.lt h i hi).2
theorem turn_en {w w' : World} {r : Res} {A : Option Addr} {n c : Nat} {m : List EV} {xs : List Value} (h : Turned w w' r (Zx.row 39 34 A n c xs)) (hn : n = m.length) (hx : xs = m.flatMap enf) : Turned w w' r (enR A c m) := by
  subst hn hx
  exact h
theorem ens_set {l : List EV} {k : Nat} {e : EV} (h : k < l.length) : (l.flatMap enf).take (k * 34) ++ (enf e).toArray.toList ++ (l.flatMap enf).drop ((k + 1) * 34) = (l.set k e).flatMap enf := flat_set enf enf_len l k e h
/-- A comparison that may be handed to a sort. -/
structure CMP (F : Nat) (lt : EV → EV → Bool) : Prop where
  ord : Ord3 lt
  fn : ∃ fn, Try.prog.funcs[F]? = some fn ∧ (fn.name == "runtime.NumGoroutine") = false ∧ fn.body.isNone = false
  call : ∀ x y w, Calls Try.prog F #[.agg (enf x).toArray, .agg (enf y).toArray] w fun e w' => ∃ u, e = .returned u ∧ Like w w' ∧ ∃ v : Int, u = .int .i64 v ∧ (v < 0 ↔ lt x y = true)
theorem exch {α : Type} {p q r : List α} {x y : α} {l : List α} {i j : Nat} (h : l = p ++ x :: (q ++ y :: r)) (hi : i = p.length) (hj : j = p.length + 1 + q.length) : l[i]? = some x ∧ l[j]? = some y ∧ (l.set i y).set j x = p ++ y :: (q ++ x :: r) := by
  subst h
  refine ⟨?_, ?_, swp_mid hi hj⟩
  · rw [hi]; exact get_mid.1
  · rw [hj]; exact get_mid.2
theorem exch2 {α : Type} {p q r : List α} {x y : α} {l : List α} {i j : Nat} (h : l = p ++ x :: (q ++ y :: r)) (hi : i = p.length) (hj : j = p.length + 1 + q.length) : l[i]? = some x ∧ l[j]? = some y ∧ (l.set j x).set i y = p ++ y :: (q ++ x :: r) := by
  obtain ⟨h1, h2, h3⟩ := exch h hi hj
  exact ⟨h1, h2, by rw [List.set_comm _ _ (by omega)]; exact h3⟩


theorem sw_st {α : Type} {pre X mid Y post : List α} {k : Nat} {x y : α} (hx : X[k]? = some x) (hy : Y[k]? = some y) :
    pre ++ (Y.take k ++ X.drop k) ++ mid ++ (X.take k ++ Y.drop k) ++ post = (pre ++ Y.take k) ++ x :: ((X.drop (k + 1) ++ mid ++ X.take k) ++ y :: (Y.drop (k + 1) ++ post)) := by
  obtain ⟨h1, rfl⟩ := List.getElem?_eq_some_iff.1 hx
  obtain ⟨h2, rfl⟩ := List.getElem?_eq_some_iff.1 hy
  have e1 := List.drop_eq_getElem_cons h1
  have e2 := List.drop_eq_getElem_cons h2
  rw [e1, e2]
  simp only [List.append_assoc, List.cons_append]
theorem sw_en {α : Type} {pre X mid Y post : List α} {k : Nat} {x y : α} (hx : X[k]? = some x) (hy : Y[k]? = some y) :
    (pre ++ Y.take k) ++ y :: ((X.drop (k + 1) ++ mid ++ X.take k) ++ x :: (Y.drop (k + 1) ++ post)) = pre ++ (Y.take (k + 1) ++ X.drop (k + 1)) ++ mid ++ (X.take (k + 1) ++ Y.drop (k + 1)) ++ post := by
  rw [List.take_add_one, List.take_add_one, hx, hy]
  simp


set_option maxRecDepth 100000 in
theorem swapr (A : Option Addr) (n c : Nat) (a b j : Int) (pre X mid Y post : List EV) (fv : Value) (w0 : World) (hw : (enR A c (pre ++ X ++ mid ++ Y ++ post)).holds w0) (hXY : Y.length = X.length) (hn : n = (pre ++ X ++ mid ++ Y ++ post).length) (ha : a = (pre.length : Int)) (hb : b = ((pre.length + X.length + mid.length : Nat) : Int)) (hj : j = (X.length : Int)) (hn5 : n ≤ 10000) :
    Calls Try.prog 60 #[.slice A n c, .int .i64 a, .int .i64 b, .int .i64 j, fv] w0 fun e w' => ∃ u, e = .returned u ∧ Turned w0 w' (enR A c (pre ++ X ++ mid ++ Y ++ post)) (enR A c (pre ++ Y ++ mid ++ X ++ post)) := by
  refine enter1 (env := [(0, .slice A n c), (1, .int .i64 a), (2, .int .i64 b), (3, .int .i64 j), (4, fv)]) [.slice A n c, .int .i64 a, .int .i64 b, .int .i64 j, fv] Try.func60 rfl Try.ntmps60 rfl rfl ?_
  have hn0 := hn; simp only [List.length_append] at hn; subst ha hb hj; have S0 := St.borrow1 (enR A c (pre ++ X ++ mid ++ Y ++ post)) hw (enR_lt hw)
  refine T_seq fun K1 hK1 => ?_
  refine T_region ?_
  refine L_y (y_assign rfl) rfl ?_
  refine L_nil ?_
  refine hK1 _ _ ?_
  refine T_block ?_
  refine T_loop1 [(0, _), (1, _), (2, _), (3, _)] (fun (k : Nat) => [(10, .int .i64 (k : Int))]) (fun (k : Nat) => X.length - k) (fun (k : Nat) (w : World) => k ≤ X.length ∧ St w0 (enR A c (pre ++ X ++ mid ++ Y ++ post)).dom [enR A c (pre ++ (Y.take k ++ X.drop k) ++ mid ++ (X.take k ++ Y.drop k) ++ post)] w) 0 (Sub.cons rfl (by first | rfl | exact congrArg (Value.int _) (by omega)) (Sub.nil _)) (Sub.cons rfl rfl (Sub.cons rfl rfl (Sub.cons rfl rfl (Sub.cons rfl rfl (Sub.nil _))))) ?_ ?_
  ·
    exact ⟨Nat.zero_le _, by simpa using S0⟩
  ·
    intro k w1 hrel
    obtain ⟨hk, S1⟩ := hrel
    have hln : (pre ++ (Y.take k ++ X.drop k) ++ mid ++ (X.take k ++ Y.drop k) ++ post).length = n := by simp; omega
    rw [show enR A c (pre ++ (Y.take k ++ X.drop k) ++ mid ++ (X.take k ++ Y.drop k) ++ post) = Zx.row 39 34 A n c ((pre ++ (Y.take k ++ X.drop k) ++ mid ++ (X.take k ++ Y.drop k) ++ post).flatMap enf) from by rw [← hln]; rfl] at S1
    refine T_seq fun K2 hK2 => ?_
    refine T_seq fun K3 hK3 => ?_
    refine T_region ?_
    refine L_y (y_move rfl) rfl ?_
    refine L_y (y_move rfl) rfl ?_
    refine L_y (y_lss rfl rfl) rfl ?_
    refine L_nil ?_
    refine hK3 _ _ ?_
    refine T_cond rfl (fun h13 => ?_) (fun h13 => ?_)
    ·
      obtain ⟨x, hx⟩ : ∃ x, X[k]? = some x := ⟨_, List.getElem?_eq_getElem (by omega)⟩
      obtain ⟨y, hy⟩ : ∃ y, Y[k]? = some y := ⟨_, List.getElem?_eq_getElem (by omega)⟩
      obtain ⟨gx, gy, hset⟩ := exch (i := pre.length + k) (j := pre.length + X.length + mid.length + k) (sw_st (pre := pre) (mid := mid) (post := post) hx hy) (by simp; omega) (by simp; omega)
      refine T_skip ?_
      refine hK2 _ _ ?_
      refine T_seq fun K4 hK4 => ?_
      refine T_block ?_
      refine T_zed [0, 1, 2, 3, 8, 9, 10, 11, 12, 13, 14, 15, 16, 17, 18, 19, 20] 21 [(4, 0), (5, 0), (6, 0), (7, 0), (0, 1), (1, 1), (2, 1), (3, 1), (8, 1), (9, 1), (10, 1), (11, 1), (12, 1), (13, 1), (14, 1), (15, 1), (16, 1), (17, 1), (18, 1), (19, 1), (20, 1), (21, 3), (22, 3), (23, 3)] hmix (by kernel_rfl) fun w2 l2 => ?_
      have S2 := S1.like l2
      refine ZA_y rfl (y_move rfl) rfl ?_
      refine ZA_y rfl (y_move rfl) rfl ?_
      refine ZA_y rfl (y_move rfl) rfl ?_
      refine ZA_y rfl (y_add rfl rfl (i64w (by omega))) rfl ?_
      refine ZA_B (Like w2) (Like.refl _) ?_
      refine ZB_y rfl (y_move rfl) rfl ?_
      refine ZB_y rfl (y_move rfl) rfl ?_
      refine ZB_y rfl (y_move rfl) rfl ?_
      refine ZB_y rfl (y_add rfl rfl (i64w (by omega))) rfl ?_
      refine ZB_y rfl (y_move rfl) rfl ?_
      refine ZB_y rfl (y_move rfl) rfl ?_
      refine ZB_y rfl (y_move rfl) rfl ?_
      refine ZB_y rfl (y_add rfl rfl (i64w (by omega))) rfl ?_
      refine ZB_y rfl (y_idx Try.underlying22 sz39 rfl rfl (S2.row 0 rfl) (Nt.mk (by omega) : Nt _ (pre.length + X.length + mid.length + k)) (by omega)) rfl ?_
      refine ZB_y rfl (y_ldp (f := enf) enf_len Try.underlying39 rfl sz39 rfl (S2.row 0 rfl) (by omega) gy) rfl ?_
      refine ZB_y rfl (y_move rfl) rfl ?_
      refine ZB_y rfl (y_move rfl) rfl ?_
      refine ZB_y rfl (y_move rfl) rfl ?_
      refine ZB_y rfl (y_add rfl rfl (i64w (by omega))) rfl ?_
      refine ZB_y rfl (y_idx Try.underlying22 sz39 rfl rfl (S2.row 0 rfl) (Nt.mk (by omega) : Nt _ (pre.length + k)) (by omega)) rfl ?_
      refine ZB_y rfl (y_ldp (f := enf) enf_len Try.underlying39 rfl sz39 rfl (S2.row 0 rfl) (by omega) gx) rfl ?_
      refine ZB_y rfl (y_idx Try.underlying22 sz39 rfl rfl (S2.row 0 rfl) (Nt.mk (by omega) : Nt _ (pre.length + k)) (by omega)) rfl ?_
      refine ZB_c rfl (o_strowE S2 0 rfl rfl rfl (enf_one y) (enf_len y) sz39 (by omega) fun w3 S3 => ?_)
      refine ZA_oy rfl (y_idx Try.underlying22 sz39 rfl rfl (S3.row 0 rfl) (Nt.mk (by omega) : Nt _ (pre.length + X.length + mid.length + k)) (by omega)) rfl ?_
      refine ZA_o rfl (o_strowE S3 0 rfl rfl rfl (enf_one x) (enf_len x) sz39 (by omega) fun w4 S4 => ?_)
      refine ZA_nil ?_
      refine hK4 _ _ ?_
      refine T_region ?_
      refine L_y (y_move rfl) rfl ?_
      refine L_y (y_add rfl rfl (i64w (by omega))) rfl ?_
      refine L_y (y_assign rfl) rfl ?_
      refine L_nil ?_
      have S9 := S4.rowc 0 rfl (n' := (pre ++ (Y.take (k + 1) ++ X.drop (k + 1)) ++ mid ++ (X.take (k + 1) ++ Y.drop (k + 1)) ++ post).length) (xs' := (pre ++ (Y.take (k + 1) ++ X.drop (k + 1)) ++ mid ++ (X.take (k + 1) ++ Y.drop (k + 1)) ++ post).flatMap enf) (by rw [← hln]; simp; omega) (by rw [ens_set (by omega), ens_set (by rw [List.length_set]; omega), hset, sw_en hx hy])
      refine ⟨k + 1, by omega, ⟨by omega, S9⟩, ?_⟩
      exact (Sub.cons rfl (by first | rfl | exact congrArg (Value.int _) (by omega)) (Sub.cons rfl rfl (Sub.cons rfl rfl (Sub.cons rfl rfl (Sub.cons rfl rfl (Sub.nil _))))))
    ·
      have hkx : k = X.length := by omega
      subst hkx
      refine T_exit ?_
      first | refine end0 (fn := Try.f60) rfl ?_ | (simp only [thenQ, inB, if_true]; refine end0 (fn := Try.f60) rfl ?_)
      exact ⟨_, rfl, turn_en (S1.turned1 0 rfl) (by rw [← hln]; simp [hXY]) (by rw [List.take_of_length_le (by omega), List.drop_of_length_le (Nat.le_refl _), List.take_of_length_le (Nat.le_refl _), List.drop_of_length_le (by omega)]; simp)⟩
end Go.Proofs.Ytmgimcdkeelnpaa


/-
  rotate; insertion.
-/
namespace Go.Proofs.Ytmgimcdkeelnpaa
open Go.RowKit Zk Zx
set_option linter.unusedVariables false
set_option linter.unusedSimpArgs false

set_option maxRecDepth 100000 in
theorem rotat (A : Option Addr) (n c : Nat) (a m b : Int) (pre X Y post : List EV) (fv : Value) (w0 : World) (hw : (enR A c (pre ++ X ++ Y ++ post)).holds w0) (hn : n = (pre ++ X ++ Y ++ post).length) (ha : a = (pre.length : Int)) (hm : m = ((pre.length + X.length : Nat) : Int)) (hb : b = ((pre.length + X.length + Y.length : Nat) : Int)) (hX : 0 < X.length) (hY : 0 < Y.length) (hn5 : n ≤ 10000) :
    Calls Try.prog 52 #[.slice A n c, .int .i64 a, .int .i64 m, .int .i64 b, fv] w0 fun e w' => ∃ u, e = .returned u ∧ Turned w0 w' (enR A c (pre ++ X ++ Y ++ post)) (enR A c (pre ++ Y ++ X ++ post)) := by
  refine enter1 (env := [(0, .slice A n c), (1, .int .i64 a), (2, .int .i64 m), (3, .int .i64 b), (4, fv)]) [.slice A n c, .int .i64 a, .int .i64 m, .int .i64 b, fv] Try.func52 rfl Try.ntmps52 rfl rfl ?_
  have hn0 := hn; simp only [List.length_append] at hn; subst ha hm hb; have S0 := St.borrow1 (enR A c (pre ++ X ++ Y ++ post)) hw (enR_lt hw)
  refine T_seq fun K1 hK1 => ?_
  refine T_region ?_
  refine L_y (y_move rfl) rfl ?_
  refine L_y (y_move rfl) rfl ?_
  refine L_y (y_sub rfl rfl (i64w (by omega))) rfl ?_
  refine L_y (y_assign rfl) rfl ?_
  refine L_nil ?_
  refine hK1 _ _ ?_
  refine T_seq fun K2 hK2 => ?_
  refine T_region ?_
  refine L_y (y_move rfl) rfl ?_
  refine L_y (y_move rfl) rfl ?_
  refine L_y (y_sub rfl rfl (i64w (by omega))) rfl ?_
  refine L_y (y_assign rfl) rfl ?_
  refine L_nil ?_
  refine hK2 _ _ ?_
  refine T_seq fun K3 hK3 => ?_
  refine T_block ?_
  refine T_loop4 [(0, _), (2, _), (4, _)] (fun (P : List EV) (U : List EV) (V : List EV) (Q : List EV) => [(10, .int .i64 (U.length : Int)), (11, .int .i64 (V.length : Int))]) (fun (P : List EV) (U : List EV) (V : List EV) (Q : List EV) => U.length + V.length) (fun (P : List EV) (U : List EV) (V : List EV) (Q : List EV) (w : World) => (P.length + U.length = X.length ∧ V.length + Q.length = Y.length ∧ P ++ V ++ U ++ Q = Y ++ X ∧ 0 < U.length ∧ 0 < V.length) ∧ St w0 (enR A c (pre ++ X ++ Y ++ post)).dom [enR A c (pre ++ (P ++ U ++ V ++ Q) ++ post)] w) [] X Y [] (Sub.cons rfl (by first | rfl | exact congrArg (Value.int _) (by omega)) (Sub.cons rfl (by first | rfl | exact congrArg (Value.int _) (by omega)) (Sub.nil _))) (Sub.cons rfl rfl (Sub.cons rfl rfl (Sub.cons rfl rfl (Sub.nil _)))) ?_ ?_
  ·
    exact ⟨⟨by simp, by simp, by simp, by omega, by omega⟩, by simpa using S0⟩
  ·
    intro P U V Q w1 hrel
    obtain ⟨⟨h1, h2, h3, h4, h5⟩, S1⟩ := hrel
    refine T_seq fun K4 hK4 => ?_
    refine T_seq fun K5 hK5 => ?_
    refine T_region ?_
    refine L_y (y_move rfl) rfl ?_
    refine L_y (y_move rfl) rfl ?_
    refine L_y (y_neq rfl rfl) rfl ?_
    refine L_nil ?_
    refine hK5 _ _ ?_
    refine T_cond rfl (fun h20 => ?_) (fun h20 => ?_)
    ·
      refine T_skip ?_
      refine hK4 _ _ ?_
      refine T_block ?_
      refine T_seq fun K6 hK6 => ?_
      refine T_region ?_
      refine L_y (y_move rfl) rfl ?_
      refine L_y (y_move rfl) rfl ?_
      refine L_y (y_gtr rfl rfl) rfl ?_
      refine L_nil ?_
      refine hK6 _ _ ?_
      refine T_cond rfl (fun h23 => ?_) (fun h23 => ?_)
      ·
        obtain ⟨U1, U2, rfl, hU⟩ : ∃ U1 U2, U = U1 ++ U2 ∧ U1.length = V.length := ⟨U.take V.length, U.drop V.length, (List.take_append_drop _ _).symm, by rw [List.length_take]; omega⟩
        have hUl : (U1 ++ U2).length = U1.length + U2.length := List.length_append
        rw [show (pre ++ (P ++ (U1 ++ U2) ++ V ++ Q) ++ post) = (pre ++ P) ++ U1 ++ U2 ++ V ++ (Q ++ post) from by simp] at S1
        refine T_seq fun K7 hK7 => ?_
        refine T_region ?_
        refine L_y (y_move rfl) rfl ?_
        refine L_y (y_move rfl) rfl ?_
        refine L_y (y_move rfl) rfl ?_
        refine L_y (y_sub rfl rfl (i64w (by omega))) rfl ?_
        refine L_y (y_move rfl) rfl ?_
        refine L_y (y_move rfl) rfl ?_
        refine L_y (y_move rfl) rfl ?_
        refine L_o (o_call Try.func60 rfl rfl (swapr A n c _ _ _ (pre ++ P) U1 U2 V (Q ++ post) fv w1 (S1.get 0 rfl) (by omega) (by rw [hn0]; simp at *; omega) (by simp; omega) (by simp; omega) (by omega) hn5) rfl rfl ?_)
        rintro e2 w2 ⟨v2, rfl, T2⟩
        refine ⟨_, rfl, ?_⟩
        have S2 := S1.turn 0 rfl T2
        refine L_nil ?_
        refine hK7 _ _ ?_
        refine T_region ?_
        refine L_y (y_move rfl) rfl ?_
        refine L_y (y_move rfl) rfl ?_
        refine L_y (y_sub rfl rfl (i64w (by omega))) rfl ?_
        refine L_y (y_assign rfl) rfl ?_
        refine L_nil ?_
        refine ⟨P ++ V, U2, U1, Q, by omega, ⟨⟨by simp; omega, by omega, by rw [← h3]; simp, by omega, by omega⟩, by simpa using S2⟩, ?_⟩
        exact (Sub.cons rfl (congrArg (Value.int _) (by omega)) (Sub.cons rfl (congrArg (Value.int _) (by omega)) (Sub.cons rfl rfl (Sub.cons rfl rfl (Sub.cons rfl rfl (Sub.nil _))))))
      ·
        obtain ⟨V1, V2, rfl, hV⟩ : ∃ V1 V2, V = V1 ++ V2 ∧ V2.length = U.length := ⟨V.take (V.length - U.length), V.drop (V.length - U.length), (List.take_append_drop _ _).symm, by rw [List.length_drop]; omega⟩
        have hVl : (V1 ++ V2).length = V1.length + V2.length := List.length_append
        rw [show (pre ++ (P ++ U ++ (V1 ++ V2) ++ Q) ++ post) = (pre ++ P) ++ U ++ V1 ++ V2 ++ (Q ++ post) from by simp] at S1
        refine T_seq fun K8 hK8 => ?_
        refine T_region ?_
        refine L_y (y_move rfl) rfl ?_
        refine L_y (y_move rfl) rfl ?_
        refine L_y (y_move rfl) rfl ?_
        refine L_y (y_sub rfl rfl (i64w (by omega))) rfl ?_
        refine L_y (y_move rfl) rfl ?_
        refine L_y (y_move rfl) rfl ?_
        refine L_y (y_add rfl rfl (i64w (by omega))) rfl ?_
        refine L_y (y_move rfl) rfl ?_
        refine L_y (y_sub rfl rfl (i64w (by omega))) rfl ?_
        refine L_y (y_move rfl) rfl ?_
        refine L_y (y_move rfl) rfl ?_
        refine L_o (o_call Try.func60 rfl rfl (swapr A n c _ _ _ (pre ++ P) U V1 V2 (Q ++ post) fv w1 (S1.get 0 rfl) (by omega) (by rw [hn0]; simp at *; omega) (by simp; omega) (by simp; omega) (by omega) hn5) rfl rfl ?_)
        rintro e3 w3 ⟨v3, rfl, T3⟩
        refine ⟨_, rfl, ?_⟩
        have S3 := S1.turn 0 rfl T3
        refine L_nil ?_
        refine hK8 _ _ ?_
        refine T_region ?_
        refine L_y (y_move rfl) rfl ?_
        refine L_y (y_move rfl) rfl ?_
        refine L_y (y_sub rfl rfl (i64w (by omega))) rfl ?_
        refine L_y (y_assign rfl) rfl ?_
        refine L_nil ?_
        refine ⟨P, V2, V1, U ++ Q, by omega, ⟨⟨by omega, by simp; omega, by rw [← h3]; simp, by omega, by omega⟩, by simpa using S3⟩, ?_⟩
        exact (Sub.cons rfl (congrArg (Value.int _) (by omega)) (Sub.cons rfl (congrArg (Value.int _) (by omega)) (Sub.cons rfl rfl (Sub.cons rfl rfl (Sub.cons rfl rfl (Sub.nil _))))))
    ·
      have hUV : U.length = V.length := by omega
      rw [show (pre ++ (P ++ U ++ V ++ Q) ++ post) = (pre ++ P) ++ U ++ [] ++ V ++ (Q ++ post) from by simp] at S1
      refine T_exit ?_
      refine hK3 _ _ ?_
      refine T_region ?_
      refine L_y (y_move rfl) rfl ?_
      refine L_y (y_move rfl) rfl ?_
      refine L_y (y_move rfl) rfl ?_
      refine L_y (y_sub rfl rfl (i64w (by omega))) rfl ?_
      refine L_y (y_move rfl) rfl ?_
      refine L_y (y_move rfl) rfl ?_
      refine L_y (y_move rfl) rfl ?_
      refine L_o (o_call Try.func60 rfl rfl (swapr A n c _ _ _ (pre ++ P) U [] V (Q ++ post) fv w1 (S1.get 0 rfl) (by omega) (by rw [hn0]; simp at *; omega) (by simp; omega) (by simp; omega) (by omega) hn5) rfl rfl ?_)
      rintro e4 w4 ⟨v4, rfl, T4⟩
      refine ⟨_, rfl, ?_⟩
      have S4 := S1.turn 0 rfl T4
      refine L_nil ?_
      first | refine end0 (fn := Try.f52) rfl ?_ | (simp only [thenQ, inB, if_true]; refine end0 (fn := Try.f52) rfl ?_)
      exact ⟨_, rfl, by have h := S4.turned1 0 rfl; rw [show (pre ++ P) ++ V ++ [] ++ U ++ (Q ++ post) = pre ++ (P ++ V ++ U ++ Q) ++ post from by simp, h3, show pre ++ (Y ++ X) ++ post = pre ++ Y ++ X ++ post from by simp] at h; exact h⟩


theorem drop_hd2 {α : Type} {l : List α} {k : Nat} {x : α} (h : l[k]? = some x) : l.drop k = x :: l.drop (k + 1) := by
  obtain ⟨h1, h2⟩ := List.getElem?_eq_some_iff.1 h
  rw [← h2, List.getElem_cons_drop]
theorem take_sn2 {α : Type} {l : List α} {k : Nat} {x : α} (h : l[k]? = some x) : l.take (k + 1) = l.take k ++ [x] := by rw [List.take_add_one, h]; rfl


set_option maxRecDepth 100000 in
theorem insor (A : Option Addr) (n c : Nat) (a b : Int) (pre seg post : List EV) (F : Nat) (lt : EV → EV → Bool) (w0 : World) (hw : (enR A c (pre ++ seg ++ post)).holds w0) (hC : CMP F lt) (hn : n = (pre ++ seg ++ post).length) (ha : a = (pre.length : Int)) (hb : b = ((pre.length + seg.length : Nat) : Int)) (hn5 : n ≤ 10000) :
    Calls Try.prog 44 #[.slice A n c, .int .i64 a, .int .i64 b, .func (.func F) #[] #[]] w0 fun e w' => ∃ u, e = .returned u ∧ Turned w0 w' (enR A c (pre ++ seg ++ post)) (enR A c (pre ++ srt lt seg ++ post)) := by
  refine enter1 (env := [(0, .slice A n c), (1, .int .i64 a), (2, .int .i64 b), (3, .func (.func F) #[] #[])]) [.slice A n c, .int .i64 a, .int .i64 b, .func (.func F) #[] #[]] Try.func44 rfl Try.ntmps44 rfl rfl ?_
  have hn0 := hn; simp only [List.length_append] at hn; subst ha hb; obtain ⟨fx, hfn, hnm, hbd⟩ := hC.fn; have S0 := St.borrow1 (enR A c (pre ++ seg ++ post)) hw (enR_lt hw)
  refine T_seq fun K1 hK1 => ?_
  refine T_region ?_
  refine L_y (y_move rfl) rfl ?_
  refine L_y (y_add rfl rfl (i64w (by omega))) rfl ?_
  refine L_y (y_assign rfl) rfl ?_
  refine L_nil ?_
  refine hK1 _ _ ?_
  refine T_block ?_
  refine T_loop1 [(0, _), (1, _), (2, _), (3, _)] (fun (k : Nat) => [(8, .int .i64 ((pre.length + k : Nat) : Int))]) (fun (k : Nat) => seg.length - k) (fun (k : Nat) (w : World) => (1 ≤ k ∧ (k ≤ seg.length ∨ k = 1)) ∧ St w0 (enR A c (pre ++ seg ++ post)).dom [enR A c (pre ++ srt lt (seg.take k) ++ seg.drop k ++ post)] w) 1 (Sub.cons rfl (by first | rfl | exact congrArg (Value.int _) (by omega)) (Sub.nil _)) (Sub.cons rfl rfl (Sub.cons rfl rfl (Sub.cons rfl rfl (Sub.cons rfl rfl (Sub.nil _))))) ?_ ?_
  ·
    have e1 : srt lt (seg.take 1) ++ seg.drop 1 = seg := by cases seg with | nil => rfl | cons z t => rfl
    exact ⟨⟨Nat.le_refl _, .inr rfl⟩, by rw [show (pre ++ srt lt (seg.take 1) ++ seg.drop 1 ++ post) = pre ++ seg ++ post from by rw [List.append_assoc pre, e1]]; exact S0⟩
  ·
    intro k w1 hrel
    obtain ⟨⟨hk1, hk⟩, S1⟩ := hrel
    refine T_seq fun K2 hK2 => ?_
    refine T_seq fun K3 hK3 => ?_
    refine T_region ?_
    refine L_y (y_move rfl) rfl ?_
    refine L_y (y_move rfl) rfl ?_
    refine L_y (y_lss rfl rfl) rfl ?_
    refine L_nil ?_
    refine hK3 _ _ ?_
    refine T_cond rfl (fun h14 => ?_) (fun h14 => ?_)
    ·
      obtain ⟨x, hx⟩ : ∃ x, seg[k]? = some x := ⟨_, List.getElem?_eq_getElem (by omega)⟩
      have hsl : (srt lt (seg.take k)).length = k := by rw [srt_len, List.length_take]; omega
      refine T_skip ?_
      refine hK2 _ _ ?_
      refine T_seq fun K4 hK4 => ?_
      refine T_block ?_
      refine T_seq fun K5 hK5 => ?_
      refine T_region ?_
      refine L_y (y_move rfl) rfl ?_
      refine L_y (y_assign rfl) rfl ?_
      refine L_nil ?_
      refine hK5 _ _ ?_
      refine T_block ?_
      refine T_loop2 [(0, _), (1, _), (2, _), (3, _), (8, _)] (fun (p : List EV) (q : List EV) => [(9, .int .i64 ((pre.length + p.length : Nat) : Int))]) (fun (p : List EV) (q : List EV) => p.length) (fun (p : List EV) (q : List EV) (w : World) => (p ++ q = srt lt (seg.take k) ∧ (∀ y ∈ q, lt x y = true)) ∧ St w0 (enR A c (pre ++ seg ++ post)).dom [enR A c (pre ++ p ++ x :: (q ++ seg.drop (k + 1) ++ post))] w) (srt lt (seg.take k)) [] (Sub.cons rfl (by first | rfl | exact congrArg (Value.int _) (by omega)) (Sub.nil _)) (Sub.cons rfl rfl (Sub.cons rfl rfl (Sub.cons rfl rfl (Sub.cons rfl rfl (Sub.cons rfl rfl (Sub.nil _)))))) ?_ ?_
      ·
        exact ⟨⟨by simp, fun y hy => by cases hy⟩, by rw [drop_hd2 hx] at S1; simpa using S1⟩
      ·
        intro p q w2 hrel
        obtain ⟨⟨hpq, hq⟩, S2⟩ := hrel
        have hpl : p.length + q.length = k := by rw [← List.length_append, hpq, srt_len, List.length_take]; omega
        have hln2 : (pre ++ p ++ x :: (q ++ seg.drop (k + 1) ++ post)).length = n := by simp; omega
        rw [show enR A c (pre ++ p ++ x :: (q ++ seg.drop (k + 1) ++ post)) = Zx.row 39 34 A n c ((pre ++ p ++ x :: (q ++ seg.drop (k + 1) ++ post)).flatMap enf) from by rw [← hln2]; rfl] at S2
        refine T_seq fun K6 hK6 => ?_
        refine T_seq fun K7 hK7 => ?_
        refine T_tail 14 hmix (by kernel_rfl) fun w3 l3 K8 hK8 => ?_
        have S3 := S2.like l3
        refine HL_y (y_move rfl) rfl ?_
        refine HL_y (y_move rfl) rfl ?_
        refine HL_y (y_gtr rfl rfl) rfl ?_
        refine HL_y (y_move rfl) rfl ?_
        refine HL_split 21 rfl (fun h21 => ?_) (fun h21 => ?_)
        ·
          obtain ⟨p2, y, rfl⟩ : ∃ p2 y, p = p2 ++ [y] := by rcases List.eq_nil_or_concat p with rfl | ⟨p2, y, rfl⟩; (simp at h21); exact ⟨p2, y, by simp⟩
          have hpl2 : (p2 ++ [y]).length = p2.length + 1 := by simp
          obtain ⟨gy, gx, hset⟩ := exch2 (l := (pre ++ (p2 ++ [y]) ++ x :: (q ++ seg.drop (k + 1) ++ post))) (i := pre.length + p2.length) (j := pre.length + p2.length + 1) (p := pre ++ p2) (q := []) (r := q ++ seg.drop (k + 1) ++ post) (x := y) (y := x) (by simp) (by simp) (by simp)
          refine HL_gyes rfl rfl ?_
          refine HL_y (y_move rfl) rfl ?_
          refine HL_gyes rfl rfl ?_
          refine HL_y (y_move rfl) rfl ?_
          refine HL_gyes rfl rfl ?_
          refine HL_y (y_move rfl) rfl ?_
          refine HL_gyes rfl rfl ?_
          refine HL_y (y_idx Try.underlying22 sz39 rfl rfl (S3.row 0 rfl) (Nt.mk (by omega) : Nt _ (pre.length + p2.length + 1)) (by omega)) rfl ?_
          refine HL_gyes rfl rfl ?_
          refine HL_y (y_ldp (f := enf) enf_len Try.underlying39 rfl sz39 rfl (S3.row 0 rfl) (by omega) gx) rfl ?_
          refine HL_gyes rfl rfl ?_
          refine HL_y (y_move rfl) rfl ?_
          refine HL_gyes rfl rfl ?_
          refine HL_y (y_move rfl) rfl ?_
          refine HL_gyes rfl rfl ?_
          refine HL_y (y_sub rfl rfl (i64w (by omega))) rfl ?_
          refine HL_gyes rfl rfl ?_
          refine HL_y (y_idx Try.underlying22 sz39 rfl rfl (S3.row 0 rfl) (Nt.mk (by omega) : Nt _ (pre.length + p2.length)) (by omega)) rfl ?_
          refine HL_gyes rfl rfl ?_
          refine HL_y (y_ldp (f := enf) enf_len Try.underlying39 rfl sz39 rfl (S3.row 0 rfl) (by omega) gy) rfl ?_
          refine HL_nil ?_
          refine hK8 _ ?_
          refine L_gyes rfl rfl ?_
          refine L_o (o_callv (fs := []) (cs := []) rfl hfn hnm hbd (hC.call x y w3) rfl rfl (fun d' hd => by cases hd <;> rfl) ?_)
          rintro e5 w5 ⟨v5, rfl, l5, v32, rfl, hv32⟩
          refine ⟨_, rfl, ?_⟩
          have S5 := S3.like l5
          refine L_gyes rfl rfl ?_
          refine L_y (y_lss rfl rfl) rfl ?_
          refine L_y (y_pk rfl rfl) rfl ?_
          refine L_nil ?_
          refine hK7 _ _ ?_
          refine T_cond rfl (fun h34 => ?_) (fun h34 => ?_)
          ·
            have hyx : lt x y = true := hv32.1 (by omega)
            refine T_skip ?_
            refine hK6 _ _ ?_
            refine T_seq fun K9 hK9 => ?_
            refine T_block ?_
            refine T_zed [0, 1, 5, 6, 7, 8, 9, 10, 11, 12, 13, 14] 15 [(2, 0), (3, 0), (4, 0), (0, 1), (1, 1), (5, 1), (6, 1), (7, 1), (8, 1), (9, 1), (10, 1), (11, 1), (12, 1), (13, 1), (14, 1), (15, 3), (16, 3), (17, 3)] hmix (by kernel_rfl) fun w6 l6 => ?_
            have S6 := S5.like l6
            refine ZA_y rfl (y_move rfl) rfl ?_
            refine ZA_y rfl (y_move rfl) rfl ?_
            refine ZA_y rfl (y_sub rfl rfl (i64w (by omega))) rfl ?_
            refine ZA_B (Like w6) (Like.refl _) ?_
            refine ZB_y rfl (y_move rfl) rfl ?_
            refine ZB_y rfl (y_move rfl) rfl ?_
            refine ZB_y rfl (y_move rfl) rfl ?_
            refine ZB_y rfl (y_move rfl) rfl ?_
            refine ZB_y rfl (y_sub rfl rfl (i64w (by omega))) rfl ?_
            refine ZB_y rfl (y_idx Try.underlying22 sz39 rfl rfl (S6.row 0 rfl) (Nt.mk (by omega) : Nt _ (pre.length + p2.length)) (by omega)) rfl ?_
            refine ZB_y rfl (y_ldp (f := enf) enf_len Try.underlying39 rfl sz39 rfl (S6.row 0 rfl) (by omega) gy) rfl ?_
            refine ZB_y rfl (y_move rfl) rfl ?_
            refine ZB_y rfl (y_move rfl) rfl ?_
            refine ZB_y rfl (y_idx Try.underlying22 sz39 rfl rfl (S6.row 0 rfl) (Nt.mk (by omega) : Nt _ (pre.length + p2.length + 1)) (by omega)) rfl ?_
            refine ZB_y rfl (y_ldp (f := enf) enf_len Try.underlying39 rfl sz39 rfl (S6.row 0 rfl) (by omega) gx) rfl ?_
            refine ZB_y rfl (y_idx Try.underlying22 sz39 rfl rfl (S6.row 0 rfl) (Nt.mk (by omega) : Nt _ (pre.length + p2.length + 1)) (by omega)) rfl ?_
            refine ZB_c rfl (o_strowE S6 0 rfl rfl rfl (enf_one y) (enf_len y) sz39 (by omega) fun w7 S7 => ?_)
            refine ZA_oy rfl (y_idx Try.underlying22 sz39 rfl rfl (S7.row 0 rfl) (Nt.mk (by omega) : Nt _ (pre.length + p2.length)) (by omega)) rfl ?_
            refine ZA_o rfl (o_strowE S7 0 rfl rfl rfl (enf_one x) (enf_len x) sz39 (by omega) fun w8 S8 => ?_)
            refine ZA_nil ?_
            refine hK9 _ _ ?_
            refine T_region ?_
            refine L_y (y_move rfl) rfl ?_
            refine L_y (y_sub rfl rfl (i64w (by omega))) rfl ?_
            refine L_y (y_assign rfl) rfl ?_
            refine L_nil ?_
            have S9 := S8.rowc 0 rfl (n' := (pre ++ p2 ++ x :: (y :: q ++ seg.drop (k + 1) ++ post)).length) (xs' := (pre ++ p2 ++ x :: (y :: q ++ seg.drop (k + 1) ++ post)).flatMap enf) (by rw [← hln2]; simp) (by rw [ens_set (by omega), ens_set (by rw [List.length_set]; omega), hset]; simp)
            refine ⟨p2, y :: q, by simp, ⟨⟨by rw [← hpq]; simp, fun z hz => by rcases List.mem_cons.1 hz with rfl | hz; exact hyx; exact hq z hz⟩, S9⟩, ?_⟩
            exact (Sub.cons rfl (congrArg (Value.int _) (by simp; omega)) (Sub.cons rfl rfl (Sub.cons rfl rfl (Sub.cons rfl rfl (Sub.cons rfl rfl (Sub.cons rfl rfl (Sub.nil _)))))))
          ·
            have hyx : lt x y = false := by cases h9 : lt x y with | false => rfl | true => exact absurd (hv32.2 h9) (by omega)
            have hres : insS lt (srt lt (seg.take k)) x = (p2 ++ [y]) ++ x :: q := by rw [← hpq]; exact ins_at (p2 ++ [y]) q (srt_last hC.ord (by have h8 := srt_sorted hC.ord (seg.take k); rw [← hpq] at h8; exact (List.pairwise_append.1 h8).1) hyx) (fun z hz => hq z (List.mem_of_getElem? hz))
            refine T_exit ?_
            refine hK4 _ _ ?_
            refine T_region ?_
            refine L_y (y_move rfl) rfl ?_
            refine L_y (y_add rfl rfl (i64w (by omega))) rfl ?_
            refine L_y (y_assign rfl) rfl ?_
            refine L_nil ?_
            have e9 : (pre ++ (p2 ++ [y]) ++ x :: (q ++ seg.drop (k + 1) ++ post)) = pre ++ srt lt (seg.take (k + 1)) ++ seg.drop (k + 1) ++ post := by rw [take_sn2 hx, srt_snoc, hres]; simp
            have S9 := S5.rowc 0 rfl (n' := (pre ++ srt lt (seg.take (k + 1)) ++ seg.drop (k + 1) ++ post).length) (xs' := (pre ++ srt lt (seg.take (k + 1)) ++ seg.drop (k + 1) ++ post).flatMap enf) (by rw [← hln2, e9]) (by rw [e9])
            refine ⟨k + 1, by omega, ⟨⟨by omega, by omega⟩, S9⟩, ?_⟩
            exact (Sub.cons rfl (congrArg (Value.int _) (by omega)) (Sub.cons rfl rfl (Sub.cons rfl rfl (Sub.cons rfl rfl (Sub.cons rfl rfl (Sub.nil _))))))
        ·
          have hp0 : p = [] := List.eq_nil_of_length_eq_zero (by omega)
          have hres : insS lt (srt lt (seg.take k)) x = p ++ x :: q := by rw [← hpq]; exact ins_at p q (fun z hz => by rw [hp0] at hz; cases hz) (fun z hz => hq z (List.mem_of_getElem? hz))
          refine HL_gno rfl rfl rfl ?_
          refine HL_gno rfl rfl rfl ?_
          refine HL_gno rfl rfl rfl ?_
          refine HL_gno rfl rfl rfl ?_
          refine HL_gno rfl rfl rfl ?_
          refine HL_gno rfl rfl rfl ?_
          refine HL_gno rfl rfl rfl ?_
          refine HL_gno rfl rfl rfl ?_
          refine HL_gno rfl rfl rfl ?_
          refine HL_gno rfl rfl rfl ?_
          refine HL_nil ?_
          refine hK8 _ ?_
          refine L_gno rfl rfl rfl ?_
          refine L_gno rfl rfl rfl ?_
          refine L_y (y_pk rfl rfl) rfl ?_
          refine L_nil ?_
          refine hK7 _ _ ?_
          refine T_false rfl ?_
          refine T_exit ?_
          refine hK4 _ _ ?_
          refine T_region ?_
          refine L_y (y_move rfl) rfl ?_
          refine L_y (y_add rfl rfl (i64w (by omega))) rfl ?_
          refine L_y (y_assign rfl) rfl ?_
          refine L_nil ?_
          have e9 : (pre ++ p ++ x :: (q ++ seg.drop (k + 1) ++ post)) = pre ++ srt lt (seg.take (k + 1)) ++ seg.drop (k + 1) ++ post := by rw [take_sn2 hx, srt_snoc, hres]; simp
          have S9 := S3.rowc 0 rfl (n' := (pre ++ srt lt (seg.take (k + 1)) ++ seg.drop (k + 1) ++ post).length) (xs' := (pre ++ srt lt (seg.take (k + 1)) ++ seg.drop (k + 1) ++ post).flatMap enf) (by rw [← hln2, e9]) (by rw [e9])
          refine ⟨k + 1, by omega, ⟨⟨by omega, by omega⟩, S9⟩, ?_⟩
          exact (Sub.cons rfl (congrArg (Value.int _) (by omega)) (Sub.cons rfl rfl (Sub.cons rfl rfl (Sub.cons rfl rfl (Sub.cons rfl rfl (Sub.nil _))))))
    ·
      refine T_exit ?_
      first | refine end0 (fn := Try.f44) rfl ?_ | (simp only [thenQ, inB, if_true]; refine end0 (fn := Try.f44) rfl ?_)
      have h := S1.turned1 0 rfl
      rw [List.take_of_length_le (by omega), List.drop_of_length_le (by omega), List.append_nil] at h
      exact ⟨_, rfl, h⟩
end Go.Proofs.Ytmgimcdkeelnpaa


/-
  symMerge.
-/
namespace Go.Proofs.Ytmgimcdkeelnpaa
open Go.RowKit Zk Zx
set_option linter.unusedVariables false
set_option linter.unusedSimpArgs false

theorem shr1 (x : Nat) : Int.fdiv (x : Int) (2 ^ (min (1 : Int).toNat IntKind.u64.bits)) = ((x / 2 : Nat) : Int) := by
  have e1 : min (1 : Int).toNat IntKind.u64.bits = 1 := by decide
  rw [e1, Int.fdiv_eq_ediv_of_nonneg _ (Int.pow_nonneg (by omega)), Int.natCast_ediv]
  rfl
theorem split_at {α : Type} (l : List α) (i : Nat) (h : i ≤ l.length) : ∃ u v, l = u ++ v ∧ u.length = i := ⟨l.take i, l.drop i, (List.take_append_drop _ _).symm, by rw [List.length_take]; omega⟩
/-- Where a merge is split: by what was found at the border alone. -/
theorem sym_split {lt : EV → EV → Bool} (O : Ord3 lt) {a1 b1 a2 b2 : List EV} (h1 : Srt lt (a1 ++ b1)) (h2 : Srt lt (a2 ++ b2))
    (hi : (a1 = [] ∨ b2 = []) ∨ ∃ x y, (a1 ++ b1)[a1.length - 1]? = some x ∧ (a2 ++ b2)[a2.length]? = some y ∧ lt y x = false ∧ 0 < a1.length)
    (hj : (b1 = [] ∨ a2 = []) ∨ ∃ x y, (a1 ++ b1)[a1.length]? = some x ∧ (a2 ++ b2)[a2.length - 1]? = some y ∧ lt y x = true ∧ 0 < a2.length) :
    mrg lt (a1 ++ b1) (a2 ++ b2) = mrg lt a1 a2 ++ mrg lt b1 b2 := by
  have p1 := List.pairwise_append.1 h1
  have p2 := List.pairwise_append.1 h2
  refine mrg_split a1 a2 b1 b2 (fun x hx y hy => ?_) (fun y hy x hx => ?_)
  · rcases hi with (h | h) | ⟨x0, y0, hx0, hy0, h0, hp⟩
    · rw [h] at hx; cases hx
    · rw [h] at hy; cases hy
    · obtain ⟨q, z, rfl⟩ : ∃ q z, a1 = q ++ [z] := by
        rcases List.eq_nil_or_concat a1 with rfl | ⟨q, z, rfl⟩
        · cases hx
        · exact ⟨q, z, by simp⟩
      have e1 : z = x0 := by simpa using hx0
      subst e1
      have h3 : lt y0 x = false := by
        rcases List.mem_append.1 hx with hx | hx
        · exact O.nt _ _ _ h0 ((List.pairwise_append.1 p1.1).2.2 x hx z (by simp))
        · rw [List.mem_singleton.1 hx]; exact h0
      cases b2 with
      | nil => cases hy
      | cons w b2 =>
        have e2 : w = y0 := by simpa using hy0
        subst e2
        exact srt_head O p2.2.1 h3 y hy
  · rcases hj with (h | h) | ⟨x0, y0, hx0, hy0, h0, hp⟩
    · rw [h] at hx; cases hx
    · rw [h] at hy; cases hy
    · obtain ⟨q, z, rfl⟩ : ∃ q z, a2 = q ++ [z] := by
        rcases List.eq_nil_or_concat a2 with rfl | ⟨q, z, rfl⟩
        · cases hy
        · exact ⟨q, z, by simp⟩
      have e1 : z = y0 := by simpa using hy0
      subst e1
      have h3 : lt y x0 = true := srt_last2 O p2.1 h0 y hy
      cases b1 with
      | nil => cases hx
      | cons w b1 =>
        have e2 : w = x0 := by simpa using hx0
        subst e2
        exact srt_head2 O p1.2.1 h3 x hx
/-- What symMerge does to two sorted parts. -/
def SMok (A : Option Addr) (n c F : Nat) (lt : EV → EV → Bool) (pre l1 l2 post : List EV) : Prop :=
  ∀ (a m b : Int) (w0 : World), (enR A c (pre ++ l1 ++ l2 ++ post)).holds w0 → n = (pre ++ l1 ++ l2 ++ post).length → a = (pre.length : Int) → m = ((pre.length + l1.length : Nat) : Int) → b = ((pre.length + l1.length + l2.length : Nat) : Int) →
    0 < l1.length → 0 < l2.length → Srt lt l1 → Srt lt l2 →
    Calls Try.prog 45 #[.slice A n c, .int .i64 a, .int .i64 m, .int .i64 b, .func (.func F) #[] #[]] w0 fun e w' => ∃ u, e = .returned u ∧ Turned w0 w' (enR A c (pre ++ l1 ++ l2 ++ post)) (enR A c (pre ++ mrg lt l1 l2 ++ post))


set_option maxRecDepth 100000 in
theorem symst (A : Option Addr) (n c N : Nat) (a m b : Int) (pre l1 l2 post : List EV) (F : Nat) (lt : EV → EV → Bool) (w0 : World) (hw : (enR A c (pre ++ l1 ++ l2 ++ post)).holds w0) (hC : CMP F lt) (hn : n = (pre ++ l1 ++ l2 ++ post).length) (ha : a = (pre.length : Int)) (hm : m = ((pre.length + l1.length : Nat) : Int)) (hb : b = ((pre.length + l1.length + l2.length : Nat) : Int)) (h1 : 0 < l1.length) (h2 : 0 < l2.length) (hs1 : Srt lt l1) (hs2 : Srt lt l2) (hN : l1.length + l2.length = N) (ih : ∀ pre l1 l2 post, l1.length + l2.length < N → SMok A n c F lt pre l1 l2 post) (hn5 : n ≤ 10000) :
    Calls Try.prog 45 #[.slice A n c, .int .i64 a, .int .i64 m, .int .i64 b, .func (.func F) #[] #[]] w0 fun e w' => ∃ u, e = .returned u ∧ Turned w0 w' (enR A c (pre ++ l1 ++ l2 ++ post)) (enR A c (pre ++ mrg lt l1 l2 ++ post)) := by
  refine enter1 (env := [(0, .slice A n c), (1, .int .i64 a), (2, .int .i64 m), (3, .int .i64 b), (4, .func (.func F) #[] #[])]) [.slice A n c, .int .i64 a, .int .i64 m, .int .i64 b, .func (.func F) #[] #[]] Try.func45 rfl Try.ntmps45 rfl rfl ?_
  have hn0 := hn; simp only [List.length_append] at hn; subst ha hm hb; obtain ⟨fx, hfn, hnm, hbd⟩ := hC.fn; have SS := St.borrow1 (enR A c (pre ++ l1 ++ l2 ++ post)) hw (enR_lt hw); have S0 := SS.rowc 0 rfl (n' := n) (xs' := (pre ++ l1 ++ l2 ++ post).flatMap enf) hn0.symm rfl
  refine T_seq fun K1 hK1 => ?_
  refine T_seq fun K2 hK2 => ?_
  refine T_region ?_
  refine L_y (y_move rfl) rfl ?_
  refine L_y (y_move rfl) rfl ?_
  refine L_y (y_sub rfl rfl (i64w (by omega))) rfl ?_
  refine L_y (y_eql rfl rfl) rfl ?_
  refine L_nil ?_
  refine hK2 _ _ ?_
  refine T_cond rfl (fun h28 => ?_) (fun h28 => ?_)
  ·
    obtain ⟨x, rfl⟩ : ∃ x, l1 = [x] := List.length_eq_one_iff.1 (by omega)
    have hx1 : [x].length = 1 := rfl
    have gx : (pre ++ [x] ++ l2 ++ post)[pre.length]? = some x := by simp
    refine T_seq fun K3 hK3 => ?_
    refine T_region ?_
    refine L_y (y_move rfl) rfl ?_
    refine L_y (y_assign rfl) rfl ?_
    refine L_nil ?_
    refine hK3 _ _ ?_
    refine T_seq fun K4 hK4 => ?_
    refine T_region ?_
    refine L_y (y_move rfl) rfl ?_
    refine L_y (y_assign rfl) rfl ?_
    refine L_nil ?_
    refine hK4 _ _ ?_
    refine T_seq fun K5 hK5 => ?_
    refine T_block ?_
    refine T_loop2 [(0, _), (1, _), (4, _)] (fun (i : Nat) (j : Nat) => [(10, .int .i64 ((pre.length + 1 + i : Nat) : Int)), (11, .int .i64 ((pre.length + 1 + j : Nat) : Int))]) (fun (i : Nat) (j : Nat) => j - i) (fun (i : Nat) (j : Nat) (w : World) => (i ≤ j ∧ j ≤ l2.length ∧ (∀ y, 0 < i → l2[i - 1]? = some y → lt y x = true) ∧ (∀ y, l2[j]? = some y → lt y x = false)) ∧ St w0 (enR A c (pre ++ [x] ++ l2 ++ post)).dom [Zx.row 39 34 A n c ((pre ++ [x] ++ l2 ++ post).flatMap enf)] w) 0 l2.length (Sub.cons rfl (by first | rfl | exact congrArg (Value.int _) (by omega)) (Sub.cons rfl (by first | rfl | exact congrArg (Value.int _) (by omega)) (Sub.nil _))) (Sub.cons rfl rfl (Sub.cons rfl rfl (Sub.cons rfl rfl (Sub.nil _)))) ?_ ?_
    ·
      exact ⟨⟨Nat.zero_le _, Nat.le_refl _, fun y h => absurd h (by omega), fun y h => by rw [List.getElem?_eq_none (Nat.le_refl _)] at h; cases h⟩, S0⟩
    ·
      intro i j w1 hrel
      obtain ⟨⟨hij, hjl, hlo, hhi⟩, S1⟩ := hrel
      refine T_seq fun K6 hK6 => ?_
      refine T_seq fun K7 hK7 => ?_
      refine T_region ?_
      refine L_y (y_move rfl) rfl ?_
      refine L_y (y_move rfl) rfl ?_
      refine L_y (y_lss rfl rfl) rfl ?_
      refine L_nil ?_
      refine hK7 _ _ ?_
      refine T_cond rfl (fun h33 => ?_) (fun h33 => ?_)
      ·
        obtain ⟨z, hz⟩ : ∃ z, l2[(i + j) / 2]? = some z := ⟨_, List.getElem?_eq_getElem (by omega)⟩
        have gz : (pre ++ [x] ++ l2 ++ post)[pre.length + 1 + (i + j) / 2]? = some z := by rw [List.append_assoc, List.getElem?_append_right (by simp), List.getElem?_append_left (by simp; omega)]; simpa [Nat.add_sub_cancel_left] using hz
        refine T_skip ?_
        refine hK6 _ _ ?_
        refine T_block ?_
        refine T_seq fun K8 hK8 => ?_
        refine T_region ?_
        refine L_y (y_move rfl) rfl ?_
        refine L_y (y_move rfl) rfl ?_
        refine L_y (y_add rfl rfl (i64w (by omega))) rfl ?_
        refine L_y (y_conv is3 Try.underlying81 rfl (show _ = ((pre.length + 1 + i + (pre.length + 1 + j) : Nat) : Int) by rw [IntKind.wrap_u64]; omega)) rfl ?_
        refine L_y (y_shr rfl rfl (by omega) (shr1 _)) rfl ?_
        refine L_y (y_conv is81 Try.underlying3 rfl (i64w (by omega))) rfl ?_
        refine L_y (y_assign rfl) rfl ?_
        refine L_nil ?_
        refine hK8 _ _ ?_
        refine T_seq fun K9 hK9 => ?_
        refine T_tail 9 hmix (by kernel_rfl) fun w2 l2 K10 hK10 => ?_
        have S2 := S1.like l2
        refine HL_y (y_move rfl) rfl ?_
        refine HL_y (y_move rfl) rfl ?_
        refine HL_y (y_move rfl) rfl ?_
        refine HL_y (y_idx Try.underlying22 sz39 rfl rfl (S2.row 0 rfl) (Nt.mk (by omega) : Nt _ (pre.length + 1 + (i + j) / 2)) (by omega)) rfl ?_
        refine HL_y (y_ldp (f := enf) enf_len Try.underlying39 rfl sz39 rfl (S2.row 0 rfl) (by omega) gz) rfl ?_
        refine HL_y (y_move rfl) rfl ?_
        refine HL_y (y_move rfl) rfl ?_
        refine HL_y (y_idx Try.underlying22 sz39 rfl rfl (S2.row 0 rfl) (Nt.mk (by omega) : Nt _ (pre.length)) (by omega)) rfl ?_
        refine HL_y (y_ldp (f := enf) enf_len Try.underlying39 rfl sz39 rfl (S2.row 0 rfl) (by omega) gx) rfl ?_
        refine HL_nil ?_
        refine hK10 _ ?_
        refine L_o (o_callv (fs := []) (cs := []) rfl hfn hnm hbd (hC.call z x w2) rfl rfl (fun d' hd => by cases hd <;> rfl) ?_)
        rintro e3 w3 ⟨v3, rfl, l3, vc, rfl, hvc⟩
        refine ⟨_, rfl, ?_⟩
        have S3 := S2.like l3
        refine L_y (y_lss rfl rfl) rfl ?_
        refine L_nil ?_
        refine hK9 _ _ ?_
        refine T_cond rfl (fun h50 => ?_) (fun h50 => ?_)
        ·
          refine T_region ?_
          refine L_y (y_move rfl) rfl ?_
          refine L_y (y_add rfl rfl (i64w (by omega))) rfl ?_
          refine L_y (y_assign rfl) rfl ?_
          refine L_nil ?_
          refine ⟨(i + j) / 2 + 1, j, by omega, ⟨⟨by omega, hjl, fun y _ h => by rw [Nat.add_sub_cancel, hz] at h; cases h; exact hvc.1 h50, hhi⟩, S3⟩, ?_⟩
          exact (Sub.cons rfl (congrArg (Value.int _) (by omega)) (Sub.cons rfl (congrArg (Value.int _) (by omega)) (Sub.cons rfl rfl (Sub.cons rfl rfl (Sub.cons rfl rfl (Sub.nil _))))))
        ·
          refine T_region ?_
          refine L_y (y_move rfl) rfl ?_
          refine L_y (y_assign rfl) rfl ?_
          refine L_nil ?_
          refine ⟨i, (i + j) / 2, by omega, ⟨⟨by omega, by omega, hlo, fun y h => by rw [hz] at h; cases h; cases h9 : lt z x with | false => rfl | true => exact absurd (hvc.2 h9) (by omega)⟩, S3⟩, ?_⟩
          exact (Sub.cons rfl (congrArg (Value.int _) (by omega)) (Sub.cons rfl (congrArg (Value.int _) (by omega)) (Sub.cons rfl rfl (Sub.cons rfl rfl (Sub.cons rfl rfl (Sub.nil _))))))
      ·
        have hije : i = j := by omega
        subst hije
        obtain ⟨u, v, rfl, hul⟩ := split_at l2 i hjl
        subst hul
        have hv0 : (u ++ v)[u.length]? = v[0]? := by rw [List.getElem?_append_right (Nat.le_refl _), Nat.sub_self]
        have hmr := mrg_one (x := x) hC.ord hs2 (fun y h hp => hlo y hp h) (fun y h => hhi y (by rw [hv0]; exact h))
        have huv : (u ++ v).length = u.length + v.length := List.length_append
        refine T_exit ?_
        refine hK5 _ _ ?_
        refine T_seq fun K11 hK11 => ?_
        refine T_seq fun K12 hK12 => ?_
        refine T_region ?_
        refine L_y (y_move rfl) rfl ?_
        refine L_y (y_assign rfl) rfl ?_
        refine L_nil ?_
        refine hK12 _ _ ?_
        refine T_block ?_
        refine T_loop1 [(0, _), (10, _)] (fun (t : Nat) => [(13, .int .i64 ((pre.length + t : Nat) : Int))]) (fun (t : Nat) => u.length - t) (fun (t : Nat) (w : World) => t ≤ u.length ∧ St w0 (enR A c (pre ++ [x] ++ (u ++ v) ++ post)).dom [enR A c (pre ++ u.take t ++ x :: (u.drop t ++ v ++ post))] w) 0 (Sub.cons rfl (by first | rfl | exact congrArg (Value.int _) (by omega)) (Sub.nil _)) (Sub.cons rfl rfl (Sub.cons rfl rfl (Sub.nil _))) ?_ ?_
        ·
          have e9 : (pre ++ [x] ++ (u ++ v) ++ post) = (pre ++ u.take 0 ++ x :: (u.drop 0 ++ v ++ post)) := by simp
          have S9 := S1.rowc 0 rfl (n' := (pre ++ u.take 0 ++ x :: (u.drop 0 ++ v ++ post)).length) (xs' := (pre ++ u.take 0 ++ x :: (u.drop 0 ++ v ++ post)).flatMap enf) (by rw [hn0, e9]) (by rw [e9])
          exact ⟨Nat.zero_le _, S9⟩
        ·
          intro t w4 hrel
          obtain ⟨ht, S4⟩ := hrel
          have hln : (pre ++ u.take t ++ x :: (u.drop t ++ v ++ post)).length = n := by simp at hn ⊢; omega
          rw [show enR A c (pre ++ u.take t ++ x :: (u.drop t ++ v ++ post)) = Zx.row 39 34 A n c ((pre ++ u.take t ++ x :: (u.drop t ++ v ++ post)).flatMap enf) from by rw [← hln]; rfl] at S4
          refine T_seq fun K13 hK13 => ?_
          refine T_seq fun K14 hK14 => ?_
          refine T_region ?_
          refine L_y (y_move rfl) rfl ?_
          refine L_y (y_move rfl) rfl ?_
          refine L_y (y_sub rfl rfl (i64w (by omega))) rfl ?_
          refine L_y (y_lss rfl rfl) rfl ?_
          refine L_nil ?_
          refine hK14 _ _ ?_
          refine T_cond rfl (fun h58 => ?_) (fun h58 => ?_)
          ·
            obtain ⟨y, hy⟩ : ∃ y, u[t]? = some y := ⟨_, List.getElem?_eq_getElem (by omega)⟩
            have htl : (u.take t).length = t := by rw [List.length_take]; omega
            obtain ⟨gx2, gy2, hset⟩ := exch (l := (pre ++ u.take t ++ x :: (u.drop t ++ v ++ post))) (i := pre.length + t) (j := pre.length + t + 1) (p := pre ++ u.take t) (q := []) (r := u.drop (t + 1) ++ v ++ post) (x := x) (y := y) (by rw [List.drop_eq_getElem_cons (show t < u.length by omega), show u[t]'(by omega) = y from Option.some.inj ((List.getElem?_eq_getElem _).symm.trans hy)]; rfl) (by simp; omega) (by simp; omega)
            refine T_skip ?_
            refine hK13 _ _ ?_
            refine T_seq fun K15 hK15 => ?_
            refine T_block ?_
            refine T_zed [0, 1, 5, 6, 7, 8, 9, 10, 11, 12, 13, 14] 15 [(2, 0), (3, 0), (4, 0), (0, 1), (1, 1), (5, 1), (6, 1), (7, 1), (8, 1), (9, 1), (10, 1), (11, 1), (12, 1), (13, 1), (14, 1), (15, 3), (16, 3), (17, 3)] hmix (by kernel_rfl) fun w5 l5 => ?_
            have S5 := S4.like l5
            refine ZA_y rfl (y_move rfl) rfl ?_
            refine ZA_y rfl (y_move rfl) rfl ?_
            refine ZA_y rfl (y_add rfl rfl (i64w (by omega))) rfl ?_
            refine ZA_B (Like w5) (Like.refl _) ?_
            refine ZB_y rfl (y_move rfl) rfl ?_
            refine ZB_y rfl (y_move rfl) rfl ?_
            refine ZB_y rfl (y_move rfl) rfl ?_
            refine ZB_y rfl (y_move rfl) rfl ?_
            refine ZB_y rfl (y_add rfl rfl (i64w (by omega))) rfl ?_
            refine ZB_y rfl (y_idx Try.underlying22 sz39 rfl rfl (S5.row 0 rfl) (Nt.mk (by omega) : Nt _ (pre.length + t + 1)) (by omega)) rfl ?_
            refine ZB_y rfl (y_ldp (f := enf) enf_len Try.underlying39 rfl sz39 rfl (S5.row 0 rfl) (by omega) gy2) rfl ?_
            refine ZB_y rfl (y_move rfl) rfl ?_
            refine ZB_y rfl (y_move rfl) rfl ?_
            refine ZB_y rfl (y_idx Try.underlying22 sz39 rfl rfl (S5.row 0 rfl) (Nt.mk (by omega) : Nt _ (pre.length + t)) (by omega)) rfl ?_
            refine ZB_y rfl (y_ldp (f := enf) enf_len Try.underlying39 rfl sz39 rfl (S5.row 0 rfl) (by omega) gx2) rfl ?_
            refine ZB_y rfl (y_idx Try.underlying22 sz39 rfl rfl (S5.row 0 rfl) (Nt.mk (by omega) : Nt _ (pre.length + t)) (by omega)) rfl ?_
            refine ZB_c rfl (o_strowE S5 0 rfl rfl rfl (enf_one y) (enf_len y) sz39 (by omega) fun w6 S6 => ?_)
            refine ZA_oy rfl (y_idx Try.underlying22 sz39 rfl rfl (S6.row 0 rfl) (Nt.mk (by omega) : Nt _ (pre.length + t + 1)) (by omega)) rfl ?_
            refine ZA_o rfl (o_strowE S6 0 rfl rfl rfl (enf_one x) (enf_len x) sz39 (by omega) fun w7 S7 => ?_)
            refine ZA_nil ?_
            refine hK15 _ _ ?_
            refine T_region ?_
            refine L_y (y_move rfl) rfl ?_
            refine L_y (y_add rfl rfl (i64w (by omega))) rfl ?_
            refine L_y (y_assign rfl) rfl ?_
            refine L_nil ?_
            have e9 : pre ++ u.take t ++ y :: ([] ++ x :: (u.drop (t + 1) ++ v ++ post)) = (pre ++ u.take (t + 1) ++ x :: (u.drop (t + 1) ++ v ++ post)) := by rw [List.take_add_one, hy]; simp
            have S9 := S7.rowc 0 rfl (n' := (pre ++ u.take (t + 1) ++ x :: (u.drop (t + 1) ++ v ++ post)).length) (xs' := (pre ++ u.take (t + 1) ++ x :: (u.drop (t + 1) ++ v ++ post)).flatMap enf) (by rw [← hln]; simp; omega) (by rw [ens_set (by omega), ens_set (by rw [List.length_set]; omega), hset, e9])
            refine ⟨t + 1, by omega, ⟨by omega, S9⟩, ?_⟩
            exact (Sub.cons rfl (congrArg (Value.int _) (by omega)) (Sub.cons rfl rfl (Sub.cons rfl rfl (Sub.nil _))))
          ·
            refine T_exit ?_
            refine hK11 _ _ ?_
            refine T_ret ?_
            refine ur ?_
            refine ret0 rfl ?_
            have ht9 : t = u.length := by omega
            subst ht9
            exact ⟨_, rfl, turn_en (S4.turned1 0 rfl) (by rw [hmr, ← hln]; simp) (by rw [hmr]; simp)⟩
  ·
    refine T_skip ?_
    refine hK1 _ _ ?_
    refine T_seq fun K16 hK16 => ?_
    refine T_seq fun K17 hK17 => ?_
    refine T_region ?_
    refine L_y (y_move rfl) rfl ?_
    refine L_y (y_move rfl) rfl ?_
    refine L_y (y_sub rfl rfl (i64w (by omega))) rfl ?_
    refine L_y (y_eql rfl rfl) rfl ?_
    refine L_nil ?_
    refine hK17 _ _ ?_
    refine T_cond rfl (fun h80 => ?_) (fun h80 => ?_)
    ·
      obtain ⟨y, rfl⟩ : ∃ y, l2 = [y] := List.length_eq_one_iff.1 (by omega)
      have hy1 : [y].length = 1 := rfl
      have gy : (pre ++ l1 ++ [y] ++ post)[pre.length + l1.length]? = some y := by rw [← List.length_append]; simp
      refine T_seq fun K18 hK18 => ?_
      refine T_region ?_
      refine L_y (y_move rfl) rfl ?_
      refine L_y (y_assign rfl) rfl ?_
      refine L_nil ?_
      refine hK18 _ _ ?_
      refine T_seq fun K19 hK19 => ?_
      refine T_region ?_
      refine L_y (y_move rfl) rfl ?_
      refine L_y (y_assign rfl) rfl ?_
      refine L_nil ?_
      refine hK19 _ _ ?_
      refine T_seq fun K20 hK20 => ?_
      refine T_block ?_
      refine T_loop2 [(0, _), (2, _), (4, _)] (fun (i : Nat) (j : Nat) => [(14, .int .i64 ((pre.length + i : Nat) : Int)), (15, .int .i64 ((pre.length + j : Nat) : Int))]) (fun (i : Nat) (j : Nat) => j - i) (fun (i : Nat) (j : Nat) (w : World) => (i ≤ j ∧ j ≤ l1.length ∧ (∀ x, 0 < i → l1[i - 1]? = some x → lt y x = false) ∧ (∀ x, l1[j]? = some x → lt y x = true)) ∧ St w0 (enR A c (pre ++ l1 ++ [y] ++ post)).dom [Zx.row 39 34 A n c ((pre ++ l1 ++ [y] ++ post).flatMap enf)] w) 0 l1.length (Sub.cons rfl (by first | rfl | exact congrArg (Value.int _) (by omega)) (Sub.cons rfl (by first | rfl | exact congrArg (Value.int _) (by omega)) (Sub.nil _))) (Sub.cons rfl rfl (Sub.cons rfl rfl (Sub.cons rfl rfl (Sub.nil _)))) ?_ ?_
      ·
        exact ⟨⟨Nat.zero_le _, Nat.le_refl _, fun y h => absurd h (by omega), fun y h => by rw [List.getElem?_eq_none (Nat.le_refl _)] at h; cases h⟩, S0⟩
      ·
        intro i j w8 hrel
        obtain ⟨⟨hij, hjl, hlo, hhi⟩, S8⟩ := hrel
        refine T_seq fun K21 hK21 => ?_
        refine T_seq fun K22 hK22 => ?_
        refine T_region ?_
        refine L_y (y_move rfl) rfl ?_
        refine L_y (y_move rfl) rfl ?_
        refine L_y (y_lss rfl rfl) rfl ?_
        refine L_nil ?_
        refine hK22 _ _ ?_
        refine T_cond rfl (fun h85 => ?_) (fun h85 => ?_)
        ·
          obtain ⟨z, hz⟩ : ∃ z, l1[(i + j) / 2]? = some z := ⟨_, List.getElem?_eq_getElem (by omega)⟩
          have gz : (pre ++ l1 ++ [y] ++ post)[pre.length + (i + j) / 2]? = some z := by rw [List.append_assoc, List.append_assoc, List.getElem?_append_right (by omega), List.getElem?_append_left (by omega)]; simpa [Nat.add_sub_cancel_left] using hz
          refine T_skip ?_
          refine hK21 _ _ ?_
          refine T_block ?_
          refine T_seq fun K23 hK23 => ?_
          refine T_region ?_
          refine L_y (y_move rfl) rfl ?_
          refine L_y (y_move rfl) rfl ?_
          refine L_y (y_add rfl rfl (i64w (by omega))) rfl ?_
          refine L_y (y_conv is3 Try.underlying81 rfl (show _ = ((pre.length + i + (pre.length + j) : Nat) : Int) by rw [IntKind.wrap_u64]; omega)) rfl ?_
          refine L_y (y_shr rfl rfl (by omega) (shr1 _)) rfl ?_
          refine L_y (y_conv is81 Try.underlying3 rfl (i64w (by omega))) rfl ?_
          refine L_y (y_assign rfl) rfl ?_
          refine L_nil ?_
          refine hK23 _ _ ?_
          refine T_seq fun K24 hK24 => ?_
          refine T_tail 9 hmix (by kernel_rfl) fun w9 l9 K25 hK25 => ?_
          have S9 := S8.like l9
          refine HL_y (y_move rfl) rfl ?_
          refine HL_y (y_move rfl) rfl ?_
          refine HL_y (y_move rfl) rfl ?_
          refine HL_y (y_idx Try.underlying22 sz39 rfl rfl (S9.row 0 rfl) (Nt.mk (by omega) : Nt _ (pre.length + l1.length)) (by omega)) rfl ?_
          refine HL_y (y_ldp (f := enf) enf_len Try.underlying39 rfl sz39 rfl (S9.row 0 rfl) (by omega) gy) rfl ?_
          refine HL_y (y_move rfl) rfl ?_
          refine HL_y (y_move rfl) rfl ?_
          refine HL_y (y_idx Try.underlying22 sz39 rfl rfl (S9.row 0 rfl) (Nt.mk (by omega) : Nt _ (pre.length + (i + j) / 2)) (by omega)) rfl ?_
          refine HL_y (y_ldp (f := enf) enf_len Try.underlying39 rfl sz39 rfl (S9.row 0 rfl) (by omega) gz) rfl ?_
          refine HL_nil ?_
          refine hK25 _ ?_
          refine L_o (o_callv (fs := []) (cs := []) rfl hfn hnm hbd (hC.call y z w9) rfl rfl (fun d' hd => by cases hd <;> rfl) ?_)
          rintro e10 w10 ⟨v10, rfl, l10, vc, rfl, hvc⟩
          refine ⟨_, rfl, ?_⟩
          have S10 := S9.like l10
          refine L_y (y_lss rfl rfl) rfl ?_
          refine L_y ((by first | exact y_notD rfl | exact y_not rfl)) rfl ?_
          refine L_nil ?_
          refine hK24 _ _ ?_
          refine T_cond rfl (fun h103 => ?_) (fun h103 => ?_)
          ·
            refine T_region ?_
            refine L_y (y_move rfl) rfl ?_
            refine L_y (y_add rfl rfl (i64w (by omega))) rfl ?_
            refine L_y (y_assign rfl) rfl ?_
            refine L_nil ?_
            refine ⟨(i + j) / 2 + 1, j, by omega, ⟨⟨by omega, hjl, fun x _ h => by rw [Nat.add_sub_cancel, hz] at h; cases h; cases h9 : lt y z with | false => rfl | true => exact absurd (hvc.2 h9) (by omega), hhi⟩, S10⟩, ?_⟩
            exact (Sub.cons rfl (congrArg (Value.int _) (by omega)) (Sub.cons rfl (congrArg (Value.int _) (by omega)) (Sub.cons rfl rfl (Sub.cons rfl rfl (Sub.cons rfl rfl (Sub.nil _))))))
          ·
            refine T_region ?_
            refine L_y (y_move rfl) rfl ?_
            refine L_y (y_assign rfl) rfl ?_
            refine L_nil ?_
            refine ⟨i, (i + j) / 2, by omega, ⟨⟨by omega, by omega, hlo, fun x h => by rw [hz] at h; cases h; exact hvc.1 (by omega)⟩, S10⟩, ?_⟩
            exact (Sub.cons rfl (congrArg (Value.int _) (by omega)) (Sub.cons rfl (congrArg (Value.int _) (by omega)) (Sub.cons rfl rfl (Sub.cons rfl rfl (Sub.cons rfl rfl (Sub.nil _))))))
        ·
          have hije : i = j := by omega
          subst hije
          obtain ⟨u, v, rfl, hul⟩ := split_at l1 i hjl
          subst hul
          have hv0 : (u ++ v)[u.length]? = v[0]? := by rw [List.getElem?_append_right (Nat.le_refl _), Nat.sub_self]
          have hmr := mrg_lst (y := y) hC.ord hs1 (fun x h hp => hlo x hp h) (fun x h => hhi x (by rw [hv0]; exact h))
          have huv : (u ++ v).length = u.length + v.length := List.length_append
          refine T_exit ?_
          refine hK20 _ _ ?_
          refine T_seq fun K26 hK26 => ?_
          refine T_seq fun K27 hK27 => ?_
          refine T_region ?_
          refine L_y (y_move rfl) rfl ?_
          refine L_y (y_assign rfl) rfl ?_
          refine L_nil ?_
          refine hK27 _ _ ?_
          refine T_block ?_
          refine T_loop1 [(0, _), (14, _)] (fun (t : Nat) => [(17, .int .i64 ((pre.length + u.length + t : Nat) : Int))]) (fun (t : Nat) => t) (fun (t : Nat) (w : World) => t ≤ v.length ∧ St w0 (enR A c (pre ++ (u ++ v) ++ [y] ++ post)).dom [enR A c (pre ++ u ++ v.take t ++ y :: (v.drop t ++ post))] w) v.length (Sub.cons rfl (by first | rfl | exact congrArg (Value.int _) (by omega)) (Sub.nil _)) (Sub.cons rfl rfl (Sub.cons rfl rfl (Sub.nil _))) ?_ ?_
          ·
            have e9 : (pre ++ (u ++ v) ++ [y] ++ post) = (pre ++ u ++ v.take v.length ++ y :: (v.drop v.length ++ post)) := by simp
            have S9 := S8.rowc 0 rfl (n' := (pre ++ u ++ v.take v.length ++ y :: (v.drop v.length ++ post)).length) (xs' := (pre ++ u ++ v.take v.length ++ y :: (v.drop v.length ++ post)).flatMap enf) (by rw [hn0, e9]) (by rw [e9])
            exact ⟨Nat.le_refl _, S9⟩
          ·
            intro t w11 hrel
            obtain ⟨ht, S11⟩ := hrel
            have hln : (pre ++ u ++ v.take t ++ y :: (v.drop t ++ post)).length = n := by simp at hn ⊢; omega
            rw [show enR A c (pre ++ u ++ v.take t ++ y :: (v.drop t ++ post)) = Zx.row 39 34 A n c ((pre ++ u ++ v.take t ++ y :: (v.drop t ++ post)).flatMap enf) from by rw [← hln]; rfl] at S11
            refine T_seq fun K28 hK28 => ?_
            refine T_seq fun K29 hK29 => ?_
            refine T_region ?_
            refine L_y (y_move rfl) rfl ?_
            refine L_y (y_move rfl) rfl ?_
            refine L_y (y_gtr rfl rfl) rfl ?_
            refine L_nil ?_
            refine hK29 _ _ ?_
            refine T_cond rfl (fun h110 => ?_) (fun h110 => ?_)
            ·
              obtain ⟨t, rfl⟩ : ∃ t9, t = t9 + 1 := ⟨t - 1, by omega⟩
              obtain ⟨z, hz⟩ : ∃ z, v[t]? = some z := ⟨_, List.getElem?_eq_getElem (by omega)⟩
              obtain ⟨gz2, gy2, hset⟩ := exch2 (l := (pre ++ u ++ v.take (t + 1) ++ y :: (v.drop (t + 1) ++ post))) (i := pre.length + u.length + t) (j := pre.length + u.length + t + 1) (p := pre ++ u ++ v.take t) (q := []) (r := v.drop (t + 1) ++ post) (x := z) (y := y) (by rw [take_sn2 hz]; simp) (by simp; omega) (by simp; omega)
              refine T_skip ?_
              refine hK28 _ _ ?_
              refine T_seq fun K30 hK30 => ?_
              refine T_block ?_
              refine T_zed [0, 1, 5, 6, 7, 8, 9, 10, 11, 12, 13, 14] 15 [(2, 0), (3, 0), (4, 0), (0, 1), (1, 1), (5, 1), (6, 1), (7, 1), (8, 1), (9, 1), (10, 1), (11, 1), (12, 1), (13, 1), (14, 1), (15, 3), (16, 3), (17, 3)] hmix (by kernel_rfl) fun w12 l12 => ?_
              have S12 := S11.like l12
              refine ZA_y rfl (y_move rfl) rfl ?_
              refine ZA_y rfl (y_move rfl) rfl ?_
              refine ZA_y rfl (y_sub rfl rfl (i64w (by omega))) rfl ?_
              refine ZA_B (Like w12) (Like.refl _) ?_
              refine ZB_y rfl (y_move rfl) rfl ?_
              refine ZB_y rfl (y_move rfl) rfl ?_
              refine ZB_y rfl (y_move rfl) rfl ?_
              refine ZB_y rfl (y_move rfl) rfl ?_
              refine ZB_y rfl (y_sub rfl rfl (i64w (by omega))) rfl ?_
              refine ZB_y rfl (y_idx Try.underlying22 sz39 rfl rfl (S12.row 0 rfl) (Nt.mk (by omega) : Nt _ (pre.length + u.length + t)) (by omega)) rfl ?_
              refine ZB_y rfl (y_ldp (f := enf) enf_len Try.underlying39 rfl sz39 rfl (S12.row 0 rfl) (by omega) gz2) rfl ?_
              refine ZB_y rfl (y_move rfl) rfl ?_
              refine ZB_y rfl (y_move rfl) rfl ?_
              refine ZB_y rfl (y_idx Try.underlying22 sz39 rfl rfl (S12.row 0 rfl) (Nt.mk (by omega) : Nt _ (pre.length + u.length + t + 1)) (by omega)) rfl ?_
              refine ZB_y rfl (y_ldp (f := enf) enf_len Try.underlying39 rfl sz39 rfl (S12.row 0 rfl) (by omega) gy2) rfl ?_
              refine ZB_y rfl (y_idx Try.underlying22 sz39 rfl rfl (S12.row 0 rfl) (Nt.mk (by omega) : Nt _ (pre.length + u.length + t + 1)) (by omega)) rfl ?_
              refine ZB_c rfl (o_strowE S12 0 rfl rfl rfl (enf_one z) (enf_len z) sz39 (by omega) fun w13 S13 => ?_)
              refine ZA_oy rfl (y_idx Try.underlying22 sz39 rfl rfl (S13.row 0 rfl) (Nt.mk (by omega) : Nt _ (pre.length + u.length + t)) (by omega)) rfl ?_
              refine ZA_o rfl (o_strowE S13 0 rfl rfl rfl (enf_one y) (enf_len y) sz39 (by omega) fun w14 S14 => ?_)
              refine ZA_nil ?_
              refine hK30 _ _ ?_
              refine T_region ?_
              refine L_y (y_move rfl) rfl ?_
              refine L_y (y_sub rfl rfl (i64w (by omega))) rfl ?_
              refine L_y (y_assign rfl) rfl ?_
              refine L_nil ?_
              have e9 : pre ++ u ++ v.take t ++ y :: ([] ++ z :: (v.drop (t + 1) ++ post)) = (pre ++ u ++ v.take t ++ y :: (v.drop t ++ post)) := by rw [drop_hd2 hz]; simp
              have S9 := S14.rowc 0 rfl (n' := (pre ++ u ++ v.take t ++ y :: (v.drop t ++ post)).length) (xs' := (pre ++ u ++ v.take t ++ y :: (v.drop t ++ post)).flatMap enf) (by rw [← hln]; simp; omega) (by rw [ens_set (by omega), ens_set (by rw [List.length_set]; omega), hset, e9])
              refine ⟨t, by omega, ⟨by omega, S9⟩, ?_⟩
              exact (Sub.cons rfl (congrArg (Value.int _) (by omega)) (Sub.cons rfl rfl (Sub.cons rfl rfl (Sub.nil _))))
            ·
              refine T_exit ?_
              refine hK26 _ _ ?_
              refine T_ret ?_
              refine ur ?_
              refine ret0 rfl ?_
              have ht9 : t = 0 := by omega
              subst ht9
              exact ⟨_, rfl, turn_en (S11.turned1 0 rfl) (by rw [hmr, ← hln]; simp) (by rw [hmr]; simp)⟩
    ·
      refine T_skip ?_
      refine hK16 _ _ ?_
      refine T_seq fun K31 hK31 => ?_
      refine T_region ?_
      refine L_y (y_move rfl) rfl ?_
      refine L_y (y_move rfl) rfl ?_
      refine L_y (y_add rfl rfl (i64w (by omega))) rfl ?_
      refine L_y (y_conv is3 Try.underlying81 rfl (show _ = ((pre.length + (pre.length + l1.length + l2.length) : Nat) : Int) by rw [IntKind.wrap_u64]; omega)) rfl ?_
      refine L_y (y_shr rfl rfl (by omega) (shr1 _)) rfl ?_
      refine L_y (y_conv is81 Try.underlying3 rfl (i64w (by omega))) rfl ?_
      refine L_y (y_assign rfl) rfl ?_
      refine L_nil ?_
      refine hK31 _ _ ?_
      refine T_seq fun K32 hK32 => ?_
      refine T_region ?_
      refine L_y (y_move rfl) rfl ?_
      refine L_y (y_move rfl) rfl ?_
      refine L_y (y_add rfl rfl (i64w (by omega))) rfl ?_
      refine L_y (y_assign rfl) rfl ?_
      refine L_nil ?_
      refine hK32 _ _ ?_
      refine T_seq fun K33 hK33 => ?_
      refine T_region ?_
      refine L_y (y_assign rfl) rfl ?_
      refine L_y (y_assign rfl) rfl ?_
      refine L_nil ?_
      refine hK33 _ _ ?_
      refine T_seqR (fun (e : Env) (w : World) => ∃ (s0 : Nat) (r0 : Nat), Sub [(0, .slice A n c), (1, .int .i64 (pre.length : Int)), (2, .int .i64 ((pre.length + l1.length : Nat) : Int)), (3, .int .i64 ((pre.length + l1.length + l2.length : Nat) : Int)), (4, .func (.func F) #[] #[]), (18, .int .i64 ((pre.length + ((l1.length + l2.length) / 2) : Nat) : Int)), (19, .int .i64 ((pre.length + ((l1.length + l2.length) / 2) + (pre.length + l1.length) : Nat) : Int)), (20, .int .i64 ((pre.length + s0 : Nat) : Int)), (21, .int .i64 ((pre.length + r0 : Nat) : Int))] e ∧ (s0 ≤ r0 ∧ r0 ≤ l1.length ∧ r0 ≤ ((l1.length + l2.length) / 2) ∧ ((l1.length + l2.length) / 2) ≤ s0 + l2.length ∧ (s0 = 0 ∨ s0 + l2.length = ((l1.length + l2.length) / 2)) ∧ (r0 = l1.length ∨ r0 = ((l1.length + l2.length) / 2))) ∧ St w0 (enR A c (pre ++ l1 ++ l2 ++ post)).dom [Zx.row 39 34 A n c ((pre ++ l1 ++ l2 ++ post).flatMap enf)] w) ?_ ?_
      ·
        refine T_seq fun K35 hK35 => ?_
        refine T_region ?_
        refine L_y (y_move rfl) rfl ?_
        refine L_y (y_move rfl) rfl ?_
        refine L_y (y_gtr rfl rfl) rfl ?_
        refine L_nil ?_
        refine hK35 _ _ ?_
        refine T_cond rfl (fun h140 => ?_) (fun h140 => ?_)
        ·
          refine T_seq fun K36 hK36 => ?_
          refine T_region ?_
          refine L_y (y_move rfl) rfl ?_
          refine L_y (y_move rfl) rfl ?_
          refine L_y (y_sub rfl rfl (i64w (by omega))) rfl ?_
          refine L_y (y_assign rfl) rfl ?_
          refine L_nil ?_
          refine hK36 _ _ ?_
          refine T_region ?_
          refine L_y (y_move rfl) rfl ?_
          refine L_y (y_assign rfl) rfl ?_
          refine L_nil ?_
          exact ⟨((l1.length + l2.length) / 2) - l2.length, ((l1.length + l2.length) / 2), (Sub.cons rfl (by first | rfl | exact congrArg (Value.int _) (by omega)) (Sub.cons rfl (by first | rfl | exact congrArg (Value.int _) (by omega)) (Sub.cons rfl (by first | rfl | exact congrArg (Value.int _) (by omega)) (Sub.cons rfl (by first | rfl | exact congrArg (Value.int _) (by omega)) (Sub.cons rfl (by first | rfl | exact congrArg (Value.int _) (by omega)) (Sub.cons rfl (congrArg (Value.int _) (by omega)) (Sub.cons rfl (congrArg (Value.int _) (by omega)) (Sub.cons rfl (congrArg (Value.int _) (by omega)) (Sub.cons rfl (congrArg (Value.int _) (by omega)) (Sub.nil _)))))))))), ⟨by omega, by omega, by omega, by omega, by omega, by omega⟩, S0⟩
        ·
          refine T_seq fun K37 hK37 => ?_
          refine T_region ?_
          refine L_y (y_move rfl) rfl ?_
          refine L_y (y_assign rfl) rfl ?_
          refine L_nil ?_
          refine hK37 _ _ ?_
          refine T_region ?_
          refine L_y (y_move rfl) rfl ?_
          refine L_y (y_assign rfl) rfl ?_
          refine L_nil ?_
          exact ⟨0, l1.length, (Sub.cons rfl (by first | rfl | exact congrArg (Value.int _) (by omega)) (Sub.cons rfl (by first | rfl | exact congrArg (Value.int _) (by omega)) (Sub.cons rfl (by first | rfl | exact congrArg (Value.int _) (by omega)) (Sub.cons rfl (by first | rfl | exact congrArg (Value.int _) (by omega)) (Sub.cons rfl (by first | rfl | exact congrArg (Value.int _) (by omega)) (Sub.cons rfl (congrArg (Value.int _) (by omega)) (Sub.cons rfl (congrArg (Value.int _) (by omega)) (Sub.cons rfl (congrArg (Value.int _) (by omega)) (Sub.cons rfl (congrArg (Value.int _) (by omega)) (Sub.nil _)))))))))), ⟨by omega, by omega, by omega, by omega, by omega, by omega⟩, S0⟩
      ·
        rintro e15 w15 ⟨s0, r0, hsub, ⟨⟨hsr0, hr1, hr2, hsq, hsb, hrb⟩, S15⟩⟩
        refine T_weak hsub ?_
        refine T_seq fun K38 hK38 => ?_
        refine T_region ?_
        refine L_y (y_move rfl) rfl ?_
        refine L_y (y_sub rfl rfl (i64w (by omega))) rfl ?_
        refine L_y (y_assign rfl) rfl ?_
        refine L_nil ?_
        refine hK38 _ _ ?_
        refine T_seq fun K39 hK39 => ?_
        refine T_block ?_
        refine T_loop2 [(0, _), (1, _), (2, _), (3, _), (4, _), (18, _), (19, _), (22, _)] (fun (s : Nat) (r : Nat) => [(20, .int .i64 ((pre.length + s : Nat) : Int)), (21, .int .i64 ((pre.length + r : Nat) : Int))]) (fun (s : Nat) (r : Nat) => r - s) (fun (s : Nat) (r : Nat) (w : World) => ((s0 ≤ s ∧ s ≤ r ∧ r ≤ r0) ∧ (s = s0 ∨ ∃ x y, l1[s - 1]? = some x ∧ l2[((l1.length + l2.length) / 2) - s]? = some y ∧ lt y x = false ∧ 0 < s) ∧ (r = r0 ∨ ∃ x y, l1[r]? = some x ∧ l2[((l1.length + l2.length) / 2) - 1 - r]? = some y ∧ lt y x = true ∧ r < ((l1.length + l2.length) / 2))) ∧ St w0 (enR A c (pre ++ l1 ++ l2 ++ post)).dom [Zx.row 39 34 A n c ((pre ++ l1 ++ l2 ++ post).flatMap enf)] w) s0 r0 (Sub.cons rfl (by first | rfl | exact congrArg (Value.int _) (by omega)) (Sub.cons rfl (by first | rfl | exact congrArg (Value.int _) (by omega)) (Sub.nil _))) (Sub.cons rfl rfl (Sub.cons rfl rfl (Sub.cons rfl rfl (Sub.cons rfl rfl (Sub.cons rfl rfl (Sub.cons rfl rfl (Sub.cons rfl rfl (Sub.cons rfl rfl (Sub.nil _))))))))) ?_ ?_
        ·
          exact ⟨⟨⟨Nat.le_refl _, hsr0, Nat.le_refl _⟩, .inl rfl, .inl rfl⟩, S15⟩
        ·
          intro s r w16 hrel
          obtain ⟨⟨⟨hs0, hsr, hr0⟩, hlo, hhi⟩, S16⟩ := hrel
          refine T_seq fun K40 hK40 => ?_
          refine T_seq fun K41 hK41 => ?_
          refine T_region ?_
          refine L_y (y_move rfl) rfl ?_
          refine L_y (y_move rfl) rfl ?_
          refine L_y (y_lss rfl rfl) rfl ?_
          refine L_nil ?_
          refine hK41 _ _ ?_
          refine T_cond rfl (fun h151 => ?_) (fun h151 => ?_)
          ·
            obtain ⟨x, hx⟩ : ∃ x, l1[(s + r) / 2]? = some x := ⟨_, List.getElem?_eq_getElem (by omega)⟩
            obtain ⟨y, hy⟩ : ∃ y, l2[((l1.length + l2.length) / 2) - 1 - (s + r) / 2]? = some y := ⟨_, List.getElem?_eq_getElem (by omega)⟩
            have gx : (pre ++ l1 ++ l2 ++ post)[pre.length + (s + r) / 2]? = some x := by rw [List.append_assoc, List.append_assoc, List.getElem?_append_right (by omega), List.getElem?_append_left (by omega)]; simpa [Nat.add_sub_cancel_left] using hx
            have gy : (pre ++ l1 ++ l2 ++ post)[pre.length + l1.length + (((l1.length + l2.length) / 2) - 1 - (s + r) / 2)]? = some y := by rw [List.append_assoc, List.getElem?_append_right (by simp), List.getElem?_append_left (by simp; omega)]; simpa [← Nat.add_assoc, Nat.add_sub_cancel_left] using hy
            refine T_skip ?_
            refine hK40 _ _ ?_
            refine T_block ?_
            refine T_seq fun K42 hK42 => ?_
            refine T_region ?_
            refine L_y (y_move rfl) rfl ?_
            refine L_y (y_move rfl) rfl ?_
            refine L_y (y_add rfl rfl (i64w (by omega))) rfl ?_
            refine L_y (y_conv is3 Try.underlying81 rfl (show _ = ((pre.length + s + (pre.length + r) : Nat) : Int) by rw [IntKind.wrap_u64]; omega)) rfl ?_
            refine L_y (y_shr rfl rfl (by omega) (shr1 _)) rfl ?_
            refine L_y (y_conv is81 Try.underlying3 rfl (i64w (by omega))) rfl ?_
            refine L_y (y_assign rfl) rfl ?_
            refine L_nil ?_
            refine hK42 _ _ ?_
            refine T_seq fun K43 hK43 => ?_
            refine T_tail 11 hmix (by kernel_rfl) fun w17 l17 K44 hK44 => ?_
            have S17 := S16.like l17
            refine HL_y (y_move rfl) rfl ?_
            refine HL_y (y_move rfl) rfl ?_
            refine HL_y (y_move rfl) rfl ?_
            refine HL_y (y_move rfl) rfl ?_
            refine HL_y (y_sub rfl rfl (i64w (by omega))) rfl ?_
            refine HL_y (y_idx Try.underlying22 sz39 rfl rfl (S17.row 0 rfl) (Nt.mk (by omega) : Nt _ (pre.length + l1.length + (((l1.length + l2.length) / 2) - 1 - (s + r) / 2))) (by omega)) rfl ?_
            refine HL_y (y_ldp (f := enf) enf_len Try.underlying39 rfl sz39 rfl (S17.row 0 rfl) (by omega) gy) rfl ?_
            refine HL_y (y_move rfl) rfl ?_
            refine HL_y (y_move rfl) rfl ?_
            refine HL_y (y_idx Try.underlying22 sz39 rfl rfl (S17.row 0 rfl) (Nt.mk (by omega) : Nt _ (pre.length + (s + r) / 2)) (by omega)) rfl ?_
            refine HL_y (y_ldp (f := enf) enf_len Try.underlying39 rfl sz39 rfl (S17.row 0 rfl) (by omega) gx) rfl ?_
            refine HL_nil ?_
            refine hK44 _ ?_
            refine L_o (o_callv (fs := []) (cs := []) rfl hfn hnm hbd (hC.call y x w17) rfl rfl (fun d' hd => by cases hd <;> rfl) ?_)
            rintro e18 w18 ⟨v18, rfl, l18, vc, rfl, hvc⟩
            refine ⟨_, rfl, ?_⟩
            have S18 := S17.like l18
            refine L_y (y_lss rfl rfl) rfl ?_
            refine L_y ((by first | exact y_notD rfl | exact y_not rfl)) rfl ?_
            refine L_nil ?_
            refine hK43 _ _ ?_
            refine T_cond rfl (fun h171 => ?_) (fun h171 => ?_)
            ·
              refine T_region ?_
              refine L_y (y_move rfl) rfl ?_
              refine L_y (y_add rfl rfl (i64w (by omega))) rfl ?_
              refine L_y (y_assign rfl) rfl ?_
              refine L_nil ?_
              refine ⟨(s + r) / 2 + 1, r, by omega, ⟨⟨⟨by omega, by omega, hr0⟩, .inr ⟨x, y, by rw [Nat.add_sub_cancel]; exact hx, by rw [show ((l1.length + l2.length) / 2) - ((s + r) / 2 + 1) = ((l1.length + l2.length) / 2) - 1 - (s + r) / 2 by omega]; exact hy, (by cases h9 : lt y x with | false => rfl | true => exact absurd (hvc.2 h9) (by omega)), by omega⟩, hhi⟩, S18⟩, ?_⟩
              exact (Sub.cons rfl (congrArg (Value.int _) (by omega)) (Sub.cons rfl (congrArg (Value.int _) (by omega)) (Sub.cons rfl rfl (Sub.cons rfl rfl (Sub.cons rfl rfl (Sub.cons rfl rfl (Sub.cons rfl rfl (Sub.cons rfl rfl (Sub.cons rfl rfl (Sub.cons rfl rfl (Sub.nil _)))))))))))
            ·
              refine T_region ?_
              refine L_y (y_move rfl) rfl ?_
              refine L_y (y_assign rfl) rfl ?_
              refine L_nil ?_
              refine ⟨s, (s + r) / 2, by omega, ⟨⟨⟨hs0, by omega, by omega⟩, hlo, .inr ⟨x, y, hx, hy, hvc.1 (by omega), by omega⟩⟩, S18⟩, ?_⟩
              exact (Sub.cons rfl (congrArg (Value.int _) (by omega)) (Sub.cons rfl (congrArg (Value.int _) (by omega)) (Sub.cons rfl rfl (Sub.cons rfl rfl (Sub.cons rfl rfl (Sub.cons rfl rfl (Sub.cons rfl rfl (Sub.cons rfl rfl (Sub.cons rfl rfl (Sub.cons rfl rfl (Sub.nil _)))))))))))
          ·
            have hse : r = s := by omega
            subst hse
            obtain ⟨a1, b1, rfl, ha1⟩ := split_at l1 r (by omega)
            obtain ⟨a2, b2, rfl, ha2⟩ := split_at l2 (((a1 ++ b1).length + l2.length) / 2 - r) (by omega)
            have hl1 : (a1 ++ b1).length = a1.length + b1.length := List.length_append
            have hl2 : (a2 ++ b2).length = a2.length + b2.length := List.length_append
            have hi9 : (a1 = [] ∨ b2 = []) ∨ ∃ x y, (a1 ++ b1)[a1.length - 1]? = some x ∧ (a2 ++ b2)[a2.length]? = some y ∧ lt y x = false ∧ 0 < a1.length := by rcases hlo with h | ⟨x, y, hx, hy, h0, hp⟩; (rcases hsb with q | q; exact .inl (.inl (List.eq_nil_of_length_eq_zero (by omega))); exact .inl (.inr (List.eq_nil_of_length_eq_zero (by omega)))); exact .inr ⟨x, y, by rw [ha1]; exact hx, by rw [ha2]; exact hy, h0, by omega⟩
            have hj9 : (b1 = [] ∨ a2 = []) ∨ ∃ x y, (a1 ++ b1)[a1.length]? = some x ∧ (a2 ++ b2)[a2.length - 1]? = some y ∧ lt y x = true ∧ 0 < a2.length := by rcases hhi with h | ⟨x, y, hx, hy, h0, hp⟩; (rcases hrb with q | q; exact .inl (.inl (List.eq_nil_of_length_eq_zero (by omega))); exact .inl (.inr (List.eq_nil_of_length_eq_zero (by omega)))); exact .inr ⟨x, y, by rw [ha1]; exact hx, by rw [ha2, show (((a1 ++ b1).length + (a2 ++ b2).length) / 2) - r - 1 = (((a1 ++ b1).length + (a2 ++ b2).length) / 2) - 1 - r by omega]; exact hy, h0, by omega⟩
            have hsp := sym_split hC.ord hs1 hs2 hi9 hj9
            have q1 := List.pairwise_append.1 hs1
            have q2 := List.pairwise_append.1 hs2
            refine T_exit ?_
            refine hK39 _ _ ?_
            refine T_seq fun K45 hK45 => ?_
            refine T_region ?_
            refine L_y (y_move rfl) rfl ?_
            refine L_y (y_move rfl) rfl ?_
            refine L_y (y_sub rfl rfl (i64w (by omega))) rfl ?_
            refine L_y (y_assign rfl) rfl ?_
            refine L_nil ?_
            refine hK45 _ _ ?_
            refine T_seqR (fun (e : Env) (w : World) => Sub [(0, .slice A n c), (1, .int .i64 (pre.length : Int)), (3, .int .i64 ((pre.length + (a1 ++ b1).length + (a2 ++ b2).length : Nat) : Int)), (4, .func (.func F) #[] #[]), (18, .int .i64 ((pre.length + a1.length + a2.length : Nat) : Int)), (20, .int .i64 ((pre.length + a1.length : Nat) : Int)), (24, .int .i64 ((pre.length + a1.length + b1.length + a2.length : Nat) : Int))] e ∧ St w0 (enR A c (pre ++ (a1 ++ b1) ++ (a2 ++ b2) ++ post)).dom [enR A c (pre ++ a1 ++ a2 ++ b1 ++ b2 ++ post)] w) ?_ ?_
            ·
              refine T_seq fun K47 hK47 => ?_
              refine T_region ?_
              refine L_y (y_move rfl) rfl ?_
              refine L_y (y_move rfl) rfl ?_
              refine L_y (y_lss rfl rfl) rfl ?_
              refine L_y (y_move rfl) rfl ?_
              refine L_split 181 rfl (fun h181 => ?_) (fun h181 => ?_)
              ·
                refine L_gyes rfl rfl ?_
                refine L_y (y_move rfl) rfl ?_
                refine L_gyes rfl rfl ?_
                refine L_y (y_move rfl) rfl ?_
                refine L_gyes rfl rfl ?_
                refine L_y (y_lss rfl rfl) rfl ?_
                refine L_y (y_pk rfl rfl) rfl ?_
                refine L_nil ?_
                refine hK47 _ _ ?_
                refine T_cond rfl (fun h185 => ?_) (fun h185 => ?_)
                ·
                  have S8 := S16.rowc 0 rfl (n' := (pre ++ a1 ++ b1 ++ a2 ++ (b2 ++ post)).length) (xs' := (pre ++ a1 ++ b1 ++ a2 ++ (b2 ++ post)).flatMap enf) (by rw [hn0]; simp) (by simp)
                  refine T_region ?_
                  refine L_y (y_move rfl) rfl ?_
                  refine L_y (y_move rfl) rfl ?_
                  refine L_y (y_move rfl) rfl ?_
                  refine L_y (y_move rfl) rfl ?_
                  refine L_y (y_move rfl) rfl ?_
                  refine L_o (o_call Try.func52 rfl rfl (rotat A n c _ _ _ (pre ++ a1) b1 a2 (b2 ++ post) (.func (.func F) #[] #[]) w16 (S8.get 0 rfl) (by rw [hn0]; simp) (by rw [List.length_append, ha1]) (by simp; omega) (by simp; omega) (by omega) (by omega) hn5) rfl rfl ?_)
                  rintro e20 w20 ⟨v20, rfl, T20⟩
                  refine ⟨_, rfl, ?_⟩
                  have S20 := S8.turn 0 rfl T20
                  refine L_nil ?_
                  exact ⟨(Sub.cons rfl (by first | rfl | exact congrArg (Value.int _) (by omega)) (Sub.cons rfl (by first | rfl | exact congrArg (Value.int _) (by omega)) (Sub.cons rfl (congrArg (Value.int _) (by omega)) (Sub.cons rfl (by first | rfl | exact congrArg (Value.int _) (by omega)) (Sub.cons rfl (congrArg (Value.int _) (by omega)) (Sub.cons rfl (congrArg (Value.int _) (by omega)) (Sub.cons rfl (congrArg (Value.int _) (by omega)) (Sub.nil _)))))))), by simpa using S20⟩
                ·
                  refine T_skip ?_
                  have hz : (pre ++ (a1 ++ b1) ++ (a2 ++ b2) ++ post) = (pre ++ a1 ++ a2 ++ b1 ++ b2 ++ post) := by rcases (show b1 = [] ∨ a2 = [] from by by_cases q9 : b1.length = 0; exact .inl (List.eq_nil_of_length_eq_zero q9); exact .inr (List.eq_nil_of_length_eq_zero (by omega))) with q | q <;> rw [q] <;> simp
                  have S9 := S16.rowc 0 rfl (n' := (pre ++ a1 ++ a2 ++ b1 ++ b2 ++ post).length) (xs' := (pre ++ a1 ++ a2 ++ b1 ++ b2 ++ post).flatMap enf) (by rw [hn0, hz]) (by rw [hz])
                  exact ⟨(Sub.cons rfl (by first | rfl | exact congrArg (Value.int _) (by omega)) (Sub.cons rfl (by first | rfl | exact congrArg (Value.int _) (by omega)) (Sub.cons rfl (congrArg (Value.int _) (by omega)) (Sub.cons rfl (by first | rfl | exact congrArg (Value.int _) (by omega)) (Sub.cons rfl (congrArg (Value.int _) (by omega)) (Sub.cons rfl (congrArg (Value.int _) (by omega)) (Sub.cons rfl (congrArg (Value.int _) (by omega)) (Sub.nil _)))))))), S9⟩
              ·
                refine L_gno rfl rfl rfl ?_
                refine L_gno rfl rfl rfl ?_
                refine L_gno rfl rfl rfl ?_
                refine L_y (y_pk rfl rfl) rfl ?_
                refine L_nil ?_
                refine hK47 _ _ ?_
                refine T_false rfl ?_
                refine T_skip ?_
                have hz : (pre ++ (a1 ++ b1) ++ (a2 ++ b2) ++ post) = (pre ++ a1 ++ a2 ++ b1 ++ b2 ++ post) := by rcases (show b1 = [] ∨ a2 = [] from by by_cases q9 : b1.length = 0; exact .inl (List.eq_nil_of_length_eq_zero q9); exact .inr (List.eq_nil_of_length_eq_zero (by omega))) with q | q <;> rw [q] <;> simp
                have S9 := S16.rowc 0 rfl (n' := (pre ++ a1 ++ a2 ++ b1 ++ b2 ++ post).length) (xs' := (pre ++ a1 ++ a2 ++ b1 ++ b2 ++ post).flatMap enf) (by rw [hn0, hz]) (by rw [hz])
                exact ⟨(Sub.cons rfl (by first | rfl | exact congrArg (Value.int _) (by omega)) (Sub.cons rfl (by first | rfl | exact congrArg (Value.int _) (by omega)) (Sub.cons rfl (congrArg (Value.int _) (by omega)) (Sub.cons rfl (by first | rfl | exact congrArg (Value.int _) (by omega)) (Sub.cons rfl (congrArg (Value.int _) (by omega)) (Sub.cons rfl (congrArg (Value.int _) (by omega)) (Sub.cons rfl (congrArg (Value.int _) (by omega)) (Sub.nil _)))))))), S9⟩
            ·
              rintro e21 w21 ⟨hsub, S21⟩
              refine T_weak hsub ?_
              refine T_seqR (fun (e : Env) (w : World) => Sub [(0, .slice A n c), (3, .int .i64 ((pre.length + (a1 ++ b1).length + (a2 ++ b2).length : Nat) : Int)), (4, .func (.func F) #[] #[]), (18, .int .i64 ((pre.length + a1.length + a2.length : Nat) : Int)), (24, .int .i64 ((pre.length + a1.length + b1.length + a2.length : Nat) : Int))] e ∧ St w0 (enR A c (pre ++ (a1 ++ b1) ++ (a2 ++ b2) ++ post)).dom [enR A c (pre ++ mrg lt a1 a2 ++ b1 ++ b2 ++ post)] w) ?_ ?_
              ·
                refine T_seq fun K49 hK49 => ?_
                refine T_region ?_
                refine L_y (y_move rfl) rfl ?_
                refine L_y (y_move rfl) rfl ?_
                refine L_y (y_lss rfl rfl) rfl ?_
                refine L_y (y_move rfl) rfl ?_
                refine L_split 195 rfl (fun h195 => ?_) (fun h195 => ?_)
                ·
                  refine L_gyes rfl rfl ?_
                  refine L_y (y_move rfl) rfl ?_
                  refine L_gyes rfl rfl ?_
                  refine L_y (y_move rfl) rfl ?_
                  refine L_gyes rfl rfl ?_
                  refine L_y (y_lss rfl rfl) rfl ?_
                  refine L_y (y_pk rfl rfl) rfl ?_
                  refine L_nil ?_
                  refine hK49 _ _ ?_
                  refine T_cond rfl (fun h199 => ?_) (fun h199 => ?_)
                  ·
                    rw [show pre ++ a1 ++ a2 ++ b1 ++ b2 ++ post = pre ++ a1 ++ a2 ++ (b1 ++ b2 ++ post) from by simp] at S21
                    refine T_region ?_
                    refine L_y (y_move rfl) rfl ?_
                    refine L_y (y_move rfl) rfl ?_
                    refine L_y (y_move rfl) rfl ?_
                    refine L_y (y_move rfl) rfl ?_
                    refine L_y (y_move rfl) rfl ?_
                    refine L_o (o_call Try.func45 rfl rfl (ih pre a1 a2 (b1 ++ b2 ++ post) (by omega) _ _ _ w21 (S21.get 0 rfl) (by rw [hn0]; simp; omega) (by omega) (by omega) (by omega) (by omega) (by omega) q1.1 q2.1) rfl rfl ?_)
                    rintro e23 w23 ⟨v23, rfl, T23⟩
                    refine ⟨_, rfl, ?_⟩
                    have S23 := S21.turn 0 rfl T23
                    refine L_nil ?_
                    exact ⟨(Sub.cons rfl (by first | rfl | exact congrArg (Value.int _) (by omega)) (Sub.cons rfl (congrArg (Value.int _) (by omega)) (Sub.cons rfl (by first | rfl | exact congrArg (Value.int _) (by omega)) (Sub.cons rfl (congrArg (Value.int _) (by omega)) (Sub.cons rfl (congrArg (Value.int _) (by omega)) (Sub.nil _)))))), by simpa using S23⟩
                  ·
                    refine T_skip ?_
                    have hz : mrg lt a1 a2 = a1 ++ a2 := by rcases (show a1 = [] ∨ a2 = [] from by by_cases q9 : a1.length = 0; exact .inl (List.eq_nil_of_length_eq_zero q9); exact .inr (List.eq_nil_of_length_eq_zero (by omega))) with q | q; rw [q, mrg_nil]; rfl; rw [q, mrg_nilr, List.append_nil]
                    have S9 := S21.rowc 0 rfl (n' := (pre ++ mrg lt a1 a2 ++ b1 ++ b2 ++ post).length) (xs' := (pre ++ mrg lt a1 a2 ++ b1 ++ b2 ++ post).flatMap enf) (by rw [hz]; simp) (by rw [hz]; simp)
                    exact ⟨(Sub.cons rfl (by first | rfl | exact congrArg (Value.int _) (by omega)) (Sub.cons rfl (congrArg (Value.int _) (by omega)) (Sub.cons rfl (by first | rfl | exact congrArg (Value.int _) (by omega)) (Sub.cons rfl (congrArg (Value.int _) (by omega)) (Sub.cons rfl (congrArg (Value.int _) (by omega)) (Sub.nil _)))))), S9⟩
                ·
                  refine L_gno rfl rfl rfl ?_
                  refine L_gno rfl rfl rfl ?_
                  refine L_gno rfl rfl rfl ?_
                  refine L_y (y_pk rfl rfl) rfl ?_
                  refine L_nil ?_
                  refine hK49 _ _ ?_
                  refine T_false rfl ?_
                  refine T_skip ?_
                  have hz : mrg lt a1 a2 = a1 ++ a2 := by rcases (show a1 = [] ∨ a2 = [] from by by_cases q9 : a1.length = 0; exact .inl (List.eq_nil_of_length_eq_zero q9); exact .inr (List.eq_nil_of_length_eq_zero (by omega))) with q | q; rw [q, mrg_nil]; rfl; rw [q, mrg_nilr, List.append_nil]
                  have S9 := S21.rowc 0 rfl (n' := (pre ++ mrg lt a1 a2 ++ b1 ++ b2 ++ post).length) (xs' := (pre ++ mrg lt a1 a2 ++ b1 ++ b2 ++ post).flatMap enf) (by rw [hz]; simp) (by rw [hz]; simp)
                  exact ⟨(Sub.cons rfl (by first | rfl | exact congrArg (Value.int _) (by omega)) (Sub.cons rfl (congrArg (Value.int _) (by omega)) (Sub.cons rfl (by first | rfl | exact congrArg (Value.int _) (by omega)) (Sub.cons rfl (congrArg (Value.int _) (by omega)) (Sub.cons rfl (congrArg (Value.int _) (by omega)) (Sub.nil _)))))), S9⟩
              ·
                rintro e24 w24 ⟨hsub, S24⟩
                refine T_weak hsub ?_
                refine T_seq fun K50 hK50 => ?_
                refine T_region ?_
                refine L_y (y_move rfl) rfl ?_
                refine L_y (y_move rfl) rfl ?_
                refine L_y (y_lss rfl rfl) rfl ?_
                refine L_y (y_move rfl) rfl ?_
                refine L_split 209 rfl (fun h209 => ?_) (fun h209 => ?_)
                ·
                  refine L_gyes rfl rfl ?_
                  refine L_y (y_move rfl) rfl ?_
                  refine L_gyes rfl rfl ?_
                  refine L_y (y_move rfl) rfl ?_
                  refine L_gyes rfl rfl ?_
                  refine L_y (y_lss rfl rfl) rfl ?_
                  refine L_y (y_pk rfl rfl) rfl ?_
                  refine L_nil ?_
                  refine hK50 _ _ ?_
                  refine T_cond rfl (fun h213 => ?_) (fun h213 => ?_)
                  ·
                    refine T_region ?_
                    refine L_y (y_move rfl) rfl ?_
                    refine L_y (y_move rfl) rfl ?_
                    refine L_y (y_move rfl) rfl ?_
                    refine L_y (y_move rfl) rfl ?_
                    refine L_y (y_move rfl) rfl ?_
                    refine L_o (o_call Try.func45 rfl rfl (ih (pre ++ mrg lt a1 a2) b1 b2 post (by omega) _ _ _ w24 (S24.get 0 rfl) (by rw [hn0]; simp [mrg_len]; omega) (by simp [mrg_len]; omega) (by simp [mrg_len]; omega) (by simp [mrg_len]; omega) (by omega) (by omega) q1.2.1 q2.2.1) rfl rfl ?_)
                    rintro e26 w26 ⟨v26, rfl, T26⟩
                    refine ⟨_, rfl, ?_⟩
                    have S26 := S24.turn 0 rfl T26
                    refine L_nil ?_
                    first | refine end0 (fn := Try.f45) rfl ?_ | (simp only [thenQ, inB, if_true]; refine end0 (fn := Try.f45) rfl ?_)
                    exact ⟨_, rfl, by have h := S26.turned1 0 rfl; rw [hsp, show pre ++ (mrg lt a1 a2 ++ mrg lt b1 b2) ++ post = pre ++ mrg lt a1 a2 ++ mrg lt b1 b2 ++ post from by simp]; exact h⟩
                  ·
                    refine T_skip ?_
                    first | refine end0 (fn := Try.f45) rfl ?_ | (simp only [thenQ, inB, if_true]; refine end0 (fn := Try.f45) rfl ?_)
                    have hz : mrg lt b1 b2 = b1 ++ b2 := by rcases (show b1 = [] ∨ b2 = [] from by by_cases q9 : b1.length = 0; exact .inl (List.eq_nil_of_length_eq_zero q9); exact .inr (List.eq_nil_of_length_eq_zero (by omega))) with q | q; rw [q, mrg_nil]; rfl; rw [q, mrg_nilr, List.append_nil]
                    exact ⟨_, rfl, by have h := S24.turned1 0 rfl; rw [hsp, hz]; rw [show pre ++ mrg lt a1 a2 ++ b1 ++ b2 ++ post = pre ++ (mrg lt a1 a2 ++ (b1 ++ b2)) ++ post from by simp] at h; exact h⟩
                ·
                  refine L_gno rfl rfl rfl ?_
                  refine L_gno rfl rfl rfl ?_
                  refine L_gno rfl rfl rfl ?_
                  refine L_y (y_pk rfl rfl) rfl ?_
                  refine L_nil ?_
                  refine hK50 _ _ ?_
                  refine T_false rfl ?_
                  refine T_skip ?_
                  first | refine end0 (fn := Try.f45) rfl ?_ | (simp only [thenQ, inB, if_true]; refine end0 (fn := Try.f45) rfl ?_)
                  have hz : mrg lt b1 b2 = b1 ++ b2 := by rcases (show b1 = [] ∨ b2 = [] from by by_cases q9 : b1.length = 0; exact .inl (List.eq_nil_of_length_eq_zero q9); exact .inr (List.eq_nil_of_length_eq_zero (by omega))) with q | q; rw [q, mrg_nil]; rfl; rw [q, mrg_nilr, List.append_nil]
                  exact ⟨_, rfl, by have h := S24.turned1 0 rfl; rw [hsp, hz]; rw [show pre ++ mrg lt a1 a2 ++ b1 ++ b2 ++ post = pre ++ (mrg lt a1 a2 ++ (b1 ++ b2)) ++ post from by simp] at h; exact h⟩


theorem symm_all {A : Option Addr} {n c F : Nat} {lt : EV → EV → Bool} (hC : CMP F lt) (hn5 : n ≤ 10000) : ∀ (N : Nat) (pre l1 l2 post : List EV), l1.length + l2.length < N → SMok A n c F lt pre l1 l2 post
  | 0, pre, l1, l2, post, h => absurd h (by omega)
  | N + 1, pre, l1, l2, post, h => fun a m b w0 hw hn ha hm hb h1 h2 hs1 hs2 =>
    symst A n c (l1.length + l2.length) a m b pre l1 l2 post F lt w0 hw hC hn ha hm hb h1 h2 hs1 hs2 rfl (fun pre' l1' l2' post' h' => symm_all hC hn5 N pre' l1' l2' post' (by omega)) hn5
theorem symm {A : Option Addr} {n c F : Nat} {lt : EV → EV → Bool} (hC : CMP F lt) (hn5 : n ≤ 10000) (pre l1 l2 post : List EV) : SMok A n c F lt pre l1 l2 post := symm_all hC hn5 (l1.length + l2.length + 1) pre l1 l2 post (by omega)
end Go.Proofs.Ytmgimcdkeelnpaa
