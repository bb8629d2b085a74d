/-
  rotate; insertion.
-/
import Derived.Test.YtmgimcdkeelnpaaA
namespace Go.Proofs.Ytmgimcdkeelnpaa
open Go.RowKit Zk Zx
set_option linter.unusedVariables false
set_option linter.unusedSimpArgs false

set_option maxRecDepth 100000 in
theorem rotat (A : Option Addr) (n c : Nat) (a m b : Int) (pre X Y post : List EV) (fv : Value) (w0 : World) (hw : (enR A c (pre ++ X ++ Y ++ post)).holds w0) (hn : n = (pre ++ X ++ Y ++ post).length) (ha : a = (pre.length : Int)) (hm : m = ((pre.length + X.length : Nat) : Int)) (hb : b = ((pre.length + X.length + Y.length : Nat) : Int)) (hX : 0 < X.length) (hY : 0 < Y.length) (hn5 : n ≤ 10000) :
    Calls Try.prog 52 #[.slice A n c, .int .i64 a, .int .i64 m, .int .i64 b, fv] w0 fun e w' => ∃ u, e = .returned u ∧ Turned w0 w' (enR A c (pre ++ X ++ Y ++ post)) (enR A c (pre ++ Y ++ X ++ post)) := by
  refine enter1 (env := [(0, .slice A n c), (1, .int .i64 a), (2, .int .i64 m), (3, .int .i64 b), (4, fv)]) [.slice A n c, .int .i64 a, .int .i64 m, .int .i64 b, fv] Try.func52 rfl Try.ntmps52 rfl rfl ?_
  have hn0 := hn; simp only [List.length_append] at hn; subst ha hm hb; have S0 := St.borrow1 (enR A c (pre ++ X ++ Y ++ post)) hw (enR_lt hw)
  refine T_seq fun K1 hK1 => ?_
  refine T_region ?_
  refine L_y (y_move rfl) rfl ?_
  refine L_y (y_move rfl) rfl ?_
  refine L_y (y_sub rfl rfl (i64w (by omega))) rfl ?_
  refine L_y (y_assign rfl) rfl ?_
  refine L_nil ?_
  refine hK1 _ _ ?_
  refine T_seq fun K2 hK2 => ?_
  refine T_region ?_
  refine L_y (y_move rfl) rfl ?_
  refine L_y (y_move rfl) rfl ?_
  refine L_y (y_sub rfl rfl (i64w (by omega))) rfl ?_
  refine L_y (y_assign rfl) rfl ?_
  refine L_nil ?_
  refine hK2 _ _ ?_
  refine T_seq fun K3 hK3 => ?_
  refine T_block ?_
  refine T_loop4 [(0, _), (2, _), (4, _)] (fun (P : List EV) (U : List EV) (V : List EV) (Q : List EV) => [(10, .int .i64 (U.length : Int)), (11, .int .i64 (V.length : Int))]) (fun (P : List EV) (U : List EV) (V : List EV) (Q : List EV) => U.length + V.length) (fun (P : List EV) (U : List EV) (V : List EV) (Q : List EV) (w : World) => (P.length + U.length = X.length ∧ V.length + Q.length = Y.length ∧ P ++ V ++ U ++ Q = Y ++ X ∧ 0 < U.length ∧ 0 < V.length) ∧ St w0 (enR A c (pre ++ X ++ Y ++ post)).dom [enR A c (pre ++ (P ++ U ++ V ++ Q) ++ post)] w) [] X Y [] (Sub.cons rfl (by first | rfl | exact congrArg (Value.int _) (by omega)) (Sub.cons rfl (by first | rfl | exact congrArg (Value.int _) (by omega)) (Sub.nil _))) (Sub.cons rfl rfl (Sub.cons rfl rfl (Sub.cons rfl rfl (Sub.nil _)))) ?_ ?_
  ·
    exact ⟨⟨by simp, by simp, by simp, by omega, by omega⟩, by simpa using S0⟩
  ·
    intro P U V Q w1 hrel
    obtain ⟨⟨h1, h2, h3, h4, h5⟩, S1⟩ := hrel
    refine T_seq fun K4 hK4 => ?_
    refine T_seq fun K5 hK5 => ?_
    refine T_region ?_
    refine L_y (y_move rfl) rfl ?_
    refine L_y (y_move rfl) rfl ?_
    refine L_y (y_neq rfl rfl) rfl ?_
    refine L_nil ?_
    refine hK5 _ _ ?_
    refine T_cond rfl (fun h20 => ?_) (fun h20 => ?_)
    ·
      refine T_skip ?_
      refine hK4 _ _ ?_
      refine T_block ?_
      refine T_seq fun K6 hK6 => ?_
      refine T_region ?_
      refine L_y (y_move rfl) rfl ?_
      refine L_y (y_move rfl) rfl ?_
      refine L_y (y_gtr rfl rfl) rfl ?_
      refine L_nil ?_
      refine hK6 _ _ ?_
      refine T_cond rfl (fun h23 => ?_) (fun h23 => ?_)
      ·
        obtain ⟨U1, U2, rfl, hU⟩ : ∃ U1 U2, U = U1 ++ U2 ∧ U1.length = V.length := ⟨U.take V.length, U.drop V.length, (List.take_append_drop _ _).symm, by rw [List.length_take]; omega⟩
        have hUl : (U1 ++ U2).length = U1.length + U2.length := List.length_append
        rw [show (pre ++ (P ++ (U1 ++ U2) ++ V ++ Q) ++ post) = (pre ++ P) ++ U1 ++ U2 ++ V ++ (Q ++ post) from by simp] at S1
        refine T_seq fun K7 hK7 => ?_
        refine T_region ?_
        refine L_y (y_move rfl) rfl ?_
        refine L_y (y_move rfl) rfl ?_
        refine L_y (y_move rfl) rfl ?_
        refine L_y (y_sub rfl rfl (i64w (by omega))) rfl ?_
        refine L_y (y_move rfl) rfl ?_
        refine L_y (y_move rfl) rfl ?_
        refine L_y (y_move rfl) rfl ?_
        refine L_o (o_call Try.func60 rfl rfl (swapr A n c _ _ _ (pre ++ P) U1 U2 V (Q ++ post) fv w1 (S1.get 0 rfl) (by omega) (by rw [hn0]; simp at *; omega) (by simp; omega) (by simp; omega) (by omega) hn5) rfl rfl ?_)
        rintro e2 w2 ⟨v2, rfl, T2⟩
        refine ⟨_, rfl, ?_⟩
        have S2 := S1.turn 0 rfl T2
        refine L_nil ?_
        refine hK7 _ _ ?_
        refine T_region ?_
        refine L_y (y_move rfl) rfl ?_
        refine L_y (y_move rfl) rfl ?_
        refine L_y (y_sub rfl rfl (i64w (by omega))) rfl ?_
        refine L_y (y_assign rfl) rfl ?_
        refine L_nil ?_
        refine ⟨P ++ V, U2, U1, Q, by omega, ⟨⟨by simp; omega, by omega, by rw [← h3]; simp, by omega, by omega⟩, by simpa using S2⟩, ?_⟩
        exact (Sub.cons rfl (congrArg (Value.int _) (by omega)) (Sub.cons rfl (congrArg (Value.int _) (by omega)) (Sub.cons rfl rfl (Sub.cons rfl rfl (Sub.cons rfl rfl (Sub.nil _))))))
      ·
        obtain ⟨V1, V2, rfl, hV⟩ : ∃ V1 V2, V = V1 ++ V2 ∧ V2.length = U.length := ⟨V.take (V.length - U.length), V.drop (V.length - U.length), (List.take_append_drop _ _).symm, by rw [List.length_drop]; omega⟩
        have hVl : (V1 ++ V2).length = V1.length + V2.length := List.length_append
        rw [show (pre ++ (P ++ U ++ (V1 ++ V2) ++ Q) ++ post) = (pre ++ P) ++ U ++ V1 ++ V2 ++ (Q ++ post) from by simp] at S1
        refine T_seq fun K8 hK8 => ?_
        refine T_region ?_
        refine L_y (y_move rfl) rfl ?_
        refine L_y (y_move rfl) rfl ?_
        refine L_y (y_move rfl) rfl ?_
        refine L_y (y_sub rfl rfl (i64w (by omega))) rfl ?_
        refine L_y (y_move rfl) rfl ?_
        refine L_y (y_move rfl) rfl ?_
        refine L_y (y_add rfl rfl (i64w (by omega))) rfl ?_
        refine L_y (y_move rfl) rfl ?_
        refine L_y (y_sub rfl rfl (i64w (by omega))) rfl ?_
        refine L_y (y_move rfl) rfl ?_
        refine L_y (y_move rfl) rfl ?_
        refine L_o (o_call Try.func60 rfl rfl (swapr A n c _ _ _ (pre ++ P) U V1 V2 (Q ++ post) fv w1 (S1.get 0 rfl) (by omega) (by rw [hn0]; simp at *; omega) (by simp; omega) (by simp; omega) (by omega) hn5) rfl rfl ?_)
        rintro e3 w3 ⟨v3, rfl, T3⟩
        refine ⟨_, rfl, ?_⟩
        have S3 := S1.turn 0 rfl T3
        refine L_nil ?_
        refine hK8 _ _ ?_
        refine T_region ?_
        refine L_y (y_move rfl) rfl ?_
        refine L_y (y_move rfl) rfl ?_
        refine L_y (y_sub rfl rfl (i64w (by omega))) rfl ?_
        refine L_y (y_assign rfl) rfl ?_
        refine L_nil ?_
        refine ⟨P, V2, V1, U ++ Q, by omega, ⟨⟨by omega, by simp; omega, by rw [← h3]; simp, by omega, by omega⟩, by simpa using S3⟩, ?_⟩
        exact (Sub.cons rfl (congrArg (Value.int _) (by omega)) (Sub.cons rfl (congrArg (Value.int _) (by omega)) (Sub.cons rfl rfl (Sub.cons rfl rfl (Sub.cons rfl rfl (Sub.nil _))))))
    ·
      have hUV : U.length = V.length := by omega
      rw [show (pre ++ (P ++ U ++ V ++ Q) ++ post) = (pre ++ P) ++ U ++ [] ++ V ++ (Q ++ post) from by simp] at S1
      refine T_exit ?_
      refine hK3 _ _ ?_
      refine T_region ?_
      refine L_y (y_move rfl) rfl ?_
      refine L_y (y_move rfl) rfl ?_
      refine L_y (y_move rfl) rfl ?_
      refine L_y (y_sub rfl rfl (i64w (by omega))) rfl ?_
      refine L_y (y_move rfl) rfl ?_
      refine L_y (y_move rfl) rfl ?_
      refine L_y (y_move rfl) rfl ?_
      refine L_o (o_call Try.func60 rfl rfl (swapr A n c _ _ _ (pre ++ P) U [] V (Q ++ post) fv w1 (S1.get 0 rfl) (by omega) (by rw [hn0]; simp at *; omega) (by simp; omega) (by simp; omega) (by omega) hn5) rfl rfl ?_)
      rintro e4 w4 ⟨v4, rfl, T4⟩
      refine ⟨_, rfl, ?_⟩
      have S4 := S1.turn 0 rfl T4
      refine L_nil ?_
      first | refine end0 (fn := Try.f52) rfl ?_ | (simp only [thenQ, inB, if_true]; refine end0 (fn := Try.f52) rfl ?_)
      exact ⟨_, rfl, by have h := S4.turned1 0 rfl; rw [show (pre ++ P) ++ V ++ [] ++ U ++ (Q ++ post) = pre ++ (P ++ V ++ U ++ Q) ++ post from by simp, h3, show pre ++ (Y ++ X) ++ post = pre ++ Y ++ X ++ post from by simp] at h; exact h⟩


theorem drop_hd2 {α : Type} {l : List α} {k : Nat} {x : α} (h : l[k]? = some x) : l.drop k = x :: l.drop (k + 1) := by
  obtain ⟨h1, h2⟩ := List.getElem?_eq_some_iff.1 h
  rw [← h2, List.getElem_cons_drop]
theorem take_sn2 {α : Type} {l : List α} {k : Nat} {x : α} (h : l[k]? = some x) : l.take (k + 1) = l.take k ++ [x] := by rw [List.take_add_one, h]; rfl


set_option maxRecDepth 100000 in
theorem insor (A : Option Addr) (n c : Nat) (a b : Int) (pre seg post : List EV) (F : Nat) (lt : EV → EV → Bool) (w0 : World) (hw : (enR A c (pre ++ seg ++ post)).holds w0) (hC : CMP F lt) (hn : n = (pre ++ seg ++ post).length) (ha : a = (pre.length : Int)) (hb : b = ((pre.length + seg.length : Nat) : Int)) (hn5 : n ≤ 10000) :
    Calls Try.prog 44 #[.slice A n c, .int .i64 a, .int .i64 b, .func (.func F) #[] #[]] w0 fun e w' => ∃ u, e = .returned u ∧ Turned w0 w' (enR A c (pre ++ seg ++ post)) (enR A c (pre ++ srt lt seg ++ post)) := by
  refine enter1 (env := [(0, .slice A n c), (1, .int .i64 a), (2, .int .i64 b), (3, .func (.func F) #[] #[])]) [.slice A n c, .int .i64 a, .int .i64 b, .func (.func F) #[] #[]] Try.func44 rfl Try.ntmps44 rfl rfl ?_
  have hn0 := hn; simp only [List.length_append] at hn; subst ha hb; obtain ⟨fx, hfn, hnm, hbd⟩ := hC.fn; have S0 := St.borrow1 (enR A c (pre ++ seg ++ post)) hw (enR_lt hw)
  refine T_seq fun K1 hK1 => ?_
  refine T_region ?_
  refine L_y (y_move rfl) rfl ?_
  refine L_y (y_add rfl rfl (i64w (by omega))) rfl ?_
  refine L_y (y_assign rfl) rfl ?_
  refine L_nil ?_
  refine hK1 _ _ ?_
  refine T_block ?_
  refine T_loop1 [(0, _), (1, _), (2, _), (3, _)] (fun (k : Nat) => [(8, .int .i64 ((pre.length + k : Nat) : Int))]) (fun (k : Nat) => seg.length - k) (fun (k : Nat) (w : World) => (1 ≤ k ∧ (k ≤ seg.length ∨ k = 1)) ∧ St w0 (enR A c (pre ++ seg ++ post)).dom [enR A c (pre ++ srt lt (seg.take k) ++ seg.drop k ++ post)] w) 1 (Sub.cons rfl (by first | rfl | exact congrArg (Value.int _) (by omega)) (Sub.nil _)) (Sub.cons rfl rfl (Sub.cons rfl rfl (Sub.cons rfl rfl (Sub.cons rfl rfl (Sub.nil _))))) ?_ ?_
  ·
    have e1 : srt lt (seg.take 1) ++ seg.drop 1 = seg := by cases seg with | nil => rfl | cons z t => rfl
    exact ⟨⟨Nat.le_refl _, .inr rfl⟩, by rw [show (pre ++ srt lt (seg.take 1) ++ seg.drop 1 ++ post) = pre ++ seg ++ post from by rw [List.append_assoc pre, e1]]; exact S0⟩
  ·
    intro k w1 hrel
    obtain ⟨⟨hk1, hk⟩, S1⟩ := hrel
    refine T_seq fun K2 hK2 => ?_
    refine T_seq fun K3 hK3 => ?_
    refine T_region ?_
    refine L_y (y_move rfl) rfl ?_
    refine L_y (y_move rfl) rfl ?_
    refine L_y (y_lss rfl rfl) rfl ?_
    refine L_nil ?_
    refine hK3 _ _ ?_
    refine T_cond rfl (fun h14 => ?_) (fun h14 => ?_)
    ·
      obtain ⟨x, hx⟩ : ∃ x, seg[k]? = some x := ⟨_, List.getElem?_eq_getElem (by omega)⟩
      have hsl : (srt lt (seg.take k)).length = k := by rw [srt_len, List.length_take]; omega
      refine T_skip ?_
      refine hK2 _ _ ?_
      refine T_seq fun K4 hK4 => ?_
      refine T_block ?_
      refine T_seq fun K5 hK5 => ?_
      refine T_region ?_
      refine L_y (y_move rfl) rfl ?_
      refine L_y (y_assign rfl) rfl ?_
      refine L_nil ?_
      refine hK5 _ _ ?_
      refine T_block ?_
      refine T_loop2 [(0, _), (1, _), (2, _), (3, _), (8, _)] (fun (p : List EV) (q : List EV) => [(9, .int .i64 ((pre.length + p.length : Nat) : Int))]) (fun (p : List EV) (q : List EV) => p.length) (fun (p : List EV) (q : List EV) (w : World) => (p ++ q = srt lt (seg.take k) ∧ (∀ y ∈ q, lt x y = true)) ∧ St w0 (enR A c (pre ++ seg ++ post)).dom [enR A c (pre ++ p ++ x :: (q ++ seg.drop (k + 1) ++ post))] w) (srt lt (seg.take k)) [] (Sub.cons rfl (by first | rfl | exact congrArg (Value.int _) (by omega)) (Sub.nil _)) (Sub.cons rfl rfl (Sub.cons rfl rfl (Sub.cons rfl rfl (Sub.cons rfl rfl (Sub.cons rfl rfl (Sub.nil _)))))) ?_ ?_
      ·
        exact ⟨⟨by simp, fun y hy => by cases hy⟩, by rw [drop_hd2 hx] at S1; simpa using S1⟩
      ·
        intro p q w2 hrel
        obtain ⟨⟨hpq, hq⟩, S2⟩ := hrel
        have hpl : p.length + q.length = k := by rw [← List.length_append, hpq, srt_len, List.length_take]; omega
        have hln2 : (pre ++ p ++ x :: (q ++ seg.drop (k + 1) ++ post)).length = n := by simp; omega
        rw [show enR A c (pre ++ p ++ x :: (q ++ seg.drop (k + 1) ++ post)) = Zx.row 39 34 A n c ((pre ++ p ++ x :: (q ++ seg.drop (k + 1) ++ post)).flatMap enf) from by rw [← hln2]; rfl] at S2
        refine T_seq fun K6 hK6 => ?_
        refine T_seq fun K7 hK7 => ?_
        refine T_tail 14 hmix (by kernel_rfl) fun w3 l3 K8 hK8 => ?_
        have S3 := S2.like l3
        refine HL_y (y_move rfl) rfl ?_
        refine HL_y (y_move rfl) rfl ?_
        refine HL_y (y_gtr rfl rfl) rfl ?_
        refine HL_y (y_move rfl) rfl ?_
        refine HL_split 21 rfl (fun h21 => ?_) (fun h21 => ?_)
        ·
          obtain ⟨p2, y, rfl⟩ : ∃ p2 y, p = p2 ++ [y] := by rcases List.eq_nil_or_concat p with rfl | ⟨p2, y, rfl⟩; (simp at h21); exact ⟨p2, y, by simp⟩
          have hpl2 : (p2 ++ [y]).length = p2.length + 1 := by simp
          obtain ⟨gy, gx, hset⟩ := exch2 (l := (pre ++ (p2 ++ [y]) ++ x :: (q ++ seg.drop (k + 1) ++ post))) (i := pre.length + p2.length) (j := pre.length + p2.length + 1) (p := pre ++ p2) (q := []) (r := q ++ seg.drop (k + 1) ++ post) (x := y) (y := x) (by simp) (by simp) (by simp)
          refine HL_gyes rfl rfl ?_
          refine HL_y (y_move rfl) rfl ?_
          refine HL_gyes rfl rfl ?_
          refine HL_y (y_move rfl) rfl ?_
          refine HL_gyes rfl rfl ?_
          refine HL_y (y_move rfl) rfl ?_
          refine HL_gyes rfl rfl ?_
          refine HL_y (y_idx Try.underlying22 sz39 rfl rfl (S3.row 0 rfl) (Nt.mk (by omega) : Nt _ (pre.length + p2.length + 1)) (by omega)) rfl ?_
          refine HL_gyes rfl rfl ?_
          refine HL_y (y_ldp (f := enf) enf_len Try.underlying39 rfl sz39 rfl (S3.row 0 rfl) (by omega) gx) rfl ?_
          refine HL_gyes rfl rfl ?_
          refine HL_y (y_move rfl) rfl ?_
          refine HL_gyes rfl rfl ?_
          refine HL_y (y_move rfl) rfl ?_
          refine HL_gyes rfl rfl ?_
          refine HL_y (y_sub rfl rfl (i64w (by omega))) rfl ?_
          refine HL_gyes rfl rfl ?_
          refine HL_y (y_idx Try.underlying22 sz39 rfl rfl (S3.row 0 rfl) (Nt.mk (by omega) : Nt _ (pre.length + p2.length)) (by omega)) rfl ?_
          refine HL_gyes rfl rfl ?_
          refine HL_y (y_ldp (f := enf) enf_len Try.underlying39 rfl sz39 rfl (S3.row 0 rfl) (by omega) gy) rfl ?_
          refine HL_nil ?_
          refine hK8 _ ?_
          refine L_gyes rfl rfl ?_
          refine L_o (o_callv (fs := []) (cs := []) rfl hfn hnm hbd (hC.call x y w3) rfl rfl (fun d' hd => by cases hd <;> rfl) ?_)
          rintro e5 w5 ⟨v5, rfl, l5, v32, rfl, hv32⟩
          refine ⟨_, rfl, ?_⟩
          have S5 := S3.like l5
          refine L_gyes rfl rfl ?_
          refine L_y (y_lss rfl rfl) rfl ?_
          refine L_y ((by first | exact y_pickT rfl rfl | exact y_pickF rfl rfl)) rfl ?_
          refine L_nil ?_
          refine hK7 _ _ ?_
          refine T_cond rfl (fun h34 => ?_) (fun h34 => ?_)
          ·
            have hyx : lt x y = true := hv32.1 (by omega)
            refine T_skip ?_
            refine hK6 _ _ ?_
            refine T_seq fun K9 hK9 => ?_
            refine T_block ?_
            refine T_zed [0, 1, 5, 6, 7, 8, 9, 10, 11, 12, 13, 14] 15 [(2, 0), (3, 0), (4, 0), (0, 1), (1, 1), (5, 1), (6, 1), (7, 1), (8, 1), (9, 1), (10, 1), (11, 1), (12, 1), (13, 1), (14, 1), (15, 3), (16, 3), (17, 3)] hmix (by kernel_rfl) fun w6 l6 => ?_
            have S6 := S5.like l6
            refine ZA_y rfl (y_move rfl) rfl ?_
            refine ZA_y rfl (y_move rfl) rfl ?_
            refine ZA_y rfl (y_sub rfl rfl (i64w (by omega))) rfl ?_
            refine ZA_B (Like w6) (Like.refl _) ?_
            refine ZB_y rfl (y_move rfl) rfl ?_
            refine ZB_y rfl (y_move rfl) rfl ?_
            refine ZB_y rfl (y_move rfl) rfl ?_
            refine ZB_y rfl (y_move rfl) rfl ?_
            refine ZB_y rfl (y_sub rfl rfl (i64w (by omega))) rfl ?_
            refine ZB_y rfl (y_idx Try.underlying22 sz39 rfl rfl (S6.row 0 rfl) (Nt.mk (by omega) : Nt _ (pre.length + p2.length)) (by omega)) rfl ?_
            refine ZB_y rfl (y_ldp (f := enf) enf_len Try.underlying39 rfl sz39 rfl (S6.row 0 rfl) (by omega) gy) rfl ?_
            refine ZB_y rfl (y_move rfl) rfl ?_
            refine ZB_y rfl (y_move rfl) rfl ?_
            refine ZB_y rfl (y_idx Try.underlying22 sz39 rfl rfl (S6.row 0 rfl) (Nt.mk (by omega) : Nt _ (pre.length + p2.length + 1)) (by omega)) rfl ?_
            refine ZB_y rfl (y_ldp (f := enf) enf_len Try.underlying39 rfl sz39 rfl (S6.row 0 rfl) (by omega) gx) rfl ?_
            refine ZB_y rfl (y_idx Try.underlying22 sz39 rfl rfl (S6.row 0 rfl) (Nt.mk (by omega) : Nt _ (pre.length + p2.length + 1)) (by omega)) rfl ?_
            refine ZB_c rfl (o_strowE S6 0 rfl rfl rfl (enf_one y) (enf_len y) sz39 (by omega) fun w7 S7 => ?_)
            refine ZA_oy rfl (y_idx Try.underlying22 sz39 rfl rfl (S7.row 0 rfl) (Nt.mk (by omega) : Nt _ (pre.length + p2.length)) (by omega)) rfl ?_
            refine ZA_o rfl (o_strowE S7 0 rfl rfl rfl (enf_one x) (enf_len x) sz39 (by omega) fun w8 S8 => ?_)
            refine ZA_nil ?_
            refine hK9 _ _ ?_
            refine T_region ?_
            refine L_y (y_move rfl) rfl ?_
            refine L_y (y_sub rfl rfl (i64w (by omega))) rfl ?_
            refine L_y (y_assign rfl) rfl ?_
            refine L_nil ?_
            have S9 := S8.rowc 0 rfl (n' := (pre ++ p2 ++ x :: (y :: q ++ seg.drop (k + 1) ++ post)).length) (xs' := (pre ++ p2 ++ x :: (y :: q ++ seg.drop (k + 1) ++ post)).flatMap enf) (by rw [← hln2]; simp) (by rw [ens_set (by omega), ens_set (by rw [List.length_set]; omega), hset]; simp)
            refine ⟨p2, y :: q, by simp, ⟨⟨by rw [← hpq]; simp, fun z hz => by rcases List.mem_cons.1 hz with rfl | hz; exact hyx; exact hq z hz⟩, S9⟩, ?_⟩
            exact (Sub.cons rfl (congrArg (Value.int _) (by simp; omega)) (Sub.cons rfl rfl (Sub.cons rfl rfl (Sub.cons rfl rfl (Sub.cons rfl rfl (Sub.cons rfl rfl (Sub.nil _)))))))
          ·
            have hyx : lt x y = false := by cases h9 : lt x y with | false => rfl | true => exact absurd (hv32.2 h9) (by omega)
            have hres : insS lt (srt lt (seg.take k)) x = (p2 ++ [y]) ++ x :: q := by rw [← hpq]; exact ins_at (p2 ++ [y]) q (srt_last hC.ord (by have h8 := srt_sorted hC.ord (seg.take k); rw [← hpq] at h8; exact (List.pairwise_append.1 h8).1) hyx) (fun z hz => hq z (List.mem_of_getElem? hz))
            refine T_exit ?_
            refine hK4 _ _ ?_
            refine T_region ?_
            refine L_y (y_move rfl) rfl ?_
            refine L_y (y_add rfl rfl (i64w (by omega))) rfl ?_
            refine L_y (y_assign rfl) rfl ?_
            refine L_nil ?_
            have e9 : (pre ++ (p2 ++ [y]) ++ x :: (q ++ seg.drop (k + 1) ++ post)) = pre ++ srt lt (seg.take (k + 1)) ++ seg.drop (k + 1) ++ post := by rw [take_sn2 hx, srt_snoc, hres]; simp
            have S9 := S5.rowc 0 rfl (n' := (pre ++ srt lt (seg.take (k + 1)) ++ seg.drop (k + 1) ++ post).length) (xs' := (pre ++ srt lt (seg.take (k + 1)) ++ seg.drop (k + 1) ++ post).flatMap enf) (by rw [← hln2, e9]) (by rw [e9])
            refine ⟨k + 1, by omega, ⟨⟨by omega, by omega⟩, S9⟩, ?_⟩
            exact (Sub.cons rfl (congrArg (Value.int _) (by omega)) (Sub.cons rfl rfl (Sub.cons rfl rfl (Sub.cons rfl rfl (Sub.cons rfl rfl (Sub.nil _))))))
        ·
          have hp0 : p = [] := List.eq_nil_of_length_eq_zero (by omega)
          have hres : insS lt (srt lt (seg.take k)) x = p ++ x :: q := by rw [← hpq]; exact ins_at p q (fun z hz => by rw [hp0] at hz; cases hz) (fun z hz => hq z (List.mem_of_getElem? hz))
          refine HL_gno rfl rfl rfl ?_
          refine HL_gno rfl rfl rfl ?_
          refine HL_gno rfl rfl rfl ?_
          refine HL_gno rfl rfl rfl ?_
          refine HL_gno rfl rfl rfl ?_
          refine HL_gno rfl rfl rfl ?_
          refine HL_gno rfl rfl rfl ?_
          refine HL_gno rfl rfl rfl ?_
          refine HL_gno rfl rfl rfl ?_
          refine HL_gno rfl rfl rfl ?_
          refine HL_nil ?_
          refine hK8 _ ?_
          refine L_gno rfl rfl rfl ?_
          refine L_gno rfl rfl rfl ?_
          refine L_y ((by first | exact y_pickT rfl rfl | exact y_pickF rfl rfl)) rfl ?_
          refine L_nil ?_
          refine hK7 _ _ ?_
          refine T_false rfl ?_
          refine T_exit ?_
          refine hK4 _ _ ?_
          refine T_region ?_
          refine L_y (y_move rfl) rfl ?_
          refine L_y (y_add rfl rfl (i64w (by omega))) rfl ?_
          refine L_y (y_assign rfl) rfl ?_
          refine L_nil ?_
          have e9 : (pre ++ p ++ x :: (q ++ seg.drop (k + 1) ++ post)) = pre ++ srt lt (seg.take (k + 1)) ++ seg.drop (k + 1) ++ post := by rw [take_sn2 hx, srt_snoc, hres]; simp
          have S9 := S3.rowc 0 rfl (n' := (pre ++ srt lt (seg.take (k + 1)) ++ seg.drop (k + 1) ++ post).length) (xs' := (pre ++ srt lt (seg.take (k + 1)) ++ seg.drop (k + 1) ++ post).flatMap enf) (by rw [← hln2, e9]) (by rw [e9])
          refine ⟨k + 1, by omega, ⟨⟨by omega, by omega⟩, S9⟩, ?_⟩
          exact (Sub.cons rfl (congrArg (Value.int _) (by omega)) (Sub.cons rfl rfl (Sub.cons rfl rfl (Sub.cons rfl rfl (Sub.cons rfl rfl (Sub.nil _))))))
    ·
      refine T_exit ?_
      first | refine end0 (fn := Try.f44) rfl ?_ | (simp only [thenQ, inB, if_true]; refine end0 (fn := Try.f44) rfl ?_)
      have h := S1.turned1 0 rfl
      rw [List.take_of_length_le (by omega), List.drop_of_length_le (by omega), List.append_nil] at h
      exact ⟨_, rfl, h⟩
end Go.Proofs.Ytmgimcdkeelnpaa
