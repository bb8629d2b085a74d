import Derived.Test.YtmgimcdkeelnpaaMgPutsW1
import Derived.Lib.Bytealg
import Derived.Shelf.Small.Strs
import Derived.Shelf.Strings.Search1
import Derived.Shelf.Bytes.SlIndexAt
import Derived.Maps.Views
import Derived.StringKeys

/-
  rotate; insertion.
-/
namespace Go.Proofs.Ytmgimcdkeelnpaa
open Go.RowKit Zk Zx
set_option linter.unusedVariables false
set_option linter.unusedSimpArgs false

set_option maxRecDepth 100000 in
theorem rotat (A : Option Addr) (n c : Nat) (a m b : Int) (pre X Y post : List EV) (fv : Value) (w0 : World) (hw : (enR A c (pre ++ X ++ Y ++ post)).holds w0) (hn : n = (pre ++ X ++ Y ++ post).length) (ha : a = (pre.length : Int)) (hm : m = ((pre.length + X.length : Nat) : Int)) (hb : b = ((pre.length + X.length + Y.length : Nat) : Int)) (hX : 0 < X.length) (hY : 0 < Y.length) (hn5 : n ≤ 10000) :
    Calls Try.prog 52 #[.slice A n c, .int .i64 a, .int .i64 m, .int .i64 b, fv] w0 fun e w' => ∃ u, e = .returned u ∧ Turned w0 w' (enR A c (pre ++ X ++ Y ++ post)) (enR A c (pre ++ Y ++ X ++ post)) := by
  refine enter1 (env := [(0, .slice A n c), (1, .int .i64 a), (2, .int .i64 m), (3, .int .i64 b), (4, fv)]) [.slice A n c, .int .i64 a, .int .i64 m, .int .i64 b, fv] Try.func52 rfl Try.ntmps52 rfl rfl ?_
  have hn0 := hn; simp only [List.length_append] at hn; subst ha hm hb; have S0 := St.borrow1 (enR A c (pre ++ X ++ Y ++ post)) hw (enR_lt hw)
  refine T_seq fun K1 hK1 => ?_
  refine T_region ?_
  refine L_y (y_move rfl) rfl ?_
  refine L_y (y_move rfl) rfl ?_
  refine L_y (y_sub rfl rfl (i64w (by omega))) rfl ?_
  refine L_y (y_assign rfl) rfl ?_
  refine L_nil ?_
  refine hK1 _ _ ?_
  refine T_seq fun K2 hK2 => ?_
  refine T_region ?_
  refine L_y (y_move rfl) rfl ?_
  refine L_y (y_move rfl) rfl ?_
  refine L_y (y_sub rfl rfl (i64w (by omega))) rfl ?_
  refine L_y (y_assign rfl) rfl ?_
  refine L_nil ?_
  refine hK2 _ _ ?_
  refine T_seq fun K3 hK3 => ?_
  refine T_block ?_
  refine T_loop4 [(0, _), (2, _), (4, _)] (fun (P : List EV) (U : List EV) (V : List EV) (Q : List EV) => [(10, .int .i64 (U.length : Int)), (11, .int .i64 (V.length : Int))]) (fun (P : List EV) (U : List EV) (V : List EV) (Q : List EV) => U.length + V.length) (fun (P : List EV) (U : List EV) (V : List EV) (Q : List EV) (w : World) => (P.length + U.length = X.length ∧ V.length + Q.length = Y.length ∧ P ++ V ++ U ++ Q = Y ++ X ∧ 0 < U.length ∧ 0 < V.length) ∧ St w0 (enR A c (pre ++ X ++ Y ++ post)).dom [enR A c (pre ++ (P ++ U ++ V ++ Q) ++ post)] w) [] X Y [] (Sub.cons rfl (by first | rfl | exact congrArg (Value.int _) (by omega)) (Sub.cons rfl (by first | rfl | exact congrArg (Value.int _) (by omega)) (Sub.nil _))) (Sub.cons rfl rfl (Sub.cons rfl rfl (Sub.cons rfl rfl (Sub.nil _)))) ?_ ?_
  ·
    exact ⟨⟨by simp, by simp, by simp, by omega, by omega⟩, by simpa using S0⟩
  ·
    intro P U V Q w1 hrel
    obtain ⟨⟨h1, h2, h3, h4, h5⟩, S1⟩ := hrel
    refine T_seq fun K4 hK4 => ?_
    refine T_seq fun K5 hK5 => ?_
    refine T_region ?_
    refine L_y (y_move rfl) rfl ?_
    refine L_y (y_move rfl) rfl ?_
    refine L_y (y_neq rfl rfl) rfl ?_
    refine L_nil ?_
    refine hK5 _ _ ?_
    refine T_cond rfl (fun h20 => ?_) (fun h20 => ?_)
    ·
      refine T_skip ?_
      refine hK4 _ _ ?_
      refine T_block ?_
      refine T_seq fun K6 hK6 => ?_
      refine T_region ?_
      refine L_y (y_move rfl) rfl ?_
      refine L_y (y_move rfl) rfl ?_
      refine L_y (y_gtr rfl rfl) rfl ?_
      refine L_nil ?_
      refine hK6 _ _ ?_
      refine T_cond rfl (fun h23 => ?_) (fun h23 => ?_)
      ·
        obtain ⟨U1, U2, rfl, hU⟩ : ∃ U1 U2, U = U1 ++ U2 ∧ U1.length = V.length := ⟨U.take V.length, U.drop V.length, (List.take_append_drop _ _).symm, by rw [List.length_take]; omega⟩
        have hUl : (U1 ++ U2).length = U1.length + U2.length := List.length_append
        rw [show (pre ++ (P ++ (U1 ++ U2) ++ V ++ Q) ++ post) = (pre ++ P) ++ U1 ++ U2 ++ V ++ (Q ++ post) from by simp] at S1
        refine T_seq fun K7 hK7 => ?_
        refine T_region ?_
        refine L_y (y_move rfl) rfl ?_
        refine L_y (y_move rfl) rfl ?_
        refine L_y (y_move rfl) rfl ?_
        refine L_y (y_sub rfl rfl (i64w (by omega))) rfl ?_
        refine L_y (y_move rfl) rfl ?_
        refine L_y (y_move rfl) rfl ?_
        refine L_y (y_move rfl) rfl ?_
        refine L_o (o_call Try.func60 rfl rfl (swapr A n c _ _ _ (pre ++ P) U1 U2 V (Q ++ post) fv w1 (S1.get 0 rfl) (by omega) (by rw [hn0]; simp at *; omega) (by simp; omega) (by simp; omega) (by omega) hn5) rfl rfl ?_)
        rintro e2 w2 ⟨v2, rfl, T2⟩
        refine ⟨_, rfl, ?_⟩
        have S2 := S1.turn 0 rfl T2
        refine L_nil ?_
        refine hK7 _ _ ?_
        refine T_region ?_
        refine L_y (y_move rfl) rfl ?_
        refine L_y (y_move rfl) rfl ?_
        refine L_y (y_sub rfl rfl (i64w (by omega))) rfl ?_
        refine L_y (y_assign rfl) rfl ?_
        refine L_nil ?_
        refine ⟨P ++ V, U2, U1, Q, by omega, ⟨⟨by simp; omega, by omega, by rw [← h3]; simp, by omega, by omega⟩, by simpa using S2⟩, ?_⟩
        exact (Sub.cons rfl (congrArg (Value.int _) (by omega)) (Sub.cons rfl (congrArg (Value.int _) (by omega)) (Sub.cons rfl rfl (Sub.cons rfl rfl (Sub.cons rfl rfl (Sub.nil _))))))
      ·
        obtain ⟨V1, V2, rfl, hV⟩ : ∃ V1 V2, V = V1 ++ V2 ∧ V2.length = U.length := ⟨V.take (V.length - U.length), V.drop (V.length - U.length), (List.take_append_drop _ _).symm, by rw [List.length_drop]; omega⟩
        have hVl : (V1 ++ V2).length = V1.length + V2.length := List.length_append
        rw [show (pre ++ (P ++ U ++ (V1 ++ V2) ++ Q) ++ post) = (pre ++ P) ++ U ++ V1 ++ V2 ++ (Q ++ post) from by simp] at S1
        refine T_seq fun K8 hK8 => ?_
        refine T_region ?_
        refine L_y (y_move rfl) rfl ?_
        refine L_y (y_move rfl) rfl ?_
        refine L_y (y_move rfl) rfl ?_
        refine L_y (y_sub rfl rfl (i64w (by omega))) rfl ?_
        refine L_y (y_move rfl) rfl ?_
        refine L_y (y_move rfl) rfl ?_
        refine L_y (y_add rfl rfl (i64w (by omega))) rfl ?_
        refine L_y (y_move rfl) rfl ?_
        refine L_y (y_sub rfl rfl (i64w (by omega))) rfl ?_
        refine L_y (y_move rfl) rfl ?_
        refine L_y (y_move rfl) rfl ?_
        refine L_o (o_call Try.func60 rfl rfl (swapr A n c _ _ _ (pre ++ P) U V1 V2 (Q ++ post) fv w1 (S1.get 0 rfl) (by omega) (by rw [hn0]; simp at *; omega) (by simp; omega) (by simp; omega) (by omega) hn5) rfl rfl ?_)
        rintro e3 w3 ⟨v3, rfl, T3⟩
        refine ⟨_, rfl, ?_⟩
        have S3 := S1.turn 0 rfl T3
        refine L_nil ?_
        refine hK8 _ _ ?_
        refine T_region ?_
        refine L_y (y_move rfl) rfl ?_
        refine L_y (y_move rfl) rfl ?_
        refine L_y (y_sub rfl rfl (i64w (by omega))) rfl ?_
        refine L_y (y_assign rfl) rfl ?_
        refine L_nil ?_
        refine ⟨P, V2, V1, U ++ Q, by omega, ⟨⟨by omega, by simp; omega, by rw [← h3]; simp, by omega, by omega⟩, by simpa using S3⟩, ?_⟩
        exact (Sub.cons rfl (congrArg (Value.int _) (by omega)) (Sub.cons rfl (congrArg (Value.int _) (by omega)) (Sub.cons rfl rfl (Sub.cons rfl rfl (Sub.cons rfl rfl (Sub.nil _))))))
    ·
      have hUV : U.length = V.length := by omega
      rw [show (pre ++ (P ++ U ++ V ++ Q) ++ post) = (pre ++ P) ++ U ++ [] ++ V ++ (Q ++ post) from by simp] at S1
      refine T_exit ?_
      refine hK3 _ _ ?_
      refine T_region ?_
      refine L_y (y_move rfl) rfl ?_
      refine L_y (y_move rfl) rfl ?_
      refine L_y (y_move rfl) rfl ?_
      refine L_y (y_sub rfl rfl (i64w (by omega))) rfl ?_
      refine L_y (y_move rfl) rfl ?_
      refine L_y (y_move rfl) rfl ?_
      refine L_y (y_move rfl) rfl ?_
      refine L_o (o_call Try.func60 rfl rfl (swapr A n c _ _ _ (pre ++ P) U [] V (Q ++ post) fv w1 (S1.get 0 rfl) (by omega) (by rw [hn0]; simp at *; omega) (by simp; omega) (by simp; omega) (by omega) hn5) rfl rfl ?_)
      rintro e4 w4 ⟨v4, rfl, T4⟩
      refine ⟨_, rfl, ?_⟩
      have S4 := S1.turn 0 rfl T4
      refine L_nil ?_
      first | refine end0 (fn := Try.f52) rfl ?_ | (simp only [thenQ, inB, if_true]; refine end0 (fn := Try.f52) rfl ?_)
      exact ⟨_, rfl, by have h := S4.turned1 0 rfl; rw [show (pre ++ P) ++ V ++ [] ++ U ++ (Q ++ post) = pre ++ (P ++ V ++ U ++ Q) ++ post from by simp, h3, show pre ++ (Y ++ X) ++ post = pre ++ Y ++ X ++ post from by simp] at h; exact h⟩


theorem drop_hd2 {α : Type} {l : List α} {k : Nat} {x : α} (h : l[k]? = some x) : l.drop k = x :: l.drop (k + 1) := by
  obtain ⟨h1, h2⟩ := List.getElem?_eq_some_iff.1 h
  rw [← h2, List.getElem_cons_drop]
theorem take_sn2 {α : Type} {l : List α} {k : Nat} {x : α} (h : l[k]? = some x) : l.take (k + 1) = l.take k ++ [x] := by rw [List.take_add_one, h]; rfl


set_option maxRecDepth 100000 in
theorem insor (A : Option Addr) (n c : Nat) (a b : Int) (pre seg post : List EV) (F : Nat) (lt : EV → EV → Bool) (w0 : World) (hw : (enR A c (pre ++ seg ++ post)).holds w0) (hC : CMP F lt) (hn : n = (pre ++ seg ++ post).length) (ha : a = (pre.length : Int)) (hb : b = ((pre.length + seg.length : Nat) : Int)) (hn5 : n ≤ 10000) :
    Calls Try.prog 44 #[.slice A n c, .int .i64 a, .int .i64 b, .func (.func F) #[] #[]] w0 fun e w' => ∃ u, e = .returned u ∧ Turned w0 w' (enR A c (pre ++ seg ++ post)) (enR A c (pre ++ srt lt seg ++ post)) := by
  refine enter1 (env := [(0, .slice A n c), (1, .int .i64 a), (2, .int .i64 b), (3, .func (.func F) #[] #[])]) [.slice A n c, .int .i64 a, .int .i64 b, .func (.func F) #[] #[]] Try.func44 rfl Try.ntmps44 rfl rfl ?_
  have hn0 := hn; simp only [List.length_append] at hn; subst ha hb; obtain ⟨fx, hfn, hnm, hbd⟩ := hC.fn; have S0 := St.borrow1 (enR A c (pre ++ seg ++ post)) hw (enR_lt hw)
  refine T_seq fun K1 hK1 => ?_
  refine T_region ?_
  refine L_y (y_move rfl) rfl ?_
  refine L_y (y_add rfl rfl (i64w (by omega))) rfl ?_
  refine L_y (y_assign rfl) rfl ?_
  refine L_nil ?_
  refine hK1 _ _ ?_
  refine T_block ?_
  refine T_loop1 [(0, _), (1, _), (2, _), (3, _)] (fun (k : Nat) => [(8, .int .i64 ((pre.length + k : Nat) : Int))]) (fun (k : Nat) => seg.length - k) (fun (k : Nat) (w : World) => (1 ≤ k ∧ (k ≤ seg.length ∨ k = 1)) ∧ St w0 (enR A c (pre ++ seg ++ post)).dom [enR A c (pre ++ srt lt (seg.take k) ++ seg.drop k ++ post)] w) 1 (Sub.cons rfl (by first | rfl | exact congrArg (Value.int _) (by omega)) (Sub.nil _)) (Sub.cons rfl rfl (Sub.cons rfl rfl (Sub.cons rfl rfl (Sub.cons rfl rfl (Sub.nil _))))) ?_ ?_
  ·
    have e1 : srt lt (seg.take 1) ++ seg.drop 1 = seg := by cases seg with | nil => rfl | cons z t => rfl
    exact ⟨⟨Nat.le_refl _, .inr rfl⟩, by rw [show (pre ++ srt lt (seg.take 1) ++ seg.drop 1 ++ post) = pre ++ seg ++ post from by rw [List.append_assoc pre, e1]]; exact S0⟩
  ·
    intro k w1 hrel
    obtain ⟨⟨hk1, hk⟩, S1⟩ := hrel
    refine T_seq fun K2 hK2 => ?_
    refine T_seq fun K3 hK3 => ?_
    refine T_region ?_
    refine L_y (y_move rfl) rfl ?_
    refine L_y (y_move rfl) rfl ?_
    refine L_y (y_lss rfl rfl) rfl ?_
    refine L_nil ?_
    refine hK3 _ _ ?_
    refine T_cond rfl (fun h14 => ?_) (fun h14 => ?_)
    ·
      obtain ⟨x, hx⟩ : ∃ x, seg[k]? = some x := ⟨_, List.getElem?_eq_getElem (by omega)⟩
      have hsl : (srt lt (seg.take k)).length = k := by rw [srt_len, List.length_take]; omega
      refine T_skip ?_
      refine hK2 _ _ ?_
      refine T_seq fun K4 hK4 => ?_
      refine T_block ?_
      refine T_seq fun K5 hK5 => ?_
      refine T_region ?_
      refine L_y (y_move rfl) rfl ?_
      refine L_y (y_assign rfl) rfl ?_
      refine L_nil ?_
      refine hK5 _ _ ?_
      refine T_block ?_
      refine T_loop2 [(0, _), (1, _), (2, _), (3, _), (8, _)] (fun (p : List EV) (q : List EV) => [(9, .int .i64 ((pre.length + p.length : Nat) : Int))]) (fun (p : List EV) (q : List EV) => p.length) (fun (p : List EV) (q : List EV) (w : World) => (p ++ q = srt lt (seg.take k) ∧ (∀ y ∈ q, lt x y = true)) ∧ St w0 (enR A c (pre ++ seg ++ post)).dom [enR A c (pre ++ p ++ x :: (q ++ seg.drop (k + 1) ++ post))] w) (srt lt (seg.take k)) [] (Sub.cons rfl (by first | rfl | exact congrArg (Value.int _) (by omega)) (Sub.nil _)) (Sub.cons rfl rfl (Sub.cons rfl rfl (Sub.cons rfl rfl (Sub.cons rfl rfl (Sub.cons rfl rfl (Sub.nil _)))))) ?_ ?_
      ·
        exact ⟨⟨by simp, fun y hy => by cases hy⟩, by rw [drop_hd2 hx] at S1; simpa using S1⟩
      ·
        intro p q w2 hrel
        obtain ⟨⟨hpq, hq⟩, S2⟩ := hrel
        have hpl : p.length + q.length = k := by rw [← List.length_append, hpq, srt_len, List.length_take]; omega
        have hln2 : (pre ++ p ++ x :: (q ++ seg.drop (k + 1) ++ post)).length = n := by simp; omega
        rw [show enR A c (pre ++ p ++ x :: (q ++ seg.drop (k + 1) ++ post)) = Zx.row 39 34 A n c ((pre ++ p ++ x :: (q ++ seg.drop (k + 1) ++ post)).flatMap enf) from by rw [← hln2]; rfl] at S2
        refine T_seq fun K6 hK6 => ?_
        refine T_seq fun K7 hK7 => ?_
        refine T_tail 14 hmix (by kernel_rfl) fun w3 l3 K8 hK8 => ?_
        have S3 := S2.like l3
        refine HL_y (y_move rfl) rfl ?_
        refine HL_y (y_move rfl) rfl ?_
        refine HL_y (y_gtr rfl rfl) rfl ?_
        refine HL_y (y_move rfl) rfl ?_
        refine HL_split 21 rfl (fun h21 => ?_) (fun h21 => ?_)
        ·
          obtain ⟨p2, y, rfl⟩ : ∃ p2 y, p = p2 ++ [y] := by rcases List.eq_nil_or_concat p with rfl | ⟨p2, y, rfl⟩; (simp at h21); exact ⟨p2, y, by simp⟩
          have hpl2 : (p2 ++ [y]).length = p2.length + 1 := by simp
          obtain ⟨gy, gx, hset⟩ := exch2 (l := (pre ++ (p2 ++ [y]) ++ x :: (q ++ seg.drop (k + 1) ++ post))) (i := pre.length + p2.length) (j := pre.length + p2.length + 1) (p := pre ++ p2) (q := []) (r := q ++ seg.drop (k + 1) ++ post) (x := y) (y := x) (by simp) (by simp) (by simp)
          refine HL_gyes rfl rfl ?_
          refine HL_y (y_move rfl) rfl ?_
          refine HL_gyes rfl rfl ?_
          refine HL_y (y_move rfl) rfl ?_
          refine HL_gyes rfl rfl ?_
          refine HL_y (y_move rfl) rfl ?_
          refine HL_gyes rfl rfl ?_
          refine HL_y (y_idx Try.underlying22 sz39 rfl rfl (S3.row 0 rfl) (Nt.mk (by omega) : Nt _ (pre.length + p2.length + 1)) (by omega)) rfl ?_
          refine HL_gyes rfl rfl ?_
          refine HL_y (y_ldp (f := enf) enf_len Try.underlying39 rfl sz39 rfl (S3.row 0 rfl) (by omega) gx) rfl ?_
          refine HL_gyes rfl rfl ?_
          refine HL_y (y_move rfl) rfl ?_
          refine HL_gyes rfl rfl ?_
          refine HL_y (y_move rfl) rfl ?_
          refine HL_gyes rfl rfl ?_
          refine HL_y (y_sub rfl rfl (i64w (by omega))) rfl ?_
          refine HL_gyes rfl rfl ?_
          refine HL_y (y_idx Try.underlying22 sz39 rfl rfl (S3.row 0 rfl) (Nt.mk (by omega) : Nt _ (pre.length + p2.length)) (by omega)) rfl ?_
          refine HL_gyes rfl rfl ?_
          refine HL_y (y_ldp (f := enf) enf_len Try.underlying39 rfl sz39 rfl (S3.row 0 rfl) (by omega) gy) rfl ?_
          refine HL_nil ?_
          refine hK8 _ ?_
          refine L_gyes rfl rfl ?_
          refine L_o (o_callv (fs := []) (cs := []) rfl hfn hnm hbd (hC.call x y w3) rfl rfl (fun d' hd => by cases hd <;> rfl) ?_)
          rintro e5 w5 ⟨v5, rfl, l5, v32, rfl, hv32⟩
          refine ⟨_, rfl, ?_⟩
          have S5 := S3.like l5
          refine L_gyes rfl rfl ?_
          refine L_y (y_lss rfl rfl) rfl ?_
          refine L_y (y_pk rfl rfl) rfl ?_
          refine L_nil ?_
          refine hK7 _ _ ?_
          refine T_cond rfl (fun h34 => ?_) (fun h34 => ?_)
          ·
            have hyx : lt x y = true := hv32.1 (by omega)
            refine T_skip ?_
            refine hK6 _ _ ?_
            refine T_seq fun K9 hK9 => ?_
            refine T_block ?_
            refine T_zed [0, 1, 5, 6, 7, 8, 9, 10, 11, 12, 13, 14] 15 [(2, 0), (3, 0), (4, 0), (0, 1), (1, 1), (5, 1), (6, 1), (7, 1), (8, 1), (9, 1), (10, 1), (11, 1), (12, 1), (13, 1), (14, 1), (15, 3), (16, 3), (17, 3)] hmix (by kernel_rfl) fun w6 l6 => ?_
            have S6 := S5.like l6
            refine ZA_y rfl (y_move rfl) rfl ?_
            refine ZA_y rfl (y_move rfl) rfl ?_
            refine ZA_y rfl (y_sub rfl rfl (i64w (by omega))) rfl ?_
            refine ZA_B (Like w6) (Like.refl _) ?_
            refine ZB_y rfl (y_move rfl) rfl ?_
            refine ZB_y rfl (y_move rfl) rfl ?_
            refine ZB_y rfl (y_move rfl) rfl ?_
            refine ZB_y rfl (y_move rfl) rfl ?_
            refine ZB_y rfl (y_sub rfl rfl (i64w (by omega))) rfl ?_
            refine ZB_y rfl (y_idx Try.underlying22 sz39 rfl rfl (S6.row 0 rfl) (Nt.mk (by omega) : Nt _ (pre.length + p2.length)) (by omega)) rfl ?_
            refine ZB_y rfl (y_ldp (f := enf) enf_len Try.underlying39 rfl sz39 rfl (S6.row 0 rfl) (by omega) gy) rfl ?_
            refine ZB_y rfl (y_move rfl) rfl ?_
            refine ZB_y rfl (y_move rfl) rfl ?_
            refine ZB_y rfl (y_idx Try.underlying22 sz39 rfl rfl (S6.row 0 rfl) (Nt.mk (by omega) : Nt _ (pre.length + p2.length + 1)) (by omega)) rfl ?_
            refine ZB_y rfl (y_ldp (f := enf) enf_len Try.underlying39 rfl sz39 rfl (S6.row 0 rfl) (by omega) gx) rfl ?_
            refine ZB_y rfl (y_idx Try.underlying22 sz39 rfl rfl (S6.row 0 rfl) (Nt.mk (by omega) : Nt _ (pre.length + p2.length + 1)) (by omega)) rfl ?_
            refine ZB_c rfl (o_strowE S6 0 rfl rfl rfl (enf_one y) (enf_len y) sz39 (by omega) fun w7 S7 => ?_)
            refine ZA_oy rfl (y_idx Try.underlying22 sz39 rfl rfl (S7.row 0 rfl) (Nt.mk (by omega) : Nt _ (pre.length + p2.length)) (by omega)) rfl ?_
            refine ZA_o rfl (o_strowE S7 0 rfl rfl rfl (enf_one x) (enf_len x) sz39 (by omega) fun w8 S8 => ?_)
            refine ZA_nil ?_
            refine hK9 _ _ ?_
            refine T_region ?_
            refine L_y (y_move rfl) rfl ?_
            refine L_y (y_sub rfl rfl (i64w (by omega))) rfl ?_
            refine L_y (y_assign rfl) rfl ?_
            refine L_nil ?_
            have S9 := S8.rowc 0 rfl (n' := (pre ++ p2 ++ x :: (y :: q ++ seg.drop (k + 1) ++ post)).length) (xs' := (pre ++ p2 ++ x :: (y :: q ++ seg.drop (k + 1) ++ post)).flatMap enf) (by rw [← hln2]; simp) (by rw [ens_set (by omega), ens_set (by rw [List.length_set]; omega), hset]; simp)
            refine ⟨p2, y :: q, by simp, ⟨⟨by rw [← hpq]; simp, fun z hz => by rcases List.mem_cons.1 hz with rfl | hz; exact hyx; exact hq z hz⟩, S9⟩, ?_⟩
            exact (Sub.cons rfl (congrArg (Value.int _) (by simp; omega)) (Sub.cons rfl rfl (Sub.cons rfl rfl (Sub.cons rfl rfl (Sub.cons rfl rfl (Sub.cons rfl rfl (Sub.nil _)))))))
          ·
            have hyx : lt x y = false := by cases h9 : lt x y with | false => rfl | true => exact absurd (hv32.2 h9) (by omega)
            have hres : insS lt (srt lt (seg.take k)) x = (p2 ++ [y]) ++ x :: q := by rw [← hpq]; exact ins_at (p2 ++ [y]) q (srt_last hC.ord (by have h8 := srt_sorted hC.ord (seg.take k); rw [← hpq] at h8; exact (List.pairwise_append.1 h8).1) hyx) (fun z hz => hq z (List.mem_of_getElem? hz))
            refine T_exit ?_
            refine hK4 _ _ ?_
            refine T_region ?_
            refine L_y (y_move rfl) rfl ?_
            refine L_y (y_add rfl rfl (i64w (by omega))) rfl ?_
            refine L_y (y_assign rfl) rfl ?_
            refine L_nil ?_
            have e9 : (pre ++ (p2 ++ [y]) ++ x :: (q ++ seg.drop (k + 1) ++ post)) = pre ++ srt lt (seg.take (k + 1)) ++ seg.drop (k + 1) ++ post := by rw [take_sn2 hx, srt_snoc, hres]; simp
            have S9 := S5.rowc 0 rfl (n' := (pre ++ srt lt (seg.take (k + 1)) ++ seg.drop (k + 1) ++ post).length) (xs' := (pre ++ srt lt (seg.take (k + 1)) ++ seg.drop (k + 1) ++ post).flatMap enf) (by rw [← hln2, e9]) (by rw [e9])
            refine ⟨k + 1, by omega, ⟨⟨by omega, by omega⟩, S9⟩, ?_⟩
            exact (Sub.cons rfl (congrArg (Value.int _) (by omega)) (Sub.cons rfl rfl (Sub.cons rfl rfl (Sub.cons rfl rfl (Sub.cons rfl rfl (Sub.nil _))))))
        ·
          have hp0 : p = [] := List.eq_nil_of_length_eq_zero (by omega)
          have hres : insS lt (srt lt (seg.take k)) x = p ++ x :: q := by rw [← hpq]; exact ins_at p q (fun z hz => by rw [hp0] at hz; cases hz) (fun z hz => hq z (List.mem_of_getElem? hz))
          refine HL_gno rfl rfl rfl ?_
          refine HL_gno rfl rfl rfl ?_
          refine HL_gno rfl rfl rfl ?_
          refine HL_gno rfl rfl rfl ?_
          refine HL_gno rfl rfl rfl ?_
          refine HL_gno rfl rfl rfl ?_
          refine HL_gno rfl rfl rfl ?_
          refine HL_gno rfl rfl rfl ?_
          refine HL_gno rfl rfl rfl ?_
          refine HL_gno rfl rfl rfl ?_
          refine HL_nil ?_
          refine hK8 _ ?_
          refine L_gno rfl rfl rfl ?_
          refine L_gno rfl rfl rfl ?_
          refine L_y (y_pk rfl rfl) rfl ?_
          refine L_nil ?_
          refine hK7 _ _ ?_
          refine T_false rfl ?_
          refine T_exit ?_
          refine hK4 _ _ ?_
          refine T_region ?_
          refine L_y (y_move rfl) rfl ?_
          refine L_y (y_add rfl rfl (i64w (by omega))) rfl ?_
          refine L_y (y_assign rfl) rfl ?_
          refine L_nil ?_
          have e9 : (pre ++ p ++ x :: (q ++ seg.drop (k + 1) ++ post)) = pre ++ srt lt (seg.take (k + 1)) ++ seg.drop (k + 1) ++ post := by rw [take_sn2 hx, srt_snoc, hres]; simp
          have S9 := S3.rowc 0 rfl (n' := (pre ++ srt lt (seg.take (k + 1)) ++ seg.drop (k + 1) ++ post).length) (xs' := (pre ++ srt lt (seg.take (k + 1)) ++ seg.drop (k + 1) ++ post).flatMap enf) (by rw [← hln2, e9]) (by rw [e9])
          refine ⟨k + 1, by omega, ⟨⟨by omega, by omega⟩, S9⟩, ?_⟩
          exact (Sub.cons rfl (congrArg (Value.int _) (by omega)) (Sub.cons rfl rfl (Sub.cons rfl rfl (Sub.cons rfl rfl (Sub.cons rfl rfl (Sub.nil _))))))
    ·
      refine T_exit ?_
      first | refine end0 (fn := Try.f44) rfl ?_ | (simp only [thenQ, inB, if_true]; refine end0 (fn := Try.f44) rfl ?_)
      have h := S1.turned1 0 rfl
      rw [List.take_of_length_le (by omega), List.drop_of_length_le (by omega), List.append_nil] at h
      exact ⟨_, rfl, h⟩
end Go.Proofs.Ytmgimcdkeelnpaa


/-
  symMerge.
-/
namespace Go.Proofs.Ytmgimcdkeelnpaa
open Go.RowKit Zk Zx
set_option linter.unusedVariables false
set_option linter.unusedSimpArgs false

theorem shr1 (x : Nat) : Int.fdiv (x : Int) (2 ^ (min (1 : Int).toNat IntKind.u64.bits)) = ((x / 2 : Nat) : Int) := by
  have e1 : min (1 : Int).toNat IntKind.u64.bits = 1 := by decide
  rw [e1, Int.fdiv_eq_ediv_of_nonneg _ (Int.pow_nonneg (by omega)), Int.natCast_ediv]
  rfl
theorem split_at {α : Type} (l : List α) (i : Nat) (h : i ≤ l.length) : ∃ u v, l = u ++ v ∧ u.length = i := ⟨l.take i, l.drop i, (List.take_append_drop _ _).symm, by rw [List.length_take]; omega⟩
/-- Where a merge is split: by what was found at the border alone. -/
theorem sym_split {lt : EV → EV → Bool} (O : Ord3 lt) {a1 b1 a2 b2 : List EV} (h1 : Srt lt (a1 ++ b1)) (h2 : Srt lt (a2 ++ b2))
    (hi : (a1 = [] ∨ b2 = []) ∨ ∃ x y, (a1 ++ b1)[a1.length - 1]? = some x ∧ (a2 ++ b2)[a2.length]? = some y ∧ lt y x = false ∧ 0 < a1.length)
    (hj : (b1 = [] ∨ a2 = []) ∨ ∃ x y, (a1 ++ b1)[a1.length]? = some x ∧ (a2 ++ b2)[a2.length - 1]? = some y ∧ lt y x = true ∧ 0 < a2.length) :
    mrg lt (a1 ++ b1) (a2 ++ b2) = mrg lt a1 a2 ++ mrg lt b1 b2 := by
  have p1 := List.pairwise_append.1 h1
  have p2 := List.pairwise_append.1 h2
  refine mrg_split a1 a2 b1 b2 (fun x hx y hy => ?_) (fun y hy x hx => ?_)
  · rcases hi with (h | h) | ⟨x0, y0, hx0, hy0, h0, hp⟩
    · rw [h] at hx; cases hx
    · rw [h] at hy; cases hy
    · obtain ⟨q, z, rfl⟩ : ∃ q z, a1 = q ++ [z] := by
        rcases List.eq_nil_or_concat a1 with rfl | ⟨q, z, rfl⟩
        · cases hx
        · exact ⟨q, z, by simp⟩
      have e1 : z = x0 := by simpa using hx0
      subst e1
      have h3 : lt y0 x = false := by
        rcases List.mem_append.1 hx with hx | hx
        · exact O.nt _ _ _ h0 ((List.pairwise_append.1 p1.1).2.2 x hx z (by simp))
        · rw [List.mem_singleton.1 hx]; exact h0
      cases b2 with
      | nil => cases hy
      | cons w b2 =>
        have e2 : w = y0 := by simpa using hy0
        subst e2
        exact srt_head O p2.2.1 h3 y hy
  · rcases hj with (h | h) | ⟨x0, y0, hx0, hy0, h0, hp⟩
    · rw [h] at hx; cases hx
    · rw [h] at hy; cases hy
    · obtain ⟨q, z, rfl⟩ : ∃ q z, a2 = q ++ [z] := by
        rcases List.eq_nil_or_concat a2 with rfl | ⟨q, z, rfl⟩
        · cases hy
        · exact ⟨q, z, by simp⟩
      have e1 : z = y0 := by simpa using hy0
      subst e1
      have h3 : lt y x0 = true := srt_last2 O p2.1 h0 y hy
      cases b1 with
      | nil => cases hx
      | cons w b1 =>
        have e2 : w = x0 := by simpa using hx0
        subst e2
        exact srt_head2 O p1.2.1 h3 x hx
/-- What symMerge does to two sorted parts. -/
def SMok (A : Option Addr) (n c F : Nat) (lt : EV → EV → Bool) (pre l1 l2 post : List EV) : Prop :=
  ∀ (a m b : Int) (w0 : World), (enR A c (pre ++ l1 ++ l2 ++ post)).holds w0 → n = (pre ++ l1 ++ l2 ++ post).length → a = (pre.length : Int) → m = ((pre.length + l1.length : Nat) : Int) → b = ((pre.length + l1.length + l2.length : Nat) : Int) →
    0 < l1.length → 0 < l2.length → Srt lt l1 → Srt lt l2 →
    Calls Try.prog 45 #[.slice A n c, .int .i64 a, .int .i64 m, .int .i64 b, .func (.func F) #[] #[]] w0 fun e w' => ∃ u, e = .returned u ∧ Turned w0 w' (enR A c (pre ++ l1 ++ l2 ++ post)) (enR A c (pre ++ mrg lt l1 l2 ++ post))


set_option maxRecDepth 100000 in
theorem symst (A : Option Addr) (n c N : Nat) (a m b : Int) (pre l1 l2 post : List EV) (F : Nat) (lt : EV → EV → Bool) (w0 : World) (hw : (enR A c (pre ++ l1 ++ l2 ++ post)).holds w0) (hC : CMP F lt) (hn : n = (pre ++ l1 ++ l2 ++ post).length) (ha : a = (pre.length : Int)) (hm : m = ((pre.length + l1.length : Nat) : Int)) (hb : b = ((pre.length + l1.length + l2.length : Nat) : Int)) (h1 : 0 < l1.length) (h2 : 0 < l2.length) (hs1 : Srt lt l1) (hs2 : Srt lt l2) (hN : l1.length + l2.length = N) (ih : ∀ pre l1 l2 post, l1.length + l2.length < N → SMok A n c F lt pre l1 l2 post) (hn5 : n ≤ 10000) :
    Calls Try.prog 45 #[.slice A n c, .int .i64 a, .int .i64 m, .int .i64 b, .func (.func F) #[] #[]] w0 fun e w' => ∃ u, e = .returned u ∧ Turned w0 w' (enR A c (pre ++ l1 ++ l2 ++ post)) (enR A c (pre ++ mrg lt l1 l2 ++ post)) := by
  refine enter1 (env := [(0, .slice A n c), (1, .int .i64 a), (2, .int .i64 m), (3, .int .i64 b), (4, .func (.func F) #[] #[])]) [.slice A n c, .int .i64 a, .int .i64 m, .int .i64 b, .func (.func F) #[] #[]] Try.func45 rfl Try.ntmps45 rfl rfl ?_
  have hn0 := hn; simp only [List.length_append] at hn; subst ha hm hb; obtain ⟨fx, hfn, hnm, hbd⟩ := hC.fn; have SS := St.borrow1 (enR A c (pre ++ l1 ++ l2 ++ post)) hw (enR_lt hw); have S0 := SS.rowc 0 rfl (n' := n) (xs' := (pre ++ l1 ++ l2 ++ post).flatMap enf) hn0.symm rfl
  refine T_seq fun K1 hK1 => ?_
  refine T_seq fun K2 hK2 => ?_
  refine T_region ?_
  refine L_y (y_move rfl) rfl ?_
  refine L_y (y_move rfl) rfl ?_
  refine L_y (y_sub rfl rfl (i64w (by omega))) rfl ?_
  refine L_y (y_eql rfl rfl) rfl ?_
  refine L_nil ?_
  refine hK2 _ _ ?_
  refine T_cond rfl (fun h28 => ?_) (fun h28 => ?_)
  ·
    obtain ⟨x, rfl⟩ : ∃ x, l1 = [x] := List.length_eq_one_iff.1 (by omega)
    have hx1 : [x].length = 1 := rfl
    have gx : (pre ++ [x] ++ l2 ++ post)[pre.length]? = some x := by simp
    refine T_seq fun K3 hK3 => ?_
    refine T_region ?_
    refine L_y (y_move rfl) rfl ?_
    refine L_y (y_assign rfl) rfl ?_
    refine L_nil ?_
    refine hK3 _ _ ?_
    refine T_seq fun K4 hK4 => ?_
    refine T_region ?_
    refine L_y (y_move rfl) rfl ?_
    refine L_y (y_assign rfl) rfl ?_
    refine L_nil ?_
    refine hK4 _ _ ?_
    refine T_seq fun K5 hK5 => ?_
    refine T_block ?_
    refine T_loop2 [(0, _), (1, _), (4, _)] (fun (i : Nat) (j : Nat) => [(10, .int .i64 ((pre.length + 1 + i : Nat) : Int)), (11, .int .i64 ((pre.length + 1 + j : Nat) : Int))]) (fun (i : Nat) (j : Nat) => j - i) (fun (i : Nat) (j : Nat) (w : World) => (i ≤ j ∧ j ≤ l2.length ∧ (∀ y, 0 < i → l2[i - 1]? = some y → lt y x = true) ∧ (∀ y, l2[j]? = some y → lt y x = false)) ∧ St w0 (enR A c (pre ++ [x] ++ l2 ++ post)).dom [Zx.row 39 34 A n c ((pre ++ [x] ++ l2 ++ post).flatMap enf)] w) 0 l2.length (Sub.cons rfl (by first | rfl | exact congrArg (Value.int _) (by omega)) (Sub.cons rfl (by first | rfl | exact congrArg (Value.int _) (by omega)) (Sub.nil _))) (Sub.cons rfl rfl (Sub.cons rfl rfl (Sub.cons rfl rfl (Sub.nil _)))) ?_ ?_
    ·
      exact ⟨⟨Nat.zero_le _, Nat.le_refl _, fun y h => absurd h (by omega), fun y h => by rw [List.getElem?_eq_none (Nat.le_refl _)] at h; cases h⟩, S0⟩
    ·
      intro i j w1 hrel
      obtain ⟨⟨hij, hjl, hlo, hhi⟩, S1⟩ := hrel
      refine T_seq fun K6 hK6 => ?_
      refine T_seq fun K7 hK7 => ?_
      refine T_region ?_
      refine L_y (y_move rfl) rfl ?_
      refine L_y (y_move rfl) rfl ?_
      refine L_y (y_lss rfl rfl) rfl ?_
      refine L_nil ?_
      refine hK7 _ _ ?_
      refine T_cond rfl (fun h33 => ?_) (fun h33 => ?_)
      ·
        obtain ⟨z, hz⟩ : ∃ z, l2[(i + j) / 2]? = some z := ⟨_, List.getElem?_eq_getElem (by omega)⟩
        have gz : (pre ++ [x] ++ l2 ++ post)[pre.length + 1 + (i + j) / 2]? = some z := by rw [List.append_assoc, List.getElem?_append_right (by simp), List.getElem?_append_left (by simp; omega)]; simpa [Nat.add_sub_cancel_left] using hz
        refine T_skip ?_
        refine hK6 _ _ ?_
        refine T_block ?_
        refine T_seq fun K8 hK8 => ?_
        refine T_region ?_
        refine L_y (y_move rfl) rfl ?_
        refine L_y (y_move rfl) rfl ?_
        refine L_y (y_add rfl rfl (i64w (by omega))) rfl ?_
        refine L_y (y_conv is3 Try.underlying81 rfl (show _ = ((pre.length + 1 + i + (pre.length + 1 + j) : Nat) : Int) by rw [IntKind.wrap_u64]; omega)) rfl ?_
        refine L_y (y_shr rfl rfl (by omega) (shr1 _)) rfl ?_
        refine L_y (y_conv is81 Try.underlying3 rfl (i64w (by omega))) rfl ?_
        refine L_y (y_assign rfl) rfl ?_
        refine L_nil ?_
        refine hK8 _ _ ?_
        refine T_seq fun K9 hK9 => ?_
        refine T_tail 9 hmix (by kernel_rfl) fun w2 l2 K10 hK10 => ?_
        have S2 := S1.like l2
        refine HL_y (y_move rfl) rfl ?_
        refine HL_y (y_move rfl) rfl ?_
        refine HL_y (y_move rfl) rfl ?_
        refine HL_y (y_idx Try.underlying22 sz39 rfl rfl (S2.row 0 rfl) (Nt.mk (by omega) : Nt _ (pre.length + 1 + (i + j) / 2)) (by omega)) rfl ?_
        refine HL_y (y_ldp (f := enf) enf_len Try.underlying39 rfl sz39 rfl (S2.row 0 rfl) (by omega) gz) rfl ?_
        refine HL_y (y_move rfl) rfl ?_
        refine HL_y (y_move rfl) rfl ?_
        refine HL_y (y_idx Try.underlying22 sz39 rfl rfl (S2.row 0 rfl) (Nt.mk (by omega) : Nt _ (pre.length)) (by omega)) rfl ?_
        refine HL_y (y_ldp (f := enf) enf_len Try.underlying39 rfl sz39 rfl (S2.row 0 rfl) (by omega) gx) rfl ?_
        refine HL_nil ?_
        refine hK10 _ ?_
        refine L_o (o_callv (fs := []) (cs := []) rfl hfn hnm hbd (hC.call z x w2) rfl rfl (fun d' hd => by cases hd <;> rfl) ?_)
        rintro e3 w3 ⟨v3, rfl, l3, vc, rfl, hvc⟩
        refine ⟨_, rfl, ?_⟩
        have S3 := S2.like l3
        refine L_y (y_lss rfl rfl) rfl ?_
        refine L_nil ?_
        refine hK9 _ _ ?_
        refine T_cond rfl (fun h50 => ?_) (fun h50 => ?_)
        ·
          refine T_region ?_
          refine L_y (y_move rfl) rfl ?_
          refine L_y (y_add rfl rfl (i64w (by omega))) rfl ?_
          refine L_y (y_assign rfl) rfl ?_
          refine L_nil ?_
          refine ⟨(i + j) / 2 + 1, j, by omega, ⟨⟨by omega, hjl, fun y _ h => by rw [Nat.add_sub_cancel, hz] at h; cases h; exact hvc.1 h50, hhi⟩, S3⟩, ?_⟩
          exact (Sub.cons rfl (congrArg (Value.int _) (by omega)) (Sub.cons rfl (congrArg (Value.int _) (by omega)) (Sub.cons rfl rfl (Sub.cons rfl rfl (Sub.cons rfl rfl (Sub.nil _))))))
        ·
          refine T_region ?_
          refine L_y (y_move rfl) rfl ?_
          refine L_y (y_assign rfl) rfl ?_
          refine L_nil ?_
          refine ⟨i, (i + j) / 2, by omega, ⟨⟨by omega, by omega, hlo, fun y h => by rw [hz] at h; cases h; cases h9 : lt z x with | false => rfl | true => exact absurd (hvc.2 h9) (by omega)⟩, S3⟩, ?_⟩
          exact (Sub.cons rfl (congrArg (Value.int _) (by omega)) (Sub.cons rfl (congrArg (Value.int _) (by omega)) (Sub.cons rfl rfl (Sub.cons rfl rfl (Sub.cons rfl rfl (Sub.nil _))))))
      ·
        have hije : i = j := by omega
        subst hije
        obtain ⟨u, v, rfl, hul⟩ := split_at l2 i hjl
        subst hul
        have hv0 : (u ++ v)[u.length]? = v[0]? := by rw [List.getElem?_append_right (Nat.le_refl _), Nat.sub_self]
        have hmr := mrg_one (x := x) hC.ord hs2 (fun y h hp => hlo y hp h) (fun y h => hhi y (by rw [hv0]; exact h))
        have huv : (u ++ v).length = u.length + v.length := List.length_append
        refine T_exit ?_
        refine hK5 _ _ ?_
        refine T_seq fun K11 hK11 => ?_
        refine T_seq fun K12 hK12 => ?_
        refine T_region ?_
        refine L_y (y_move rfl) rfl ?_
        refine L_y (y_assign rfl) rfl ?_
        refine L_nil ?_
        refine hK12 _ _ ?_
        refine T_block ?_
        refine T_loop1 [(0, _), (10, _)] (fun (t : Nat) => [(13, .int .i64 ((pre.length + t : Nat) : Int))]) (fun (t : Nat) => u.length - t) (fun (t : Nat) (w : World) => t ≤ u.length ∧ St w0 (enR A c (pre ++ [x] ++ (u ++ v) ++ post)).dom [enR A c (pre ++ u.take t ++ x :: (u.drop t ++ v ++ post))] w) 0 (Sub.cons rfl (by first | rfl | exact congrArg (Value.int _) (by omega)) (Sub.nil _)) (Sub.cons rfl rfl (Sub.cons rfl rfl (Sub.nil _))) ?_ ?_
        ·
          have e9 : (pre ++ [x] ++ (u ++ v) ++ post) = (pre ++ u.take 0 ++ x :: (u.drop 0 ++ v ++ post)) := by simp
          have S9 := S1.rowc 0 rfl (n' := (pre ++ u.take 0 ++ x :: (u.drop 0 ++ v ++ post)).length) (xs' := (pre ++ u.take 0 ++ x :: (u.drop 0 ++ v ++ post)).flatMap enf) (by rw [hn0, e9]) (by rw [e9])
          exact ⟨Nat.zero_le _, S9⟩
        ·
          intro t w4 hrel
          obtain ⟨ht, S4⟩ := hrel
          have hln : (pre ++ u.take t ++ x :: (u.drop t ++ v ++ post)).length = n := by simp at hn ⊢; omega
          rw [show enR A c (pre ++ u.take t ++ x :: (u.drop t ++ v ++ post)) = Zx.row 39 34 A n c ((pre ++ u.take t ++ x :: (u.drop t ++ v ++ post)).flatMap enf) from by rw [← hln]; rfl] at S4
          refine T_seq fun K13 hK13 => ?_
          refine T_seq fun K14 hK14 => ?_
          refine T_region ?_
          refine L_y (y_move rfl) rfl ?_
          refine L_y (y_move rfl) rfl ?_
          refine L_y (y_sub rfl rfl (i64w (by omega))) rfl ?_
          refine L_y (y_lss rfl rfl) rfl ?_
          refine L_nil ?_
          refine hK14 _ _ ?_
          refine T_cond rfl (fun h58 => ?_) (fun h58 => ?_)
          ·
            obtain ⟨y, hy⟩ : ∃ y, u[t]? = some y := ⟨_, List.getElem?_eq_getElem (by omega)⟩
            have htl : (u.take t).length = t := by rw [List.length_take]; omega
            obtain ⟨gx2, gy2, hset⟩ := exch (l := (pre ++ u.take t ++ x :: (u.drop t ++ v ++ post))) (i := pre.length + t) (j := pre.length + t + 1) (p := pre ++ u.take t) (q := []) (r := u.drop (t + 1) ++ v ++ post) (x := x) (y := y) (by rw [List.drop_eq_getElem_cons (show t < u.length by omega), show u[t]'(by omega) = y from Option.some.inj ((List.getElem?_eq_getElem _).symm.trans hy)]; rfl) (by simp; omega) (by simp; omega)
            refine T_skip ?_
            refine hK13 _ _ ?_
            refine T_seq fun K15 hK15 => ?_
            refine T_block ?_
            refine T_zed [0, 1, 5, 6, 7, 8, 9, 10, 11, 12, 13, 14] 15 [(2, 0), (3, 0), (4, 0), (0, 1), (1, 1), (5, 1), (6, 1), (7, 1), (8, 1), (9, 1), (10, 1), (11, 1), (12, 1), (13, 1), (14, 1), (15, 3), (16, 3), (17, 3)] hmix (by kernel_rfl) fun w5 l5 => ?_
            have S5 := S4.like l5
            refine ZA_y rfl (y_move rfl) rfl ?_
            refine ZA_y rfl (y_move rfl) rfl ?_
            refine ZA_y rfl (y_add rfl rfl (i64w (by omega))) rfl ?_
            refine ZA_B (Like w5) (Like.refl _) ?_
            refine ZB_y rfl (y_move rfl) rfl ?_
            refine ZB_y rfl (y_move rfl) rfl ?_
            refine ZB_y rfl (y_move rfl) rfl ?_
            refine ZB_y rfl (y_move rfl) rfl ?_
            refine ZB_y rfl (y_add rfl rfl (i64w (by omega))) rfl ?_
            refine ZB_y rfl (y_idx Try.underlying22 sz39 rfl rfl (S5.row 0 rfl) (Nt.mk (by omega) : Nt _ (pre.length + t + 1)) (by omega)) rfl ?_
            refine ZB_y rfl (y_ldp (f := enf) enf_len Try.underlying39 rfl sz39 rfl (S5.row 0 rfl) (by omega) gy2) rfl ?_
            refine ZB_y rfl (y_move rfl) rfl ?_
            refine ZB_y rfl (y_move rfl) rfl ?_
            refine ZB_y rfl (y_idx Try.underlying22 sz39 rfl rfl (S5.row 0 rfl) (Nt.mk (by omega) : Nt _ (pre.length + t)) (by omega)) rfl ?_
            refine ZB_y rfl (y_ldp (f := enf) enf_len Try.underlying39 rfl sz39 rfl (S5.row 0 rfl) (by omega) gx2) rfl ?_
            refine ZB_y rfl (y_idx Try.underlying22 sz39 rfl rfl (S5.row 0 rfl) (Nt.mk (by omega) : Nt _ (pre.length + t)) (by omega)) rfl ?_
            refine ZB_c rfl (o_strowE S5 0 rfl rfl rfl (enf_one y) (enf_len y) sz39 (by omega) fun w6 S6 => ?_)
            refine ZA_oy rfl (y_idx Try.underlying22 sz39 rfl rfl (S6.row 0 rfl) (Nt.mk (by omega) : Nt _ (pre.length + t + 1)) (by omega)) rfl ?_
            refine ZA_o rfl (o_strowE S6 0 rfl rfl rfl (enf_one x) (enf_len x) sz39 (by omega) fun w7 S7 => ?_)
            refine ZA_nil ?_
            refine hK15 _ _ ?_
            refine T_region ?_
            refine L_y (y_move rfl) rfl ?_
            refine L_y (y_add rfl rfl (i64w (by omega))) rfl ?_
            refine L_y (y_assign rfl) rfl ?_
            refine L_nil ?_
            have e9 : pre ++ u.take t ++ y :: ([] ++ x :: (u.drop (t + 1) ++ v ++ post)) = (pre ++ u.take (t + 1) ++ x :: (u.drop (t + 1) ++ v ++ post)) := by rw [List.take_add_one, hy]; simp
            have S9 := S7.rowc 0 rfl (n' := (pre ++ u.take (t + 1) ++ x :: (u.drop (t + 1) ++ v ++ post)).length) (xs' := (pre ++ u.take (t + 1) ++ x :: (u.drop (t + 1) ++ v ++ post)).flatMap enf) (by rw [← hln]; simp; omega) (by rw [ens_set (by omega), ens_set (by rw [List.length_set]; omega), hset, e9])
            refine ⟨t + 1, by omega, ⟨by omega, S9⟩, ?_⟩
            exact (Sub.cons rfl (congrArg (Value.int _) (by omega)) (Sub.cons rfl rfl (Sub.cons rfl rfl (Sub.nil _))))
          ·
            refine T_exit ?_
            refine hK11 _ _ ?_
            refine T_ret ?_
            refine ur ?_
            refine ret0 rfl ?_
            have ht9 : t = u.length := by omega
            subst ht9
            exact ⟨_, rfl, turn_en (S4.turned1 0 rfl) (by rw [hmr, ← hln]; simp) (by rw [hmr]; simp)⟩
  ·
    refine T_skip ?_
    refine hK1 _ _ ?_
    refine T_seq fun K16 hK16 => ?_
    refine T_seq fun K17 hK17 => ?_
    refine T_region ?_
    refine L_y (y_move rfl) rfl ?_
    refine L_y (y_move rfl) rfl ?_
    refine L_y (y_sub rfl rfl (i64w (by omega))) rfl ?_
    refine L_y (y_eql rfl rfl) rfl ?_
    refine L_nil ?_
    refine hK17 _ _ ?_
    refine T_cond rfl (fun h80 => ?_) (fun h80 => ?_)
    ·
      obtain ⟨y, rfl⟩ : ∃ y, l2 = [y] := List.length_eq_one_iff.1 (by omega)
      have hy1 : [y].length = 1 := rfl
      have gy : (pre ++ l1 ++ [y] ++ post)[pre.length + l1.length]? = some y := by rw [← List.length_append]; simp
      refine T_seq fun K18 hK18 => ?_
      refine T_region ?_
      refine L_y (y_move rfl) rfl ?_
      refine L_y (y_assign rfl) rfl ?_
      refine L_nil ?_
      refine hK18 _ _ ?_
      refine T_seq fun K19 hK19 => ?_
      refine T_region ?_
      refine L_y (y_move rfl) rfl ?_
      refine L_y (y_assign rfl) rfl ?_
      refine L_nil ?_
      refine hK19 _ _ ?_
      refine T_seq fun K20 hK20 => ?_
      refine T_block ?_
      refine T_loop2 [(0, _), (2, _), (4, _)] (fun (i : Nat) (j : Nat) => [(14, .int .i64 ((pre.length + i : Nat) : Int)), (15, .int .i64 ((pre.length + j : Nat) : Int))]) (fun (i : Nat) (j : Nat) => j - i) (fun (i : Nat) (j : Nat) (w : World) => (i ≤ j ∧ j ≤ l1.length ∧ (∀ x, 0 < i → l1[i - 1]? = some x → lt y x = false) ∧ (∀ x, l1[j]? = some x → lt y x = true)) ∧ St w0 (enR A c (pre ++ l1 ++ [y] ++ post)).dom [Zx.row 39 34 A n c ((pre ++ l1 ++ [y] ++ post).flatMap enf)] w) 0 l1.length (Sub.cons rfl (by first | rfl | exact congrArg (Value.int _) (by omega)) (Sub.cons rfl (by first | rfl | exact congrArg (Value.int _) (by omega)) (Sub.nil _))) (Sub.cons rfl rfl (Sub.cons rfl rfl (Sub.cons rfl rfl (Sub.nil _)))) ?_ ?_
      ·
        exact ⟨⟨Nat.zero_le _, Nat.le_refl _, fun y h => absurd h (by omega), fun y h => by rw [List.getElem?_eq_none (Nat.le_refl _)] at h; cases h⟩, S0⟩
      ·
        intro i j w8 hrel
        obtain ⟨⟨hij, hjl, hlo, hhi⟩, S8⟩ := hrel
        refine T_seq fun K21 hK21 => ?_
        refine T_seq fun K22 hK22 => ?_
        refine T_region ?_
        refine L_y (y_move rfl) rfl ?_
        refine L_y (y_move rfl) rfl ?_
        refine L_y (y_lss rfl rfl) rfl ?_
        refine L_nil ?_
        refine hK22 _ _ ?_
        refine T_cond rfl (fun h85 => ?_) (fun h85 => ?_)
        ·
          obtain ⟨z, hz⟩ : ∃ z, l1[(i + j) / 2]? = some z := ⟨_, List.getElem?_eq_getElem (by omega)⟩
          have gz : (pre ++ l1 ++ [y] ++ post)[pre.length + (i + j) / 2]? = some z := by rw [List.append_assoc, List.append_assoc, List.getElem?_append_right (by omega), List.getElem?_append_left (by omega)]; simpa [Nat.add_sub_cancel_left] using hz
          refine T_skip ?_
          refine hK21 _ _ ?_
          refine T_block ?_
          refine T_seq fun K23 hK23 => ?_
          refine T_region ?_
          refine L_y (y_move rfl) rfl ?_
          refine L_y (y_move rfl) rfl ?_
          refine L_y (y_add rfl rfl (i64w (by omega))) rfl ?_
          refine L_y (y_conv is3 Try.underlying81 rfl (show _ = ((pre.length + i + (pre.length + j) : Nat) : Int) by rw [IntKind.wrap_u64]; omega)) rfl ?_
          refine L_y (y_shr rfl rfl (by omega) (shr1 _)) rfl ?_
          refine L_y (y_conv is81 Try.underlying3 rfl (i64w (by omega))) rfl ?_
          refine L_y (y_assign rfl) rfl ?_
          refine L_nil ?_
          refine hK23 _ _ ?_
          refine T_seq fun K24 hK24 => ?_
          refine T_tail 9 hmix (by kernel_rfl) fun w9 l9 K25 hK25 => ?_
          have S9 := S8.like l9
          refine HL_y (y_move rfl) rfl ?_
          refine HL_y (y_move rfl) rfl ?_
          refine HL_y (y_move rfl) rfl ?_
          refine HL_y (y_idx Try.underlying22 sz39 rfl rfl (S9.row 0 rfl) (Nt.mk (by omega) : Nt _ (pre.length + l1.length)) (by omega)) rfl ?_
          refine HL_y (y_ldp (f := enf) enf_len Try.underlying39 rfl sz39 rfl (S9.row 0 rfl) (by omega) gy) rfl ?_
          refine HL_y (y_move rfl) rfl ?_
          refine HL_y (y_move rfl) rfl ?_
          refine HL_y (y_idx Try.underlying22 sz39 rfl rfl (S9.row 0 rfl) (Nt.mk (by omega) : Nt _ (pre.length + (i + j) / 2)) (by omega)) rfl ?_
          refine HL_y (y_ldp (f := enf) enf_len Try.underlying39 rfl sz39 rfl (S9.row 0 rfl) (by omega) gz) rfl ?_
          refine HL_nil ?_
          refine hK25 _ ?_
          refine L_o (o_callv (fs := []) (cs := []) rfl hfn hnm hbd (hC.call y z w9) rfl rfl (fun d' hd => by cases hd <;> rfl) ?_)
          rintro e10 w10 ⟨v10, rfl, l10, vc, rfl, hvc⟩
          refine ⟨_, rfl, ?_⟩
          have S10 := S9.like l10
          refine L_y (y_lss rfl rfl) rfl ?_
          refine L_y ((by first | exact y_notD rfl | exact y_not rfl)) rfl ?_
          refine L_nil ?_
          refine hK24 _ _ ?_
          refine T_cond rfl (fun h103 => ?_) (fun h103 => ?_)
          ·
            refine T_region ?_
            refine L_y (y_move rfl) rfl ?_
            refine L_y (y_add rfl rfl (i64w (by omega))) rfl ?_
            refine L_y (y_assign rfl) rfl ?_
            refine L_nil ?_
            refine ⟨(i + j) / 2 + 1, j, by omega, ⟨⟨by omega, hjl, fun x _ h => by rw [Nat.add_sub_cancel, hz] at h; cases h; cases h9 : lt y z with | false => rfl | true => exact absurd (hvc.2 h9) (by omega), hhi⟩, S10⟩, ?_⟩
            exact (Sub.cons rfl (congrArg (Value.int _) (by omega)) (Sub.cons rfl (congrArg (Value.int _) (by omega)) (Sub.cons rfl rfl (Sub.cons rfl rfl (Sub.cons rfl rfl (Sub.nil _))))))
          ·
            refine T_region ?_
            refine L_y (y_move rfl) rfl ?_
            refine L_y (y_assign rfl) rfl ?_
            refine L_nil ?_
            refine ⟨i, (i + j) / 2, by omega, ⟨⟨by omega, by omega, hlo, fun x h => by rw [hz] at h; cases h; exact hvc.1 (by omega)⟩, S10⟩, ?_⟩
            exact (Sub.cons rfl (congrArg (Value.int _) (by omega)) (Sub.cons rfl (congrArg (Value.int _) (by omega)) (Sub.cons rfl rfl (Sub.cons rfl rfl (Sub.cons rfl rfl (Sub.nil _))))))
        ·
          have hije : i = j := by omega
          subst hije
          obtain ⟨u, v, rfl, hul⟩ := split_at l1 i hjl
          subst hul
          have hv0 : (u ++ v)[u.length]? = v[0]? := by rw [List.getElem?_append_right (Nat.le_refl _), Nat.sub_self]
          have hmr := mrg_lst (y := y) hC.ord hs1 (fun x h hp => hlo x hp h) (fun x h => hhi x (by rw [hv0]; exact h))
          have huv : (u ++ v).length = u.length + v.length := List.length_append
          refine T_exit ?_
          refine hK20 _ _ ?_
          refine T_seq fun K26 hK26 => ?_
          refine T_seq fun K27 hK27 => ?_
          refine T_region ?_
          refine L_y (y_move rfl) rfl ?_
          refine L_y (y_assign rfl) rfl ?_
          refine L_nil ?_
          refine hK27 _ _ ?_
          refine T_block ?_
          refine T_loop1 [(0, _), (14, _)] (fun (t : Nat) => [(17, .int .i64 ((pre.length + u.length + t : Nat) : Int))]) (fun (t : Nat) => t) (fun (t : Nat) (w : World) => t ≤ v.length ∧ St w0 (enR A c (pre ++ (u ++ v) ++ [y] ++ post)).dom [enR A c (pre ++ u ++ v.take t ++ y :: (v.drop t ++ post))] w) v.length (Sub.cons rfl (by first | rfl | exact congrArg (Value.int _) (by omega)) (Sub.nil _)) (Sub.cons rfl rfl (Sub.cons rfl rfl (Sub.nil _))) ?_ ?_
          ·
            have e9 : (pre ++ (u ++ v) ++ [y] ++ post) = (pre ++ u ++ v.take v.length ++ y :: (v.drop v.length ++ post)) := by simp
            have S9 := S8.rowc 0 rfl (n' := (pre ++ u ++ v.take v.length ++ y :: (v.drop v.length ++ post)).length) (xs' := (pre ++ u ++ v.take v.length ++ y :: (v.drop v.length ++ post)).flatMap enf) (by rw [hn0, e9]) (by rw [e9])
            exact ⟨Nat.le_refl _, S9⟩
          ·
            intro t w11 hrel
            obtain ⟨ht, S11⟩ := hrel
            have hln : (pre ++ u ++ v.take t ++ y :: (v.drop t ++ post)).length = n := by simp at hn ⊢; omega
            rw [show enR A c (pre ++ u ++ v.take t ++ y :: (v.drop t ++ post)) = Zx.row 39 34 A n c ((pre ++ u ++ v.take t ++ y :: (v.drop t ++ post)).flatMap enf) from by rw [← hln]; rfl] at S11
            refine T_seq fun K28 hK28 => ?_
            refine T_seq fun K29 hK29 => ?_
            refine T_region ?_
            refine L_y (y_move rfl) rfl ?_
            refine L_y (y_move rfl) rfl ?_
            refine L_y (y_gtr rfl rfl) rfl ?_
            refine L_nil ?_
            refine hK29 _ _ ?_
            refine T_cond rfl (fun h110 => ?_) (fun h110 => ?_)
            ·
              obtain ⟨t, rfl⟩ : ∃ t9, t = t9 + 1 := ⟨t - 1, by omega⟩
              obtain ⟨z, hz⟩ : ∃ z, v[t]? = some z := ⟨_, List.getElem?_eq_getElem (by omega)⟩
              obtain ⟨gz2, gy2, hset⟩ := exch2 (l := (pre ++ u ++ v.take (t + 1) ++ y :: (v.drop (t + 1) ++ post))) (i := pre.length + u.length + t) (j := pre.length + u.length + t + 1) (p := pre ++ u ++ v.take t) (q := []) (r := v.drop (t + 1) ++ post) (x := z) (y := y) (by rw [take_sn2 hz]; simp) (by simp; omega) (by simp; omega)
              refine T_skip ?_
              refine hK28 _ _ ?_
              refine T_seq fun K30 hK30 => ?_
              refine T_block ?_
              refine T_zed [0, 1, 5, 6, 7, 8, 9, 10, 11, 12, 13, 14] 15 [(2, 0), (3, 0), (4, 0), (0, 1), (1, 1), (5, 1), (6, 1), (7, 1), (8, 1), (9, 1), (10, 1), (11, 1), (12, 1), (13, 1), (14, 1), (15, 3), (16, 3), (17, 3)] hmix (by kernel_rfl) fun w12 l12 => ?_
              have S12 := S11.like l12
              refine ZA_y rfl (y_move rfl) rfl ?_
              refine ZA_y rfl (y_move rfl) rfl ?_
              refine ZA_y rfl (y_sub rfl rfl (i64w (by omega))) rfl ?_
              refine ZA_B (Like w12) (Like.refl _) ?_
              refine ZB_y rfl (y_move rfl) rfl ?_
              refine ZB_y rfl (y_move rfl) rfl ?_
              refine ZB_y rfl (y_move rfl) rfl ?_
              refine ZB_y rfl (y_move rfl) rfl ?_
              refine ZB_y rfl (y_sub rfl rfl (i64w (by omega))) rfl ?_
              refine ZB_y rfl (y_idx Try.underlying22 sz39 rfl rfl (S12.row 0 rfl) (Nt.mk (by omega) : Nt _ (pre.length + u.length + t)) (by omega)) rfl ?_
              refine ZB_y rfl (y_ldp (f := enf) enf_len Try.underlying39 rfl sz39 rfl (S12.row 0 rfl) (by omega) gz2) rfl ?_
              refine ZB_y rfl (y_move rfl) rfl ?_
              refine ZB_y rfl (y_move rfl) rfl ?_
              refine ZB_y rfl (y_idx Try.underlying22 sz39 rfl rfl (S12.row 0 rfl) (Nt.mk (by omega) : Nt _ (pre.length + u.length + t + 1)) (by omega)) rfl ?_
              refine ZB_y rfl (y_ldp (f := enf) enf_len Try.underlying39 rfl sz39 rfl (S12.row 0 rfl) (by omega) gy2) rfl ?_
              refine ZB_y rfl (y_idx Try.underlying22 sz39 rfl rfl (S12.row 0 rfl) (Nt.mk (by omega) : Nt _ (pre.length + u.length + t + 1)) (by omega)) rfl ?_
              refine ZB_c rfl (o_strowE S12 0 rfl rfl rfl (enf_one z) (enf_len z) sz39 (by omega) fun w13 S13 => ?_)
              refine ZA_oy rfl (y_idx Try.underlying22 sz39 rfl rfl (S13.row 0 rfl) (Nt.mk (by omega) : Nt _ (pre.length + u.length + t)) (by omega)) rfl ?_
              refine ZA_o rfl (o_strowE S13 0 rfl rfl rfl (enf_one y) (enf_len y) sz39 (by omega) fun w14 S14 => ?_)
              refine ZA_nil ?_
              refine hK30 _ _ ?_
              refine T_region ?_
              refine L_y (y_move rfl) rfl ?_
              refine L_y (y_sub rfl rfl (i64w (by omega))) rfl ?_
              refine L_y (y_assign rfl) rfl ?_
              refine L_nil ?_
              have e9 : pre ++ u ++ v.take t ++ y :: ([] ++ z :: (v.drop (t + 1) ++ post)) = (pre ++ u ++ v.take t ++ y :: (v.drop t ++ post)) := by rw [drop_hd2 hz]; simp
              have S9 := S14.rowc 0 rfl (n' := (pre ++ u ++ v.take t ++ y :: (v.drop t ++ post)).length) (xs' := (pre ++ u ++ v.take t ++ y :: (v.drop t ++ post)).flatMap enf) (by rw [← hln]; simp; omega) (by rw [ens_set (by omega), ens_set (by rw [List.length_set]; omega), hset, e9])
              refine ⟨t, by omega, ⟨by omega, S9⟩, ?_⟩
              exact (Sub.cons rfl (congrArg (Value.int _) (by omega)) (Sub.cons rfl rfl (Sub.cons rfl rfl (Sub.nil _))))
            ·
              refine T_exit ?_
              refine hK26 _ _ ?_
              refine T_ret ?_
              refine ur ?_
              refine ret0 rfl ?_
              have ht9 : t = 0 := by omega
              subst ht9
              exact ⟨_, rfl, turn_en (S11.turned1 0 rfl) (by rw [hmr, ← hln]; simp) (by rw [hmr]; simp)⟩
    ·
      refine T_skip ?_
      refine hK16 _ _ ?_
      refine T_seq fun K31 hK31 => ?_
      refine T_region ?_
      refine L_y (y_move rfl) rfl ?_
      refine L_y (y_move rfl) rfl ?_
      refine L_y (y_add rfl rfl (i64w (by omega))) rfl ?_
      refine L_y (y_conv is3 Try.underlying81 rfl (show _ = ((pre.length + (pre.length + l1.length + l2.length) : Nat) : Int) by rw [IntKind.wrap_u64]; omega)) rfl ?_
      refine L_y (y_shr rfl rfl (by omega) (shr1 _)) rfl ?_
      refine L_y (y_conv is81 Try.underlying3 rfl (i64w (by omega))) rfl ?_
      refine L_y (y_assign rfl) rfl ?_
      refine L_nil ?_
      refine hK31 _ _ ?_
      refine T_seq fun K32 hK32 => ?_
      refine T_region ?_
      refine L_y (y_move rfl) rfl ?_
      refine L_y (y_move rfl) rfl ?_
      refine L_y (y_add rfl rfl (i64w (by omega))) rfl ?_
      refine L_y (y_assign rfl) rfl ?_
      refine L_nil ?_
      refine hK32 _ _ ?_
      refine T_seq fun K33 hK33 => ?_
      refine T_region ?_
      refine L_y (y_assign rfl) rfl ?_
      refine L_y (y_assign rfl) rfl ?_
      refine L_nil ?_
      refine hK33 _ _ ?_
      refine T_seqR (fun (e : Env) (w : World) => ∃ (s0 : Nat) (r0 : Nat), Sub [(0, .slice A n c), (1, .int .i64 (pre.length : Int)), (2, .int .i64 ((pre.length + l1.length : Nat) : Int)), (3, .int .i64 ((pre.length + l1.length + l2.length : Nat) : Int)), (4, .func (.func F) #[] #[]), (18, .int .i64 ((pre.length + ((l1.length + l2.length) / 2) : Nat) : Int)), (19, .int .i64 ((pre.length + ((l1.length + l2.length) / 2) + (pre.length + l1.length) : Nat) : Int)), (20, .int .i64 ((pre.length + s0 : Nat) : Int)), (21, .int .i64 ((pre.length + r0 : Nat) : Int))] e ∧ (s0 ≤ r0 ∧ r0 ≤ l1.length ∧ r0 ≤ ((l1.length + l2.length) / 2) ∧ ((l1.length + l2.length) / 2) ≤ s0 + l2.length ∧ (s0 = 0 ∨ s0 + l2.length = ((l1.length + l2.length) / 2)) ∧ (r0 = l1.length ∨ r0 = ((l1.length + l2.length) / 2))) ∧ St w0 (enR A c (pre ++ l1 ++ l2 ++ post)).dom [Zx.row 39 34 A n c ((pre ++ l1 ++ l2 ++ post).flatMap enf)] w) ?_ ?_
      ·
        refine T_seq fun K35 hK35 => ?_
        refine T_region ?_
        refine L_y (y_move rfl) rfl ?_
        refine L_y (y_move rfl) rfl ?_
        refine L_y (y_gtr rfl rfl) rfl ?_
        refine L_nil ?_
        refine hK35 _ _ ?_
        refine T_cond rfl (fun h140 => ?_) (fun h140 => ?_)
        ·
          refine T_seq fun K36 hK36 => ?_
          refine T_region ?_
          refine L_y (y_move rfl) rfl ?_
          refine L_y (y_move rfl) rfl ?_
          refine L_y (y_sub rfl rfl (i64w (by omega))) rfl ?_
          refine L_y (y_assign rfl) rfl ?_
          refine L_nil ?_
          refine hK36 _ _ ?_
          refine T_region ?_
          refine L_y (y_move rfl) rfl ?_
          refine L_y (y_assign rfl) rfl ?_
          refine L_nil ?_
          exact ⟨((l1.length + l2.length) / 2) - l2.length, ((l1.length + l2.length) / 2), (Sub.cons rfl (by first | rfl | exact congrArg (Value.int _) (by omega)) (Sub.cons rfl (by first | rfl | exact congrArg (Value.int _) (by omega)) (Sub.cons rfl (by first | rfl | exact congrArg (Value.int _) (by omega)) (Sub.cons rfl (by first | rfl | exact congrArg (Value.int _) (by omega)) (Sub.cons rfl (by first | rfl | exact congrArg (Value.int _) (by omega)) (Sub.cons rfl (congrArg (Value.int _) (by omega)) (Sub.cons rfl (congrArg (Value.int _) (by omega)) (Sub.cons rfl (congrArg (Value.int _) (by omega)) (Sub.cons rfl (congrArg (Value.int _) (by omega)) (Sub.nil _)))))))))), ⟨by omega, by omega, by omega, by omega, by omega, by omega⟩, S0⟩
        ·
          refine T_seq fun K37 hK37 => ?_
          refine T_region ?_
          refine L_y (y_move rfl) rfl ?_
          refine L_y (y_assign rfl) rfl ?_
          refine L_nil ?_
          refine hK37 _ _ ?_
          refine T_region ?_
          refine L_y (y_move rfl) rfl ?_
          refine L_y (y_assign rfl) rfl ?_
          refine L_nil ?_
          exact ⟨0, l1.length, (Sub.cons rfl (by first | rfl | exact congrArg (Value.int _) (by omega)) (Sub.cons rfl (by first | rfl | exact congrArg (Value.int _) (by omega)) (Sub.cons rfl (by first | rfl | exact congrArg (Value.int _) (by omega)) (Sub.cons rfl (by first | rfl | exact congrArg (Value.int _) (by omega)) (Sub.cons rfl (by first | rfl | exact congrArg (Value.int _) (by omega)) (Sub.cons rfl (congrArg (Value.int _) (by omega)) (Sub.cons rfl (congrArg (Value.int _) (by omega)) (Sub.cons rfl (congrArg (Value.int _) (by omega)) (Sub.cons rfl (congrArg (Value.int _) (by omega)) (Sub.nil _)))))))))), ⟨by omega, by omega, by omega, by omega, by omega, by omega⟩, S0⟩
      ·
        rintro e15 w15 ⟨s0, r0, hsub, ⟨⟨hsr0, hr1, hr2, hsq, hsb, hrb⟩, S15⟩⟩
        refine T_weak hsub ?_
        refine T_seq fun K38 hK38 => ?_
        refine T_region ?_
        refine L_y (y_move rfl) rfl ?_
        refine L_y (y_sub rfl rfl (i64w (by omega))) rfl ?_
        refine L_y (y_assign rfl) rfl ?_
        refine L_nil ?_
        refine hK38 _ _ ?_
        refine T_seq fun K39 hK39 => ?_
        refine T_block ?_
        refine T_loop2 [(0, _), (1, _), (2, _), (3, _), (4, _), (18, _), (19, _), (22, _)] (fun (s : Nat) (r : Nat) => [(20, .int .i64 ((pre.length + s : Nat) : Int)), (21, .int .i64 ((pre.length + r : Nat) : Int))]) (fun (s : Nat) (r : Nat) => r - s) (fun (s : Nat) (r : Nat) (w : World) => ((s0 ≤ s ∧ s ≤ r ∧ r ≤ r0) ∧ (s = s0 ∨ ∃ x y, l1[s - 1]? = some x ∧ l2[((l1.length + l2.length) / 2) - s]? = some y ∧ lt y x = false ∧ 0 < s) ∧ (r = r0 ∨ ∃ x y, l1[r]? = some x ∧ l2[((l1.length + l2.length) / 2) - 1 - r]? = some y ∧ lt y x = true ∧ r < ((l1.length + l2.length) / 2))) ∧ St w0 (enR A c (pre ++ l1 ++ l2 ++ post)).dom [Zx.row 39 34 A n c ((pre ++ l1 ++ l2 ++ post).flatMap enf)] w) s0 r0 (Sub.cons rfl (by first | rfl | exact congrArg (Value.int _) (by omega)) (Sub.cons rfl (by first | rfl | exact congrArg (Value.int _) (by omega)) (Sub.nil _))) (Sub.cons rfl rfl (Sub.cons rfl rfl (Sub.cons rfl rfl (Sub.cons rfl rfl (Sub.cons rfl rfl (Sub.cons rfl rfl (Sub.cons rfl rfl (Sub.cons rfl rfl (Sub.nil _))))))))) ?_ ?_
        ·
          exact ⟨⟨⟨Nat.le_refl _, hsr0, Nat.le_refl _⟩, .inl rfl, .inl rfl⟩, S15⟩
        ·
          intro s r w16 hrel
          obtain ⟨⟨⟨hs0, hsr, hr0⟩, hlo, hhi⟩, S16⟩ := hrel
          refine T_seq fun K40 hK40 => ?_
          refine T_seq fun K41 hK41 => ?_
          refine T_region ?_
          refine L_y (y_move rfl) rfl ?_
          refine L_y (y_move rfl) rfl ?_
          refine L_y (y_lss rfl rfl) rfl ?_
          refine L_nil ?_
          refine hK41 _ _ ?_
          refine T_cond rfl (fun h151 => ?_) (fun h151 => ?_)
          ·
            obtain ⟨x, hx⟩ : ∃ x, l1[(s + r) / 2]? = some x := ⟨_, List.getElem?_eq_getElem (by omega)⟩
            obtain ⟨y, hy⟩ : ∃ y, l2[((l1.length + l2.length) / 2) - 1 - (s + r) / 2]? = some y := ⟨_, List.getElem?_eq_getElem (by omega)⟩
            have gx : (pre ++ l1 ++ l2 ++ post)[pre.length + (s + r) / 2]? = some x := by rw [List.append_assoc, List.append_assoc, List.getElem?_append_right (by omega), List.getElem?_append_left (by omega)]; simpa [Nat.add_sub_cancel_left] using hx
            have gy : (pre ++ l1 ++ l2 ++ post)[pre.length + l1.length + (((l1.length + l2.length) / 2) - 1 - (s + r) / 2)]? = some y := by rw [List.append_assoc, List.getElem?_append_right (by simp), List.getElem?_append_left (by simp; omega)]; simpa [← Nat.add_assoc, Nat.add_sub_cancel_left] using hy
            refine T_skip ?_
            refine hK40 _ _ ?_
            refine T_block ?_
            refine T_seq fun K42 hK42 => ?_
            refine T_region ?_
            refine L_y (y_move rfl) rfl ?_
            refine L_y (y_move rfl) rfl ?_
            refine L_y (y_add rfl rfl (i64w (by omega))) rfl ?_
            refine L_y (y_conv is3 Try.underlying81 rfl (show _ = ((pre.length + s + (pre.length + r) : Nat) : Int) by rw [IntKind.wrap_u64]; omega)) rfl ?_
            refine L_y (y_shr rfl rfl (by omega) (shr1 _)) rfl ?_
            refine L_y (y_conv is81 Try.underlying3 rfl (i64w (by omega))) rfl ?_
            refine L_y (y_assign rfl) rfl ?_
            refine L_nil ?_
            refine hK42 _ _ ?_
            refine T_seq fun K43 hK43 => ?_
            refine T_tail 11 hmix (by kernel_rfl) fun w17 l17 K44 hK44 => ?_
            have S17 := S16.like l17
            refine HL_y (y_move rfl) rfl ?_
            refine HL_y (y_move rfl) rfl ?_
            refine HL_y (y_move rfl) rfl ?_
            refine HL_y (y_move rfl) rfl ?_
            refine HL_y (y_sub rfl rfl (i64w (by omega))) rfl ?_
            refine HL_y (y_idx Try.underlying22 sz39 rfl rfl (S17.row 0 rfl) (Nt.mk (by omega) : Nt _ (pre.length + l1.length + (((l1.length + l2.length) / 2) - 1 - (s + r) / 2))) (by omega)) rfl ?_
            refine HL_y (y_ldp (f := enf) enf_len Try.underlying39 rfl sz39 rfl (S17.row 0 rfl) (by omega) gy) rfl ?_
            refine HL_y (y_move rfl) rfl ?_
            refine HL_y (y_move rfl) rfl ?_
            refine HL_y (y_idx Try.underlying22 sz39 rfl rfl (S17.row 0 rfl) (Nt.mk (by omega) : Nt _ (pre.length + (s + r) / 2)) (by omega)) rfl ?_
            refine HL_y (y_ldp (f := enf) enf_len Try.underlying39 rfl sz39 rfl (S17.row 0 rfl) (by omega) gx) rfl ?_
            refine HL_nil ?_
            refine hK44 _ ?_
            refine L_o (o_callv (fs := []) (cs := []) rfl hfn hnm hbd (hC.call y x w17) rfl rfl (fun d' hd => by cases hd <;> rfl) ?_)
            rintro e18 w18 ⟨v18, rfl, l18, vc, rfl, hvc⟩
            refine ⟨_, rfl, ?_⟩
            have S18 := S17.like l18
            refine L_y (y_lss rfl rfl) rfl ?_
            refine L_y ((by first | exact y_notD rfl | exact y_not rfl)) rfl ?_
            refine L_nil ?_
            refine hK43 _ _ ?_
            refine T_cond rfl (fun h171 => ?_) (fun h171 => ?_)
            ·
              refine T_region ?_
              refine L_y (y_move rfl) rfl ?_
              refine L_y (y_add rfl rfl (i64w (by omega))) rfl ?_
              refine L_y (y_assign rfl) rfl ?_
              refine L_nil ?_
              refine ⟨(s + r) / 2 + 1, r, by omega, ⟨⟨⟨by omega, by omega, hr0⟩, .inr ⟨x, y, by rw [Nat.add_sub_cancel]; exact hx, by rw [show ((l1.length + l2.length) / 2) - ((s + r) / 2 + 1) = ((l1.length + l2.length) / 2) - 1 - (s + r) / 2 by omega]; exact hy, (by cases h9 : lt y x with | false => rfl | true => exact absurd (hvc.2 h9) (by omega)), by omega⟩, hhi⟩, S18⟩, ?_⟩
              exact (Sub.cons rfl (congrArg (Value.int _) (by omega)) (Sub.cons rfl (congrArg (Value.int _) (by omega)) (Sub.cons rfl rfl (Sub.cons rfl rfl (Sub.cons rfl rfl (Sub.cons rfl rfl (Sub.cons rfl rfl (Sub.cons rfl rfl (Sub.cons rfl rfl (Sub.cons rfl rfl (Sub.nil _)))))))))))
            ·
              refine T_region ?_
              refine L_y (y_move rfl) rfl ?_
              refine L_y (y_assign rfl) rfl ?_
              refine L_nil ?_
              refine ⟨s, (s + r) / 2, by omega, ⟨⟨⟨hs0, by omega, by omega⟩, hlo, .inr ⟨x, y, hx, hy, hvc.1 (by omega), by omega⟩⟩, S18⟩, ?_⟩
              exact (Sub.cons rfl (congrArg (Value.int _) (by omega)) (Sub.cons rfl (congrArg (Value.int _) (by omega)) (Sub.cons rfl rfl (Sub.cons rfl rfl (Sub.cons rfl rfl (Sub.cons rfl rfl (Sub.cons rfl rfl (Sub.cons rfl rfl (Sub.cons rfl rfl (Sub.cons rfl rfl (Sub.nil _)))))))))))
          ·
            have hse : r = s := by omega
            subst hse
            obtain ⟨a1, b1, rfl, ha1⟩ := split_at l1 r (by omega)
            obtain ⟨a2, b2, rfl, ha2⟩ := split_at l2 (((a1 ++ b1).length + l2.length) / 2 - r) (by omega)
            have hl1 : (a1 ++ b1).length = a1.length + b1.length := List.length_append
            have hl2 : (a2 ++ b2).length = a2.length + b2.length := List.length_append
            have hi9 : (a1 = [] ∨ b2 = []) ∨ ∃ x y, (a1 ++ b1)[a1.length - 1]? = some x ∧ (a2 ++ b2)[a2.length]? = some y ∧ lt y x = false ∧ 0 < a1.length := by rcases hlo with h | ⟨x, y, hx, hy, h0, hp⟩; (rcases hsb with q | q; exact .inl (.inl (List.eq_nil_of_length_eq_zero (by omega))); exact .inl (.inr (List.eq_nil_of_length_eq_zero (by omega)))); exact .inr ⟨x, y, by rw [ha1]; exact hx, by rw [ha2]; exact hy, h0, by omega⟩
            have hj9 : (b1 = [] ∨ a2 = []) ∨ ∃ x y, (a1 ++ b1)[a1.length]? = some x ∧ (a2 ++ b2)[a2.length - 1]? = some y ∧ lt y x = true ∧ 0 < a2.length := by rcases hhi with h | ⟨x, y, hx, hy, h0, hp⟩; (rcases hrb with q | q; exact .inl (.inl (List.eq_nil_of_length_eq_zero (by omega))); exact .inl (.inr (List.eq_nil_of_length_eq_zero (by omega)))); exact .inr ⟨x, y, by rw [ha1]; exact hx, by rw [ha2, show (((a1 ++ b1).length + (a2 ++ b2).length) / 2) - r - 1 = (((a1 ++ b1).length + (a2 ++ b2).length) / 2) - 1 - r by omega]; exact hy, h0, by omega⟩
            have hsp := sym_split hC.ord hs1 hs2 hi9 hj9
            have q1 := List.pairwise_append.1 hs1
            have q2 := List.pairwise_append.1 hs2
            refine T_exit ?_
            refine hK39 _ _ ?_
            refine T_seq fun K45 hK45 => ?_
            refine T_region ?_
            refine L_y (y_move rfl) rfl ?_
            refine L_y (y_move rfl) rfl ?_
            refine L_y (y_sub rfl rfl (i64w (by omega))) rfl ?_
            refine L_y (y_assign rfl) rfl ?_
            refine L_nil ?_
            refine hK45 _ _ ?_
            refine T_seqR (fun (e : Env) (w : World) => Sub [(0, .slice A n c), (1, .int .i64 (pre.length : Int)), (3, .int .i64 ((pre.length + (a1 ++ b1).length + (a2 ++ b2).length : Nat) : Int)), (4, .func (.func F) #[] #[]), (18, .int .i64 ((pre.length + a1.length + a2.length : Nat) : Int)), (20, .int .i64 ((pre.length + a1.length : Nat) : Int)), (24, .int .i64 ((pre.length + a1.length + b1.length + a2.length : Nat) : Int))] e ∧ St w0 (enR A c (pre ++ (a1 ++ b1) ++ (a2 ++ b2) ++ post)).dom [enR A c (pre ++ a1 ++ a2 ++ b1 ++ b2 ++ post)] w) ?_ ?_
            ·
              refine T_seq fun K47 hK47 => ?_
              refine T_region ?_
              refine L_y (y_move rfl) rfl ?_
              refine L_y (y_move rfl) rfl ?_
              refine L_y (y_lss rfl rfl) rfl ?_
              refine L_y (y_move rfl) rfl ?_
              refine L_split 181 rfl (fun h181 => ?_) (fun h181 => ?_)
              ·
                refine L_gyes rfl rfl ?_
                refine L_y (y_move rfl) rfl ?_
                refine L_gyes rfl rfl ?_
                refine L_y (y_move rfl) rfl ?_
                refine L_gyes rfl rfl ?_
                refine L_y (y_lss rfl rfl) rfl ?_
                refine L_y (y_pk rfl rfl) rfl ?_
                refine L_nil ?_
                refine hK47 _ _ ?_
                refine T_cond rfl (fun h185 => ?_) (fun h185 => ?_)
                ·
                  have S8 := S16.rowc 0 rfl (n' := (pre ++ a1 ++ b1 ++ a2 ++ (b2 ++ post)).length) (xs' := (pre ++ a1 ++ b1 ++ a2 ++ (b2 ++ post)).flatMap enf) (by rw [hn0]; simp) (by simp)
                  refine T_region ?_
                  refine L_y (y_move rfl) rfl ?_
                  refine L_y (y_move rfl) rfl ?_
                  refine L_y (y_move rfl) rfl ?_
                  refine L_y (y_move rfl) rfl ?_
                  refine L_y (y_move rfl) rfl ?_
                  refine L_o (o_call Try.func52 rfl rfl (rotat A n c _ _ _ (pre ++ a1) b1 a2 (b2 ++ post) (.func (.func F) #[] #[]) w16 (S8.get 0 rfl) (by rw [hn0]; simp) (by rw [List.length_append, ha1]) (by simp; omega) (by simp; omega) (by omega) (by omega) hn5) rfl rfl ?_)
                  rintro e20 w20 ⟨v20, rfl, T20⟩
                  refine ⟨_, rfl, ?_⟩
                  have S20 := S8.turn 0 rfl T20
                  refine L_nil ?_
                  exact ⟨(Sub.cons rfl (by first | rfl | exact congrArg (Value.int _) (by omega)) (Sub.cons rfl (by first | rfl | exact congrArg (Value.int _) (by omega)) (Sub.cons rfl (congrArg (Value.int _) (by omega)) (Sub.cons rfl (by first | rfl | exact congrArg (Value.int _) (by omega)) (Sub.cons rfl (congrArg (Value.int _) (by omega)) (Sub.cons rfl (congrArg (Value.int _) (by omega)) (Sub.cons rfl (congrArg (Value.int _) (by omega)) (Sub.nil _)))))))), by simpa using S20⟩
                ·
                  refine T_skip ?_
                  have hz : (pre ++ (a1 ++ b1) ++ (a2 ++ b2) ++ post) = (pre ++ a1 ++ a2 ++ b1 ++ b2 ++ post) := by rcases (show b1 = [] ∨ a2 = [] from by by_cases q9 : b1.length = 0; exact .inl (List.eq_nil_of_length_eq_zero q9); exact .inr (List.eq_nil_of_length_eq_zero (by omega))) with q | q <;> rw [q] <;> simp
                  have S9 := S16.rowc 0 rfl (n' := (pre ++ a1 ++ a2 ++ b1 ++ b2 ++ post).length) (xs' := (pre ++ a1 ++ a2 ++ b1 ++ b2 ++ post).flatMap enf) (by rw [hn0, hz]) (by rw [hz])
                  exact ⟨(Sub.cons rfl (by first | rfl | exact congrArg (Value.int _) (by omega)) (Sub.cons rfl (by first | rfl | exact congrArg (Value.int _) (by omega)) (Sub.cons rfl (congrArg (Value.int _) (by omega)) (Sub.cons rfl (by first | rfl | exact congrArg (Value.int _) (by omega)) (Sub.cons rfl (congrArg (Value.int _) (by omega)) (Sub.cons rfl (congrArg (Value.int _) (by omega)) (Sub.cons rfl (congrArg (Value.int _) (by omega)) (Sub.nil _)))))))), S9⟩
              ·
                refine L_gno rfl rfl rfl ?_
                refine L_gno rfl rfl rfl ?_
                refine L_gno rfl rfl rfl ?_
                refine L_y (y_pk rfl rfl) rfl ?_
                refine L_nil ?_
                refine hK47 _ _ ?_
                refine T_false rfl ?_
                refine T_skip ?_
                have hz : (pre ++ (a1 ++ b1) ++ (a2 ++ b2) ++ post) = (pre ++ a1 ++ a2 ++ b1 ++ b2 ++ post) := by rcases (show b1 = [] ∨ a2 = [] from by by_cases q9 : b1.length = 0; exact .inl (List.eq_nil_of_length_eq_zero q9); exact .inr (List.eq_nil_of_length_eq_zero (by omega))) with q | q <;> rw [q] <;> simp
                have S9 := S16.rowc 0 rfl (n' := (pre ++ a1 ++ a2 ++ b1 ++ b2 ++ post).length) (xs' := (pre ++ a1 ++ a2 ++ b1 ++ b2 ++ post).flatMap enf) (by rw [hn0, hz]) (by rw [hz])
                exact ⟨(Sub.cons rfl (by first | rfl | exact congrArg (Value.int _) (by omega)) (Sub.cons rfl (by first | rfl | exact congrArg (Value.int _) (by omega)) (Sub.cons rfl (congrArg (Value.int _) (by omega)) (Sub.cons rfl (by first | rfl | exact congrArg (Value.int _) (by omega)) (Sub.cons rfl (congrArg (Value.int _) (by omega)) (Sub.cons rfl (congrArg (Value.int _) (by omega)) (Sub.cons rfl (congrArg (Value.int _) (by omega)) (Sub.nil _)))))))), S9⟩
            ·
              rintro e21 w21 ⟨hsub, S21⟩
              refine T_weak hsub ?_
              refine T_seqR (fun (e : Env) (w : World) => Sub [(0, .slice A n c), (3, .int .i64 ((pre.length + (a1 ++ b1).length + (a2 ++ b2).length : Nat) : Int)), (4, .func (.func F) #[] #[]), (18, .int .i64 ((pre.length + a1.length + a2.length : Nat) : Int)), (24, .int .i64 ((pre.length + a1.length + b1.length + a2.length : Nat) : Int))] e ∧ St w0 (enR A c (pre ++ (a1 ++ b1) ++ (a2 ++ b2) ++ post)).dom [enR A c (pre ++ mrg lt a1 a2 ++ b1 ++ b2 ++ post)] w) ?_ ?_
              ·
                refine T_seq fun K49 hK49 => ?_
                refine T_region ?_
                refine L_y (y_move rfl) rfl ?_
                refine L_y (y_move rfl) rfl ?_
                refine L_y (y_lss rfl rfl) rfl ?_
                refine L_y (y_move rfl) rfl ?_
                refine L_split 195 rfl (fun h195 => ?_) (fun h195 => ?_)
                ·
                  refine L_gyes rfl rfl ?_
                  refine L_y (y_move rfl) rfl ?_
                  refine L_gyes rfl rfl ?_
                  refine L_y (y_move rfl) rfl ?_
                  refine L_gyes rfl rfl ?_
                  refine L_y (y_lss rfl rfl) rfl ?_
                  refine L_y (y_pk rfl rfl) rfl ?_
                  refine L_nil ?_
                  refine hK49 _ _ ?_
                  refine T_cond rfl (fun h199 => ?_) (fun h199 => ?_)
                  ·
                    rw [show pre ++ a1 ++ a2 ++ b1 ++ b2 ++ post = pre ++ a1 ++ a2 ++ (b1 ++ b2 ++ post) from by simp] at S21
                    refine T_region ?_
                    refine L_y (y_move rfl) rfl ?_
                    refine L_y (y_move rfl) rfl ?_
                    refine L_y (y_move rfl) rfl ?_
                    refine L_y (y_move rfl) rfl ?_
                    refine L_y (y_move rfl) rfl ?_
                    refine L_o (o_call Try.func45 rfl rfl (ih pre a1 a2 (b1 ++ b2 ++ post) (by omega) _ _ _ w21 (S21.get 0 rfl) (by rw [hn0]; simp; omega) (by omega) (by omega) (by omega) (by omega) (by omega) q1.1 q2.1) rfl rfl ?_)
                    rintro e23 w23 ⟨v23, rfl, T23⟩
                    refine ⟨_, rfl, ?_⟩
                    have S23 := S21.turn 0 rfl T23
                    refine L_nil ?_
                    exact ⟨(Sub.cons rfl (by first | rfl | exact congrArg (Value.int _) (by omega)) (Sub.cons rfl (congrArg (Value.int _) (by omega)) (Sub.cons rfl (by first | rfl | exact congrArg (Value.int _) (by omega)) (Sub.cons rfl (congrArg (Value.int _) (by omega)) (Sub.cons rfl (congrArg (Value.int _) (by omega)) (Sub.nil _)))))), by simpa using S23⟩
                  ·
                    refine T_skip ?_
                    have hz : mrg lt a1 a2 = a1 ++ a2 := by rcases (show a1 = [] ∨ a2 = [] from by by_cases q9 : a1.length = 0; exact .inl (List.eq_nil_of_length_eq_zero q9); exact .inr (List.eq_nil_of_length_eq_zero (by omega))) with q | q; rw [q, mrg_nil]; rfl; rw [q, mrg_nilr, List.append_nil]
                    have S9 := S21.rowc 0 rfl (n' := (pre ++ mrg lt a1 a2 ++ b1 ++ b2 ++ post).length) (xs' := (pre ++ mrg lt a1 a2 ++ b1 ++ b2 ++ post).flatMap enf) (by rw [hz]; simp) (by rw [hz]; simp)
                    exact ⟨(Sub.cons rfl (by first | rfl | exact congrArg (Value.int _) (by omega)) (Sub.cons rfl (congrArg (Value.int _) (by omega)) (Sub.cons rfl (by first | rfl | exact congrArg (Value.int _) (by omega)) (Sub.cons rfl (congrArg (Value.int _) (by omega)) (Sub.cons rfl (congrArg (Value.int _) (by omega)) (Sub.nil _)))))), S9⟩
                ·
                  refine L_gno rfl rfl rfl ?_
                  refine L_gno rfl rfl rfl ?_
                  refine L_gno rfl rfl rfl ?_
                  refine L_y (y_pk rfl rfl) rfl ?_
                  refine L_nil ?_
                  refine hK49 _ _ ?_
                  refine T_false rfl ?_
                  refine T_skip ?_
                  have hz : mrg lt a1 a2 = a1 ++ a2 := by rcases (show a1 = [] ∨ a2 = [] from by by_cases q9 : a1.length = 0; exact .inl (List.eq_nil_of_length_eq_zero q9); exact .inr (List.eq_nil_of_length_eq_zero (by omega))) with q | q; rw [q, mrg_nil]; rfl; rw [q, mrg_nilr, List.append_nil]
                  have S9 := S21.rowc 0 rfl (n' := (pre ++ mrg lt a1 a2 ++ b1 ++ b2 ++ post).length) (xs' := (pre ++ mrg lt a1 a2 ++ b1 ++ b2 ++ post).flatMap enf) (by rw [hz]; simp) (by rw [hz]; simp)
                  exact ⟨(Sub.cons rfl (by first | rfl | exact congrArg (Value.int _) (by omega)) (Sub.cons rfl (congrArg (Value.int _) (by omega)) (Sub.cons rfl (by first | rfl | exact congrArg (Value.int _) (by omega)) (Sub.cons rfl (congrArg (Value.int _) (by omega)) (Sub.cons rfl (congrArg (Value.int _) (by omega)) (Sub.nil _)))))), S9⟩
              ·
                rintro e24 w24 ⟨hsub, S24⟩
                refine T_weak hsub ?_
                refine T_seq fun K50 hK50 => ?_
                refine T_region ?_
                refine L_y (y_move rfl) rfl ?_
                refine L_y (y_move rfl) rfl ?_
                refine L_y (y_lss rfl rfl) rfl ?_
                refine L_y (y_move rfl) rfl ?_
                refine L_split 209 rfl (fun h209 => ?_) (fun h209 => ?_)
                ·
                  refine L_gyes rfl rfl ?_
                  refine L_y (y_move rfl) rfl ?_
                  refine L_gyes rfl rfl ?_
                  refine L_y (y_move rfl) rfl ?_
                  refine L_gyes rfl rfl ?_
                  refine L_y (y_lss rfl rfl) rfl ?_
                  refine L_y (y_pk rfl rfl) rfl ?_
                  refine L_nil ?_
                  refine hK50 _ _ ?_
                  refine T_cond rfl (fun h213 => ?_) (fun h213 => ?_)
                  ·
                    refine T_region ?_
                    refine L_y (y_move rfl) rfl ?_
                    refine L_y (y_move rfl) rfl ?_
                    refine L_y (y_move rfl) rfl ?_
                    refine L_y (y_move rfl) rfl ?_
                    refine L_y (y_move rfl) rfl ?_
                    refine L_o (o_call Try.func45 rfl rfl (ih (pre ++ mrg lt a1 a2) b1 b2 post (by omega) _ _ _ w24 (S24.get 0 rfl) (by rw [hn0]; simp [mrg_len]; omega) (by simp [mrg_len]; omega) (by simp [mrg_len]; omega) (by simp [mrg_len]; omega) (by omega) (by omega) q1.2.1 q2.2.1) rfl rfl ?_)
                    rintro e26 w26 ⟨v26, rfl, T26⟩
                    refine ⟨_, rfl, ?_⟩
                    have S26 := S24.turn 0 rfl T26
                    refine L_nil ?_
                    first | refine end0 (fn := Try.f45) rfl ?_ | (simp only [thenQ, inB, if_true]; refine end0 (fn := Try.f45) rfl ?_)
                    exact ⟨_, rfl, by have h := S26.turned1 0 rfl; rw [hsp, show pre ++ (mrg lt a1 a2 ++ mrg lt b1 b2) ++ post = pre ++ mrg lt a1 a2 ++ mrg lt b1 b2 ++ post from by simp]; exact h⟩
                  ·
                    refine T_skip ?_
                    first | refine end0 (fn := Try.f45) rfl ?_ | (simp only [thenQ, inB, if_true]; refine end0 (fn := Try.f45) rfl ?_)
                    have hz : mrg lt b1 b2 = b1 ++ b2 := by rcases (show b1 = [] ∨ b2 = [] from by by_cases q9 : b1.length = 0; exact .inl (List.eq_nil_of_length_eq_zero q9); exact .inr (List.eq_nil_of_length_eq_zero (by omega))) with q | q; rw [q, mrg_nil]; rfl; rw [q, mrg_nilr, List.append_nil]
                    exact ⟨_, rfl, by have h := S24.turned1 0 rfl; rw [hsp, hz]; rw [show pre ++ mrg lt a1 a2 ++ b1 ++ b2 ++ post = pre ++ (mrg lt a1 a2 ++ (b1 ++ b2)) ++ post from by simp] at h; exact h⟩
                ·
                  refine L_gno rfl rfl rfl ?_
                  refine L_gno rfl rfl rfl ?_
                  refine L_gno rfl rfl rfl ?_
                  refine L_y (y_pk rfl rfl) rfl ?_
                  refine L_nil ?_
                  refine hK50 _ _ ?_
                  refine T_false rfl ?_
                  refine T_skip ?_
                  first | refine end0 (fn := Try.f45) rfl ?_ | (simp only [thenQ, inB, if_true]; refine end0 (fn := Try.f45) rfl ?_)
                  have hz : mrg lt b1 b2 = b1 ++ b2 := by rcases (show b1 = [] ∨ b2 = [] from by by_cases q9 : b1.length = 0; exact .inl (List.eq_nil_of_length_eq_zero q9); exact .inr (List.eq_nil_of_length_eq_zero (by omega))) with q | q; rw [q, mrg_nil]; rfl; rw [q, mrg_nilr, List.append_nil]
                  exact ⟨_, rfl, by have h := S24.turned1 0 rfl; rw [hsp, hz]; rw [show pre ++ mrg lt a1 a2 ++ b1 ++ b2 ++ post = pre ++ (mrg lt a1 a2 ++ (b1 ++ b2)) ++ post from by simp] at h; exact h⟩


theorem symm_all {A : Option Addr} {n c F : Nat} {lt : EV → EV → Bool} (hC : CMP F lt) (hn5 : n ≤ 10000) : ∀ (N : Nat) (pre l1 l2 post : List EV), l1.length + l2.length < N → SMok A n c F lt pre l1 l2 post
  | 0, pre, l1, l2, post, h => absurd h (by omega)
  | N + 1, pre, l1, l2, post, h => fun a m b w0 hw hn ha hm hb h1 h2 hs1 hs2 =>
    symst A n c (l1.length + l2.length) a m b pre l1 l2 post F lt w0 hw hC hn ha hm hb h1 h2 hs1 hs2 rfl (fun pre' l1' l2' post' h' => symm_all hC hn5 N pre' l1' l2' post' (by omega)) hn5
theorem symm {A : Option Addr} {n c F : Nat} {lt : EV → EV → Bool} (hC : CMP F lt) (hn5 : n ≤ 10000) (pre l1 l2 post : List EV) : SMok A n c F lt pre l1 l2 post := symm_all hC hn5 (l1.length + l2.length + 1) pre l1 l2 post (by omega)
end Go.Proofs.Ytmgimcdkeelnpaa


/-
  SortStableFunc.
-/
namespace Go.Proofs.Ytmgimcdkeelnpaa
open Go.RowKit Zk Zx
set_option linter.unusedVariables false
set_option linter.unusedSimpArgs false

/-- Sorted in pieces of so many. -/
def cs (lt : EV → EV → Bool) (bs : Nat) (l : List EV) : List EV := if h : 0 < bs ∧ bs < l.length then srt lt (l.take bs) ++ cs lt bs (l.drop bs) else srt lt l
termination_by l.length
decreasing_by rw [List.length_drop]; omega
theorem cs_last {lt : EV → EV → Bool} {bs : Nat} {l : List EV} (h : l.length ≤ bs) : cs lt bs l = srt lt l := by rw [cs, dif_neg (by omega)]
theorem cs_step {lt : EV → EV → Bool} {bs : Nat} {l : List EV} (h0 : 0 < bs) (h : bs ≤ l.length) : cs lt bs l = srt lt (l.take bs) ++ cs lt bs (l.drop bs) := by
  rcases Nat.lt_or_ge bs l.length with q | q
  · rw [cs, dif_pos ⟨h0, q⟩]
  · have e : l.length = bs := by omega
    rw [cs_last (by omega), List.take_of_length_le (by omega), List.drop_of_length_le (by omega), cs_last (by simp)]
    simp [srt]
theorem cs_two {lt : EV → EV → Bool} {bs : Nat} {l : List EV} (h0 : 0 < bs) (h : 2 * bs ≤ l.length) : cs lt bs l = srt lt (l.take bs) ++ srt lt ((l.drop bs).take bs) ++ cs lt bs (l.drop (2 * bs)) := by
  rw [cs_step h0 (by omega), cs_step h0 (l := l.drop bs) (by rw [List.length_drop]; omega), List.drop_drop, List.append_assoc, show bs + bs = 2 * bs by omega]
theorem cs_one {lt : EV → EV → Bool} {bs : Nat} {l : List EV} (h0 : 0 < bs) (h : bs ≤ l.length) (h2 : l.length ≤ 2 * bs) : cs lt bs l = srt lt (l.take bs) ++ srt lt (l.drop bs) := by
  rw [cs_step h0 h, cs_last (by rw [List.length_drop]; omega)]
theorem srt_two {lt : EV → EV → Bool} (O : Ord3 lt) (l : List EV) (bs : Nat) : mrg lt (srt lt (l.take bs)) (srt lt ((l.drop bs).take bs)) = srt lt (l.take (2 * bs)) := by
  rw [mrg_srt O, show 2 * bs = bs + bs by omega, List.take_add]
theorem srt_two' {lt : EV → EV → Bool} (O : Ord3 lt) (l : List EV) (bs : Nat) : mrg lt (srt lt (l.take bs)) (srt lt (l.drop bs)) = srt lt l := by
  rw [mrg_srt O, List.take_append_drop]
theorem cs_len {lt : EV → EV → Bool} {bs : Nat} : ∀ (N : Nat) (l : List EV), l.length ≤ N → (cs lt bs l).length = l.length
  | N, l, h => by
    rw [cs]
    split
    · rename_i q
      match N, h with
      | 0, h => omega
      | N + 1, h =>
        rw [List.length_append, srt_len, cs_len N (l.drop bs) (by rw [List.length_drop]; omega), List.length_take, List.length_drop]
        omega
    · rw [srt_len]


set_option maxRecDepth 100000 in
theorem stabl (A : Option Addr) (n c : Nat) (l : List EV) (F : Nat) (lt : EV → EV → Bool) (w0 : World) (hw : (enR A c l).holds w0) (hC : CMP F lt) (hn : n = l.length) (hn5 : n ≤ 10000) :
    Calls Try.prog 34 #[.slice A n c, .int .i64 (n : Int), .func (.func F) #[] #[]] w0 fun e w' => ∃ u, e = .returned u ∧ Turned w0 w' (enR A c l) (enR A c (srt lt l)) := by
  refine enter1 (env := [(0, .slice A n c), (1, .int .i64 (n : Int)), (2, .func (.func F) #[] #[])]) [.slice A n c, .int .i64 (n : Int), .func (.func F) #[] #[]] Try.func34 rfl Try.ntmps34 rfl rfl ?_
  have S0 := St.borrow1 (enR A c l) hw (enR_lt hw)
  refine T_seq fun K1 hK1 => ?_
  refine T_region ?_
  refine L_y (y_assign rfl) rfl ?_
  refine L_nil ?_
  refine hK1 _ _ ?_
  refine T_seq fun K2 hK2 => ?_
  refine T_region ?_
  refine L_y (y_move rfl) rfl ?_
  refine L_y (y_assign rfl) rfl ?_
  refine L_y (y_assign rfl) rfl ?_
  refine L_nil ?_
  refine hK2 _ _ ?_
  refine T_seq fun K3 hK3 => ?_
  refine T_block ?_
  refine T_loop1 [(0, _), (1, _), (2, _), (6, _)] (fun (D : List EV) => [(7, .int .i64 (D.length : Int)), (8, .int .i64 ((D.length + 20 : Nat) : Int))]) (fun (D : List EV) => l.length - D.length) (fun (D : List EV) (w : World) => (D.length ≤ l.length ∧ D ++ cs lt 20 (l.drop D.length) = cs lt 20 l) ∧ St w0 (enR A c l).dom [enR A c (D ++ (l.drop D.length))] w) [] (Sub.cons rfl (by first | rfl | exact congrArg (Value.int _) (by omega)) (Sub.cons rfl (by first | rfl | exact congrArg (Value.int _) (by omega)) (Sub.nil _))) (Sub.cons rfl rfl (Sub.cons rfl rfl (Sub.cons rfl rfl (Sub.cons rfl rfl (Sub.nil _))))) ?_ ?_
  ·
    exact ⟨⟨Nat.zero_le _, rfl⟩, by simpa using S0⟩
  ·
    intro D w1 hrel
    obtain ⟨⟨hD, hcs⟩, S1⟩ := hrel
    have hRl : (l.drop D.length).length = l.length - D.length := List.length_drop
    refine T_seq fun K4 hK4 => ?_
    refine T_seq fun K5 hK5 => ?_
    refine T_region ?_
    refine L_y (y_move rfl) rfl ?_
    refine L_y (y_move rfl) rfl ?_
    refine L_y (y_leq rfl rfl) rfl ?_
    refine L_nil ?_
    refine hK5 _ _ ?_
    refine T_cond rfl (fun h13 => ?_) (fun h13 => ?_)
    ·
      rw [show D ++ (l.drop D.length) = D ++ (l.drop D.length).take 20 ++ (l.drop D.length).drop 20 from by rw [List.append_assoc, List.take_append_drop]] at S1
      refine T_skip ?_
      refine hK4 _ _ ?_
      refine T_block ?_
      refine T_seq fun K6 hK6 => ?_
      refine T_region ?_
      refine L_y (y_move rfl) rfl ?_
      refine L_y (y_move rfl) rfl ?_
      refine L_y (y_move rfl) rfl ?_
      refine L_y (y_move rfl) rfl ?_
      refine L_o (o_call Try.func44 rfl rfl (insor A n c _ _ D ((l.drop D.length).take 20) ((l.drop D.length).drop 20) F lt w1 (S1.get 0 rfl) hC (by simp; omega) rfl (by rw [List.length_take]; omega) (by omega)) rfl rfl ?_)
      rintro e2 w2 ⟨v2, rfl, T2⟩
      refine ⟨_, rfl, ?_⟩
      have S2 := S1.turn 0 rfl T2
      refine L_nil ?_
      refine hK6 _ _ ?_
      refine T_seq fun K7 hK7 => ?_
      refine T_region ?_
      refine L_y (y_move rfl) rfl ?_
      refine L_y (y_assign rfl) rfl ?_
      refine L_nil ?_
      refine hK7 _ _ ?_
      refine T_region ?_
      refine L_y (y_move rfl) rfl ?_
      refine L_y (y_move rfl) rfl ?_
      refine L_y (y_add rfl rfl (i64w (by omega))) rfl ?_
      refine L_y (y_assign rfl) rfl ?_
      refine L_nil ?_
      have hDl : (D ++ srt lt ((l.drop D.length).take 20)).length = D.length + 20 := by rw [List.length_append, srt_len, List.length_take]; omega
      rw [List.drop_drop] at S2
      refine ⟨D ++ srt lt ((l.drop D.length).take 20), by omega, ⟨⟨by omega, by rw [hDl, ← List.drop_drop, List.append_assoc, ← cs_step (by omega) (by omega), hcs]⟩, by rw [hDl]; exact S2⟩, ?_⟩
      exact (Sub.cons rfl (congrArg (Value.int _) (by omega)) (Sub.cons rfl (congrArg (Value.int _) (by omega)) (Sub.cons rfl rfl (Sub.cons rfl rfl (Sub.cons rfl rfl (Sub.cons rfl rfl (Sub.nil _)))))))
    ·
      rw [show D ++ (l.drop D.length) = D ++ (l.drop D.length) ++ [] from by simp] at S1
      refine T_exit ?_
      refine hK3 _ _ ?_
      refine T_seq fun K8 hK8 => ?_
      refine T_region ?_
      refine L_y (y_move rfl) rfl ?_
      refine L_y (y_move rfl) rfl ?_
      refine L_y (y_move rfl) rfl ?_
      refine L_y (y_move rfl) rfl ?_
      refine L_o (o_call Try.func44 rfl rfl (insor A n c _ _ D (l.drop D.length) [] F lt w1 (S1.get 0 rfl) hC (by simp; omega) rfl (by omega) (by omega)) rfl rfl ?_)
      rintro e3 w3 ⟨v3, rfl, T3⟩
      refine ⟨_, rfl, ?_⟩
      have S3 := S1.turn 0 rfl T3
      have e9 : D ++ srt lt (l.drop D.length) ++ [] = cs lt 20 l := by rw [List.append_nil, ← cs_last (bs := 20) (by omega), hcs]
      rw [e9] at S3
      refine L_nil ?_
      refine hK8 _ _ ?_
      refine T_block ?_
      refine T_loop1 [(0, _), (1, _), (2, _)] (fun (bs : Nat) => [(6, .int .i64 (bs : Int))]) (fun (bs : Nat) => n - bs) (fun (bs : Nat) (w : World) => (20 ≤ bs) ∧ St w0 (enR A c l).dom [enR A c (cs lt bs l)] w) 20 (Sub.cons rfl (by first | rfl | exact congrArg (Value.int _) (by omega)) (Sub.nil _)) (Sub.cons rfl rfl (Sub.cons rfl rfl (Sub.cons rfl rfl (Sub.nil _)))) ?_ ?_
      ·
        exact ⟨by omega, S3⟩
      ·
        intro bs w4 hrel
        obtain ⟨hbs, S4⟩ := hrel
        refine T_seq fun K9 hK9 => ?_
        refine T_seq fun K10 hK10 => ?_
        refine T_region ?_
        refine L_y (y_move rfl) rfl ?_
        refine L_y (y_move rfl) rfl ?_
        refine L_y (y_lss rfl rfl) rfl ?_
        refine L_nil ?_
        refine hK10 _ _ ?_
        refine T_cond rfl (fun h30 => ?_) (fun h30 => ?_)
        ·
          refine T_skip ?_
          refine hK9 _ _ ?_
          refine T_block ?_
          refine T_seq fun K11 hK11 => ?_
          refine T_region ?_
          refine L_y (y_move rfl) rfl ?_
          refine L_y (y_mul rfl rfl (i64w (by omega))) rfl ?_
          refine L_y (y_assign rfl) rfl ?_
          refine L_y (y_assign rfl) rfl ?_
          refine L_nil ?_
          refine hK11 _ _ ?_
          refine T_seq fun K12 hK12 => ?_
          refine T_block ?_
          refine T_loop1 [(0, _), (1, _), (2, _), (6, _)] (fun (E : List EV) => [(7, .int .i64 (E.length : Int)), (8, .int .i64 ((E.length + 2 * bs : Nat) : Int))]) (fun (E : List EV) => l.length - E.length) (fun (E : List EV) (w : World) => (E.length ≤ l.length ∧ E ++ cs lt (2 * bs) (l.drop E.length) = cs lt (2 * bs) l) ∧ St w0 (enR A c l).dom [enR A c (E ++ cs lt bs (l.drop E.length))] w) [] (Sub.cons rfl (by first | rfl | exact congrArg (Value.int _) (by first | omega | (simp; done) | (simp; omega))) (Sub.cons rfl (by first | rfl | exact congrArg (Value.int _) (by first | omega | (simp; done) | (simp; omega))) (Sub.nil _))) (Sub.cons rfl rfl (Sub.cons rfl rfl (Sub.cons rfl rfl (Sub.cons rfl rfl (Sub.nil _))))) ?_ ?_
          ·
            exact ⟨⟨Nat.zero_le _, rfl⟩, by simpa using S4⟩
          ·
            intro E w5 hrel
            obtain ⟨⟨hE, hcs2⟩, S5⟩ := hrel
            have hEl : (l.drop E.length).length = l.length - E.length := List.length_drop
            have hcl := cs_len (lt := lt) (bs := bs) _ (l.drop E.length) (Nat.le_refl _)
            refine T_seq fun K13 hK13 => ?_
            refine T_seq fun K14 hK14 => ?_
            refine T_region ?_
            refine L_y (y_move rfl) rfl ?_
            refine L_y (y_move rfl) rfl ?_
            refine L_y (y_leq rfl rfl) rfl ?_
            refine L_nil ?_
            refine hK14 _ _ ?_
            refine T_cond rfl (fun h35 => ?_) (fun h35 => ?_)
            ·
              rw [cs_two (by omega) (by omega), show E ++ (srt lt ((l.drop E.length).take bs) ++ srt lt (((l.drop E.length).drop bs).take bs) ++ cs lt bs ((l.drop E.length).drop (2 * bs))) = E ++ srt lt ((l.drop E.length).take bs) ++ srt lt (((l.drop E.length).drop bs).take bs) ++ cs lt bs ((l.drop E.length).drop (2 * bs)) from by simp] at S5
              have k1 : (srt lt ((l.drop E.length).take bs)).length = bs := by rw [srt_len, List.length_take]; omega
              have k2 : (srt lt (((l.drop E.length).drop bs).take bs)).length = bs := by rw [srt_len, List.length_take, List.length_drop]; omega
              have k3 := cs_len (lt := lt) (bs := bs) _ ((l.drop E.length).drop (2 * bs)) (Nat.le_refl _)
              rw [List.length_drop] at k3
              refine T_skip ?_
              refine hK13 _ _ ?_
              refine T_block ?_
              refine T_seq fun K15 hK15 => ?_
              refine T_region ?_
              refine L_y (y_move rfl) rfl ?_
              refine L_y (y_move rfl) rfl ?_
              refine L_y (y_move rfl) rfl ?_
              refine L_y (y_move rfl) rfl ?_
              refine L_y (y_add rfl rfl (i64w (by omega))) rfl ?_
              refine L_y (y_move rfl) rfl ?_
              refine L_y (y_move rfl) rfl ?_
              refine L_o (o_call Try.func45 rfl rfl (symm hC hn5 E (srt lt ((l.drop E.length).take bs)) (srt lt (((l.drop E.length).drop bs).take bs)) (cs lt bs ((l.drop E.length).drop (2 * bs))) _ _ _ w5 (S5.get 0 rfl) (by rw [List.length_append, List.length_append, List.length_append]; omega) rfl (by omega) (by omega) (by omega) (by omega) (srt_sorted hC.ord _) (srt_sorted hC.ord _)) rfl rfl ?_)
              rintro e6 w6 ⟨v6, rfl, T6⟩
              refine ⟨_, rfl, ?_⟩
              have S6 := S5.turn 0 rfl T6
              refine L_nil ?_
              refine hK15 _ _ ?_
              refine T_seq fun K16 hK16 => ?_
              refine T_region ?_
              refine L_y (y_move rfl) rfl ?_
              refine L_y (y_assign rfl) rfl ?_
              refine L_nil ?_
              refine hK16 _ _ ?_
              refine T_region ?_
              refine L_y (y_move rfl) rfl ?_
              refine L_y (y_move rfl) rfl ?_
              refine L_y (y_mul rfl rfl (i64w (by omega))) rfl ?_
              refine L_y (y_add rfl rfl (i64w (by omega))) rfl ?_
              refine L_y (y_assign rfl) rfl ?_
              refine L_nil ?_
              have hDl : (E ++ srt lt ((l.drop E.length).take (2 * bs))).length = E.length + 2 * bs := by rw [List.length_append, srt_len, List.length_take]; omega
              have e9 : E ++ mrg lt (srt lt ((l.drop E.length).take bs)) (srt lt (((l.drop E.length).drop bs).take bs)) ++ cs lt bs ((l.drop E.length).drop (2 * bs)) = E ++ srt lt ((l.drop E.length).take (2 * bs)) ++ cs lt bs (l.drop (E.length + 2 * bs)) := by rw [srt_two hC.ord, List.drop_drop]
              rw [e9] at S6
              refine ⟨E ++ srt lt ((l.drop E.length).take (2 * bs)), by omega, ⟨⟨by omega, by rw [hDl, ← List.drop_drop, List.append_assoc, ← cs_step (by omega) (by omega), hcs2]⟩, by rw [hDl]; exact S6⟩, ?_⟩
              exact (Sub.cons rfl (congrArg (Value.int _) (by first | omega | (simp; done) | (simp; omega))) (Sub.cons rfl (congrArg (Value.int _) (by first | omega | (simp; done) | (simp; omega))) (Sub.cons rfl rfl (Sub.cons rfl rfl (Sub.cons rfl rfl (Sub.cons rfl rfl (Sub.nil _)))))))
            ·
              refine T_exit ?_
              refine hK12 _ _ ?_
              refine T_seq fun K17 hK17 => ?_
              refine T_seq fun K18 hK18 => ?_
              refine T_region ?_
              refine L_y (y_move rfl) rfl ?_
              refine L_y (y_move rfl) rfl ?_
              refine L_y (y_add rfl rfl (i64w (by omega))) rfl ?_
              refine L_y (y_assign rfl) rfl ?_
              refine L_nil ?_
              refine hK18 _ _ ?_
              refine T_seq fun K19 hK19 => ?_
              refine T_region ?_
              refine L_y (y_move rfl) rfl ?_
              refine L_y (y_move rfl) rfl ?_
              refine L_y (y_lss rfl rfl) rfl ?_
              refine L_nil ?_
              refine hK19 _ _ ?_
              refine T_cond rfl (fun h54 => ?_) (fun h54 => ?_)
              ·
                rw [cs_one (by omega) (by omega) (by omega), show E ++ (srt lt ((l.drop E.length).take bs) ++ srt lt ((l.drop E.length).drop bs)) = E ++ srt lt ((l.drop E.length).take bs) ++ srt lt ((l.drop E.length).drop bs) ++ [] from by simp] at S5
                have k1 : (srt lt ((l.drop E.length).take bs)).length = bs := by rw [srt_len, List.length_take]; omega
                have k2 : (srt lt ((l.drop E.length).drop bs)).length = l.length - E.length - bs := by rw [srt_len, List.length_drop]; omega
                refine T_region ?_
                refine L_y (y_move rfl) rfl ?_
                refine L_y (y_move rfl) rfl ?_
                refine L_y (y_move rfl) rfl ?_
                refine L_y (y_move rfl) rfl ?_
                refine L_y (y_move rfl) rfl ?_
                refine L_o (o_call Try.func45 rfl rfl (symm hC hn5 E (srt lt ((l.drop E.length).take bs)) (srt lt ((l.drop E.length).drop bs)) [] _ _ _ w5 (S5.get 0 rfl) (by rw [List.length_append, List.length_append, List.length_append, List.length_nil]; omega) rfl (by omega) (by omega) (by omega) (by omega) (srt_sorted hC.ord _) (srt_sorted hC.ord _)) rfl rfl ?_)
                rintro e7 w7 ⟨v7, rfl, T7⟩
                refine ⟨_, rfl, ?_⟩
                have S7 := S5.turn 0 rfl T7
                have e9 : E ++ mrg lt (srt lt ((l.drop E.length).take bs)) (srt lt ((l.drop E.length).drop bs)) ++ [] = cs lt (2 * bs) l := by rw [srt_two' hC.ord, List.append_nil, ← cs_last (bs := 2 * bs) (by omega), hcs2]
                rw [e9] at S7
                refine L_nil ?_
                refine hK17 _ _ ?_
                refine T_region ?_
                refine L_y (y_move rfl) rfl ?_
                refine L_y (y_mul rfl rfl (i64w (by omega))) rfl ?_
                refine L_y (y_assign rfl) rfl ?_
                refine L_nil ?_
                refine ⟨2 * bs, by omega, ⟨by omega, S7⟩, ?_⟩
                exact (Sub.cons rfl (congrArg (Value.int _) (by omega)) (Sub.cons rfl rfl (Sub.cons rfl rfl (Sub.cons rfl rfl (Sub.nil _)))))
              ·
                rw [cs_last (bs := bs) (by omega), ← cs_last (bs := 2 * bs) (by omega), hcs2] at S5
                refine T_skip ?_
                refine hK17 _ _ ?_
                refine T_region ?_
                refine L_y (y_move rfl) rfl ?_
                refine L_y (y_mul rfl rfl (i64w (by omega))) rfl ?_
                refine L_y (y_assign rfl) rfl ?_
                refine L_nil ?_
                refine ⟨2 * bs, by omega, ⟨by omega, S5⟩, ?_⟩
                exact (Sub.cons rfl (congrArg (Value.int _) (by omega)) (Sub.cons rfl rfl (Sub.cons rfl rfl (Sub.cons rfl rfl (Sub.nil _)))))
        ·
          refine T_exit ?_
          first | refine end0 (fn := Try.f34) rfl ?_ | (simp only [thenQ, inB, if_true]; refine end0 (fn := Try.f34) rfl ?_)
          have h := S4.turned1 0 rfl
          rw [cs_last (by omega)] at h
          exact ⟨_, rfl, h⟩


set_option maxRecDepth 100000 in
theorem sortst (A : Option Addr) (n c : Nat) (l : List EV) (F : Nat) (lt : EV → EV → Bool) (w0 : World) (hw : (enR A c l).holds w0) (hC : CMP F lt) (hn : n = l.length) (hn5 : n ≤ 10000) :
    Calls Try.prog 24 #[.slice A n c, .func (.func F) #[] #[]] w0 fun e w' => ∃ u, e = .returned u ∧ Turned w0 w' (enR A c l) (enR A c (srt lt l)) := by
  refine enter1 (env := [(0, .slice A n c), (1, .func (.func F) #[] #[])]) [.slice A n c, .func (.func F) #[] #[]] Try.func24 rfl Try.ntmps24 rfl rfl ?_
  have S0 := St.borrow1 (enR A c l) hw (enR_lt hw)
  refine T_region ?_
  refine L_y (y_move rfl) rfl ?_
  refine L_y (y_move rfl) rfl ?_
  refine L_y (y_len Try.underlying22 rfl) rfl ?_
  refine L_y (y_move rfl) rfl ?_
  refine L_o (o_call Try.func34 rfl rfl (stabl A n c l F lt w0 (S0.get 0 rfl) hC hn hn5) rfl rfl ?_)
  rintro e1 w1 ⟨v1, rfl, T1⟩
  refine ⟨_, rfl, ?_⟩
  have S1 := S0.turn 0 rfl T1
  refine L_nil ?_
  first | refine end0 (fn := Try.f24) rfl ?_ | (simp only [thenQ, inB, if_true]; refine end0 (fn := Try.f24) rfl ?_)
  exact ⟨_, rfl, S1.turned1 0 rfl⟩
end Go.Proofs.Ytmgimcdkeelnpaa


/-
  The order of bytes' lists. General; nothing here names a program.
-/
namespace Go.Proofs.Ytmgimcdkeelnpaa.Zx
open Go.RowKit Zk
set_option linter.unusedVariables false
/-- a before b. -/
def bl (a b : List UInt8) : Bool := Op.bytesLess a b
theorem sLt_eq (a b : List UInt8) : sLt ⟨a.toArray⟩ ⟨b.toArray⟩ = bl a b := by
  unfold sLt
  rw [toList_eq, toList_eq]
  rfl
theorem bl_nil (a : List UInt8) : bl a [] = false := by cases a <;> rfl
theorem bl_cons (x y : UInt8) (a b : List UInt8) : bl (x :: a) (y :: b) = (decide (x < y) || (x == y && bl a b)) := rfl
theorem bl_irr : ∀ a, bl a a = false
  | [] => rfl
  | x :: a => by rw [bl_cons, bl_irr a]; simp
theorem bl_trans : ∀ a b c, bl a b = true → bl b c = true → bl a c = true
  | _, [], _, h, _ => by rw [bl_nil] at h; cases h
  | _, _ :: _, [], _, h => by rw [bl_nil] at h; cases h
  | [], _ :: _, _ :: _, _, _ => rfl
  | x :: a, y :: b, z :: c, h1, h2 => by
    rw [bl_cons] at h1 h2 ⊢
    simp only [Bool.or_eq_true, decide_eq_true_eq, Bool.and_eq_true, beq_iff_eq] at h1 h2 ⊢
    rcases h1 with h1 | ⟨h1, h3⟩
    · rcases h2 with h2 | ⟨h2, h4⟩
      · exact .inl (UInt8.lt_trans h1 h2)
      · subst h2; exact .inl h1
    · subst h1
      rcases h2 with h2 | ⟨h2, h4⟩
      · exact .inl h2
      · exact .inr ⟨h2, bl_trans a b c h3 h4⟩
theorem bl_total : ∀ a b, bl a b = false → a ≠ b → bl b a = true
  | [], [], _, h => absurd rfl h
  | [], _ :: _, h, _ => by cases h
  | _ :: _, [], _, _ => rfl
  | x :: a, y :: b, h, hn => by
    rw [bl_cons] at h ⊢
    simp only [Bool.or_eq_false_iff, decide_eq_false_iff_not, Bool.and_eq_false_iff, beq_eq_false_iff_ne] at h
    simp only [Bool.or_eq_true, decide_eq_true_eq, Bool.and_eq_true, beq_iff_eq]
    by_cases hxy : x = y
    · subst hxy
      rcases h.2 with h2 | h2
      · exact absurd rfl h2
      · exact .inr ⟨rfl, bl_total a b h2 (fun e => hn (by rw [e]))⟩
    · left
      rcases UInt8.lt_or_lt_of_ne hxy with h3 | h3
      · exact absurd h3 h.1
      · exact h3
theorem bl_ntrans (x y z : List UInt8) (h1 : bl x y = false) (h2 : bl y z = false) : bl x z = false := by
  cases h3 : bl x z
  · rfl
  · exfalso
    by_cases e1 : x = y
    · subst e1; rw [h3] at h2; cases h2
    · have h4 := bl_total x y h1 e1
      have h5 := bl_trans _ _ _ h4 h3
      rw [h5] at h2
      cases h2
theorem cmp_bl : ∀ a b : List UInt8, decide (Lib.compareBytes a b < 0) = bl a b
  | [], [] => rfl
  | [], _ :: _ => rfl
  | _ :: _, [] => rfl
  | x :: a, y :: b => by
    rw [bl_cons, Lib.compareBytes]
    by_cases h1 : x < y
    · simp [h1]
    · by_cases h2 : y < x
      · have h3 : x ≠ y := fun e => by subst e; exact h1 h2
        simp [h1, h2, h3]
      · have h3 : x = y := by
          rcases Classical.em (x = y) with h | h
          · exact h
          · rcases UInt8.lt_or_lt_of_ne h with h4 | h4
            · exact (h1 h4).elim
            · exact (h2 h4).elim
        subst h3
        have ih := cmp_bl a b
        rw [if_neg h1, if_neg h1, ih]
        simp [h1]
theorem ordBl {α : Type} (key : α → List UInt8) : Ord3 fun x y => bl (key x) (key y) where
  asym x y h := by
    cases h2 : bl (key y) (key x) with
    | false => rfl
    | true =>
      have := bl_trans _ _ _ h h2
      rw [bl_irr] at this
      cases this
  nt x y z h1 h2 := bl_ntrans _ _ _ h1 h2
end Go.Proofs.Ytmgimcdkeelnpaa.Zx


/-
  The orders.
-/
namespace Go.Proofs.Ytmgimcdkeelnpaa
open Go.RowKit Zk Zx
set_option linter.unusedVariables false
set_option linter.unusedSimpArgs false
/-- Where the library's parts lie here. -/
def strCmp_ren : Go.Shelf.Ren := ⟨fun | 106 => 35 | 213 => 46 | 265 => 53 | n => n, fun | 9 => 9 | 3 => 3 | n => n, fun | n => n⟩
theorem strCmp : Go.Proofs.Lays.n106 Try.prog strCmp_ren := {
  mixed := by kernel_rfl,
  f106 := Try.func35.trans (congrArg some (by kernel_rfl)),
  f213 := Try.func46.trans (congrArg some (by kernel_rfl)),
  f265 := Try.func53.trans (congrArg some (by kernel_rfl)),
  t3 := Try.underlying3,
  a3 := Try.isAgg3,
  z3 := Try.sizeOf3,
  v3 := Try.zeroValue3,
  t9 := Try.underlying9,
  a9 := Try.isAgg9,
  z9 := Try.sizeOf9,
  v9 := Try.zeroValue9 }
def idxS_ren : Go.Shelf.Ren := ⟨fun | 217 => 61 | 266 => 66 | n => n, fun | 9 => 9 | 5 => 5 | 3 => 3 | n => n, fun | n => n⟩
theorem idxS : Go.Proofs.Lays.n217 Try.prog idxS_ren := {
  mixed := by kernel_rfl,
  f217 := Try.func61.trans (congrArg some (by kernel_rfl)),
  f266 := Try.func66.trans (congrArg some (by kernel_rfl)),
  t3 := Try.underlying3,
  a3 := Try.isAgg3,
  z3 := Try.sizeOf3,
  v3 := Try.zeroValue3,
  t5 := Try.underlying5,
  a5 := Try.isAgg5,
  z5 := Try.sizeOf5,
  v5 := Try.zeroValue5,
  t9 := Try.underlying9,
  a9 := Try.isAgg9,
  z9 := Try.sizeOf9,
  v9 := Try.zeroValue9 }
theorem sLt_bl (a b : ByteArray) : sLt a b = bl a.data.toList b.data.toList := by
  have h := sLt_eq a.data.toList b.data.toList
  rw [Array.toArray_toList, Array.toArray_toList] at h
  exact h
def keyB (e : EV) : ByteArray := if e.md = 3 then e.nm ++ ⟨#[47]⟩ else e.nm
def ltK (x y : EV) : Bool := sLt (keyB x) (keyB y)
theorem ordK : Ord3 ltK := by
  have h := ordBl fun e : EV => (keyB e).data.toList
  have e : ltK = fun x y => bl (keyB x).data.toList (keyB y).data.toList := by funext x y; exact sLt_bl _ _
  rw [e]
  exact h
theorem compar (a b : ByteArray) (w0 : World) : Calls Try.prog 35 #[.string a, .string b] w0 fun e w' => ∃ u, e = .returned u ∧ Like w0 w' ∧ ∃ v : Int, u = .int .i64 v ∧ (v < 0 ↔ sLt a b = true) :=
  (show Calls Try.prog 35 _ _ _ from Any.strings_Compare strCmp a b w0).mono fun e w' ⟨h1, h2⟩ => by
    subst h2
    refine ⟨_, h1, Like.refl _, _, rfl, ?_⟩
    rw [sLt_bl, ← cmp_bl]
    exact decide_eq_true_iff.symm


set_option maxRecDepth 100000 in
theorem key (x : EV) (w0 : World)  :
    Calls Try.prog 36 #[.agg (enf x).toArray] w0 fun e w' => ∃ u, e = .returned u ∧ Like w0 w' ∧ u = .string (keyB x) := by
  refine enter1 (env := [(0, .agg (enf x).toArray)]) [.agg (enf x).toArray] Try.func36 rfl Try.ntmps36 rfl rfl ?_
  have S0 := St.start w0 noM; have hsz := x.h.2; have h1z : (⟨#[47]⟩ : ByteArray).size = 1 := rfl
  refine T_seq fun K1 hK1 => ?_
  refine T_region ?_
  refine L_o (o_box rfl S0 rfl fun b1 w1 hb1 S1 => ?_)
  refine L_y (y_assign rfl) rfl ?_
  refine L_nil ?_
  refine hK1 _ _ ?_
  refine T_seq fun K2 hK2 => ?_
  refine T_seq fun K3 hK3 => ?_
  refine T_region ?_
  refine L_y (y_fieldA 1 Try.underlying39 rfl sz3 rfl rfl rfl) rfl ?_
  refine L_y (y_ldc Try.underlying3 rfl rfl (((S1.blk 0 rfl).cell _).trans (by rfl))) rfl ?_
  refine L_y (y_eql rfl rfl) rfl ?_
  refine L_nil ?_
  refine hK3 _ _ ?_
  refine T_cond rfl (fun h5 => ?_) (fun h5 => ?_)
  ·
    refine T_seq fun K4 hK4 => ?_
    refine T_region ?_
    refine L_y (y_fieldA 0 Try.underlying39 rfl sz9 rfl rfl rfl) rfl ?_
    refine L_y (y_ldc Try.underlying9 rfl rfl (((S1.blk 0 rfl).cell _).trans (by rfl))) rfl ?_
    refine L_y (y_cat rfl rfl (by omega)) rfl ?_
    refine L_y (y_assign rfl) rfl ?_
    refine L_nil ?_
    refine hK4 _ _ ?_
    refine T_ret ?_
    refine ur ?_
    refine ret1 rfl rfl ?_
    first | exact ⟨_, rfl, S1.like0, by unfold keyB; rw [if_pos (by omega)]⟩ | exact ⟨_, rfl, S1.like0, by unfold keyB; rw [if_neg (by omega)]; rfl⟩
  ·
    refine T_skip ?_
    refine hK2 _ _ ?_
    refine T_seq fun K5 hK5 => ?_
    refine T_region ?_
    refine L_y (y_fieldA 0 Try.underlying39 rfl sz9 rfl rfl rfl) rfl ?_
    refine L_y (y_ldc Try.underlying9 rfl rfl (((S1.blk 0 rfl).cell _).trans (by rfl))) rfl ?_
    refine L_y (y_assign rfl) rfl ?_
    refine L_nil ?_
    refine hK5 _ _ ?_
    refine T_ret ?_
    refine ur ?_
    refine ret1 rfl rfl ?_
    first | exact ⟨_, rfl, S1.like0, by unfold keyB; rw [if_pos (by omega)]⟩ | exact ⟨_, rfl, S1.like0, by unfold keyB; rw [if_neg (by omega)]; rfl⟩


set_option maxRecDepth 100000 in
theorem rkey (x : EV) (w0 : World)  :
    Calls Try.prog 29 #[.agg (enf x).toArray] w0 fun e w' => ∃ u, e = .returned u ∧ Like w0 w' ∧ u = .string (keyB x) := by
  refine enter1 (env := [(0, .agg (enf x).toArray)]) [.agg (enf x).toArray] Try.func29 rfl Try.ntmps29 rfl rfl ?_
  have S0 := St.start w0 noM; have hsz := x.h.2; have h1z : (⟨#[47]⟩ : ByteArray).size = 1 := rfl
  refine T_seq fun K1 hK1 => ?_
  refine T_region ?_
  refine L_o (o_box rfl S0 rfl fun b1 w1 hb1 S1 => ?_)
  refine L_y (y_assign rfl) rfl ?_
  refine L_nil ?_
  refine hK1 _ _ ?_
  refine T_seq fun K2 hK2 => ?_
  refine T_seq fun K3 hK3 => ?_
  refine T_region ?_
  refine L_y (y_fieldA 1 Try.underlying39 rfl sz3 rfl rfl rfl) rfl ?_
  refine L_y (y_ldc Try.underlying3 rfl rfl (((S1.blk 0 rfl).cell _).trans (by rfl))) rfl ?_
  refine L_y (y_eql rfl rfl) rfl ?_
  refine L_nil ?_
  refine hK3 _ _ ?_
  refine T_cond rfl (fun h5 => ?_) (fun h5 => ?_)
  ·
    refine T_seq fun K4 hK4 => ?_
    refine T_region ?_
    refine L_y (y_fieldA 0 Try.underlying39 rfl sz9 rfl rfl rfl) rfl ?_
    refine L_y (y_ldc Try.underlying9 rfl rfl (((S1.blk 0 rfl).cell _).trans (by rfl))) rfl ?_
    refine L_y (y_cat rfl rfl (by omega)) rfl ?_
    refine L_y (y_assign rfl) rfl ?_
    refine L_nil ?_
    refine hK4 _ _ ?_
    refine T_ret ?_
    refine ur ?_
    refine ret1 rfl rfl ?_
    first | exact ⟨_, rfl, S1.like0, by unfold keyB; rw [if_pos (by omega)]⟩ | exact ⟨_, rfl, S1.like0, by unfold keyB; rw [if_neg (by omega)]; rfl⟩
  ·
    refine T_skip ?_
    refine hK2 _ _ ?_
    refine T_seq fun K5 hK5 => ?_
    refine T_region ?_
    refine L_y (y_fieldA 0 Try.underlying39 rfl sz9 rfl rfl rfl) rfl ?_
    refine L_y (y_ldc Try.underlying9 rfl rfl (((S1.blk 0 rfl).cell _).trans (by rfl))) rfl ?_
    refine L_y (y_assign rfl) rfl ?_
    refine L_nil ?_
    refine hK5 _ _ ?_
    refine T_ret ?_
    refine ur ?_
    refine ret1 rfl rfl ?_
    first | exact ⟨_, rfl, S1.like0, by unfold keyB; rw [if_pos (by omega)]⟩ | exact ⟨_, rfl, S1.like0, by unfold keyB; rw [if_neg (by omega)]; rfl⟩


set_option maxRecDepth 100000 in
theorem order (x y : EV) (w0 : World)  :
    Calls Try.prog 25 #[.agg (enf x).toArray, .agg (enf y).toArray] w0 fun e w' => ∃ u, e = .returned u ∧ Like w0 w' ∧ ∃ v : Int, u = .int .i64 v ∧ (v < 0 ↔ ltK x y = true) := by
  refine enter1 (env := [(0, .agg (enf x).toArray), (1, .agg (enf y).toArray)]) [.agg (enf x).toArray, .agg (enf y).toArray] Try.func25 rfl Try.ntmps25 rfl rfl ?_
  have S0 := St.start w0 noM
  refine T_seq fun K1 hK1 => ?_
  refine T_region ?_
  refine L_o (o_box rfl S0 rfl fun b1 w1 hb1 S1 => ?_)
  refine L_o (o_box rfl S1 rfl fun b2 w2 hb2 S2 => ?_)
  refine L_y (y_assign rfl) rfl ?_
  refine L_nil ?_
  refine hK1 _ _ ?_
  refine T_seq fun K2 hK2 => ?_
  refine T_drawnX (fun w => Blk w b1 39 (enf x).toArray ∧ Blk w b2 39 (enf y).toArray) hmix (by kernel_rfl) (fun w l => ⟨(S2.like l).blk 0 rfl, (S2.like l).blk 1 rfl⟩) fun w3 l3 => ?_
  have S3 := S2.like l3
  refine DX_y 0 (by kernel_rfl) rfl (y_of fun w hw => y_ldW Try.underlying39 rfl sz39 rfl (hw.1) (show _ = enf x ∧ _ from ⟨take_enf x, enf_len x⟩)) rfl ?_
  refine DX_y 2 (by kernel_rfl) rfl (y_of fun w hw => y_ldW Try.underlying39 rfl sz39 rfl (hw.2) (show _ = enf y ∧ _ from ⟨take_enf y, enf_len y⟩)) rfl ?_
  refine DX_o1 1 (by kernel_rfl) rfl ?_
  refine o_call Try.func36 rfl rfl (key x w3) rfl rfl ?_
  rintro e4 w4 ⟨v4, rfl, l4, rfl⟩
  refine ⟨_, rfl, ?_⟩
  have S4 := S3.like l4
  refine ⟨⟨S4.blk 0 rfl, S4.blk 1 rfl⟩, ?_⟩
  refine DX_o1 3 (by kernel_rfl) rfl ?_
  refine o_call Try.func36 rfl rfl (key y w4) rfl rfl ?_
  rintro e5 w5 ⟨v5, rfl, l5, rfl⟩
  refine ⟨_, rfl, ?_⟩
  have S5 := S4.like l5
  refine ⟨⟨S5.blk 0 rfl, S5.blk 1 rfl⟩, ?_⟩
  refine DX_o1 4 (by kernel_rfl) rfl ?_
  refine o_call Try.func35 rfl rfl (compar _ _ w5) rfl rfl ?_
  rintro e6 w6 ⟨v6, rfl, l6, v9, rfl, hv9⟩
  refine ⟨_, rfl, ?_⟩
  have S6 := S5.like l6
  refine ⟨⟨S6.blk 0 rfl, S6.blk 1 rfl⟩, ?_⟩
  refine DX_y 5 (by kernel_rfl) rfl (y_assign rfl) rfl ?_
  refine DX_nil (by kernel_rfl) ?_
  refine hK2 _ _ ?_
  refine T_ret ?_
  refine ur ?_
  refine ret1 rfl rfl ?_
  exact ⟨_, rfl, S6.like0, v9, rfl, hv9⟩


theorem cmpK : CMP 25 ltK := ⟨ordK, ⟨_, Try.func25, by kernel_rfl, by kernel_rfl⟩, fun x y w => order x y w⟩
end Go.Proofs.Ytmgimcdkeelnpaa


/-
  Clone, Sorted.
-/
namespace Go.Proofs.Ytmgimcdkeelnpaa
open Go.RowKit Zk Zx
set_option linter.unusedVariables false
set_option linter.unusedSimpArgs false

theorem rs_nil {w : World} {A : Option Addr} {n c : Nat} {l : List EV} (hl : Rs w 34 A n c (l.flatMap enf)) (h : A = none) : l = [] := by
  subst h
  have h2 := ens_n hl
  rcases Nat.eq_zero_or_pos n with q | q
  · exact List.eq_nil_of_length_eq_zero (by omega)
  · obtain ⟨_, h2, _⟩ := hl.rd.2 q
    cases h2
theorem flat_drop (xs : List EV) (k : Nat) : (xs.flatMap enf).drop (k * 34) = (xs.drop k).flatMap enf := by
  have h := flat_take enf enf_len xs k
  have h2 : xs.flatMap enf = (xs.take k).flatMap enf ++ (xs.drop k).flatMap enf := by rw [← List.flatMap_append, List.take_append_drop]
  rcases Nat.lt_or_ge xs.length k with q | q
  · rw [List.drop_of_length_le (by rw [ens_len]; exact Nat.mul_le_mul_right _ (by omega)), List.drop_of_length_le (by omega)]
    rfl
  · rw [h2, List.drop_append, List.drop_of_length_le (by rw [ens_len, List.length_take]; exact Nat.mul_le_mul_right _ (by omega)), ens_len, List.length_take, Nat.min_eq_left q, Nat.sub_self]
    rfl
theorem ins_flatE (xs : List EV) (j : Nat) (x : EV) : ((xs.flatMap enf).drop (0 * 34)).take ((j - 0) * 34) ++ enf x ++ ((xs.flatMap enf).drop (j * 34)).take ((xs.length - j) * 34) = (xs.take j ++ x :: xs.drop j).flatMap enf := by
  rw [Nat.zero_mul, List.drop_zero, Nat.sub_zero, flat_take enf enf_len, flat_drop, flat_take enf enf_len, show (xs.drop j).take (xs.length - j) = xs.drop j from List.take_of_length_le (by rw [List.length_drop]; exact Nat.le_refl _), List.flatMap_append, List.flatMap_cons, List.append_assoc]


set_option maxRecDepth 100000 in
theorem clone (A : Option Addr) (c : Nat) (l : List EV) (w0 : World) (hl : Rs w0 34 A l.length c (l.flatMap enf)) (hn5 : l.length ≤ 10000) :
    Calls Try.prog 23 #[.slice A l.length c] w0 fun e w' => ∃ u, e = .returned u ∧ Like w0 w' ∧ ∃ A' c', u = .slice A' l.length c' ∧ w'.ownsRow w0.heap.size 39 34 (.slice A' l.length c') l.length (l.flatMap enf) := by
  refine enter1 (env := [(0, .slice A l.length c)]) [.slice A l.length c] Try.func23 rfl Try.ntmps23 rfl rfl ?_
  have hcap := hl.cap; have hmax := hl.max; have S0 := St.start w0 noM
  refine T_seq fun K1 hK1 => ?_
  refine T_region ?_
  refine L_y (y_assign rfl) rfl ?_
  refine L_nil ?_
  refine hK1 _ _ ?_
  refine T_seq fun K2 hK2 => ?_
  refine T_seq fun K3 hK3 => ?_
  refine T_region ?_
  refine L_y (y_move rfl) rfl ?_
  refine L_y (y_seqn Try.underlying22 rfl) rfl ?_
  refine L_nil ?_
  refine hK3 _ _ ?_
  refine T_condB rfl (fun h4 => ?_) (fun h4 => ?_)
  ·
    refine T_seq fun K4 hK4 => ?_
    refine T_region ?_
    refine L_y (y_assign rfl) rfl ?_
    refine L_nil ?_
    refine hK4 _ _ ?_
    refine T_ret ?_
    refine ur ?_
    refine ret1 rfl rfl ?_
    first | exact ⟨_, rfl, S0.like0, _, _, by rw [Nat.zero_add], by have h9 := S0.own 0 rfl; rw [Nat.zero_add] at h9; exact h9⟩ | (have hz := rs_nil hl (by simpa using h4); subst hz; exact ⟨_, rfl, S0.like0, none, 0, rfl, World.ownsRow_nil _ _ _ _⟩)
  ·
    refine T_skip ?_
    refine hK2 _ _ ?_
    refine T_seq fun K5 hK5 => ?_
    refine T_region ?_
    refine L_o (o_bsl0 te22 S0 rfl fun b1 w1 l1 S1 => ?_)
    refine L_y (y_move rfl) rfl ?_
    refine L_o (o_app te22 S1 0 rfl rfl rfl (S1.rd hl) (ens_one _) rfl (by omega) (by omega) fun A2 c2 w2 S2 => ?_)
    refine L_y (y_assign rfl) rfl ?_
    refine L_nil ?_
    refine hK5 _ _ ?_
    refine T_ret ?_
    refine ur ?_
    refine ret1 rfl rfl ?_
    first | exact ⟨_, rfl, S2.like0, _, _, by rw [Nat.zero_add], by have h9 := S2.own 0 rfl; rw [Nat.zero_add] at h9; exact h9⟩ | (have hz := rs_nil hl (by simpa using h4); subst hz; exact ⟨_, rfl, S2.like0, none, 0, rfl, World.ownsRow_nil _ _ _ _⟩)


set_option maxRecDepth 100000 in
theorem psorted (A : Option Addr) (c : Nat) (l : List EV) (w0 : World) (hl : Rs w0 34 A l.length c (l.flatMap enf)) (hn5 : l.length ≤ 10000) :
    Calls Try.prog 9 #[.slice A l.length c] w0 fun e w' => ∃ u, e = .returned u ∧ Like w0 w' ∧ ∃ A' c', u = .slice A' (srt ltK l).length c' ∧ w'.ownsRow w0.heap.size 39 34 (.slice A' (srt ltK l).length c') (srt ltK l).length ((srt ltK l).flatMap enf) := by
  refine enter1 (env := [(0, .slice A l.length c)]) [.slice A l.length c] Try.func9 rfl Try.ntmps9 rfl rfl ?_
  have hcap := hl.cap; have hmax := hl.max; have S0 := St.start w0 noM
  refine T_seq fun K1 hK1 => ?_
  refine T_region ?_
  refine L_y (y_assign rfl) rfl ?_
  refine L_nil ?_
  refine hK1 _ _ ?_
  refine T_seq fun K2 hK2 => ?_
  refine T_region ?_
  refine L_y (y_move rfl) rfl ?_
  refine L_o (o_call Try.func23 rfl rfl (clone A c l w0 (S0.rd hl) hn5) rfl rfl ?_)
  rintro e1 w1 ⟨v1, rfl, l1, A5, c5, rfl, O1⟩
  refine ⟨_, rfl, ?_⟩
  have S1 := S0.adopt l1 O1
  refine L_y (y_assign rfl) rfl ?_
  refine L_nil ?_
  refine hK2 _ _ ?_
  refine T_seq fun K3 hK3 => ?_
  refine T_region ?_
  refine L_y (y_move rfl) rfl ?_
  refine L_o (o_call Try.func24 rfl rfl (sortst A5 l.length c5 l 25 ltK w1 (S1.get 0 rfl) cmpK rfl hn5) rfl rfl ?_)
  rintro e2 w2 ⟨v2, rfl, T2⟩
  refine ⟨_, rfl, ?_⟩
  have S2 := S1.turn 0 rfl T2
  refine L_nil ?_
  refine hK3 _ _ ?_
  refine T_seq fun K4 hK4 => ?_
  refine T_region ?_
  refine L_y (y_move rfl) rfl ?_
  refine L_y (y_assign rfl) rfl ?_
  refine L_nil ?_
  refine hK4 _ _ ?_
  refine T_ret ?_
  refine ur ?_
  refine ret1 rfl rfl ?_
  exact ⟨_, rfl, S2.like0, A5, c5, by rw [srt_len], S2.own 0 rfl⟩


set_option maxRecDepth 100000 in
theorem rsorted (A : Option Addr) (n c : Nat) (l : List EV) (w0 : World) (hl : Rs w0 34 A n c (l.flatMap enf)) (hn5 : n ≤ 10000) :
    Calls Try.prog 13 #[.slice A n c] w0 fun e w' => ∃ u, e = .returned u ∧ Like w0 w' ∧ ∃ A' c', u = .slice A' (srt ltK l).length c' ∧ w'.ownsRow w0.heap.size 39 34 (.slice A' (srt ltK l).length c') (srt ltK l).length ((srt ltK l).flatMap enf) := by
  refine enter1 (env := [(0, .slice A n c)]) [.slice A n c] Try.func13 rfl Try.ntmps13 rfl rfl ?_
  have hn := ens_n hl; have hcap := hl.cap; have hmax := hl.max; have S0 := St.start w0 noM
  refine T_seq fun K1 hK1 => ?_
  refine T_region ?_
  refine L_y (y_assign rfl) rfl ?_
  refine L_nil ?_
  refine hK1 _ _ ?_
  refine T_seq fun K2 hK2 => ?_
  refine T_region ?_
  refine L_y (y_assign rfl) rfl ?_
  refine L_nil ?_
  refine hK2 _ _ ?_
  refine T_seq fun K3 hK3 => ?_
  refine T_seq fun K4 hK4 => ?_
  refine T_region ?_
  refine L_y (y_assign rfl) rfl ?_
  refine L_nil ?_
  refine hK4 _ _ ?_
  refine T_block ?_
  refine T_loop4 [(0, _)] (fun (k : Nat) (A1 : Option Addr) (c1 : Nat) (xs : List EV) => [(3, .slice A1 xs.length c1), (4, .int .i64 (k : Int))]) (fun (k : Nat) (A1 : Option Addr) (c1 : Nat) (xs : List EV) => n - k) (fun (k : Nat) (A1 : Option Addr) (c1 : Nat) (xs : List EV) (w : World) => (k ≤ n ∧ xs = (srt ltK (l.take k))) ∧ St w0 noM [row 39 34 A1 xs.length c1 (xs.flatMap enf)] w) 0 none 0 [] (Sub.cons rfl (by first | rfl | exact congrArg (Value.int _) (by omega)) (Sub.cons rfl (by first | rfl | exact congrArg (Value.int _) (by omega)) (Sub.nil _))) (Sub.cons rfl rfl (Sub.nil _)) ?_ ?_
  ·
    have S9 := S0.nilrow 39 34
    exact ⟨⟨Nat.zero_le _, rfl⟩, S9⟩
  ·
    intro k A1 c1 xs w1 hrel
    obtain ⟨⟨hk, hxs⟩, S1⟩ := hrel
    have hcp := (S1.row 0 rfl).cap
    have hxl : xs.length = k := by rw [hxs, srt_len, List.length_take]; omega
    have hso : Srt ltK xs := by rw [hxs]; exact srt_sorted ordK _
    refine T_seq fun K5 hK5 => ?_
    refine T_seq fun K6 hK6 => ?_
    refine T_region ?_
    refine L_y (y_move rfl) rfl ?_
    refine L_y (y_move rfl) rfl ?_
    refine L_y (y_len Try.underlying22 rfl) rfl ?_
    refine L_y (y_lss rfl rfl) rfl ?_
    refine L_nil ?_
    refine hK6 _ _ ?_
    refine T_cond rfl (fun h10 => ?_) (fun h10 => ?_)
    ·
      obtain ⟨x, hx⟩ : ∃ x, l[k]? = some x := ⟨_, List.getElem?_eq_getElem (by omega)⟩
      refine T_skip ?_
      refine hK5 _ _ ?_
      refine T_seq fun K7 hK7 => ?_
      refine T_block ?_
      refine T_seq fun K8 hK8 => ?_
      refine T_region ?_
      refine L_y (y_move rfl) rfl ?_
      refine L_y (y_len Try.underlying22 rfl) rfl ?_
      refine L_y (y_assign rfl) rfl ?_
      refine L_nil ?_
      refine hK8 _ _ ?_
      refine T_seq fun K9 hK9 => ?_
      refine T_block ?_
      refine T_loop1 [(0, _), (3, _), (4, _)] (fun (j : Nat) => [(5, .int .i64 (j : Int))]) (fun (j : Nat) => j) (fun (j : Nat) (w : World) => (j ≤ xs.length ∧ ∀ y ∈ xs.drop j, ltK x y = true) ∧ St w0 noM [row 39 34 A1 xs.length c1 (xs.flatMap enf)] w) xs.length (Sub.cons rfl (by first | rfl | exact congrArg (Value.int _) (by omega)) (Sub.nil _)) (Sub.cons rfl rfl (Sub.cons rfl rfl (Sub.cons rfl rfl (Sub.nil _)))) ?_ ?_
      ·
        exact ⟨⟨Nat.le_refl _, fun y hy => by rw [List.drop_of_length_le (Nat.le_refl _)] at hy; cases hy⟩, S1⟩
      ·
        intro j w2 hrel
        obtain ⟨⟨hj, hhi⟩, S2⟩ := hrel
        refine T_seq fun K10 hK10 => ?_
        refine T_seq fun K11 hK11 => ?_
        refine T_drawnL [(0, true), (1, true), (2, true), (3, true), (4, true), (5, true), (6, true), (8, true), (9, true), (10, true), (11, true), (12, true), (7, false), (13, false), (14, true), (15, true)] hmix (by kernel_rfl) fun w3 l3 => ?_
        have S3 := S2.like l3
        refine DL_y rfl (y_move rfl) rfl ?_
        refine DL_y rfl (y_gtr rfl rfl) rfl ?_
        refine DL_y rfl (y_move rfl) rfl ?_
        refine DL_split 17 rfl (fun h17 => ?_) (fun h17 => ?_)
        ·
          obtain ⟨i, hji⟩ : ∃ i, j = i + 1 := ⟨j - 1, by omega⟩
          obtain ⟨y, hy⟩ : ∃ y, xs[i]? = some y := ⟨_, List.getElem?_eq_getElem (by omega)⟩
          refine DL_gyes rfl rfl rfl (y_move rfl) rfl ?_
          refine DL_gyes rfl rfl rfl (y_move rfl) rfl ?_
          refine DL_gyes rfl rfl rfl (y_idx Try.underlying22 sz39 rfl rfl (S3.rd hl) (Nt.mk (by omega) : Nt _ (k)) (by omega)) rfl ?_
          refine DL_gyes rfl rfl rfl (y_ldp (f := enf) enf_len Try.underlying39 rfl sz39 rfl (S3.rd hl) (by omega) hx) rfl ?_
          refine DL_gyes rfl rfl rfl (y_move rfl) rfl ?_
          refine DL_gyes rfl rfl rfl (y_move rfl) rfl ?_
          refine DL_gyes rfl rfl rfl (y_sub rfl rfl (i64w (by omega))) rfl ?_
          refine DL_gyes rfl rfl rfl (y_idx Try.underlying22 sz39 rfl rfl (S3.row 0 rfl) (Nt.mk (by omega) : Nt _ (i)) (by omega)) rfl ?_
          refine DL_gyes rfl rfl rfl (y_ldp (f := enf) enf_len Try.underlying39 rfl sz39 rfl (S3.row 0 rfl) (by omega) hy) rfl ?_
          refine DL_ogyes rfl rfl rfl (o_call Try.func29 rfl rfl (rkey x w3) rfl rfl ?_)
          rintro e4 w4 ⟨v4, rfl, l4, rfl⟩
          refine ⟨_, rfl, l4, ?_⟩
          have S4 := S3.like l4
          have q4 := l4
          refine DL_ogyes rfl rfl rfl (o_call Try.func29 rfl rfl (rkey y w4) rfl rfl ?_)
          rintro e5 w5 ⟨v5, rfl, l5, rfl⟩
          refine ⟨_, rfl, (Like.trans q4 l5), ?_⟩
          have S5 := S4.like l5
          have q5 := (Like.trans q4 l5)
          refine DL_gyes rfl rfl rfl (y_slss rfl rfl) rfl ?_
          refine DL_y rfl (y_pk rfl rfl) rfl ?_
          refine DL_nil ?_
          refine hK11 _ _ ?_
          refine T_condB rfl (fun h30 => ?_) (fun h30 => ?_)
          ·
            have hxy : ltK x y = true := h30
            refine T_skip ?_
            refine hK10 _ _ ?_
            refine T_block ?_
            refine T_region ?_
            refine L_y (y_move rfl) rfl ?_
            refine L_y (y_sub rfl rfl (i64w (by omega))) rfl ?_
            refine L_y (y_assign rfl) rfl ?_
            refine L_nil ?_
            refine ⟨i, by omega, ⟨⟨by omega, fun z hz => by rw [drop_hd2 hy] at hz; rcases List.mem_cons.1 hz with rfl | hz; exact hxy; exact hhi z (by rw [hji]; exact hz)⟩, S5⟩, ?_⟩
            exact (Sub.cons rfl (congrArg (Value.int _) (by omega)) (Sub.cons rfl rfl (Sub.cons rfl rfl (Sub.cons rfl rfl (Sub.nil _)))))
          ·
            have hxy : ltK x y = false := by unfold ltK; simpa using h30
            have hlo : ∀ z ∈ xs.take j, ltK x z = false := by rw [hji, take_sn2 hy]; exact srt_last ordK (by have h8 : Srt ltK (xs.take (i + 1)) := hso.sublist (List.take_sublist _ _); rwa [take_sn2 hy] at h8) hxy
            refine T_exit ?_
            refine hK9 _ _ ?_
            refine T_seq fun K12 hK12 => ?_
            refine T_region ?_
            have S6 := S5.nilrow 39 34
            refine L_y (y_assign rfl) rfl ?_
            refine L_nil ?_
            refine hK12 _ _ ?_
            refine T_seq fun K13 hK13 => ?_
            refine T_region ?_
            refine L_y (y_move rfl) rfl ?_
            refine L_y (y_move rfl) rfl ?_
            refine L_y (y_move rfl) rfl ?_
            refine L_y (y_sliceH Try.underlying22 sz39 rfl rfl inferInstance (by omega)) rfl ?_
            refine L_o (o_app te22 S6 1 rfl rfl rfl ((S6.row 0 rfl).cut (l := 0) (u := j) (Nat.zero_le _) (by omega)) (fun u hu => ens_one _ _ (List.mem_of_mem_drop (List.mem_of_mem_take hu))) rfl (by omega) (by omega) fun A7 c7 w7 S7 => ?_)
            refine L_y (y_assign rfl) rfl ?_
            refine L_nil ?_
            refine hK13 _ _ ?_
            refine T_seq fun K14 hK14 => ?_
            refine T_region ?_
            refine L_y (y_move rfl) rfl ?_
            refine L_y (y_move rfl) rfl ?_
            refine L_y (y_move rfl) rfl ?_
            refine L_y (y_idx Try.underlying22 sz39 rfl rfl (S7.rd hl) (Nt.mk (by omega) : Nt _ (k)) (by omega)) rfl ?_
            refine L_y (y_ldp (f := enf) enf_len Try.underlying39 rfl sz39 rfl (S7.rd hl) (by omega) hx) rfl ?_
            refine L_o (o_bsl (enf x) te22 zz39 S7 rfl rfl rfl (by simp [Value.cells, enf_len]) (by simp [Value.cells]) rfl rfl rfl fun b8 w8 S8 => ?_)
            refine L_o (o_app te22 S8 1 rfl rfl rfl (by first | exact S8.row 0 rfl | exact S8.row 1 rfl | exact S8.row 2 rfl) (enf_one _) rfl (by omega) (by omega) fun A9 c9 w9 S9 => ?_)
            have S9d := S9.drop (rs' := [_, _]) (.cons_cons _ (.cons_cons _ (.cons _ (.refl _))))
            refine L_y (y_assign rfl) rfl ?_
            refine L_nil ?_
            refine hK14 _ _ ?_
            refine T_region ?_
            refine L_y (y_move rfl) rfl ?_
            refine L_y (y_move rfl) rfl ?_
            refine L_y (y_move rfl) rfl ?_
            refine L_y (y_sliceL Try.underlying22 sz39 rfl rfl inferInstance (by omega)) rfl ?_
            refine L_o (o_app te22 S9d 1 rfl rfl rfl ((S9d.row 0 rfl).cut (l := j) (u := xs.length) (by omega) (Nat.le_refl _)) (fun u hu => ens_one _ _ (List.mem_of_mem_drop (List.mem_of_mem_take hu))) rfl (by omega) (by omega) fun A10 c10 w10 S10 => ?_)
            refine L_y (y_assign rfl) rfl ?_
            refine L_nil ?_
            refine hK7 _ _ ?_
            refine T_region ?_
            refine L_y (y_move rfl) rfl ?_
            refine L_y (y_add rfl rfl (i64w (by omega))) rfl ?_
            refine L_y (y_assign rfl) rfl ?_
            refine L_nil ?_
            have hins : insS ltK xs x = xs.take j ++ x :: xs.drop j := by have h8 := ins_at (xs.take j) (xs.drop j) hlo (fun y hy => hhi y (List.mem_of_getElem? hy)); rwa [List.take_append_drop] at h8
            have hlen : (xs.take j ++ x :: xs.drop j).length = xs.length + 1 := by simp; omega
            have S91 := S10.rowc 1 rfl (n' := (xs.take j ++ x :: xs.drop j).length) (xs' := (xs.take j ++ x :: xs.drop j).flatMap enf) (by rw [hlen]; omega) (ins_flatE xs j x)
            have S92 := S91.drop (.cons _ (.cons_cons _ (.refl _)))
            refine ⟨k + 1, _, _, xs.take j ++ x :: xs.drop j, by omega, ⟨⟨by omega, by rw [take_sn2 hx, srt_snoc, ← hxs, hins]⟩, S92⟩, ?_⟩
            exact (Sub.cons rfl (by first | rfl | (rw [hlen]; rfl) | (rw [hlen]; congr 1; omega)) (Sub.cons rfl (by first | rfl | exact congrArg (Value.int _) (by omega)) (Sub.cons rfl rfl (Sub.nil _))))
        ·
          have hj0 : j = 0 := by omega
          have hlo : ∀ z ∈ xs.take j, ltK x z = false := by rw [hj0]; intro z hz; cases hz
          refine DL_gno rfl rfl rfl rfl ?_
          refine DL_gno rfl rfl rfl rfl ?_
          refine DL_gno rfl rfl rfl rfl ?_
          refine DL_gno rfl rfl rfl rfl ?_
          refine DL_gno rfl rfl rfl rfl ?_
          refine DL_gno rfl rfl rfl rfl ?_
          refine DL_gno rfl rfl rfl rfl ?_
          refine DL_gno rfl rfl rfl rfl ?_
          refine DL_gno rfl rfl rfl rfl ?_
          refine DL_ogno rfl rfl rfl rfl ?_
          refine DL_ogno rfl rfl rfl rfl ?_
          refine DL_gno rfl rfl rfl rfl ?_
          refine DL_y rfl (y_pk rfl rfl) rfl ?_
          refine DL_nil ?_
          refine hK11 _ _ ?_
          refine T_false rfl ?_
          refine T_exit ?_
          refine hK9 _ _ ?_
          refine T_seq fun K15 hK15 => ?_
          refine T_region ?_
          have S11 := S3.nilrow 39 34
          refine L_y (y_assign rfl) rfl ?_
          refine L_nil ?_
          refine hK15 _ _ ?_
          refine T_seq fun K16 hK16 => ?_
          refine T_region ?_
          refine L_y (y_move rfl) rfl ?_
          refine L_y (y_move rfl) rfl ?_
          refine L_y (y_move rfl) rfl ?_
          refine L_y (y_sliceH Try.underlying22 sz39 rfl rfl inferInstance (by omega)) rfl ?_
          refine L_o (o_app te22 S11 1 rfl rfl rfl ((S11.row 0 rfl).cut (l := 0) (u := j) (Nat.zero_le _) (by omega)) (fun u hu => ens_one _ _ (List.mem_of_mem_drop (List.mem_of_mem_take hu))) rfl (by omega) (by omega) fun A12 c12 w12 S12 => ?_)
          refine L_y (y_assign rfl) rfl ?_
          refine L_nil ?_
          refine hK16 _ _ ?_
          refine T_seq fun K17 hK17 => ?_
          refine T_region ?_
          refine L_y (y_move rfl) rfl ?_
          refine L_y (y_move rfl) rfl ?_
          refine L_y (y_move rfl) rfl ?_
          refine L_y (y_idx Try.underlying22 sz39 rfl rfl (S12.rd hl) (Nt.mk (by omega) : Nt _ (k)) (by omega)) rfl ?_
          refine L_y (y_ldp (f := enf) enf_len Try.underlying39 rfl sz39 rfl (S12.rd hl) (by omega) hx) rfl ?_
          refine L_o (o_bsl (enf x) te22 zz39 S12 rfl rfl rfl (by simp [Value.cells, enf_len]) (by simp [Value.cells]) rfl rfl rfl fun b13 w13 S13 => ?_)
          refine L_o (o_app te22 S13 1 rfl rfl rfl (by first | exact S13.row 0 rfl | exact S13.row 1 rfl | exact S13.row 2 rfl) (enf_one _) rfl (by omega) (by omega) fun A14 c14 w14 S14 => ?_)
          have S14d := S14.drop (rs' := [_, _]) (.cons_cons _ (.cons_cons _ (.cons _ (.refl _))))
          refine L_y (y_assign rfl) rfl ?_
          refine L_nil ?_
          refine hK17 _ _ ?_
          refine T_region ?_
          refine L_y (y_move rfl) rfl ?_
          refine L_y (y_move rfl) rfl ?_
          refine L_y (y_move rfl) rfl ?_
          refine L_y (y_sliceL Try.underlying22 sz39 rfl rfl inferInstance (by omega)) rfl ?_
          refine L_o (o_app te22 S14d 1 rfl rfl rfl ((S14d.row 0 rfl).cut (l := j) (u := xs.length) (by omega) (Nat.le_refl _)) (fun u hu => ens_one _ _ (List.mem_of_mem_drop (List.mem_of_mem_take hu))) rfl (by omega) (by omega) fun A15 c15 w15 S15 => ?_)
          refine L_y (y_assign rfl) rfl ?_
          refine L_nil ?_
          refine hK7 _ _ ?_
          refine T_region ?_
          refine L_y (y_move rfl) rfl ?_
          refine L_y (y_add rfl rfl (i64w (by omega))) rfl ?_
          refine L_y (y_assign rfl) rfl ?_
          refine L_nil ?_
          have hins : insS ltK xs x = xs.take j ++ x :: xs.drop j := by have h8 := ins_at (xs.take j) (xs.drop j) hlo (fun y hy => hhi y (List.mem_of_getElem? hy)); rwa [List.take_append_drop] at h8
          have hlen : (xs.take j ++ x :: xs.drop j).length = xs.length + 1 := by simp; omega
          have S91 := S15.rowc 1 rfl (n' := (xs.take j ++ x :: xs.drop j).length) (xs' := (xs.take j ++ x :: xs.drop j).flatMap enf) (by rw [hlen]; omega) (ins_flatE xs j x)
          have S92 := S91.drop (.cons _ (.cons_cons _ (.refl _)))
          refine ⟨k + 1, _, _, xs.take j ++ x :: xs.drop j, by omega, ⟨⟨by omega, by rw [take_sn2 hx, srt_snoc, ← hxs, hins]⟩, S92⟩, ?_⟩
          exact (Sub.cons rfl (by first | rfl | (rw [hlen]; rfl) | (rw [hlen]; congr 1; omega)) (Sub.cons rfl (by first | rfl | exact congrArg (Value.int _) (by omega)) (Sub.cons rfl rfl (Sub.nil _))))
    ·
      refine T_exit ?_
      refine hK3 _ _ ?_
      refine T_seq fun K18 hK18 => ?_
      refine T_region ?_
      refine L_y (y_move rfl) rfl ?_
      refine L_y (y_assign rfl) rfl ?_
      refine L_nil ?_
      refine hK18 _ _ ?_
      refine T_ret ?_
      refine ur ?_
      refine ret1 rfl rfl ?_
      have hkn : k = n := by omega
      subst hkn
      rw [List.take_of_length_le (by omega)] at hxs
      subst hxs
      exact ⟨_, rfl, S1.like0, _, _, rfl, S1.own 0 rfl⟩
end Go.Proofs.Ytmgimcdkeelnpaa


/-
  '==' on structs of any plain fields. General; nothing here names a program.
-/
namespace Go.Proofs.Ytmgimcdkeelnpaa.Zx
open Go.RowKit Zk
set_option linter.unusedVariables false
set_option linter.unusedSimpArgs false
section
variable {P : Program}
/-- What '==' says of one field. -/
def FE (P : Program) (d : Nat) (xs ys : Array Value) (f : Field) (b : Bool) : Prop :=
  f.name ≠ "_" ∧ ∃ vx vy, (∀ w, (part f.type xs f.offset).run P w = .ok vx w) ∧ (∀ w, (part f.type ys f.offset).run P w = .ok vy w) ∧ (∀ w, (Op.equalIn d f.type vx vy).run P w = .ok b w)
inductive EqFs (P : Program) (d : Nat) (xs ys : Array Value) : List Field → Bool → Prop
  | nil : EqFs P d xs ys [] true
  | cons {f : Field} {fs : List Field} {b r : Bool} : FE P d xs ys f b → EqFs P d xs ys fs r → EqFs P d xs ys (f :: fs) (b && r)
theorem EqFs.run {d : Nat} {xs ys : Array Value} : ∀ {fs : List Field} {r : Bool}, EqFs P d xs ys fs r → ∀ w, (Op.eqFields d xs ys fs).run P w = .ok r w
  | _, _, .nil, w => rfl
  | _, _, .cons (f := f) (fs := fs) (b := b) (r := r) ⟨hn, vx, vy, h1, h2, h3⟩ h, w => by
    rw [Op.eqFields, if_pos hn, Sem.run_bind, h1 w, Result.andThen_ok, Sem.run_bind, h2 w, Result.andThen_ok, Sem.run_bind, h3 w, Result.andThen_ok]
    cases b with
    | true =>
      simp only [Bool.not_true, Bool.false_eq_true, if_false]
      rw [h.run w]
      rfl
    | false =>
      simp only [Bool.not_false, if_true, Sem.run_pure]
      rfl
variable {S : World → Prop} {env : Env} {dst : Option Tmp} {ty : TypeId} {pos : String} {after : Array Edge} {g : Option (Nat × Bool)}
end
end Go.Proofs.Ytmgimcdkeelnpaa.Zx


/-
  Same.
-/
namespace Go.Proofs.Ytmgimcdkeelnpaa
open Go.RowKit Zk Zx
set_option linter.unusedVariables false
set_option linter.unusedSimpArgs false

end Go.Proofs.Ytmgimcdkeelnpaa


/-
  Names.
-/
namespace Go.Proofs.Ytmgimcdkeelnpaa
open Go.RowKit Zk Zx
set_option linter.unusedVariables false
set_option linter.unusedSimpArgs false

def seenP (s : ByteArray) : Prop := ∀ k, k < s.size → 33 ≤ g8 s.data.toList k ∧ g8 s.data.toList k ≤ 126
instance (s : ByteArray) : Decidable (seenP s) := inferInstanceAs (Decidable (∀ k, k < s.size → 33 ≤ g8 s.data.toList k ∧ g8 s.data.toList k ≤ 126))
/-- May a text be a name? -/
def nmOk (s : ByteArray) : Bool := decide (1 ≤ s.size) && (decide (s.size ≤ 32) && (decide (seenP s) && (decide ((47 : UInt8) ∉ s.data.toList) && (decide (s ≠ ⟨#[46]⟩) && decide (s ≠ ⟨#[46, 46]⟩)))))
theorem idx_ge : ∀ (l : List UInt8) (c : UInt8), 0 ≤ Lib.indexByte l c ↔ c ∈ l
  | [], c => by unfold Lib.indexByte; simp
  | b :: l, c => by
    have ih := idx_ge l c
    have h0 := Lib.indexByte_ge l c
    unfold Lib.indexByte
    by_cases h : b = c
    · subst h; simp
    · have hb : (b == c) = false := by simp [h]
      rw [hb]
      simp only [Bool.false_eq_true, if_false, List.mem_cons, Ne.symm h, false_or]
      by_cases h1 : Lib.indexByte l c = -1
      · rw [h1]
        simp only [beq_self_eq_true, if_true]
        rw [← ih, h1]
      · have : (Lib.indexByte l c == -1) = false := by simp [h1]
        rw [this]
        simp only [Bool.false_eq_true, if_false]
        rw [← ih]
        omega
theorem strIdx (s : ByteArray) (w0 : World) : Calls Try.prog 61 #[.string s, .int .u8 47] w0 fun e w' => ∃ u, e = .returned u ∧ Like w0 w' ∧ u = .int .i64 (Lib.indexByte s.data.toList 47) :=
  (show Calls Try.prog 61 _ _ _ from Any.stringslite_IndexByte idxS s 47 w0).mono fun e w' ⟨h1, h2⟩ => by
    subst h2
    exact ⟨_, h1, Like.refl _, rfl⟩
theorem idx_self : Lib.indexByte (⟨#[47]⟩ : ByteArray).data.toList 47 = 0 := by decide +kernel
/-- How many strokes. -/
def cnSl (l : List UInt8) : Nat := l.count 47
theorem cn_step {l : List UInt8} {k : Nat} (hk : k < l.length) : cnSl (l.take (k + 1)) = cnSl (l.take k) + if g8 l k = 47 then 1 else 0 := by
  unfold cnSl
  rw [List.take_add_one, List.getElem?_eq_getElem hk, Option.toList_some, List.count_append]
  congr 1
  have e : g8 l k = ((l[k]).toNat : Int) := by simp [g8, List.getD_eq_getElem?_getD, List.getElem?_eq_getElem hk]
  rw [e]
  by_cases h : l[k] = 47
  · rw [h]; rfl
  · rw [if_neg (fun h2 => h (UInt8.toNat_inj.1 (by show _ = 47; omega))), List.count_eq_zero_of_not_mem (by simp; exact fun e => h e.symm)]
theorem cn_zero {l : List UInt8} : cnSl l = 0 ↔ (47 : UInt8) ∉ l := by unfold cnSl; exact List.count_eq_zero
theorem cn_le (l : List UInt8) : cnSl l ≤ l.length := List.count_le_length


set_option maxRecDepth 100000 in
theorem mode_ (m : Int) (w0 : World)  :
    Calls Try.prog 26 #[.int .i64 m] w0 fun e w' => ∃ u, e = .returned u ∧ Like w0 w' ∧ u = .bool (decide (m = 1 ∨ m = 2 ∨ m = 3)) := by
  refine enter1 (env := [(0, .int .i64 m)]) [.int .i64 m] Try.func26 rfl Try.ntmps26 rfl rfl ?_
  have S0 := St.start w0 noM
  refine T_seq fun K1 hK1 => ?_
  refine T_region ?_
  refine L_y (y_assign rfl) rfl ?_
  refine L_nil ?_
  refine hK1 _ _ ?_
  refine T_seq fun K2 hK2 => ?_
  refine T_region ?_
  refine L_y (y_move rfl) rfl ?_
  refine L_y (y_eql rfl rfl) rfl ?_
  refine L_y (y_move rfl) rfl ?_
  refine L_split 5 rfl (fun h5 => ?_) (fun h5 => ?_)
  ·
    refine L_gno rfl rfl rfl ?_
    refine L_gno rfl rfl rfl ?_
    refine L_y (y_pk rfl rfl) rfl ?_
    refine L_y (y_move rfl) rfl ?_
    refine L_gno rfl rfl rfl ?_
    refine L_gno rfl rfl rfl ?_
    refine L_y (y_pk rfl rfl) rfl ?_
    refine L_y (y_assign rfl) rfl ?_
    refine L_nil ?_
    refine hK2 _ _ ?_
    refine T_ret ?_
    refine ur ?_
    refine ret1 rfl rfl ?_
    exact ⟨_, rfl, S0.like0, congrArg Value.bool (by first | (rw [Bool.eq_iff_iff]; simp only [decide_eq_true_eq, true_iff, false_iff, Bool.true_eq, Bool.false_eq, Bool.false_eq_true]; omega) | (simp; omega))⟩
  ·
    refine L_gyes rfl rfl ?_
    refine L_y (y_move rfl) rfl ?_
    refine L_gyes rfl rfl ?_
    refine L_y (y_eql rfl rfl) rfl ?_
    refine L_y (y_pk rfl rfl) rfl ?_
    refine L_y (y_move rfl) rfl ?_
    refine L_split 9 rfl (fun h9 => ?_) (fun h9 => ?_)
    ·
      refine L_gno rfl rfl rfl ?_
      refine L_gno rfl rfl rfl ?_
      refine L_y (y_pk rfl rfl) rfl ?_
      refine L_y (y_assign rfl) rfl ?_
      refine L_nil ?_
      refine hK2 _ _ ?_
      refine T_ret ?_
      refine ur ?_
      refine ret1 rfl rfl ?_
      exact ⟨_, rfl, S0.like0, congrArg Value.bool (by first | (rw [Bool.eq_iff_iff]; simp only [decide_eq_true_eq, true_iff, false_iff, Bool.true_eq, Bool.false_eq, Bool.false_eq_true]; omega) | (simp; omega))⟩
    ·
      refine L_gyes rfl rfl ?_
      refine L_y (y_move rfl) rfl ?_
      refine L_gyes rfl rfl ?_
      refine L_y (y_eql rfl rfl) rfl ?_
      refine L_y (y_pk rfl rfl) rfl ?_
      refine L_y (y_assign rfl) rfl ?_
      refine L_nil ?_
      refine hK2 _ _ ?_
      refine T_ret ?_
      refine ur ?_
      refine ret1 rfl rfl ?_
      exact ⟨_, rfl, S0.like0, congrArg Value.bool (by first | (rw [Bool.eq_iff_iff]; simp only [decide_eq_true_eq, true_iff, false_iff, Bool.true_eq, Bool.false_eq, Bool.false_eq_true]; omega) | (simp; omega))⟩


set_option maxRecDepth 100000 in
theorem plain_ (s : ByteArray) (w0 : World) (hs : s.size ≤ 1000) :
    Calls Try.prog 37 #[.string s] w0 fun e w' => ∃ u, e = .returned u ∧ Like w0 w' ∧ u = .bool (decide (seenP s)) := by
  refine enter1 (env := [(0, .string s)]) [.string s] Try.func37 rfl Try.ntmps37 rfl rfl ?_
  have S0 := St.start w0 noM
  refine T_seq fun K1 hK1 => ?_
  refine T_region ?_
  refine L_y (y_assign rfl) rfl ?_
  refine L_nil ?_
  refine hK1 _ _ ?_
  refine T_seq fun K2 hK2 => ?_
  refine T_seq fun K3 hK3 => ?_
  refine T_region ?_
  refine L_y (y_move rfl) rfl ?_
  refine L_y (y_lens Try.underlying9 rfl) rfl ?_
  refine L_y (y_move rfl) rfl ?_
  refine L_nil ?_
  refine hK3 _ _ ?_
  refine T_block ?_
  refine T_loop1 [(0, _), (5, _)] (fun (k : Nat) => [(6, .int .i64 (k : Int))]) (fun (k : Nat) => s.size - k) (fun (k : Nat) (w : World) => (k ≤ s.size ∧ (∀ j, j < k → 33 ≤ g8 s.data.toList j ∧ g8 s.data.toList j ≤ 126)) ∧ St w0 noM [] w) 0 (Sub.cons rfl (by first | rfl | exact congrArg (Value.int _) (by omega)) (Sub.nil _)) (Sub.cons rfl rfl (Sub.cons rfl rfl (Sub.nil _))) ?_ ?_
  ·
    exact ⟨⟨Nat.zero_le _, fun j hj => absurd hj (by omega)⟩, S0⟩
  ·
    intro k w1 hrel
    obtain ⟨⟨hk, hse⟩, S1⟩ := hrel
    refine T_seq fun K4 hK4 => ?_
    refine T_region ?_
    refine L_y (y_lss rfl rfl) rfl ?_
    refine L_nil ?_
    refine hK4 _ _ ?_
    refine T_seq fun K5 hK5 => ?_
    refine T_cond rfl (fun h7 => ?_) (fun h7 => ?_)
    ·
      refine T_skip ?_
      refine hK5 _ _ ?_
      refine T_seq fun K6 hK6 => ?_
      refine T_block ?_
      refine T_seq fun K7 hK7 => ?_
      refine T_region ?_
      refine L_y (y_move rfl) rfl ?_
      refine L_y (y_assign rfl) rfl ?_
      refine L_nil ?_
      refine hK7 _ _ ?_
      refine T_seq fun K8 hK8 => ?_
      refine T_region ?_
      refine L_y (y_move rfl) rfl ?_
      refine L_y (y_move rfl) rfl ?_
      refine L_y (y_idxS Try.underlying9 rfl rfl inferInstance (by omega)) rfl ?_
      refine L_y (y_lss rfl rfl) rfl ?_
      refine L_y (y_move rfl) rfl ?_
      refine L_split 13 rfl (fun h13 => ?_) (fun h13 => ?_)
      ·
        refine L_gno rfl rfl rfl ?_
        refine L_gno rfl rfl rfl ?_
        refine L_gno rfl rfl rfl ?_
        refine L_gno rfl rfl rfl ?_
        refine L_y (y_pk rfl rfl) rfl ?_
        refine L_nil ?_
        refine hK8 _ _ ?_
        refine T_true rfl ?_
        refine T_seq fun K9 hK9 => ?_
        refine T_region ?_
        refine L_y (y_assign rfl) rfl ?_
        refine L_nil ?_
        refine hK9 _ _ ?_
        refine T_ret ?_
        refine ur ?_
        refine ret1 rfl rfl ?_
        first | exact ⟨_, rfl, S1.like0, congrArg Value.bool (decide_eq_false (fun h => by have := h k (by omega); omega)).symm⟩ | exact ⟨_, rfl, S1.like0, congrArg Value.bool (decide_eq_true (fun j hj => hse j (by omega))).symm⟩
      ·
        refine L_gyes rfl rfl ?_
        refine L_y (y_move rfl) rfl ?_
        refine L_gyes rfl rfl ?_
        refine L_y (y_move rfl) rfl ?_
        refine L_gyes rfl rfl ?_
        refine L_y (y_idxS Try.underlying9 rfl rfl inferInstance (by omega)) rfl ?_
        refine L_gyes rfl rfl ?_
        refine L_y (y_gtr rfl rfl) rfl ?_
        refine L_y (y_pk rfl rfl) rfl ?_
        refine L_nil ?_
        refine hK8 _ _ ?_
        refine T_cond rfl (fun h18 => ?_) (fun h18 => ?_)
        ·
          refine T_seq fun K10 hK10 => ?_
          refine T_region ?_
          refine L_y (y_assign rfl) rfl ?_
          refine L_nil ?_
          refine hK10 _ _ ?_
          refine T_ret ?_
          refine ur ?_
          refine ret1 rfl rfl ?_
          first | exact ⟨_, rfl, S1.like0, congrArg Value.bool (decide_eq_false (fun h => by have := h k (by omega); omega)).symm⟩ | exact ⟨_, rfl, S1.like0, congrArg Value.bool (decide_eq_true (fun j hj => hse j (by omega))).symm⟩
        ·
          refine T_skip ?_
          refine hK6 _ _ ?_
          refine T_region ?_
          refine L_y (y_add rfl rfl (i64w (by omega))) rfl ?_
          refine L_y (y_move rfl) rfl ?_
          refine L_nil ?_
          refine ⟨k + 1, by omega, ⟨⟨by omega, fun j hj => by rcases Nat.lt_or_ge j k with q | q; exact hse j q; (have e9 : j = k := by omega); subst e9; omega⟩, S1⟩, ?_⟩
          exact (Sub.cons rfl (by first | rfl | exact congrArg (Value.int _) (by omega)) (Sub.cons rfl rfl (Sub.cons rfl rfl (Sub.nil _))))
    ·
      refine T_exit ?_
      refine hK2 _ _ ?_
      refine T_seq fun K11 hK11 => ?_
      refine T_region ?_
      refine L_y (y_assign rfl) rfl ?_
      refine L_nil ?_
      refine hK11 _ _ ?_
      refine T_ret ?_
      refine ur ?_
      refine ret1 rfl rfl ?_
      first | exact ⟨_, rfl, S1.like0, congrArg Value.bool (decide_eq_false (fun h => by have := h k (by omega); omega)).symm⟩ | exact ⟨_, rfl, S1.like0, congrArg Value.bool (decide_eq_true (fun j hj => hse j (by omega))).symm⟩


set_option maxRecDepth 100000 in
theorem seen_ (s : ByteArray) (w0 : World) (hs : s.size ≤ 1000) :
    Calls Try.prog 39 #[.string s] w0 fun e w' => ∃ u, e = .returned u ∧ Like w0 w' ∧ u = .bool (decide (seenP s)) := by
  refine enter1 (env := [(0, .string s)]) [.string s] Try.func39 rfl Try.ntmps39 rfl rfl ?_
  have S0 := St.start w0 noM
  refine T_seq fun K1 hK1 => ?_
  refine T_region ?_
  refine L_y (y_assign rfl) rfl ?_
  refine L_nil ?_
  refine hK1 _ _ ?_
  refine T_seq fun K2 hK2 => ?_
  refine T_seq fun K3 hK3 => ?_
  refine T_region ?_
  refine L_y (y_assign rfl) rfl ?_
  refine L_nil ?_
  refine hK3 _ _ ?_
  refine T_block ?_
  refine T_loop1 [(0, _)] (fun (k : Nat) => [(3, .int .i64 (k : Int))]) (fun (k : Nat) => s.size - k) (fun (k : Nat) (w : World) => (k ≤ s.size ∧ (∀ j, j < k → 33 ≤ g8 s.data.toList j ∧ g8 s.data.toList j ≤ 126)) ∧ St w0 noM [] w) 0 (Sub.cons rfl (by first | rfl | exact congrArg (Value.int _) (by omega)) (Sub.nil _)) (Sub.cons rfl rfl (Sub.nil _)) ?_ ?_
  ·
    exact ⟨⟨Nat.zero_le _, fun j hj => absurd hj (by omega)⟩, S0⟩
  ·
    intro k w1 hrel
    obtain ⟨⟨hk, hse⟩, S1⟩ := hrel
    refine T_seq fun K4 hK4 => ?_
    refine T_seq fun K5 hK5 => ?_
    refine T_region ?_
    refine L_y (y_move rfl) rfl ?_
    refine L_y (y_move rfl) rfl ?_
    refine L_y (y_lens Try.underlying9 rfl) rfl ?_
    refine L_y (y_lss rfl rfl) rfl ?_
    refine L_nil ?_
    refine hK5 _ _ ?_
    refine T_cond rfl (fun h7 => ?_) (fun h7 => ?_)
    ·
      refine T_skip ?_
      refine hK4 _ _ ?_
      refine T_seq fun K6 hK6 => ?_
      refine T_block ?_
      refine T_seq fun K7 hK7 => ?_
      refine T_region ?_
      refine L_y (y_move rfl) rfl ?_
      refine L_y (y_move rfl) rfl ?_
      refine L_y (y_idxS Try.underlying9 rfl rfl inferInstance (by omega)) rfl ?_
      refine L_y (y_lss rfl rfl) rfl ?_
      refine L_y (y_move rfl) rfl ?_
      refine L_split 14 rfl (fun h14 => ?_) (fun h14 => ?_)
      ·
        refine L_gno rfl rfl rfl ?_
        refine L_gno rfl rfl rfl ?_
        refine L_gno rfl rfl rfl ?_
        refine L_gno rfl rfl rfl ?_
        refine L_y (y_pk rfl rfl) rfl ?_
        refine L_nil ?_
        refine hK7 _ _ ?_
        refine T_true rfl ?_
        refine T_seq fun K8 hK8 => ?_
        refine T_region ?_
        refine L_y (y_assign rfl) rfl ?_
        refine L_nil ?_
        refine hK8 _ _ ?_
        refine T_ret ?_
        refine ur ?_
        refine ret1 rfl rfl ?_
        first | exact ⟨_, rfl, S1.like0, congrArg Value.bool (decide_eq_false (fun h => by have := h k (by omega); omega)).symm⟩ | exact ⟨_, rfl, S1.like0, congrArg Value.bool (decide_eq_true (fun j hj => hse j (by omega))).symm⟩
      ·
        refine L_gyes rfl rfl ?_
        refine L_y (y_move rfl) rfl ?_
        refine L_gyes rfl rfl ?_
        refine L_y (y_move rfl) rfl ?_
        refine L_gyes rfl rfl ?_
        refine L_y (y_idxS Try.underlying9 rfl rfl inferInstance (by omega)) rfl ?_
        refine L_gyes rfl rfl ?_
        refine L_y (y_gtr rfl rfl) rfl ?_
        refine L_y (y_pk rfl rfl) rfl ?_
        refine L_nil ?_
        refine hK7 _ _ ?_
        refine T_cond rfl (fun h19 => ?_) (fun h19 => ?_)
        ·
          refine T_seq fun K9 hK9 => ?_
          refine T_region ?_
          refine L_y (y_assign rfl) rfl ?_
          refine L_nil ?_
          refine hK9 _ _ ?_
          refine T_ret ?_
          refine ur ?_
          refine ret1 rfl rfl ?_
          first | exact ⟨_, rfl, S1.like0, congrArg Value.bool (decide_eq_false (fun h => by have := h k (by omega); omega)).symm⟩ | exact ⟨_, rfl, S1.like0, congrArg Value.bool (decide_eq_true (fun j hj => hse j (by omega))).symm⟩
        ·
          refine T_skip ?_
          refine hK6 _ _ ?_
          refine T_region ?_
          refine L_y (y_move rfl) rfl ?_
          refine L_y (y_add rfl rfl (i64w (by omega))) rfl ?_
          refine L_y (y_assign rfl) rfl ?_
          refine L_nil ?_
          refine ⟨k + 1, by omega, ⟨⟨by omega, fun j hj => by rcases Nat.lt_or_ge j k with q | q; exact hse j q; (have e9 : j = k := by omega); subst e9; omega⟩, S1⟩, ?_⟩
          exact (Sub.cons rfl (by first | rfl | exact congrArg (Value.int _) (by omega)) (Sub.cons rfl rfl (Sub.nil _)))
    ·
      refine T_exit ?_
      refine hK2 _ _ ?_
      refine T_seq fun K10 hK10 => ?_
      refine T_region ?_
      refine L_y (y_assign rfl) rfl ?_
      refine L_nil ?_
      refine hK10 _ _ ?_
      refine T_ret ?_
      refine ur ?_
      refine ret1 rfl rfl ?_
      first | exact ⟨_, rfl, S1.like0, congrArg Value.bool (decide_eq_false (fun h => by have := h k (by omega); omega)).symm⟩ | exact ⟨_, rfl, S1.like0, congrArg Value.bool (decide_eq_true (fun j hj => hse j (by omega))).symm⟩


set_option maxRecDepth 100000 in
theorem sidx (s : ByteArray) (w0 : World)  :
    Calls Try.prog 54 #[.string s, .string ⟨#[47]⟩] w0 fun e w' => ∃ u, e = .returned u ∧ Like w0 w' ∧ u = .int .i64 (Lib.indexByte s.data.toList 47) := by
  refine enter1 (env := [(0, .string s), (1, .string ⟨#[47]⟩)]) [.string s, .string ⟨#[47]⟩] Try.func54 rfl Try.ntmps54 rfl rfl ?_
  have h1z : (⟨#[47]⟩ : ByteArray).size = 1 := rfl; have S0 := St.start w0 noM
  refine T_seq fun K1 hK1 => ?_
  refine T_region ?_
  refine L_y (y_assign rfl) rfl ?_
  refine L_nil ?_
  refine hK1 _ _ ?_
  refine T_seq fun K2 hK2 => ?_
  refine T_region ?_
  refine L_y (y_move rfl) rfl ?_
  refine L_y (y_lens Try.underlying9 rfl) rfl ?_
  refine L_y (y_assign rfl) rfl ?_
  refine L_nil ?_
  refine hK2 _ _ ?_
  refine T_seq fun K3 hK3 => ?_
  refine T_block ?_
  refine T_seq fun K4 hK4 => ?_
  refine T_region ?_
  refine L_y (y_move rfl) rfl ?_
  refine L_y (y_eql rfl rfl) rfl ?_
  refine L_y (y_move rfl) rfl ?_
  refine L_split 19 rfl (fun h19 => ?_) (fun h19 => ?_)
  ·
    omega
  ·
    refine L_gyes rfl rfl ?_
    refine L_y (y_move rfl) rfl ?_
    refine L_gyes rfl rfl ?_
    refine L_y (y_move rfl) rfl ?_
    refine L_gyes rfl rfl ?_
    refine L_y (y_seql rfl rfl) rfl ?_
    refine L_y (y_pk rfl rfl) rfl ?_
    refine L_y (y_assign rfl) rfl ?_
    refine L_nil ?_
    refine hK4 _ _ ?_
    refine T_cond rfl (fun h16 => ?_) (fun h16 => ?_)
    ·
      refine T_seq fun K5 hK5 => ?_
      refine T_region ?_
      refine L_y (y_assign rfl) rfl ?_
      refine L_nil ?_
      refine hK5 _ _ ?_
      refine T_ret ?_
      refine ur ?_
      refine ret1 rfl rfl ?_
      subst h16
      exact ⟨_, rfl, S0.like0, congrArg (Value.int _) idx_self.symm⟩
    ·
      refine T_seq fun K6 hK6 => ?_
      refine T_region ?_
      refine L_y (y_move rfl) rfl ?_
      refine L_y (y_eql rfl rfl) rfl ?_
      refine L_y (y_assign rfl) rfl ?_
      refine L_nil ?_
      refine hK6 _ _ ?_
      refine T_cond rfl (fun h24 => ?_) (fun h24 => ?_)
      ·
        refine T_seq fun K7 hK7 => ?_
        refine T_region ?_
        refine L_y (y_move rfl) rfl ?_
        refine L_y (y_move rfl) rfl ?_
        refine L_y (y_idxS Try.underlying9 rfl rfl inferInstance (by omega)) rfl ?_
        refine L_o (o_call Try.func61 rfl rfl (strIdx s w0) rfl rfl ?_)
        rintro e2 w2 ⟨v2, rfl, l2, rfl⟩
        refine ⟨_, rfl, ?_⟩
        have S2 := S0.like l2
        refine L_y (y_assign rfl) rfl ?_
        refine L_nil ?_
        refine hK7 _ _ ?_
        refine T_ret ?_
        refine ur ?_
        refine ret1 rfl rfl ?_
        exact ⟨_, rfl, S2.like0, rfl⟩
      ·
        omega


set_option maxRecDepth 100000 in
theorem sidx2 (s : ByteArray) (w0 : World)  :
    Calls Try.prog 47 #[.string s, .string ⟨#[47]⟩] w0 fun e w' => ∃ u, e = .returned u ∧ Like w0 w' ∧ u = .int .i64 (Lib.indexByte s.data.toList 47) := by
  refine enter1 (env := [(0, .string s), (1, .string ⟨#[47]⟩)]) [.string s, .string ⟨#[47]⟩] Try.func47 rfl Try.ntmps47 rfl rfl ?_
  have S0 := St.start w0 noM
  refine T_seq fun K1 hK1 => ?_
  refine T_region ?_
  refine L_y (y_assign rfl) rfl ?_
  refine L_nil ?_
  refine hK1 _ _ ?_
  refine T_seq fun K2 hK2 => ?_
  refine T_region ?_
  refine L_y (y_move rfl) rfl ?_
  refine L_y (y_move rfl) rfl ?_
  refine L_o (o_call Try.func54 rfl rfl (sidx s w0) rfl rfl ?_)
  rintro e1 w1 ⟨v1, rfl, l1, rfl⟩
  refine ⟨_, rfl, ?_⟩
  have S1 := S0.like l1
  refine L_y (y_assign rfl) rfl ?_
  refine L_nil ?_
  refine hK2 _ _ ?_
  refine T_ret ?_
  refine ur ?_
  refine ret1 rfl rfl ?_
  exact ⟨_, rfl, S1.like0, rfl⟩


set_option maxRecDepth 100000 in
theorem contai (s : ByteArray) (w0 : World)  :
    Calls Try.prog 38 #[.string s, .string ⟨#[47]⟩] w0 fun e w' => ∃ u, e = .returned u ∧ Like w0 w' ∧ u = .bool (decide ((47 : UInt8) ∈ s.data.toList)) := by
  refine enter1 (env := [(0, .string s), (1, .string ⟨#[47]⟩)]) [.string s, .string ⟨#[47]⟩] Try.func38 rfl Try.ntmps38 rfl rfl ?_
  have S0 := St.start w0 noM
  refine T_seq fun K1 hK1 => ?_
  refine T_region ?_
  refine L_y (y_assign rfl) rfl ?_
  refine L_nil ?_
  refine hK1 _ _ ?_
  refine T_seq fun K2 hK2 => ?_
  refine T_region ?_
  refine L_y (y_move rfl) rfl ?_
  refine L_y (y_move rfl) rfl ?_
  refine L_o (o_call Try.func47 rfl rfl (sidx2 s w0) rfl rfl ?_)
  rintro e1 w1 ⟨v1, rfl, l1, rfl⟩
  refine ⟨_, rfl, ?_⟩
  have S1 := S0.like l1
  refine L_y (y_geq rfl rfl) rfl ?_
  refine L_y (y_assign rfl) rfl ?_
  refine L_nil ?_
  refine hK2 _ _ ?_
  refine T_ret ?_
  refine ur ?_
  refine ret1 rfl rfl ?_
  exact ⟨_, rfl, S1.like0, congrArg Value.bool (decide_eq_decide.2 (idx_ge _ _))⟩


set_option maxRecDepth 100000 in
theorem pname (s : ByteArray) (w0 : World)  :
    Calls Try.prog 27 #[.string s] w0 fun e w' => ∃ u, e = .returned u ∧ Like w0 w' ∧ u = .bool (nmOk s) := by
  refine enter1 (env := [(0, .string s)]) [.string s] Try.func27 rfl Try.ntmps27 rfl rfl ?_
  have S0 := St.start w0 noM
  refine T_seq fun K1 hK1 => ?_
  refine T_region ?_
  refine L_y (y_assign rfl) rfl ?_
  refine L_nil ?_
  refine hK1 _ _ ?_
  refine T_seq fun K2 hK2 => ?_
  refine T_region ?_
  refine L_y (y_move rfl) rfl ?_
  refine L_y (y_lens Try.underlying9 rfl) rfl ?_
  refine L_y (y_gtr rfl rfl) rfl ?_
  refine L_y (y_move rfl) rfl ?_
  refine L_split 6 rfl (fun h6 => ?_) (fun h6 => ?_)
  ·
    have q6 : 1 ≤ s.size := by omega
    refine L_gyes rfl rfl ?_
    refine L_y (y_move rfl) rfl ?_
    refine L_gyes rfl rfl ?_
    refine L_y (y_lens Try.underlying9 rfl) rfl ?_
    refine L_gyes rfl rfl ?_
    refine L_y (y_leq rfl rfl) rfl ?_
    refine L_y (y_pk rfl rfl) rfl ?_
    refine L_y (y_move rfl) rfl ?_
    refine L_split 11 rfl (fun h11 => ?_) (fun h11 => ?_)
    ·
      have q11 : s.size ≤ 32 := by omega
      refine L_gyes rfl rfl ?_
      refine L_y (y_move rfl) rfl ?_
      refine L_gyes rfl rfl ?_
      refine L_o (o_call Try.func37 rfl rfl (plain_ s w0 (by omega)) rfl rfl ?_)
      rintro e3 w3 ⟨v3, rfl, l3, rfl⟩
      refine ⟨_, rfl, ?_⟩
      have S3 := S0.like l3
      refine L_y (y_pk rfl rfl) rfl ?_
      refine L_y (y_move rfl) rfl ?_
      refine L_split 15 rfl (fun h15 => ?_) (fun h15 => ?_)
      ·
        have q15 : seenP s := by first | exact of_decide_eq_true h15 | exact of_decide_eq_false h15 | simpa using h15
        refine L_gyes rfl rfl ?_
        refine L_y (y_move rfl) rfl ?_
        refine L_gyes rfl rfl ?_
        refine L_o (o_call Try.func38 rfl rfl (contai s w3) rfl rfl ?_)
        rintro e5 w5 ⟨v5, rfl, l5, rfl⟩
        refine ⟨_, rfl, ?_⟩
        have S5 := S3.like l5
        refine L_gyes rfl rfl ?_
        refine L_y ((by first | exact y_notD rfl | exact y_not rfl)) rfl ?_
        refine L_y (y_pk rfl rfl) rfl ?_
        refine L_y (y_move rfl) rfl ?_
        refine L_split 20 rfl (fun h20 => ?_) (fun h20 => ?_)
        ·
          have q20 : (47 : UInt8) ∉ s.data.toList := by simpa using h20
          refine L_gyes rfl rfl ?_
          refine L_y (y_move rfl) rfl ?_
          refine L_gyes rfl rfl ?_
          refine L_y (y_sneq rfl rfl) rfl ?_
          refine L_y (y_pk rfl rfl) rfl ?_
          refine L_y (y_move rfl) rfl ?_
          refine L_split 24 rfl (fun h24 => ?_) (fun h24 => ?_)
          ·
            have q24 : s ≠ ⟨#[46]⟩ := by simpa using h24
            refine L_gyes rfl rfl ?_
            refine L_y (y_move rfl) rfl ?_
            refine L_gyes rfl rfl ?_
            refine L_y (y_sneq rfl rfl) rfl ?_
            refine L_y (y_pk rfl rfl) rfl ?_
            refine L_y (y_assign rfl) rfl ?_
            refine L_nil ?_
            refine hK2 _ _ ?_
            refine T_ret ?_
            refine ur ?_
            refine ret1 rfl rfl ?_
            exact ⟨_, rfl, S5.like0, congrArg Value.bool (by unfold nmOk; simp [q24, q20, q15, q11, q6])⟩
          ·
            have q24 : ¬ s ≠ ⟨#[46]⟩ := by simpa using h24
            refine L_gno rfl rfl rfl ?_
            refine L_gno rfl rfl rfl ?_
            refine L_y (y_pk rfl rfl) rfl ?_
            refine L_y (y_assign rfl) rfl ?_
            refine L_nil ?_
            refine hK2 _ _ ?_
            refine T_ret ?_
            refine ur ?_
            refine ret1 rfl rfl ?_
            exact ⟨_, rfl, S5.like0, congrArg Value.bool (by unfold nmOk; simp [q24, q20, q15, q11, q6])⟩
        ·
          have q20 : (47 : UInt8) ∈ s.data.toList := Decidable.not_not.1 h20
          refine L_gno rfl rfl rfl ?_
          refine L_gno rfl rfl rfl ?_
          refine L_y (y_pk rfl rfl) rfl ?_
          refine L_y (y_move rfl) rfl ?_
          refine L_gno rfl rfl rfl ?_
          refine L_gno rfl rfl rfl ?_
          refine L_y (y_pk rfl rfl) rfl ?_
          refine L_y (y_assign rfl) rfl ?_
          refine L_nil ?_
          refine hK2 _ _ ?_
          refine T_ret ?_
          refine ur ?_
          refine ret1 rfl rfl ?_
          exact ⟨_, rfl, S5.like0, congrArg Value.bool (by unfold nmOk; simp [q20, q15, q11, q6])⟩
      ·
        have q15 : ¬ seenP s := by first | exact of_decide_eq_true h15 | exact of_decide_eq_false h15 | simpa using h15
        refine L_gno rfl rfl rfl ?_
        refine L_gno rfl rfl rfl ?_
        refine L_gno rfl rfl rfl ?_
        refine L_y (y_pk rfl rfl) rfl ?_
        refine L_y (y_move rfl) rfl ?_
        refine L_gno rfl rfl rfl ?_
        refine L_gno rfl rfl rfl ?_
        refine L_y (y_pk rfl rfl) rfl ?_
        refine L_y (y_move rfl) rfl ?_
        refine L_gno rfl rfl rfl ?_
        refine L_gno rfl rfl rfl ?_
        refine L_y (y_pk rfl rfl) rfl ?_
        refine L_y (y_assign rfl) rfl ?_
        refine L_nil ?_
        refine hK2 _ _ ?_
        refine T_ret ?_
        refine ur ?_
        refine ret1 rfl rfl ?_
        exact ⟨_, rfl, S3.like0, congrArg Value.bool (by unfold nmOk; simp [q15, q11, q6])⟩
    ·
      have q11 : ¬ s.size ≤ 32 := by omega
      refine L_gno rfl rfl rfl ?_
      refine L_gno rfl rfl rfl ?_
      refine L_y (y_pk rfl rfl) rfl ?_
      refine L_y (y_move rfl) rfl ?_
      refine L_gno rfl rfl rfl ?_
      refine L_gno rfl rfl rfl ?_
      refine L_gno rfl rfl rfl ?_
      refine L_y (y_pk rfl rfl) rfl ?_
      refine L_y (y_move rfl) rfl ?_
      refine L_gno rfl rfl rfl ?_
      refine L_gno rfl rfl rfl ?_
      refine L_y (y_pk rfl rfl) rfl ?_
      refine L_y (y_move rfl) rfl ?_
      refine L_gno rfl rfl rfl ?_
      refine L_gno rfl rfl rfl ?_
      refine L_y (y_pk rfl rfl) rfl ?_
      refine L_y (y_assign rfl) rfl ?_
      refine L_nil ?_
      refine hK2 _ _ ?_
      refine T_ret ?_
      refine ur ?_
      refine ret1 rfl rfl ?_
      exact ⟨_, rfl, S0.like0, congrArg Value.bool (by unfold nmOk; simp [q11, q6])⟩
  ·
    have q6 : ¬ 1 ≤ s.size := by omega
    refine L_gno rfl rfl rfl ?_
    refine L_gno rfl rfl rfl ?_
    refine L_gno rfl rfl rfl ?_
    refine L_y (y_pk rfl rfl) rfl ?_
    refine L_y (y_move rfl) rfl ?_
    refine L_gno rfl rfl rfl ?_
    refine L_gno rfl rfl rfl ?_
    refine L_y (y_pk rfl rfl) rfl ?_
    refine L_y (y_move rfl) rfl ?_
    refine L_gno rfl rfl rfl ?_
    refine L_gno rfl rfl rfl ?_
    refine L_gno rfl rfl rfl ?_
    refine L_y (y_pk rfl rfl) rfl ?_
    refine L_y (y_move rfl) rfl ?_
    refine L_gno rfl rfl rfl ?_
    refine L_gno rfl rfl rfl ?_
    refine L_y (y_pk rfl rfl) rfl ?_
    refine L_y (y_move rfl) rfl ?_
    refine L_gno rfl rfl rfl ?_
    refine L_gno rfl rfl rfl ?_
    refine L_y (y_pk rfl rfl) rfl ?_
    refine L_y (y_assign rfl) rfl ?_
    refine L_nil ?_
    refine hK2 _ _ ?_
    refine T_ret ?_
    refine ur ?_
    refine ret1 rfl rfl ?_
    exact ⟨_, rfl, S0.like0, congrArg Value.bool (by unfold nmOk; simp [q6])⟩


set_option maxRecDepth 100000 in
theorem parts (s : ByteArray) (w0 : World) (hs : s.size ≤ 1000) :
    Calls Try.prog 40 #[.string s] w0 fun e w' => ∃ u, e = .returned u ∧ Like w0 w' ∧ ∃ A' c', u = .slice A' (if s.size = 0 then 0 else cnSl s.data.toList + 1) c' := by
  refine enter1 (env := [(0, .string s)]) [.string s] Try.func40 rfl Try.ntmps40 rfl rfl ?_
  have S0 := St.start w0 noM
  refine T_seq fun K1 hK1 => ?_
  refine T_region ?_
  refine L_y (y_assign rfl) rfl ?_
  refine L_nil ?_
  refine hK1 _ _ ?_
  refine T_seq fun K2 hK2 => ?_
  refine T_region ?_
  have S1 := S0.nilrow 9 1
  refine L_y (y_assign rfl) rfl ?_
  refine L_nil ?_
  refine hK2 _ _ ?_
  refine T_seq fun K3 hK3 => ?_
  refine T_seq fun K4 hK4 => ?_
  refine T_region ?_
  refine L_y (y_move rfl) rfl ?_
  refine L_y (y_seql rfl rfl) rfl ?_
  refine L_nil ?_
  refine hK4 _ _ ?_
  refine T_cond rfl (fun h7 => ?_) (fun h7 => ?_)
  ·
    refine T_seq fun K5 hK5 => ?_
    refine T_region ?_
    refine L_y (y_move rfl) rfl ?_
    refine L_y (y_assign rfl) rfl ?_
    refine L_nil ?_
    refine hK5 _ _ ?_
    refine T_ret ?_
    refine ur ?_
    refine ret1 rfl rfl ?_
    have hz : s.size = 0 := by rw [h7]; rfl
    exact ⟨_, rfl, S1.like0, none, 0, by rw [if_pos hz]⟩
  ·
    refine T_skip ?_
    refine hK3 _ _ ?_
    refine T_seq fun K6 hK6 => ?_
    refine T_region ?_
    refine L_y (y_assign rfl) rfl ?_
    refine L_nil ?_
    refine hK6 _ _ ?_
    refine T_seq fun K7 hK7 => ?_
    refine T_seq fun K8 hK8 => ?_
    refine T_region ?_
    refine L_y (y_assign rfl) rfl ?_
    refine L_nil ?_
    refine hK8 _ _ ?_
    refine T_block ?_
    refine T_loop5 [(0, _)] (fun (k : Nat) (nw : ByteArray) (A1 : Option Addr) (c1 : Nat) (xs : List Value) => [(3, .slice A1 (cnSl (s.data.toList.take k)) c1), (4, .string nw), (5, .int .i64 (k : Int))]) (fun (k : Nat) (nw : ByteArray) (A1 : Option Addr) (c1 : Nat) (xs : List Value) => s.size - k) (fun (k : Nat) (nw : ByteArray) (A1 : Option Addr) (c1 : Nat) (xs : List Value) (w : World) => (k ≤ s.size ∧ nw.size ≤ k) ∧ St w0 noM [row 9 1 A1 (cnSl (s.data.toList.take k)) c1 xs] w) 0 ⟨#[]⟩ none 0 [] (Sub.cons rfl (by first | rfl | exact congrArg (Value.int _) (by omega)) (Sub.cons rfl (by first | rfl | exact congrArg (Value.int _) (by omega)) (Sub.cons rfl (by first | rfl | exact congrArg (Value.int _) (by omega)) (Sub.nil _)))) (Sub.cons rfl rfl (Sub.nil _)) ?_ ?_
    ·
      exact ⟨⟨Nat.zero_le _, Nat.le_refl _⟩, S1⟩
    ·
      intro k nw A1 c1 xs w2 hrel
      obtain ⟨⟨hk, hnw⟩, S2⟩ := hrel
      have hcl := cn_le (s.data.toList.take k)
      rw [List.length_take, size_toList] at hcl
      have hex : (s.extract k (k + 1)).size ≤ 1 := by rw [ByteArray.size_extract]; omega
      refine T_seq fun K9 hK9 => ?_
      refine T_seq fun K10 hK10 => ?_
      refine T_region ?_
      refine L_y (y_move rfl) rfl ?_
      refine L_y (y_move rfl) rfl ?_
      refine L_y (y_lens Try.underlying9 rfl) rfl ?_
      refine L_y (y_lss rfl rfl) rfl ?_
      refine L_nil ?_
      refine hK10 _ _ ?_
      refine T_cond rfl (fun h12 => ?_) (fun h12 => ?_)
      ·
        refine T_skip ?_
        refine hK9 _ _ ?_
        refine T_seq fun K11 hK11 => ?_
        refine T_block ?_
        refine T_seq fun K12 hK12 => ?_
        refine T_region ?_
        refine L_y (y_move rfl) rfl ?_
        refine L_y (y_move rfl) rfl ?_
        refine L_y (y_idxS Try.underlying9 rfl rfl inferInstance (by omega)) rfl ?_
        refine L_y (y_eql rfl rfl) rfl ?_
        refine L_nil ?_
        refine hK12 _ _ ?_
        refine T_cond rfl (fun h18 => ?_) (fun h18 => ?_)
        ·
          refine T_seq fun K13 hK13 => ?_
          refine T_region ?_
          refine L_y (y_move rfl) rfl ?_
          refine L_y (y_move rfl) rfl ?_
          refine L_o (o_bsl [_] te44 zz9 S2 rfl rfl rfl rfl rfl rfl rfl rfl fun b3 w3 S3 => ?_)
          refine L_o (o_app te44 S3 0 rfl rfl rfl (by first | exact S3.row 0 rfl | exact S3.row 1 rfl) (by first | exact bL_one _ | exact iL_one _ | (intro u hu; simp at hu; subst hu; rfl) | (simp; done) | (simp [Value.oneCell']; done)) rfl (by omega) (by omega) fun A4 c4 w4 S4 => ?_)
          have S4d := S4.drop (rs' := [_]) (.cons_cons _ (.cons _ (.refl _)))
          refine L_y (y_assign rfl) rfl ?_
          refine L_nil ?_
          refine hK13 _ _ ?_
          refine T_region ?_
          refine L_y (y_assign rfl) rfl ?_
          refine L_nil ?_
          refine hK11 _ _ ?_
          refine T_region ?_
          refine L_y (y_move rfl) rfl ?_
          refine L_y (y_add rfl rfl (i64w (by omega))) rfl ?_
          refine L_y (y_assign rfl) rfl ?_
          refine L_nil ?_
          have hcs := cn_step (l := s.data.toList) (k := k) (by rw [size_toList]; omega)
          rw [if_pos (by omega)] at hcs
          refine ⟨k + 1, ⟨#[]⟩, A4, c4, _, by omega, ⟨⟨by omega, by show 0 ≤ _; omega⟩, by rw [hcs]; exact S4d⟩, ?_⟩
          exact (Sub.cons rfl (by first | (rw [hcs]; rfl) | (rw [hcs, Nat.add_zero])) (Sub.cons rfl (by first | rfl | exact congrArg (Value.int _) (by omega)) (Sub.cons rfl (by first | rfl | exact congrArg (Value.int _) (by omega)) (Sub.cons rfl rfl (Sub.nil _)))))
        ·
          refine T_region ?_
          refine L_y (y_move rfl) rfl ?_
          refine L_y (y_move rfl) rfl ?_
          refine L_y (y_move rfl) rfl ?_
          refine L_y (y_move rfl) rfl ?_
          refine L_y (y_add rfl rfl (i64w (by omega))) rfl ?_
          refine L_y (y_sslice Try.underlying9 rfl rfl rfl inferInstance inferInstance (by omega) (by omega)) rfl ?_
          refine L_y (y_cat rfl rfl (by omega)) rfl ?_
          refine L_y (y_assign rfl) rfl ?_
          refine L_nil ?_
          refine hK11 _ _ ?_
          refine T_region ?_
          refine L_y (y_move rfl) rfl ?_
          refine L_y (y_add rfl rfl (i64w (by omega))) rfl ?_
          refine L_y (y_assign rfl) rfl ?_
          refine L_nil ?_
          have hcs := cn_step (l := s.data.toList) (k := k) (by rw [size_toList]; omega)
          rw [if_neg (by omega)] at hcs
          refine ⟨k + 1, nw ++ s.extract k (k + 1), A1, c1, xs, by omega, ⟨⟨by omega, by rw [ByteArray.size_append]; omega⟩, by rw [hcs]; exact S2⟩, ?_⟩
          exact (Sub.cons rfl (by first | (rw [hcs]; rfl) | (rw [hcs, Nat.add_zero])) (Sub.cons rfl (by first | rfl | exact congrArg (Value.int _) (by omega)) (Sub.cons rfl (by first | rfl | exact congrArg (Value.int _) (by omega)) (Sub.cons rfl rfl (Sub.nil _)))))
      ·
        refine T_exit ?_
        refine hK7 _ _ ?_
        refine T_seq fun K14 hK14 => ?_
        refine T_region ?_
        refine L_y (y_move rfl) rfl ?_
        refine L_y (y_move rfl) rfl ?_
        refine L_o (o_bsl [_] te44 zz9 S2 rfl rfl rfl rfl rfl rfl rfl rfl fun b5 w5 S5 => ?_)
        refine L_o (o_app te44 S5 0 rfl rfl rfl (by first | exact S5.row 0 rfl | exact S5.row 1 rfl) (by first | exact bL_one _ | exact iL_one _ | (intro u hu; simp at hu; subst hu; rfl) | (simp; done) | (simp [Value.oneCell']; done)) rfl (by omega) (by omega) fun A6 c6 w6 S6 => ?_)
        have S6d := S6.drop (rs' := [_]) (.cons_cons _ (.cons _ (.refl _)))
        refine L_y (y_assign rfl) rfl ?_
        refine L_nil ?_
        refine hK14 _ _ ?_
        refine T_ret ?_
        refine ur ?_
        refine ret1 rfl rfl ?_
        have hz : ¬ s.size = 0 := fun e => h7 (by apply ByteArray.ext; exact Array.eq_empty_of_size_eq_zero e)
        have hkn : k = s.size := by omega
        rw [List.take_of_length_le (by rw [size_toList]; omega)] at *
        exact ⟨_, rfl, S6d.like0, _, _, by rw [if_neg hz]⟩
end Go.Proofs.Ytmgimcdkeelnpaa


/-
  Check.
-/
namespace Go.Proofs.Ytmgimcdkeelnpaa
open Go.RowKit Zk Zx
set_option linter.unusedVariables false
set_option linter.unusedSimpArgs false

def mdOk (m : Int) : Prop := m = 1 ∨ m = 2 ∨ m = 3
instance (m : Int) : Decidable (mdOk m) := inferInstanceAs (Decidable (m = 1 ∨ m = 2 ∨ m = 3))
/-- The first thing that is wrong with an entry. -/
def chk1 : List EV → Int
  | [] => 0
  | e :: l => if ¬ mdOk e.md then 16 else if nmOk e.nm = false then 15 else chk1 l
/-- Do keys rise? -/
def risK : List EV → Bool
  | x :: y :: l => ltK x y && risK (y :: l)
  | _ => true
/-- Is no name there twice? -/
def once (l : List EV) : Prop := (l.map EV.nm).Nodup
instance (l : List EV) : Decidable (once l) := inferInstanceAs (Decidable (l.map EV.nm).Nodup)
def chkE (l : List EV) : Int := if 64 < l.length then 3 else if chk1 l ≠ 0 then chk1 l else if ¬ once l then 17 else if risK l = false then 18 else 0
theorem chk1_at {l : List EV} : ∀ (k : Nat), (∀ j e, j < k → l[j]? = some e → mdOk e.md ∧ nmOk e.nm = true) → k ≤ l.length → chk1 l = chk1 (l.drop k) := by
  induction l with
  | nil => intro k _ hk; simp at hk; rw [hk]; rfl
  | cons e l ih =>
    intro k h hk
    match k with
    | 0 => rfl
    | k + 1 =>
      obtain ⟨h1, h2⟩ := h 0 e (by omega) rfl
      conv => lhs; unfold chk1
      rw [if_neg (fun x => x h1), if_neg (by rw [h2]; exact fun x => by cases x), List.drop_succ_cons]
      exact ih k (fun j e' hj he => h (j + 1) e' (by omega) he) (by simpa using hk)
theorem chk1_md {l : List EV} {k : Nat} {e : EV} (he : l[k]? = some e) (h : ¬ mdOk e.md) : chk1 (l.drop k) = 16 := by
  rw [drop_hd2 he]
  unfold chk1
  rw [if_pos h]
theorem chk1_nm {l : List EV} {k : Nat} {e : EV} (he : l[k]? = some e) (h : mdOk e.md) (h2 : nmOk e.nm = false) : chk1 (l.drop k) = 15 := by
  rw [drop_hd2 he]
  unfold chk1
  rw [if_neg (fun x => x h), if_pos h2]
theorem risK_at : ∀ (l : List EV) (k : Nat), (∀ j x y, j + 1 < k → l[j]? = some x → l[j + 1]? = some y → ltK x y = true) → k ≤ l.length → risK l = risK (l.drop (k - 1))
  | l, 0, _, _ => rfl
  | l, 1, _, _ => rfl
  | [], k + 2, _, h => by simp at h
  | [x], k + 2, _, h => by simp at h
  | x :: y :: l, k + 2, h, hk => by
    have h0 := h 0 x y (by omega) rfl rfl
    have ih := risK_at (y :: l) (k + 1) (fun j a b hj ha hb => h (j + 1) a b (by omega) ha hb) (by simpa using hk)
    show (ltK x y && risK (y :: l)) = _
    rw [h0, Bool.true_and, ih]
    rfl
theorem risK_no {l : List EV} {k : Nat} {x y : EV} (hx : l[k]? = some x) (hy : l[k + 1]? = some y) (h : ltK x y = false) : risK (l.drop k) = false := by
  rw [drop_hd2 hx, drop_hd2 hy]
  show (ltK x y && _) = false
  rw [h]
  rfl
theorem risK_end {l : List EV} {k : Nat} (h : l.length ≤ k + 1) : risK (l.drop k) = true := by
  have : (l.drop k).length ≤ 1 := by rw [List.length_drop]; omega
  match hd : l.drop k with
  | [] => rfl
  | [x] => rfl
  | x :: y :: m => rw [hd] at this; simp at this
theorem once_snoc {l : List EV} {k : Nat} {e : EV} (he : l[k]? = some e) (h : once (l.take k)) (h2 : e.nm ∉ (l.take k).map EV.nm) : once (l.take (k + 1)) := by
  unfold once at *
  rw [take_sn2 he, List.map_append, List.nodup_append]
  refine ⟨h, by simp, fun a ha b hb => ?_⟩
  rw [List.map_singleton, List.mem_singleton] at hb
  subst hb
  exact fun e2 => h2 (by rw [← e2]; exact ha)
theorem not_onceT {l : List EV} {k : Nat} {e : EV} (he : l[k]? = some e) (h2 : e.nm ∈ (l.take k).map EV.nm) : ¬ once (l.take (k + 1)) := fun h3 => by
  unfold once at h3
  rw [take_sn2 he, List.map_append, List.nodup_append] at h3
  exact h3.2.2 _ h2 _ (by simp) rfl
theorem once_sub {l : List EV} (k : Nat) (h : once l) : once (l.take k) := by
  unfold once at *
  exact h.sublist ((List.take_sublist _ _).map _)
theorem once_down {l : List EV} {k : Nat} (h : once (l.take (k + 1))) : once (l.take k) := by
  have := once_sub k h
  rwa [List.take_take, Nat.min_eq_left (by omega)] at this
theorem not_once {l : List EV} {k : Nat} {e : EV} (he : l[k]? = some e) (h2 : e.nm ∈ (l.take k).map EV.nm) : ¬ once l := fun h => not_onceT he h2 (once_sub (k + 1) h)


set_option maxRecDepth 100000 in
theorem rname (s : ByteArray) (w0 : World)  :
    Calls Try.prog 28 #[.string s] w0 fun e w' => ∃ u, e = .returned u ∧ Like w0 w' ∧ u = .bool (nmOk s) := by
  refine enter1 (env := [(0, .string s)]) [.string s] Try.func28 rfl Try.ntmps28 rfl rfl ?_
  have S0 := St.start w0 noM
  refine T_seq fun K1 hK1 => ?_
  refine T_region ?_
  refine L_y (y_assign rfl) rfl ?_
  refine L_nil ?_
  refine hK1 _ _ ?_
  refine T_seq fun K2 hK2 => ?_
  refine T_region ?_
  refine L_y (y_move rfl) rfl ?_
  refine L_y (y_lens Try.underlying9 rfl) rfl ?_
  refine L_y (y_geq rfl rfl) rfl ?_
  refine L_y (y_move rfl) rfl ?_
  refine L_split 6 rfl (fun h6 => ?_) (fun h6 => ?_)
  ·
    have q6 : 1 ≤ s.size := by omega
    refine L_gyes rfl rfl ?_
    refine L_y (y_move rfl) rfl ?_
    refine L_gyes rfl rfl ?_
    refine L_y (y_lens Try.underlying9 rfl) rfl ?_
    refine L_gyes rfl rfl ?_
    refine L_y (y_leq rfl rfl) rfl ?_
    refine L_y (y_pk rfl rfl) rfl ?_
    refine L_y (y_move rfl) rfl ?_
    refine L_split 11 rfl (fun h11 => ?_) (fun h11 => ?_)
    ·
      have q11 : s.size ≤ 32 := by omega
      refine L_gyes rfl rfl ?_
      refine L_y (y_move rfl) rfl ?_
      refine L_gyes rfl rfl ?_
      refine L_o (o_call Try.func39 rfl rfl (seen_ s w0 (by omega)) rfl rfl ?_)
      rintro e3 w3 ⟨v3, rfl, l3, rfl⟩
      refine ⟨_, rfl, ?_⟩
      have S3 := S0.like l3
      refine L_y (y_pk rfl rfl) rfl ?_
      refine L_y (y_move rfl) rfl ?_
      refine L_split 15 rfl (fun h15 => ?_) (fun h15 => ?_)
      ·
        have q15 : seenP s := by first | exact of_decide_eq_true h15 | exact of_decide_eq_false h15 | simpa using h15
        refine L_gyes rfl rfl ?_
        refine L_y (y_move rfl) rfl ?_
        refine L_gyes rfl rfl ?_
        refine L_o (o_call Try.func40 rfl rfl (parts s w3 (by omega)) rfl rfl ?_)
        rintro e5 w5 ⟨v5, rfl, l5, A17, c17, rfl⟩
        refine ⟨_, rfl, ?_⟩
        have S5 := S3.like l5
        refine L_gyes rfl rfl ?_
        refine L_y (y_len Try.underlying44 rfl) rfl ?_
        refine L_gyes rfl rfl ?_
        refine L_y (y_eql rfl rfl) rfl ?_
        refine L_y (y_pk rfl rfl) rfl ?_
        refine L_y (y_move rfl) rfl ?_
        refine L_split 21 rfl (fun h21 => ?_) (fun h21 => ?_)
        ·
          have q21 : (47 : UInt8) ∉ s.data.toList := cn_zero.1 (by rw [if_neg (by omega)] at h21; omega)
          refine L_gyes rfl rfl ?_
          refine L_y (y_move rfl) rfl ?_
          refine L_gyes rfl rfl ?_
          refine L_y (y_sneq rfl rfl) rfl ?_
          refine L_y (y_pk rfl rfl) rfl ?_
          refine L_y (y_move rfl) rfl ?_
          refine L_split 25 rfl (fun h25 => ?_) (fun h25 => ?_)
          ·
            have q25 : s ≠ ⟨#[46]⟩ := by simpa using h25
            refine L_gyes rfl rfl ?_
            refine L_y (y_move rfl) rfl ?_
            refine L_gyes rfl rfl ?_
            refine L_y (y_sneq rfl rfl) rfl ?_
            refine L_y (y_pk rfl rfl) rfl ?_
            refine L_y (y_assign rfl) rfl ?_
            refine L_nil ?_
            refine hK2 _ _ ?_
            refine T_ret ?_
            refine ur ?_
            refine ret1 rfl rfl ?_
            exact ⟨_, rfl, S5.like0, congrArg Value.bool (by unfold nmOk; simp [q25, q21, q15, q11, q6])⟩
          ·
            have q25 : ¬ s ≠ ⟨#[46]⟩ := by simpa using h25
            refine L_gno rfl rfl rfl ?_
            refine L_gno rfl rfl rfl ?_
            refine L_y (y_pk rfl rfl) rfl ?_
            refine L_y (y_assign rfl) rfl ?_
            refine L_nil ?_
            refine hK2 _ _ ?_
            refine T_ret ?_
            refine ur ?_
            refine ret1 rfl rfl ?_
            exact ⟨_, rfl, S5.like0, congrArg Value.bool (by unfold nmOk; simp [q25, q21, q15, q11, q6])⟩
        ·
          have q21 : (47 : UInt8) ∈ s.data.toList := Decidable.not_not.1 fun e => by rw [if_neg (by omega), cn_zero.2 e] at h21; exact h21 rfl
          refine L_gno rfl rfl rfl ?_
          refine L_gno rfl rfl rfl ?_
          refine L_y (y_pk rfl rfl) rfl ?_
          refine L_y (y_move rfl) rfl ?_
          refine L_gno rfl rfl rfl ?_
          refine L_gno rfl rfl rfl ?_
          refine L_y (y_pk rfl rfl) rfl ?_
          refine L_y (y_assign rfl) rfl ?_
          refine L_nil ?_
          refine hK2 _ _ ?_
          refine T_ret ?_
          refine ur ?_
          refine ret1 rfl rfl ?_
          exact ⟨_, rfl, S5.like0, congrArg Value.bool (by unfold nmOk; simp [q21, q15, q11, q6])⟩
      ·
        have q15 : ¬ seenP s := by first | exact of_decide_eq_true h15 | exact of_decide_eq_false h15 | simpa using h15
        refine L_gno rfl rfl rfl ?_
        refine L_gno rfl rfl rfl ?_
        refine L_gno rfl rfl rfl ?_
        refine L_gno rfl rfl rfl ?_
        refine L_y (y_pk rfl rfl) rfl ?_
        refine L_y (y_move rfl) rfl ?_
        refine L_gno rfl rfl rfl ?_
        refine L_gno rfl rfl rfl ?_
        refine L_y (y_pk rfl rfl) rfl ?_
        refine L_y (y_move rfl) rfl ?_
        refine L_gno rfl rfl rfl ?_
        refine L_gno rfl rfl rfl ?_
        refine L_y (y_pk rfl rfl) rfl ?_
        refine L_y (y_assign rfl) rfl ?_
        refine L_nil ?_
        refine hK2 _ _ ?_
        refine T_ret ?_
        refine ur ?_
        refine ret1 rfl rfl ?_
        exact ⟨_, rfl, S3.like0, congrArg Value.bool (by unfold nmOk; simp [q15, q11, q6])⟩
    ·
      have q11 : ¬ s.size ≤ 32 := by omega
      refine L_gno rfl rfl rfl ?_
      refine L_gno rfl rfl rfl ?_
      refine L_y (y_pk rfl rfl) rfl ?_
      refine L_y (y_move rfl) rfl ?_
      refine L_gno rfl rfl rfl ?_
      refine L_gno rfl rfl rfl ?_
      refine L_gno rfl rfl rfl ?_
      refine L_gno rfl rfl rfl ?_
      refine L_y (y_pk rfl rfl) rfl ?_
      refine L_y (y_move rfl) rfl ?_
      refine L_gno rfl rfl rfl ?_
      refine L_gno rfl rfl rfl ?_
      refine L_y (y_pk rfl rfl) rfl ?_
      refine L_y (y_move rfl) rfl ?_
      refine L_gno rfl rfl rfl ?_
      refine L_gno rfl rfl rfl ?_
      refine L_y (y_pk rfl rfl) rfl ?_
      refine L_y (y_assign rfl) rfl ?_
      refine L_nil ?_
      refine hK2 _ _ ?_
      refine T_ret ?_
      refine ur ?_
      refine ret1 rfl rfl ?_
      exact ⟨_, rfl, S0.like0, congrArg Value.bool (by unfold nmOk; simp [q11, q6])⟩
  ·
    have q6 : ¬ 1 ≤ s.size := by omega
    refine L_gno rfl rfl rfl ?_
    refine L_gno rfl rfl rfl ?_
    refine L_gno rfl rfl rfl ?_
    refine L_y (y_pk rfl rfl) rfl ?_
    refine L_y (y_move rfl) rfl ?_
    refine L_gno rfl rfl rfl ?_
    refine L_gno rfl rfl rfl ?_
    refine L_y (y_pk rfl rfl) rfl ?_
    refine L_y (y_move rfl) rfl ?_
    refine L_gno rfl rfl rfl ?_
    refine L_gno rfl rfl rfl ?_
    refine L_gno rfl rfl rfl ?_
    refine L_gno rfl rfl rfl ?_
    refine L_y (y_pk rfl rfl) rfl ?_
    refine L_y (y_move rfl) rfl ?_
    refine L_gno rfl rfl rfl ?_
    refine L_gno rfl rfl rfl ?_
    refine L_y (y_pk rfl rfl) rfl ?_
    refine L_y (y_move rfl) rfl ?_
    refine L_gno rfl rfl rfl ?_
    refine L_gno rfl rfl rfl ?_
    refine L_y (y_pk rfl rfl) rfl ?_
    refine L_y (y_assign rfl) rfl ?_
    refine L_nil ?_
    refine hK2 _ _ ?_
    refine T_ret ?_
    refine ur ?_
    refine ret1 rfl rfl ?_
    exact ⟨_, rfl, S0.like0, congrArg Value.bool (by unfold nmOk; simp [q6])⟩
end Go.Proofs.Ytmgimcdkeelnpaa


/-
  Maps from strings to bools: sets of strings. General; nothing here names a program.
-/
namespace Go.Proofs.Ytmgimcdkeelnpaa.Zx
open Go.RowKit Zk Go.Maps
set_option linter.unusedVariables false
set_option linter.unusedSimpArgs false
section
variable {P : Program} {N : Nat} {Q : Post} {env : Env} {w w0 : World} {M : Nat → Prop} {rs : List Res} {K : Env → World → Prop} {d : Tmp} {dst : Option Tmp} {ty : TypeId} {pos : String} {after : Array Edge} {g : Option (Nat × Bool)}
def hasS (L : List ByteArray) (s : ByteArray) : Bool := L.any fun t => decide (t = s)
theorem hasS_iff {L : List ByteArray} {s : ByteArray} : hasS L s = true ↔ s ∈ L := by
  unfold hasS
  rw [List.any_eq_true]
  constructor
  · rintro ⟨t, h1, h2⟩
    rw [← of_decide_eq_true h2]
    exact h1
  · exact fun h => ⟨s, h, decide_eq_true rfl⟩
/-- The map holds just these. -/
def SM (D : DU) (L : List ByteArray) : Prop := IsMap D ∧ ∀ s : ByteArray, D.atKey (.string s.data.toList) (.lit (.bool false)) = .lit (.bool (hasS L s))
theorem SM.nil : SM (.map []) [] := ⟨⟨[], rfl⟩, fun s => rfl⟩
theorem bytes_inj {a b : ByteArray} (h : a.data.toList = b.data.toList) : a = b := by
  apply ByteArray.ext
  exact Array.toList_inj.1 h
theorem SM.put {D : DU} {L : List ByteArray} (h : SM D L) (s : ByteArray) : SM (D.put (.string s.data.toList) (.lit (.bool true))) (L ++ [s]) := by
  refine ⟨?_, fun t => ?_⟩
  · obtain ⟨es, rfl⟩ := h.1
    exact ⟨_, rfl⟩
  · by_cases e : t = s
    · subst e
      rw [atKey_put_same h.1 (show WideAt.IsKeyLit (.string _) from trivial), hasS_iff.2 (by simp)]
    · have e2 : hasS (L ++ [s]) t = hasS L t := by
        rw [Bool.eq_iff_iff, hasS_iff, hasS_iff]
        simp [e]
      rw [atKey_put_other (fun q => e (bytes_inj (by injection q))), h.2 t, e2]
theorem y_lookZ {t k e : TypeId} {b n : Nat} {D : DU} {L : List ByteArray} {m x : Operand} {s : ByteArray} (hown : w.ownsMap P k (plainElem P e) b n D) (hk : P.underlying k = some .string) (ht : P.underlying t = some (.map k e)) (he : P.underlying e = some .bool)
    (hz : ∀ w, (zeroValue e).run P w = .ok (.bool false) w) (hm : ev env m = some (.map (some b))) (hx : ev env x = some (.string s)) (hs : s.size ≤ maxLen) (hc : SM D L) :
    Y P (Like w) env ⟨dst, .lookup t m x false, ty, pos, after, g⟩ (.bool (hasS L s)) := fun N a w' ha hw => by
  have h2 : w'.ownsMap P k (plainElem P e) b n D := (mapR P k e b n D).stable w w' (fun i hi => by have hi' : i = b := hi; subst hi'; exact hw.block i hown.lt) hown
  obtain ⟨v, ps, hrun, hv⟩ := h2.lookup (Maps.string_keyed hk) ht (hz w') (plainElem_bool (H := Unit) he false) (Go.WideMaps.keyOf_string_mk hk hs)
  rw [hc.2 s] at hv
  have e1 : v = .bool (hasS L s) := by
    cases v with
    | bool c =>
      rw [plainElem_bool he] at hv
      have := Option.some.inj hv
      have h3 := congrArg Prod.fst this
      simp only [DataW.lit.injEq, Lit.bool.injEq] at h3
      rw [h3]
    | _ => simp [plainElem, he] at hv
  subst e1
  simp only [execOp, ha.eval hm, ha.eval hx, Sem.run_bind, hrun, Sem.run_pure, Result.andThen_ok]
theorem o_mapUpZ {t k e : TypeId} {b n : Nat} {D : DU} {m x v : Operand} {s : ByteArray} {c : Bool} (S : St w0 M rs w) (j : Nat) (hj : rs[j]? = some (mapR P k e b n D)) (hk : P.underlying k = some .string) (ht : P.underlying t = some (.map k e)) (he : P.underlying e = some .bool)
    (hm : ev env m = some (.map (some b))) (hx : ev env x = some (.string s)) (hv : ev env v = some (.bool c)) (hs : s.size ≤ maxLen) (hn : n < 9223372036854775807)
    (h : ∀ w', St w0 M (rs.set j (mapR P k e b (n + 1) (D.put (.string s.data.toList) (.lit (.bool c))))) w' → K env w') :
    O P N Q ⟨none, .mapUpdate t m x v, ty, pos, after, g⟩ env w K := fun a ha => by
  have hown : w.ownsMap P k (plainElem P e) b n D := S.get j hj
  obtain ⟨w', hrun, h1, h2⟩ := hown.update (Maps.string_keyed hk) ht (by unfold maxLen; exact hn) (Go.WideMaps.keyOf_string_mk hk hs) (plainElem_bool (H := Unit) he c)
  unfold Oper.wp
  simp only [execOp, ha.eval hm, ha.eval hx, ha.eval hv, Sem.run_bind, hrun, Sem.run_pure, Result.andThen_ok]
  refine ⟨env, ha, h w' (S.upd j hj h2.os h2.tape h2.output h2.size (fun i hi hn => h2.block i hi fun e => hn ?_) h1 fun i hi => .inl hi)⟩
  injection e with e
end
end Go.Proofs.Ytmgimcdkeelnpaa.Zx
