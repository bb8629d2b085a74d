/-
  Entries; swapRange.
-/
import Derived.Test.YtmgimcdkeelnpaaFa
import Derived.Test.YtmgimcdkeelnpaaZb
import Derived.Test.YtmgimcdkeelnpaaZn
import Derived.Test.YtmgimcdkeelnpaaZa
import Derived.Test.YtmgimcdkeelnpaaZs
import Derived.Test.YtmgimcdkeelnpaaZi
import Derived.Test.YtmgimcdkeelnpaaZ1
namespace Go.Proofs.Ytmgimcdkeelnpaa
open Go.RowKit Zk Zx
set_option linter.unusedVariables false
set_option linter.unusedSimpArgs false

/-- An entry. -/
structure EV where
  nm : ByteArray
  md : Int
  id : List UInt8
  h : id.length = 32 ∧ nm.size ≤ 1000000000
deriving DecidableEq
def enf (e : EV) : List Value := Value.string e.nm :: Value.int .i64 e.md :: bL e.id
theorem enf_len (e : EV) : (enf e).length = 34 := by simp [enf, e.h.1]
theorem take_enf (e : EV) : List.take 34 (List.drop 0 (enf e).toArray.toList) = enf e := by
  rw [List.drop_zero]
  exact List.take_of_length_le (by rw [List.toList_toArray, enf_len]; exact Nat.le_refl _)
theorem enf_one (e : EV) : ∀ u ∈ enf e, u.oneCell' = true := fun u hu => by
  unfold enf at hu
  rcases List.mem_cons.1 hu with rfl | hu
  · rfl
  · rcases List.mem_cons.1 hu with rfl | hu
    · rfl
    · exact bL_one _ u hu
theorem ens_one (l : List EV) : ∀ u ∈ l.flatMap enf, u.oneCell' = true := fun u hu => by
  obtain ⟨o, _, ho⟩ := List.mem_flatMap.1 hu
  exact enf_one o u ho
theorem ens_len (l : List EV) : (l.flatMap enf).length = l.length * 34 := flat_len enf 34 enf_len l
theorem ens_n {w : World} {A : Option Addr} {n c : Nat} {l : List EV} (h : Rs w 34 A n c (l.flatMap enf)) : n = l.length := by
  have := h.len
  rw [ens_len] at this
  omega
/-- An own row of entries. -/
def enR (A : Option Addr) (c : Nat) (l : List EV) : Res := Zx.row 39 34 A l.length c (l.flatMap enf)
theorem enR_lt {w : World} {A : Option Addr} {c : Nat} {l : List EV} (h : (enR A c l).holds w) : ∀ i, (enR A c l).dom i → i < w.heap.size := fun i hi => (World.ownsRow.lt h i hi).2
theorem enR_of {A : Option Addr} {n c : Nat} {l m : List EV} {xs : List Value} (hn : n = m.length) (hx : xs = m.flatMap enf) : Zx.row 39 34 A n c xs = enR A c m := by
  subst hn hx
  rfl
theorem turn_en {w w' : World} {r : Res} {A : Option Addr} {n c : Nat} {m : List EV} {xs : List Value} (h : Turned w w' r (Zx.row 39 34 A n c xs)) (hn : n = m.length) (hx : xs = m.flatMap enf) : Turned w w' r (enR A c m) := by
  subst hn hx
  exact h
theorem ens_set {l : List EV} {k : Nat} {e : EV} (h : k < l.length) : (l.flatMap enf).take (k * 34) ++ (enf e).toArray.toList ++ (l.flatMap enf).drop ((k + 1) * 34) = (l.set k e).flatMap enf := flat_set enf enf_len l k e h
/-- A comparison that may be handed to a sort. -/
structure CMP (F : Nat) (lt : EV → EV → Bool) : Prop where
  ord : Ord3 lt
  fn : ∃ fn, Try.prog.funcs[F]? = some fn ∧ (fn.name == "runtime.NumGoroutine") = false ∧ fn.body.isNone = false
  call : ∀ x y w, Calls Try.prog F #[.agg (enf x).toArray, .agg (enf y).toArray] w fun e w' => ∃ u, e = .returned u ∧ Like w w' ∧ ∃ v : Int, u = .int .i64 v ∧ (v < 0 ↔ lt x y = true)
theorem exch {α : Type} {p q r : List α} {x y : α} {l : List α} {i j : Nat} (h : l = p ++ x :: (q ++ y :: r)) (hi : i = p.length) (hj : j = p.length + 1 + q.length) : l[i]? = some x ∧ l[j]? = some y ∧ (l.set i y).set j x = p ++ y :: (q ++ x :: r) := by
  subst h
  refine ⟨?_, ?_, swp_mid hi hj⟩
  · rw [hi]; exact get_mid.1
  · rw [hj]; exact get_mid.2
theorem exch2 {α : Type} {p q r : List α} {x y : α} {l : List α} {i j : Nat} (h : l = p ++ x :: (q ++ y :: r)) (hi : i = p.length) (hj : j = p.length + 1 + q.length) : l[i]? = some x ∧ l[j]? = some y ∧ (l.set j x).set i y = p ++ y :: (q ++ x :: r) := by
  obtain ⟨h1, h2, h3⟩ := exch h hi hj
  exact ⟨h1, h2, by rw [List.set_comm _ _ (by omega)]; exact h3⟩


theorem sw_st {α : Type} {pre X mid Y post : List α} {k : Nat} {x y : α} (hx : X[k]? = some x) (hy : Y[k]? = some y) :
    pre ++ (Y.take k ++ X.drop k) ++ mid ++ (X.take k ++ Y.drop k) ++ post = (pre ++ Y.take k) ++ x :: ((X.drop (k + 1) ++ mid ++ X.take k) ++ y :: (Y.drop (k + 1) ++ post)) := by
  obtain ⟨h1, rfl⟩ := List.getElem?_eq_some_iff.1 hx
  obtain ⟨h2, rfl⟩ := List.getElem?_eq_some_iff.1 hy
  have e1 := List.drop_eq_getElem_cons h1
  have e2 := List.drop_eq_getElem_cons h2
  rw [e1, e2]
  simp only [List.append_assoc, List.cons_append]
theorem sw_en {α : Type} {pre X mid Y post : List α} {k : Nat} {x y : α} (hx : X[k]? = some x) (hy : Y[k]? = some y) :
    (pre ++ Y.take k) ++ y :: ((X.drop (k + 1) ++ mid ++ X.take k) ++ x :: (Y.drop (k + 1) ++ post)) = pre ++ (Y.take (k + 1) ++ X.drop (k + 1)) ++ mid ++ (X.take (k + 1) ++ Y.drop (k + 1)) ++ post := by
  rw [List.take_add_one, List.take_add_one, hx, hy]
  simp


set_option maxRecDepth 100000 in
theorem swapr (A : Option Addr) (n c : Nat) (a b j : Int) (pre X mid Y post : List EV) (fv : Value) (w0 : World) (hw : (enR A c (pre ++ X ++ mid ++ Y ++ post)).holds w0) (hXY : Y.length = X.length) (hn : n = (pre ++ X ++ mid ++ Y ++ post).length) (ha : a = (pre.length : Int)) (hb : b = ((pre.length + X.length + mid.length : Nat) : Int)) (hj : j = (X.length : Int)) (hn5 : n ≤ 10000) :
    Calls Try.prog 60 #[.slice A n c, .int .i64 a, .int .i64 b, .int .i64 j, fv] w0 fun e w' => ∃ u, e = .returned u ∧ Turned w0 w' (enR A c (pre ++ X ++ mid ++ Y ++ post)) (enR A c (pre ++ Y ++ mid ++ X ++ post)) := by
  refine enter1 (env := [(0, .slice A n c), (1, .int .i64 a), (2, .int .i64 b), (3, .int .i64 j), (4, fv)]) [.slice A n c, .int .i64 a, .int .i64 b, .int .i64 j, fv] Try.func60 rfl Try.ntmps60 rfl rfl ?_
  have hn0 := hn; simp only [List.length_append] at hn; subst ha hb hj; have S0 := St.borrow1 (enR A c (pre ++ X ++ mid ++ Y ++ post)) hw (enR_lt hw)
  refine T_seq fun K1 hK1 => ?_
  refine T_region ?_
  refine L_y (y_assign rfl) rfl ?_
  refine L_nil ?_
  refine hK1 _ _ ?_
  refine T_block ?_
  refine T_loop1 [(0, _), (1, _), (2, _), (3, _)] (fun (k : Nat) => [(10, .int .i64 (k : Int))]) (fun (k : Nat) => X.length - k) (fun (k : Nat) (w : World) => k ≤ X.length ∧ St w0 (enR A c (pre ++ X ++ mid ++ Y ++ post)).dom [enR A c (pre ++ (Y.take k ++ X.drop k) ++ mid ++ (X.take k ++ Y.drop k) ++ post)] w) 0 (Sub.cons rfl (by first | rfl | exact congrArg (Value.int _) (by omega)) (Sub.nil _)) (Sub.cons rfl rfl (Sub.cons rfl rfl (Sub.cons rfl rfl (Sub.cons rfl rfl (Sub.nil _))))) ?_ ?_
  ·
    exact ⟨Nat.zero_le _, by simpa using S0⟩
  ·
    intro k w1 hrel
    obtain ⟨hk, S1⟩ := hrel
    have hln : (pre ++ (Y.take k ++ X.drop k) ++ mid ++ (X.take k ++ Y.drop k) ++ post).length = n := by simp; omega
    rw [show enR A c (pre ++ (Y.take k ++ X.drop k) ++ mid ++ (X.take k ++ Y.drop k) ++ post) = Zx.row 39 34 A n c ((pre ++ (Y.take k ++ X.drop k) ++ mid ++ (X.take k ++ Y.drop k) ++ post).flatMap enf) from by rw [← hln]; rfl] at S1
    refine T_seq fun K2 hK2 => ?_
    refine T_seq fun K3 hK3 => ?_
    refine T_region ?_
    refine L_y (y_move rfl) rfl ?_
    refine L_y (y_move rfl) rfl ?_
    refine L_y (y_lss rfl rfl) rfl ?_
    refine L_nil ?_
    refine hK3 _ _ ?_
    refine T_cond rfl (fun h13 => ?_) (fun h13 => ?_)
    ·
      obtain ⟨x, hx⟩ : ∃ x, X[k]? = some x := ⟨_, List.getElem?_eq_getElem (by omega)⟩
      obtain ⟨y, hy⟩ : ∃ y, Y[k]? = some y := ⟨_, List.getElem?_eq_getElem (by omega)⟩
      obtain ⟨gx, gy, hset⟩ := exch (i := pre.length + k) (j := pre.length + X.length + mid.length + k) (sw_st (pre := pre) (mid := mid) (post := post) hx hy) (by simp; omega) (by simp; omega)
      refine T_skip ?_
      refine hK2 _ _ ?_
      refine T_seq fun K4 hK4 => ?_
      refine T_block ?_
      refine T_zed [0, 1, 2, 3, 8, 9, 10, 11, 12, 13, 14, 15, 16, 17, 18, 19, 20] 21 [(4, 0), (5, 0), (6, 0), (7, 0), (0, 1), (1, 1), (2, 1), (3, 1), (8, 1), (9, 1), (10, 1), (11, 1), (12, 1), (13, 1), (14, 1), (15, 1), (16, 1), (17, 1), (18, 1), (19, 1), (20, 1), (21, 3), (22, 3), (23, 3)] hmix (by kernel_rfl) fun w2 l2 => ?_
      have S2 := S1.like l2
      refine ZA_y rfl (y_move rfl) rfl ?_
      refine ZA_y rfl (y_move rfl) rfl ?_
      refine ZA_y rfl (y_move rfl) rfl ?_
      refine ZA_y rfl (y_add rfl rfl (i64w (by omega))) rfl ?_
      refine ZA_B (Like w2) (Like.refl _) ?_
      refine ZB_y rfl (y_move rfl) rfl ?_
      refine ZB_y rfl (y_move rfl) rfl ?_
      refine ZB_y rfl (y_move rfl) rfl ?_
      refine ZB_y rfl (y_add rfl rfl (i64w (by omega))) rfl ?_
      refine ZB_y rfl (y_move rfl) rfl ?_
      refine ZB_y rfl (y_move rfl) rfl ?_
      refine ZB_y rfl (y_move rfl) rfl ?_
      refine ZB_y rfl (y_add rfl rfl (i64w (by omega))) rfl ?_
      refine ZB_y rfl (y_idx Try.underlying22 sz39 rfl rfl (S2.row 0 rfl) (Nt.mk (by omega) : Nt _ (pre.length + X.length + mid.length + k)) (by omega)) rfl ?_
      refine ZB_y rfl (y_ldp (f := enf) enf_len Try.underlying39 rfl sz39 rfl (S2.row 0 rfl) (by omega) gy) rfl ?_
      refine ZB_y rfl (y_move rfl) rfl ?_
      refine ZB_y rfl (y_move rfl) rfl ?_
      refine ZB_y rfl (y_move rfl) rfl ?_
      refine ZB_y rfl (y_add rfl rfl (i64w (by omega))) rfl ?_
      refine ZB_y rfl (y_idx Try.underlying22 sz39 rfl rfl (S2.row 0 rfl) (Nt.mk (by omega) : Nt _ (pre.length + k)) (by omega)) rfl ?_
      refine ZB_y rfl (y_ldp (f := enf) enf_len Try.underlying39 rfl sz39 rfl (S2.row 0 rfl) (by omega) gx) rfl ?_
      refine ZB_y rfl (y_idx Try.underlying22 sz39 rfl rfl (S2.row 0 rfl) (Nt.mk (by omega) : Nt _ (pre.length + k)) (by omega)) rfl ?_
      refine ZB_c rfl (o_strowE S2 0 rfl rfl rfl (enf_one y) (enf_len y) sz39 (by omega) fun w3 S3 => ?_)
      refine ZA_oy rfl (y_idx Try.underlying22 sz39 rfl rfl (S3.row 0 rfl) (Nt.mk (by omega) : Nt _ (pre.length + X.length + mid.length + k)) (by omega)) rfl ?_
      refine ZA_o rfl (o_strowE S3 0 rfl rfl rfl (enf_one x) (enf_len x) sz39 (by omega) fun w4 S4 => ?_)
      refine ZA_nil ?_
      refine hK4 _ _ ?_
      refine T_region ?_
      refine L_y (y_move rfl) rfl ?_
      refine L_y (y_add rfl rfl (i64w (by omega))) rfl ?_
      refine L_y (y_assign rfl) rfl ?_
      refine L_nil ?_
      have S9 := S4.rowc 0 rfl (n' := (pre ++ (Y.take (k + 1) ++ X.drop (k + 1)) ++ mid ++ (X.take (k + 1) ++ Y.drop (k + 1)) ++ post).length) (xs' := (pre ++ (Y.take (k + 1) ++ X.drop (k + 1)) ++ mid ++ (X.take (k + 1) ++ Y.drop (k + 1)) ++ post).flatMap enf) (by rw [← hln]; simp; omega) (by rw [ens_set (by omega), ens_set (by rw [List.length_set]; omega), hset, sw_en hx hy])
      refine ⟨k + 1, by omega, ⟨by omega, S9⟩, ?_⟩
      exact (Sub.cons rfl (by first | rfl | exact congrArg (Value.int _) (by omega)) (Sub.cons rfl rfl (Sub.cons rfl rfl (Sub.cons rfl rfl (Sub.cons rfl rfl (Sub.nil _))))))
    ·
      have hkx : k = X.length := by omega
      subst hkx
      refine T_exit ?_
      first | refine end0 (fn := Try.f60) rfl ?_ | (simp only [thenQ, inB, if_true]; refine end0 (fn := Try.f60) rfl ?_)
      exact ⟨_, rfl, turn_en (S1.turned1 0 rfl) (by rw [← hln]; simp [hXY]) (by rw [List.take_of_length_le (by omega), List.drop_of_length_le (Nat.le_refl _), List.take_of_length_le (Nat.le_refl _), List.drop_of_length_le (by omega)]; simp)⟩
end Go.Proofs.Ytmgimcdkeelnpaa
