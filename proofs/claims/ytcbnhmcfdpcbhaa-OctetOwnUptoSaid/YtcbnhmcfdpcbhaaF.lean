/-
  The law OctetLays.
-/
import Derived.Test.YtcbnhmcfdpcbhaaE
import Derived.Test.YtcbnhmcfdpcbhaaZi
namespace Go.Proofs.Ytcbnhmcfdpcbhaa
open Go.RowKit Zk Zx
set_option linter.unusedVariables false
set_option linter.unusedSimpArgs false

structure PutR where
  d : Int
  x : Nat
  s : ByteArray
def pf (p : PutR) : List Value := [.int .i64 p.d, .int .u64 (p.x : Int), .string p.s]
theorem pf_len (p : PutR) : (pf p).length = 3 := rfl
def lp (p : PutR) : List UInt8 := laidL p.d p.x p.s
/-- What all of them lay. -/
def allL (l : List PutR) : List UInt8 := l.flatMap lp
theorem allL_take (l : List PutR) (k : Nat) (p : PutR) (h : l[k]? = some p) : allL (l.take (k + 1)) = allL (l.take k) ++ lp p := by
  unfold allL
  rw [List.take_add_one, h, List.flatMap_append]
  simp


set_option maxRecDepth 100000 in
theorem lays (L : Option Addr) (n c0 : Nat) (l : List PutR) (w0 : World) (hln : l.length = n) (hA : (allL l).length ≤ 70368744160000) (hB2 : ∀ k, (allL (l.take k)).length ≤ 70368744160000) (hl : Rs w0 3 L n c0 (l.flatMap pf)) (hx : ∀ (k : Nat) (p : PutR), l[k]? = some p → p.x ≤ 18446744073709551615) (hB : ∀ (k : Nat) (p : PutR), l[k]? = some p → (allL (l.take k)).length + p.s.size ≤ 70368744160000) :
    Calls Try.prog 3 #[.slice L n c0] w0 fun e w' => ∃ u, e = .returned u ∧ Like w0 w' ∧ u = .bool true := by
  refine enter1 (env := [(0, .slice L n c0)]) [.slice L n c0] Try.func3 rfl Try.ntmps3 rfl rfl ?_
  have hnc := hl.cap; have hnm := hl.max; have S0 := St.start w0 noM
  refine T_seq fun K1 hK1 => ?_
  refine T_region ?_
  refine L_y (y_assign rfl) rfl ?_
  refine L_nil ?_
  refine hK1 _ _ ?_
  refine T_seq fun K2 hK2 => ?_
  refine T_region ?_
  refine L_o (o_call Try.func8 rfl rfl (wnew w0) rfl rfl ?_)
  rintro e1 w1 ⟨v1, rfl, l1, b1, rfl, hb1, hh1⟩
  refine ⟨_, rfl, ?_⟩
  have S1 := S0.new l1 _ hh1 (wt_fresh hb1 hh1)
  refine L_y (y_assign rfl) rfl ?_
  refine L_nil ?_
  refine hK2 _ _ ?_
  refine T_seq fun K3 hK3 => ?_
  refine T_region ?_
  have S2 := S1.nilrow 5 1
  refine L_y (y_assign rfl) rfl ?_
  refine L_nil ?_
  refine hK3 _ _ ?_
  refine T_seq fun K4 hK4 => ?_
  refine T_seq fun K5 hK5 => ?_
  refine T_region ?_
  refine L_y (y_assign rfl) rfl ?_
  refine L_nil ?_
  refine hK5 _ _ ?_
  refine T_block ?_
  refine T_loop4 [(0, _), (3, _)] (fun (k : Nat) (A : Option Addr) (m : Nat) (c : Nat) => [(4, .slice A m c), (5, .int .i64 (k : Int))]) (fun (k : Nat) (A : Option Addr) (m : Nat) (c : Nat) => n - k) (fun (k : Nat) (A : Option Addr) (m : Nat) (c : Nat) (w : World) => k ≤ n ∧ ∃ B n2 c2, St w0 noM [wt b1 B n2 c2 (allL (l.take k)), row 5 1 A m c (bL (allL (l.take k)))] w) 0 none 0 0 (Sub.cons rfl (by first | rfl | exact congrArg (Value.int _) (by omega)) (Sub.cons rfl (by first | rfl | exact congrArg (Value.int _) (by omega)) (Sub.nil _))) (Sub.cons rfl rfl (Sub.cons rfl rfl (Sub.nil _))) ?_ ?_
  ·
    exact ⟨Nat.zero_le _, none, 0, 0, S2⟩
  ·
    intro k A m c w3 hrel
    obtain ⟨hk, B, n2, c2, S3⟩ := hrel
    refine T_seq fun K6 hK6 => ?_
    refine T_seq fun K7 hK7 => ?_
    refine T_region ?_
    refine L_y (y_move rfl) rfl ?_
    refine L_y (y_move rfl) rfl ?_
    refine L_y (y_len Try.underlying22 rfl) rfl ?_
    refine L_y (y_lss rfl rfl) rfl ?_
    refine L_nil ?_
    refine hK7 _ _ ?_
    refine T_cond rfl (fun h10 => ?_) (fun h10 => ?_)
    ·
      obtain ⟨p, hp⟩ : ∃ p, l[k]? = some p := ⟨_, List.getElem?_eq_getElem (by omega)⟩
      refine T_skip ?_
      refine hK6 _ _ ?_
      refine T_seq fun K8 hK8 => ?_
      refine T_block ?_
      refine T_seq fun K9 hK9 => ?_
      refine T_region ?_
      refine L_y (y_move rfl) rfl ?_
      refine L_y (y_move rfl) rfl ?_
      refine L_y (y_move rfl) rfl ?_
      refine L_y (y_idx Try.underlying22 sz29 rfl rfl (S3.rd hl) inferInstance (by omega)) rfl ?_
      refine L_y (y_ldp (f := pf) (y := p) pf_len Try.underlying29 rfl sz29 rfl (S3.rd hl) (by omega) hp) rfl ?_
      refine L_o (o_call Try.func9 rfl rfl (lay b1 _ _ _ _ p.d p.x p.s w3 (S3.get 0 rfl) (hx _ _ hp) (by have := hB _ _ hp; omega)) rfl rfl ?_)
      rintro e4 w4 ⟨v4, rfl, ⟨A4, n4, c4, T4⟩⟩
      refine ⟨_, rfl, ?_⟩
      have S4 := S3.turn 0 rfl T4
      refine L_nil ?_
      refine hK9 _ _ ?_
      refine T_seq fun K10 hK10 => ?_
      refine T_region ?_
      refine L_y (y_move rfl) rfl ?_
      refine L_y (y_move rfl) rfl ?_
      refine L_y (y_move rfl) rfl ?_
      refine L_y (y_idx Try.underlying22 sz29 rfl rfl (S4.rd hl) inferInstance (by omega)) rfl ?_
      refine L_y (y_ldp (f := pf) (y := p) pf_len Try.underlying29 rfl sz29 rfl (S4.rd hl) (by omega) hp) rfl ?_
      refine L_o (o_call Try.func10 rfl rfl (laid p.d p.x p.s w4 (hx _ _ hp) (by have := hB _ _ hp; omega)) rfl rfl ?_)
      rintro e5 w5 ⟨v5, rfl, l5, A5, m5, c5, rfl, R5⟩
      refine ⟨_, rfl, ?_⟩
      have S5 := S4.like l5
      have hLk := allL_take l k p hp
      have hRl := R5.lenb
      have hml := (S5.row 1 rfl).lenb
      have hT := hB2 k
      have hT1 := hB2 (k + 1)
      rw [hLk, List.length_append] at hT1
      unfold lp at hT1
      refine L_o (o_app te25 S5 1 rfl rfl rfl (R5) (bL_one _) rfl (by omega) (by omega) fun A6 c6 w6 S6 => ?_)
      refine L_y (y_assign rfl) rfl ?_
      refine L_nil ?_
      refine hK10 _ _ ?_
      refine T_seq fun K11 hK11 => ?_
      refine T_region ?_
      refine L_y (y_move rfl) rfl ?_
      refine L_o (o_call Try.func11 rfl rfl (wlen _ _ _ _ _ w6 (S6.get 0 rfl)) rfl rfl ?_)
      rintro e7 w7 ⟨v7, rfl, l7, rfl⟩
      refine ⟨_, rfl, ?_⟩
      have S7 := S6.like l7
      refine L_y (y_move rfl) rfl ?_
      refine L_y (y_len Try.underlying25 rfl) rfl ?_
      refine L_y (y_neq rfl rfl) rfl ?_
      refine L_nil ?_
      refine hK11 _ _ ?_
      refine T_cond rfl (fun h30 => ?_) (fun h30 => ?_)
      ·
        refine T_seq fun K12 hK12 => ?_
        refine T_region ?_
        refine L_y (y_assign rfl) rfl ?_
        refine L_nil ?_
        refine hK12 _ _ ?_
        refine T_ret ?_
        repeat (first | with_reducible refine up_then ?_ | with_reducible refine up_in ?_)
        refine ret1 rfl rfl ?_
        first | exact absurd rfl h35 | (exfalso; have a1 := wt_len T4.holds; rw [List.length_append] at a1; omega) | exact ⟨_, rfl, S7.like0, rfl⟩
      ·
        refine T_skip ?_
        refine hK8 _ _ ?_
        refine T_region ?_
        refine L_y (y_move rfl) rfl ?_
        refine L_y (y_add rfl rfl (i64w (by omega))) rfl ?_
        refine L_y (y_assign rfl) rfl ?_
        refine L_nil ?_
        refine ⟨k + 1, A6, m + m5, c6, by omega, ⟨by omega, A4, n4, c4, by rw [hLk, bL_app]; exact S7⟩, ?_⟩
        exact (Sub.cons rfl (by first | rfl | exact congrArg (Value.int _) (by omega)) (Sub.cons rfl (by first | rfl | exact congrArg (Value.int _) (by omega)) (Sub.cons rfl rfl (Sub.cons rfl rfl (Sub.nil _)))))
    ·
      have hkn : k = n := by omega
      subst hkn
      rw [List.take_of_length_le (by omega)] at S3
      refine T_exit ?_
      refine hK4 _ _ ?_
      refine T_seq fun K13 hK13 => ?_
      refine T_region ?_
      refine L_y (y_move rfl) rfl ?_
      refine L_o (o_call Try.func13 rfl rfl (wbytes _ _ _ _ _ w3 (S3.get 0 rfl) (by omega)) rfl rfl ?_)
      rintro e8 w8 ⟨v8, rfl, l8, A8, m8, c8, rfl, O8⟩
      refine ⟨_, rfl, ?_⟩
      have S8 := S3.adopt l8 O8
      refine L_y (y_move rfl) rfl ?_
      refine L_o (o_call Try.func12 rfl rfl (same _ _ _ _ _ _ _ _ w8 (S8.row 2 rfl) (S8.row 1 rfl)) rfl rfl ?_)
      rintro e9 w9 ⟨v9, rfl, l9, rfl⟩
      refine ⟨_, rfl, ?_⟩
      have S9 := S8.like l9
      refine L_y (y_move rfl) rfl ?_
      refine L_split 35 rfl (fun h35 => ?_) (fun h35 => ?_)
      ·
        refine L_gyes rfl rfl ?_
        refine L_o (o_call Try.func14 rfl rfl (works w9) rfl rfl ?_)
        rintro e11 w11 ⟨v11, rfl, l11, rfl⟩
        refine ⟨_, rfl, ?_⟩
        have S11 := S9.like l11
        refine L_y ((by first | exact y_pickT rfl rfl | exact y_pickF rfl rfl)) rfl ?_
        refine L_y (y_assign rfl) rfl ?_
        refine L_nil ?_
        refine hK13 _ _ ?_
        refine T_ret ?_
        repeat (first | with_reducible refine up_then ?_ | with_reducible refine up_in ?_)
        refine ret1 rfl rfl ?_
        first | exact absurd rfl h35 | (exfalso; have a1 := wt_len T4.holds; rw [List.length_append] at a1; omega) | exact ⟨_, rfl, S11.like0, rfl⟩
      ·
        refine L_gno rfl rfl rfl ?_
        refine L_y ((by first | exact y_pickT rfl rfl | exact y_pickF rfl rfl)) rfl ?_
        refine L_y (y_assign rfl) rfl ?_
        refine L_nil ?_
        refine hK13 _ _ ?_
        refine T_ret ?_
        repeat (first | with_reducible refine up_then ?_ | with_reducible refine up_in ?_)
        refine ret1 rfl rfl ?_
        first | exact absurd rfl h35 | (exfalso; have a1 := wt_len T4.holds; rw [List.length_append] at a1; omega) | exact ⟨_, rfl, S9.like0, rfl⟩
end Go.Proofs.Ytcbnhmcfdpcbhaa
