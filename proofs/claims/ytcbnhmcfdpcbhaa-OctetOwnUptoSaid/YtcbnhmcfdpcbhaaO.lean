/-
  The law OctetTakes.
-/
import Derived.Test.YtcbnhmcfdpcbhaaN
import Derived.Test.YtcbnhmcfdpcbhaaZu
namespace Go.Proofs.Ytcbnhmcfdpcbhaa
open Go.RowKit Zk Zx
set_option linter.unusedVariables false
set_option linter.unusedSimpArgs false

structure TakeR where
  d : Int
  x : Nat
  m : Int
def tf (p : TakeR) : List Value := [.int .i64 p.d, .int .u64 (p.x : Int), .int .i64 p.m]
theorem tf_len (p : TakeR) : (tf p).length = 3 := rfl


set_option maxRecDepth 100000 in
theorem takes (B : Option Addr) (nb cb : Nat) (bl : List UInt8) (L : Option Addr) (n c0 : Nat) (l : List TakeR) (w0 : World) (hb : Rs w0 1 B nb cb (bL bl)) (hnb : nb ≤ 1048576) (hln : l.length = n) (hl : Rs w0 3 L n c0 (l.flatMap tf)) (hm : ∀ (k : Nat) (p : TakeR), l[k]? = some p → p.m ≤ 9223372036854775807) :
    Calls Try.prog 5 #[.slice B nb cb, .slice L n c0] w0 fun e w' => ∃ u, e = .returned u ∧ Like w0 w' ∧ u = .bool true := by
  refine enter1 (env := [(0, .slice B nb cb), (1, .slice L n c0)]) [.slice B nb cb, .slice L n c0] Try.func5 rfl Try.ntmps5 rfl rfl ?_
  have hbl := hb.lenb; have hnc := hl.cap; have hnm := hl.max; have hbc := hb.cap; have S0 := St.start w0 noM
  refine T_seq fun K1 hK1 => ?_
  refine T_region ?_
  refine L_y (y_assign rfl) rfl ?_
  refine L_nil ?_
  refine hK1 _ _ ?_
  refine T_seq fun K2 hK2 => ?_
  refine T_region ?_
  refine L_o (o_bsl0 te25 S0 rfl fun b1 w1 l1 S1 => ?_)
  refine L_y (y_move rfl) rfl ?_
  refine L_o (o_app te25 S1 0 rfl rfl rfl (S1.rd hb) (bL_one _) rfl (by omega) (by omega) fun A2 c2 w2 S2 => ?_)
  refine L_y (y_assign rfl) rfl ?_
  refine L_nil ?_
  refine hK2 _ _ ?_
  refine T_seq fun K3 hK3 => ?_
  refine T_region ?_
  refine L_y (y_move rfl) rfl ?_
  have hsz := S2.size
  refine L_o (o_call Try.func15 rfl rfl (rnew _ _ _ bl w2 (S2.row 0 rfl) (by omega)) rfl rfl ?_)
  rintro e3 w3 ⟨v3, rfl, l3, g1, A1, c1, rfl, hh3, dd1⟩
  refine ⟨_, rfl, ?_⟩
  have S3 := S2.new l3 _ hh3 dd1
  refine L_y (y_assign rfl) rfl ?_
  refine L_nil ?_
  refine hK3 _ _ ?_
  refine T_seq fun K4 hK4 => ?_
  refine T_region ?_
  refine L_y (y_move rfl) rfl ?_
  refine L_y (y_build rfl (show _ = some #[Value.slice B nb cb, Value.int .i64 0, Value.int .i64 0] by kernel_rfl)) rfl ?_
  refine L_o (o_box rfl S3 rfl fun b4 w4 hb4 S4 => ?_)
  have hap := St.apart_ S4 1 2 rfl rfl rfl
  have S5 := St.join2 (rs := [_]) (r := rdr g1 A1 (0 + nb) c1 bl 0 0) (s := xr b4 B nb cb 0 0) S4
  have hbg : ∀ ad, 0 < nb → B = some ad → ad.block ≠ b4 := fun ad h1 h2 h3 => by have := old_block hb h1 h2; omega
  have hbr : ∀ ad, 0 < nb → B = some ad → ¬ (rdr g1 A1 (0 + nb) c1 bl 0 0).dom ad.block := fun ad h1 h2 h3 => by have := old_block hb h1 h2; have := (dd1 _ h3).1; omega
  refine L_y (y_assign rfl) rfl ?_
  refine L_nil ?_
  refine hK4 _ _ ?_
  refine T_seq fun K5 hK5 => ?_
  refine T_seq fun K6 hK6 => ?_
  refine T_region ?_
  refine L_y (y_assign rfl) rfl ?_
  refine L_nil ?_
  refine hK6 _ _ ?_
  refine T_block ?_
  refine T_loop3 [(0, _), (1, _), (5, _), (6, _), (7, _)] (fun (k : Nat) (p0 : Nat) (q0 : Nat) => [(8, .int .i64 (k : Int))]) (fun (k : Nat) (p0 : Nat) (q0 : Nat) => n - k) (fun (k : Nat) (p0 : Nat) (q0 : Nat) (w : World) => k ≤ n ∧ p0 ≤ bl.length ∧ St w0 noM [row 5 1 A2 (0 + nb) c2 ([] ++ bL bl), both (rdr g1 A1 (0 + nb) c1 bl p0 q0) (xr b4 B nb cb p0 q0)] w) 0 0 0 (Sub.cons rfl (by first | rfl | exact congrArg (Value.int _) (by omega)) (Sub.nil _)) (Sub.cons rfl rfl (Sub.cons rfl rfl (Sub.cons rfl rfl (Sub.cons rfl rfl (Sub.cons rfl rfl (Sub.nil _)))))) ?_ ?_
  ·
    exact ⟨Nat.zero_le _, Nat.zero_le _, S5⟩
  ·
    intro k p0 q0 w6 hrel
    obtain ⟨hk, hp0, S6⟩ := hrel
    refine T_seq fun K7 hK7 => ?_
    refine T_seq fun K8 hK8 => ?_
    refine T_region ?_
    refine L_y (y_move rfl) rfl ?_
    refine L_y (y_move rfl) rfl ?_
    refine L_y (y_len Try.underlying45 rfl) rfl ?_
    refine L_y (y_lss rfl rfl) rfl ?_
    refine L_nil ?_
    refine hK8 _ _ ?_
    refine T_cond rfl (fun h20 => ?_) (fun h20 => ?_)
    ·
      obtain ⟨p, hp⟩ : ∃ p, l[k]? = some p := ⟨_, List.getElem?_eq_getElem (by omega)⟩
      refine T_skip ?_
      refine hK7 _ _ ?_
      refine T_seq fun K9 hK9 => ?_
      refine T_block ?_
      refine T_seq fun K10 hK10 => ?_
      refine T_region ?_
      refine L_y (y_move rfl) rfl ?_
      refine L_y (y_move rfl) rfl ?_
      refine L_y (y_move rfl) rfl ?_
      refine L_y (y_move rfl) rfl ?_
      refine L_y (y_idx Try.underlying45 sz51 rfl rfl (S6.rd hl) inferInstance (by omega)) rfl ?_
      refine L_y (y_ldp (f := tf) (y := p) tf_len Try.underlying51 rfl sz51 rfl (S6.rd hl) (by omega) hp) rfl ?_
      refine L_o (o_call Try.func23 rfl rfl (took g1 A1 (0 + nb) c1 _ B nb cb bl p0 q0 p.d p.x p.m w6 (S6.get 1 rfl).1 (S6.get 1 rfl).2 hap (S6.rd hb) hp0 (by omega) (hm _ _ hp) hbg hbr) rfl rfl ?_)
      rintro e7 w7 ⟨v7, rfl, rfl, p9, q9, hp9, T7⟩
      refine ⟨_, rfl, ?_⟩
      have S7 := S6.turn 1 rfl T7
      refine L_y ((by first | exact y_notD rfl | exact y_not rfl)) rfl ?_
      refine L_nil ?_
      refine hK10 _ _ ?_
      refine T_false rfl ?_
      refine T_skip ?_
      refine hK9 _ _ ?_
      refine T_region ?_
      refine L_y (y_move rfl) rfl ?_
      refine L_y (y_add rfl rfl (i64w (by omega))) rfl ?_
      refine L_y (y_assign rfl) rfl ?_
      refine L_nil ?_
      refine ⟨k + 1, p9, q9, by omega, ⟨by omega, hp9, S7⟩, ?_⟩
      exact (Sub.cons rfl (by first | rfl | exact congrArg (Value.int _) (by omega)) (Sub.cons rfl rfl (Sub.cons rfl rfl (Sub.cons rfl rfl (Sub.cons rfl rfl (Sub.cons rfl rfl (Sub.nil _)))))))
    ·
      refine T_exit ?_
      refine hK5 _ _ ?_
      refine T_seq fun K11 hK11 => ?_
      refine T_region ?_
      refine L_y (y_move rfl) rfl ?_
      refine L_y (y_move rfl) rfl ?_
      refine L_o (o_call Try.func12 rfl rfl (same _ _ _ _ _ _ _ _ w6 (S6.row 0 rfl) (S6.rd hb)) rfl rfl ?_)
      rintro e8 w8 ⟨v8, rfl, l8, rfl⟩
      refine ⟨_, rfl, ?_⟩
      have S8 := S6.like l8
      refine L_y (y_move rfl) rfl ?_
      refine L_split 34 rfl (fun h34 => ?_) (fun h34 => ?_)
      ·
        refine L_gyes rfl rfl ?_
        refine L_o (o_call Try.func14 rfl rfl (works w8) rfl rfl ?_)
        rintro e10 w10 ⟨v10, rfl, l10, rfl⟩
        refine ⟨_, rfl, ?_⟩
        have S10 := S8.like l10
        refine L_y ((by first | exact y_pickT rfl rfl | exact y_pickF rfl rfl)) rfl ?_
        refine L_y (y_assign rfl) rfl ?_
        refine L_nil ?_
        refine hK11 _ _ ?_
        refine T_ret ?_
        repeat (first | with_reducible refine up_then ?_ | with_reducible refine up_in ?_)
        refine ret1 rfl rfl ?_
        first | exact ⟨_, rfl, S10.like0, rfl⟩ | (exfalso; simp at h34)
      ·
        refine L_gno rfl rfl rfl ?_
        refine L_y ((by first | exact y_pickT rfl rfl | exact y_pickF rfl rfl)) rfl ?_
        refine L_y (y_assign rfl) rfl ?_
        refine L_nil ?_
        refine hK11 _ _ ?_
        refine T_ret ?_
        repeat (first | with_reducible refine up_then ?_ | with_reducible refine up_in ?_)
        refine ret1 rfl rfl ?_
        first | exact ⟨_, rfl, S8.like0, rfl⟩ | (exfalso; simp at h34)
end Go.Proofs.Ytcbnhmcfdpcbhaa
