/-
  The field: row.
-/
import Derived.Test.YtgapdndbelnknaaI
import Derived.Test.YtgapdndbelnknaaZr
namespace Go.Proofs.Ytgapdndbelnknaa
open Go.RowKit Zk Zx
set_option linter.unusedVariables false
set_option linter.unusedSimpArgs false

/-- The room that is left: nothing yet, or a block. -/
def Room (ss : Nat → Option (Array Value)) (SA : Option Addr) (ns cs : Nat) : Prop := (SA = none ∧ ns = 0 ∧ cs = 0) ∨ ∃ st cur, SA = some ⟨st, 0, none⟩ ∧ ss st = some cur ∧ cur.size = cs ∧ ns ≤ cs ∧ cs ≤ 9223372036854775807
theorem Room.le {ss : Nat → Option (Array Value)} {SA : Option Addr} {ns cs : Nat} (h : Room ss SA ns cs) : ns ≤ cs ∧ cs ≤ 9223372036854775807 := by
  rcases h with ⟨_, h1, h2⟩ | ⟨_, _, _, _, _, h1, h2⟩ <;> omega
theorem upd_id {ss : Nat → Option (Array Value)} {b : Nat} {cur : Array Value} (h : ss b = some cur) : upd ss b cur = ss := by
  funext i
  by_cases e : i = b
  · subst e; rw [upd_same, h]
  · rw [upd_ne e]
theorem upd_upd (ss : Nat → Option (Array Value)) (b : Nat) (c1 c2 : Array Value) : upd (upd ss b c1) b c2 = upd ss b c2 := by
  funext i
  by_cases e : i = b
  · subst e; rw [upd_same, upd_same]
  · rw [upd_ne e, upd_ne e, upd_ne e]
theorem cutA_at (st c l : Nat) (h : c ≠ l) : cutA (some ⟨st, 0, none⟩) c l 1 = some ⟨st, l, none⟩ := by
  unfold cutA
  rw [if_neg h, Nat.mul_one]
  show some (Addr.add ⟨st, 0, none⟩ l) = _
  rw [Addr.add_lit, Nat.zero_add]


set_option maxRecDepth 100000 in
theorem frow (g : Nat) (X0 X1 X2 : Value) (SA : Option Addr) (ns cs : Nat) (ss : Nat → Option (Array Value)) (k : Nat) (kI : Int) (w0 : World) (hkI : kI = k) (hw : (sep (blk g 54 #[X0, X1, X2, .slice SA ns cs]) (heapR 3 ss)).holds w0) (hlt : ∀ i, (sep (blk g 54 #[X0, X1, X2, .slice SA ns cs]) (heapR 3 ss)).dom i → i < w0.heap.size) (hroom : Room ss SA ns cs) (hk1 : 1 ≤ k) (hk2 : k ≤ 1048576) (hns : ns ≤ 1099511627776) :
    Calls Try.prog 25 #[.pointer (some ⟨g, 0, none⟩), .int .i64 kI] w0 fun e w' => ∃ u, e = .returned u ∧ ∃ st fr cs' cur, u = .slice (some ⟨st, fr, none⟩) k k ∧ Turned w0 w' (sep (blk g 54 #[X0, X1, X2, .slice SA ns cs]) (heapR 3 ss)) (sep (blk g 54 #[X0, X1, X2, .slice (some ⟨st, 0, none⟩) (fr + k) cs']) (heapR 3 (upd ss st cur))) ∧ cur.size = cs' ∧ fr + k ≤ cs' ∧ cs' ≤ 9223372036854775807 ∧ ((SA = some ⟨st, 0, none⟩ ∧ fr = ns ∧ ss st = some cur) ∨ (fr = 0 ∧ ss st = none)) := by
  refine enter1 (env := [(0, .pointer (some ⟨g, 0, none⟩)), (1, .int .i64 kI)]) [.pointer (some ⟨g, 0, none⟩), .int .i64 kI] Try.func25 rfl Try.ntmps25 rfl rfl ?_
  subst hkI; have hrl := hroom.le; have S0 := St.borrow2 (blk g 54 #[X0, X1, X2, .slice SA ns cs]) (heapR 3 ss) hw.1 hw.2.1 hlt hw.2.2
  refine T_seq fun K1 hK1 => ?_
  refine T_region ?_
  refine L_y (y_assign rfl) rfl ?_
  refine L_nil ?_
  refine hK1 _ _ ?_
  refine T_seq fun K2 hK2 => ?_
  refine T_seq fun K3 hK3 => ?_
  refine T_drawnL [(0, true), (1, true), (2, true), (3, true), (4, true), (5, true), (6, true), (7, true), (8, true), (9, true), (10, true), (11, true), (12, true)] hmix (by kernel_rfl) fun w1 l1 => ?_
  have S1 := S0.like l1
  refine DL_y rfl (y_move rfl) rfl ?_
  refine DL_y rfl (y_nilp rfl) rfl ?_
  refine DL_y rfl (y_fieldA 3 Try.underlying54 rfl sz22 rfl rfl rfl) rfl ?_
  refine DL_y rfl (y_ldc Try.underlying22 rfl rfl (((S1.blk 0 rfl).cell _).trans (by rfl))) rfl ?_
  refine DL_y rfl (y_cap Try.underlying22 rfl) rfl ?_
  refine DL_y rfl (y_move rfl) rfl ?_
  refine DL_y rfl (y_nilp rfl) rfl ?_
  refine DL_y rfl (y_fieldA 3 Try.underlying54 rfl sz22 rfl rfl rfl) rfl ?_
  refine DL_y rfl (y_ldc Try.underlying22 rfl rfl (((S1.blk 0 rfl).cell _).trans (by rfl))) rfl ?_
  refine DL_y rfl (y_len Try.underlying22 rfl) rfl ?_
  refine DL_y rfl (y_sub rfl rfl (i64w (by omega))) rfl ?_
  refine DL_y rfl (y_move rfl) rfl ?_
  refine DL_y rfl (y_lss rfl rfl) rfl ?_
  refine DL_nil ?_
  refine hK3 _ _ ?_
  refine T_cond rfl (fun h18 => ?_) (fun h18 => ?_)
  ·
    refine T_region ?_
    refine L_y (y_move rfl) rfl ?_
    refine L_y (y_move rfl) rfl ?_
    refine L_y (y_max rfl rfl) rfl ?_
    refine L_o (o_make te22 rfl S1 rfl rfl inferInstance (Nt.mk (by omega) : Nt _ (max k 4096)) rfl (by omega) (by omega) (by omega) fun b2 w2 S2 => ?_)
    refine L_y (y_nilp rfl) rfl ?_
    refine L_y (y_fieldA 3 Try.underlying54 rfl sz22 rfl rfl rfl) rfl ?_
    refine L_o (o_st1 S2 0 rfl rfl rfl rfl sz22 (by simp; done) fun w3 S3 => ?_)
    refine L_nil ?_
    refine hK2 _ _ ?_
    refine T_seq fun K4 hK4 => ?_
    obtain ⟨cur, hcs, hno, hcm, S80⟩ := heap_join (rs := [_]) S3
    have S81 := S80.blkc 0 rfl (cs' := #[X0, X1, X2, .slice (some ⟨b2, 0, none⟩) 0 (max k 4096)]) rfl
    refine T_region ?_
    refine L_y (y_move rfl) rfl ?_
    refine L_y (y_nilp rfl) rfl ?_
    refine L_y (y_fieldA 3 Try.underlying54 rfl sz22 rfl rfl rfl) rfl ?_
    refine L_y (y_ldc Try.underlying22 rfl rfl (((S81.blk 0 rfl).cell _).trans (by rfl))) rfl ?_
    refine L_y (y_len Try.underlying22 rfl) rfl ?_
    refine L_y (y_assign rfl) rfl ?_
    refine L_nil ?_
    refine hK4 _ _ ?_
    refine T_seq fun K5 hK5 => ?_
    refine T_region ?_
    refine L_y (y_move rfl) rfl ?_
    refine L_y (y_move rfl) rfl ?_
    refine L_y (y_nilp rfl) rfl ?_
    refine L_y (y_fieldA 3 Try.underlying54 rfl sz22 rfl rfl rfl) rfl ?_
    refine L_y (y_ldc Try.underlying22 rfl rfl (((S81.blk 0 rfl).cell _).trans (by rfl))) rfl ?_
    refine L_y (y_move rfl) rfl ?_
    refine L_y (y_move rfl) rfl ?_
    refine L_y (y_add rfl rfl (i64w (by omega))) rfl ?_
    refine L_y (y_sliceH Try.underlying22 sz3 rfl rfl inferInstance (by omega)) rfl ?_
    refine L_y (y_nilp rfl) rfl ?_
    refine L_y (y_fieldA 3 Try.underlying54 rfl sz22 rfl rfl rfl) rfl ?_
    refine L_o (o_st1 S81 0 rfl rfl rfl rfl sz22 (by simp; done) fun w4 S4 => ?_)
    refine L_nil ?_
    refine hK5 _ _ ?_
    refine T_seq fun K6 hK6 => ?_
    have S85 := S4.blkc 0 rfl (cs' := #[X0, X1, X2, .slice (some ⟨b2, 0, none⟩) (0 + k) (max k 4096)]) (by rw [cutA_at _ _ _ (by omega)]; rfl)
    refine T_region ?_
    refine L_y (y_move rfl) rfl ?_
    refine L_y (y_nilp rfl) rfl ?_
    refine L_y (y_fieldA 3 Try.underlying54 rfl sz22 rfl rfl rfl) rfl ?_
    refine L_y (y_ldc Try.underlying22 rfl rfl (((S85.blk 0 rfl).cell _).trans (by rfl))) rfl ?_
    refine L_y (y_move rfl) rfl ?_
    refine L_y (y_move rfl) rfl ?_
    refine L_y (y_move rfl) rfl ?_
    refine L_y (y_add rfl rfl (i64w (by omega))) rfl ?_
    refine L_y (y_move rfl) rfl ?_
    refine L_y (y_move rfl) rfl ?_
    refine L_y (y_add rfl rfl (i64w (by omega))) rfl ?_
    refine L_y (y_sliceX Try.underlying22 sz3 rfl rfl rfl rfl (l := 0) (u := 0 + k) (m := 0 + k) (by omega) (by omega) (by omega) (by omega) (by omega) (by omega)) rfl ?_
    refine L_y (y_assign rfl) rfl ?_
    refine L_nil ?_
    refine hK6 _ _ ?_
    refine T_ret ?_
    repeat (first | with_reducible refine up_then ?_ | with_reducible refine up_in ?_)
    refine ret1 rfl rfl ?_
    exact ⟨_, rfl, b2, 0, max k 4096, cur, by rw [cutA_at _ _ _ (by omega)]; congr 1 <;> omega, S85.turnedS, hcs, by omega, by omega, .inr ⟨rfl, hno⟩⟩
  ·
    obtain ⟨st, cur, rfl, hss, hcs, hns2, hcm⟩ : ∃ st cur, SA = some ⟨st, 0, none⟩ ∧ ss st = some cur ∧ cur.size = cs ∧ ns ≤ cs ∧ cs ≤ 9223372036854775807 := hroom.resolve_left (fun h => by omega)
    refine T_skip ?_
    refine hK2 _ _ ?_
    refine T_seq fun K7 hK7 => ?_
    refine T_region ?_
    refine L_y (y_move rfl) rfl ?_
    refine L_y (y_nilp rfl) rfl ?_
    refine L_y (y_fieldA 3 Try.underlying54 rfl sz22 rfl rfl rfl) rfl ?_
    refine L_y (y_ldc Try.underlying22 rfl rfl (((S1.blk 0 rfl).cell _).trans (by rfl))) rfl ?_
    refine L_y (y_len Try.underlying22 rfl) rfl ?_
    refine L_y (y_assign rfl) rfl ?_
    refine L_nil ?_
    refine hK7 _ _ ?_
    refine T_seq fun K8 hK8 => ?_
    refine T_region ?_
    refine L_y (y_move rfl) rfl ?_
    refine L_y (y_move rfl) rfl ?_
    refine L_y (y_nilp rfl) rfl ?_
    refine L_y (y_fieldA 3 Try.underlying54 rfl sz22 rfl rfl rfl) rfl ?_
    refine L_y (y_ldc Try.underlying22 rfl rfl (((S1.blk 0 rfl).cell _).trans (by rfl))) rfl ?_
    refine L_y (y_move rfl) rfl ?_
    refine L_y (y_move rfl) rfl ?_
    refine L_y (y_add rfl rfl (i64w (by omega))) rfl ?_
    refine L_y (y_sliceH Try.underlying22 sz3 rfl rfl inferInstance (by omega)) rfl ?_
    refine L_y (y_nilp rfl) rfl ?_
    refine L_y (y_fieldA 3 Try.underlying54 rfl sz22 rfl rfl rfl) rfl ?_
    refine L_o (o_st1 S1 0 rfl rfl rfl rfl sz22 (by simp; done) fun w5 S5 => ?_)
    refine L_nil ?_
    refine hK8 _ _ ?_
    refine T_seq fun K9 hK9 => ?_
    have S85 := S5.blkc 0 rfl (cs' := #[X0, X1, X2, .slice (some ⟨st, 0, none⟩) (ns + k) cs]) (by rw [cutA_at _ _ _ (by omega)]; rfl)
    refine T_region ?_
    refine L_y (y_move rfl) rfl ?_
    refine L_y (y_nilp rfl) rfl ?_
    refine L_y (y_fieldA 3 Try.underlying54 rfl sz22 rfl rfl rfl) rfl ?_
    refine L_y (y_ldc Try.underlying22 rfl rfl (((S85.blk 0 rfl).cell _).trans (by rfl))) rfl ?_
    refine L_y (y_move rfl) rfl ?_
    refine L_y (y_move rfl) rfl ?_
    refine L_y (y_move rfl) rfl ?_
    refine L_y (y_add rfl rfl (i64w (by omega))) rfl ?_
    refine L_y (y_move rfl) rfl ?_
    refine L_y (y_move rfl) rfl ?_
    refine L_y (y_add rfl rfl (i64w (by omega))) rfl ?_
    refine L_y (y_sliceX Try.underlying22 sz3 rfl rfl rfl rfl (l := ns) (u := ns + k) (m := ns + k) (by omega) (by omega) (by omega) (by omega) (by omega) (by omega)) rfl ?_
    refine L_y (y_assign rfl) rfl ?_
    refine L_nil ?_
    refine hK9 _ _ ?_
    refine T_ret ?_
    repeat (first | with_reducible refine up_then ?_ | with_reducible refine up_in ?_)
    refine ret1 rfl rfl ?_
    exact ⟨_, rfl, st, ns, cs, cur, by rw [cutA_at _ _ _ (by omega)]; congr 1 <;> omega, by rw [upd_id hss]; exact S85.turnedS, hcs, by omega, by omega, .inl ⟨rfl, rfl, hss⟩⟩
end Go.Proofs.Ytgapdndbelnknaa
