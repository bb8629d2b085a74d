/-
  Write, by package sha.
-/
import Derived.Test.YtanelemeljbbcaaJ
namespace Go.Proofs.Ytanelemeljbbcaa
open Go.RowKit Zk Zx
set_option linter.unusedVariables false
set_option linter.unusedSimpArgs false

/-- The state behind the first k blocks of l. -/
def stv (l : List UInt8) : Nat → Go.Proofs.Ytanelemeljbbcaa.St
  | 0 => start0
  | k + 1 => blockS (stv l k) ((l.drop (64 * k)).take 64)
theorem stv_app (l m : List UInt8) : ∀ k, 64 * k ≤ l.length → stv (l ++ m) k = stv l k
  | 0, _ => rfl
  | k + 1, h => by
    simp only [stv]
    rw [stv_app l m k (by omega), List.drop_append_of_le_length (by omega), List.take_append_of_le_length (by simp; omega)]
/-- cs are the cells of a Hash that has taken l. -/
def HS (l : List UInt8) (cs : Array Value) : Prop := ∃ rest : List UInt8, rest.length = 64 ∧ rest.take (l.length % 64) = l.drop (64 * (l.length / 64)) ∧ cs = hashA l.length (stv l (l.length / 64)) rest
theorem HS_nil : HS [] (hashA 0 start0 (List.replicate 64 0)) := ⟨_, by simp, by simp, rfl⟩
theorem hashA_n (n n' : Nat) (v : Go.Proofs.Ytanelemeljbbcaa.St) (rest : List UInt8) (x : Int) (hx : x = (n' : Int)) : (hashA n v rest).setIfInBounds 1 (.int .u64 x) = hashA n' v rest := by
  subst hx
  simp [hashA]
theorem hashA_rest (n : Nat) (v : Go.Proofs.Ytanelemeljbbcaa.St) (rest : List UInt8) : (hashA n v rest).toList.drop 10 = bL rest := by
  simp [hashA, Go.Proofs.Ytanelemeljbbcaa.St.list, uL]
theorem hashA_state (n : Nat) (v : Go.Proofs.Ytanelemeljbbcaa.St) (rest : List UInt8) : ((hashA n v rest).toList.drop 2).take 8 = uL v.list := by
  simp [hashA, Go.Proofs.Ytanelemeljbbcaa.St.list, uL]
theorem hashA_size (n : Nat) (v : Go.Proofs.Ytanelemeljbbcaa.St) (rest : List UInt8) : (hashA n v rest).size = 10 + rest.length := by
  simp [hashA, Go.Proofs.Ytanelemeljbbcaa.St.list]; omega
theorem hashA_split (n : Nat) (v : Go.Proofs.Ytanelemeljbbcaa.St) (rest : List UInt8) : (hashA n v rest).toList = (.bool true :: .int .u64 (n : Int) :: uL v.list) ++ bL rest := by simp [hashA]
theorem hashA_copy (n : Nat) (v : Go.Proofs.Ytanelemeljbbcaa.St) (rest q : List UInt8) (h o : Nat) (ho : o = 10 + h) (hh : h ≤ rest.length) :
    ((hashA n v rest).toList.take o ++ bL q ++ (hashA n v rest).toList.drop (o + (bL q).length)).toArray = hashA n v (rest.take h ++ q ++ rest.drop (h + q.length)) := by
  subst ho
  have hl : (Value.bool true :: Value.int .u64 (n : Int) :: uL v.list).length = 10 := by simp [Go.Proofs.Ytanelemeljbbcaa.St.list]
  rw [hashA_split, List.take_append, List.drop_append, hl]
  rw [List.take_of_length_le (by omega), List.drop_of_length_le (by omega)]
  simp only [length_bL, Nat.add_sub_cancel_left, show 10 + h + q.length - 10 = h + q.length by omega, hashA, bL_app, bL_take, bL_drop]
  simp
theorem hashA_put (n : Nat) (v v' : Go.Proofs.Ytanelemeljbbcaa.St) (rest : List UInt8) :
    ((hashA n v rest).toList.take 2 ++ (uA v'.list).toList ++ (hashA n v rest).toList.drop (2 + (uA v'.list).size)).toArray = hashA n v' rest := by
  simp [hashA, Go.Proofs.Ytanelemeljbbcaa.St.list, uL, uA]
theorem HS_short (l p rest : List UInt8) (h64 : rest.length = 64) (hr : rest.take (l.length % 64) = l.drop (64 * (l.length / 64))) (h : l.length % 64 + p.length < 64) :
    HS (l ++ p) (hashA (l ++ p).length (stv l (l.length / 64)) (rest.take (l.length % 64) ++ p ++ rest.drop (l.length % 64 + p.length))) := by
  have e1 : (l ++ p).length / 64 = l.length / 64 := by rw [List.length_append]; omega
  have e2 : (l ++ p).length % 64 = l.length % 64 + p.length := by rw [List.length_append]; omega
  refine ⟨_, ?_, ?_, by rw [e1, stv_app l p _ (by omega)]⟩
  · simp [h64]; omega
  · rw [e1, e2, List.take_append_of_le_length (by simp [h64]; omega), List.take_of_length_le (by simp [h64]; omega), hr, List.drop_append_of_le_length (by omega)]
theorem HS_end (t rest : List UInt8) (j : Nat) (h64 : rest.length = 64) (hj : j % 64 = 0) (hle : j ≤ t.length) (h : t.length - j < 64) :
    HS t (hashA t.length (stv t (j / 64)) (rest.take 0 ++ t.drop j ++ rest.drop (0 + (t.drop j).length))) := by
  have e1 : t.length / 64 = j / 64 := by omega
  refine ⟨_, ?_, ?_, by rw [e1]⟩
  · simp [h64]; omega
  · rw [e1, show 64 * (j / 64) = j by omega, List.take_zero, List.nil_append, List.take_append_of_le_length (by simp; omega), List.take_of_length_le (by simp; omega)]
/-- A block more. -/
theorem stv_next (t : List UInt8) (j : Nat) (hj : j % 64 = 0) : stv t ((j + 64) / 64) = blockS (stv t (j / 64)) ((t.drop j).take 64) := by
  rw [show (j + 64) / 64 = j / 64 + 1 by omega]
  simp only [stv]
  rw [show 64 * (j / 64) = j by omega]
theorem stv_fill (l p rest : List UInt8) (h64 : rest.length = 64) (hr : rest.take (l.length % 64) = l.drop (64 * (l.length / 64))) (h0 : 0 < l.length % 64) (h : 64 - l.length % 64 ≤ p.length) :
    stv (l ++ p) ((l.length + (64 - l.length % 64)) / 64) = blockS (stv l (l.length / 64)) (rest.take (l.length % 64) ++ p.take (64 - l.length % 64) ++ rest.drop (l.length % 64 + (p.take (64 - l.length % 64)).length)) := by
  rw [show (l.length + (64 - l.length % 64)) / 64 = l.length / 64 + 1 by omega]
  simp only [stv]
  have hd : rest.drop (l.length % 64 + (p.take (64 - l.length % 64)).length) = [] := List.drop_of_length_le (by simp [h64]; omega)
  rw [stv_app l p _ (by omega), hd, List.append_nil, hr, List.drop_append_of_le_length (by omega), List.take_append]
  congr 2
  · rw [List.take_of_length_le (by simp; omega)]
  · congr 1
    simp
    omega
theorem cut_at (g o h : Nat) (hh : h < 64) : cutA (some ⟨g, o, none⟩) 64 h 1 = some ⟨g, o + h, none⟩ := by
  unfold cutA
  rw [if_neg (by omega)]
  simp [Addr.add_mid]
theorem cut_block {A : Option Addr} {c l size g n : Nat} (h : ∀ ad, 0 < n → A = some ad → ad.block ≠ g) (hn : 0 < n) : ∀ ad, cutA A c l size = some ad → ad.block ≠ g := fun ad had => by
  unfold cutA at had
  split at had
  · exact h ad hn had
  · cases A with
    | none => cases had
    | some a0 =>
      simp only [Option.map_some, Option.some.injEq] at had
      subst had
      rw [block_of_add]
      exact h a0 hn rfl
theorem rest_reads {w : World} {g n : Nat} {v : Go.Proofs.Ytanelemeljbbcaa.St} {rest : List UInt8} (h : Blk w g 53 (hashA n v rest)) (h64 : rest.length = 64) : Rs w 1 (some ⟨g, 10, none⟩) 64 64 (bL rest) := by
  have := Rs.of_blk (o := 10) (n := 64) h (by rw [hashA_size, h64]; omega) (by omega)
  rwa [hashA_rest, List.take_of_length_le (by simp [h64])] at this


set_option maxRecDepth 100000 in
set_option maxHeartbeats 1000000 in
theorem write (g : Nat) (l p : List UInt8) (A : Option Addr) (m c : Nat) (cs : Array Value) (w0 : World) (hg : Blk w0 g 53 cs) (hs : HS l cs) (hp : Rs w0 1 A m c (bL p)) (hne : ∀ ad, 0 < m → A = some ad → ad.block ≠ g) (hlen : l.length + m ≤ 1000000) :
    Calls Try.prog 18 #[.pointer (some ⟨g, 0, none⟩), .slice A m c] w0 fun e w' => ∃ u, e = .returned u ∧ w0.grownBy w' (some g) ∧ ∃ cs', Blk w' g 53 cs' ∧ HS (l ++ p) cs' := by
  obtain ⟨rest, h64, hr, rfl⟩ := hs
  have hpl := hp.lenb
  refine enter1 (env := [(0, .pointer (some ⟨g, 0, none⟩)), (1, .slice A m c)]) [.pointer (some ⟨g, 0, none⟩), .slice A m c] Try.func18 rfl Try.ntmps18 rfl rfl ?_
  have S0 : Zx.St w0 (· = g) [blk g 53 (hashA l.length (stv l (l.length / 64)) rest)] w0 := St.borrow _ hg (fun i h => h) hg.lt
  refine T_seq fun K1 hK1 => ?_
  refine T_seq fun K2 hK2 => ?_
  refine T_region ?_
  refine L_y (y_move rfl) rfl ?_
  refine L_y (y_peqn Try.underlying42 rfl) rfl ?_
  refine L_y (y_move rfl) rfl ?_
  refine L_gyes rfl rfl ?_
  refine L_y (y_move rfl) rfl ?_
  refine L_gyes rfl rfl ?_
  refine L_y (y_nilp rfl) rfl ?_
  refine L_gyes rfl rfl ?_
  refine L_y (y_fieldA 0 Try.underlying53 rfl sz4 rfl rfl rfl) rfl ?_
  refine L_gyes rfl rfl ?_
  refine L_y (y_ldc Try.underlying4 rfl rfl (((S0.blk 0 rfl).cell _).trans (by rfl))) rfl ?_
  refine L_gyes rfl rfl ?_
  refine L_y ((by first | exact y_notD rfl | exact y_not rfl)) rfl ?_
  refine L_y ((by first | exact y_pickT rfl rfl | exact y_pickF rfl rfl)) rfl ?_
  refine L_nil ?_
  refine hK2 _ _ ?_
  refine T_false rfl ?_
  refine T_skip ?_
  refine hK1 _ _ ?_
  refine T_seq fun K3 hK3 => ?_
  refine T_region ?_
  refine L_y (y_move rfl) rfl ?_
  refine L_y (y_nilp rfl) rfl ?_
  refine L_y (y_fieldA 1 Try.underlying53 rfl sz22 rfl rfl rfl) rfl ?_
  refine L_y (y_ldc Try.underlying22 rfl rfl (((S0.blk 0 rfl).cell _).trans (by rfl))) rfl ?_
  refine L_y (y_rem rfl rfl (by omega) (remI (by omega))) rfl ?_
  refine L_y (y_conv is22 Try.underlying3 rfl (i64w (by omega))) rfl ?_
  refine L_y (y_assign rfl) rfl ?_
  refine L_nil ?_
  refine hK3 _ _ ?_
  refine T_seq fun K4 hK4 => ?_
  refine T_region ?_
  refine L_y (y_move rfl) rfl ?_
  refine L_y (y_nilp rfl) rfl ?_
  refine L_y (y_fieldA 1 Try.underlying53 rfl sz22 rfl rfl rfl) rfl ?_
  refine L_y (y_ldc Try.underlying22 rfl rfl (((S0.blk 0 rfl).cell _).trans (by rfl))) rfl ?_
  refine L_y (y_move rfl) rfl ?_
  refine L_y (y_len Try.underlying23 rfl) rfl ?_
  refine L_y (y_conv is3 Try.underlying22 rfl (u64w (by omega))) rfl ?_
  refine L_y (y_add rfl rfl (u64w (by omega))) rfl ?_
  refine L_y (y_nilp rfl) rfl ?_
  refine L_y (y_fieldA 1 Try.underlying53 rfl sz22 rfl rfl rfl) rfl ?_
  refine L_o (o_st1 S0 0 rfl rfl rfl rfl sz22 (by rw [hashA_size]; omega) fun w1 S1 => ?_)
  have S5 := S1.blkc 0 rfl (hashA_n l.length (l.length + m) _ rest _ (by omega))
  refine L_nil ?_
  refine hK4 _ _ ?_
  refine T_seqR (fun (e : Env) (w : World) => ∃ (j : Nat) (A1 : Option Addr) (m1 : Nat) (c1 : Nat) (rest1 : List UInt8), Sub [(0, .pointer (some ⟨g, 0, none⟩)), (1, .slice A1 m1 c1)] e ∧ j ≤ m ∧ (l.length + j) % 64 = 0 ∧ m1 = m - j ∧ Rs w0 1 A1 m1 c1 (bL (p.drop j)) ∧ (∀ ad, 0 < m1 → A1 = some ad → ad.block ≠ g) ∧ rest1.length = 64 ∧ Zx.St w0 (· = g) [blk g 53 (hashA (l.length + m) (stv (l ++ p) ((l.length + j) / 64)) rest1)] w) ?_ ?_
  ·
    refine T_seq fun K6 hK6 => ?_
    refine T_region ?_
    refine L_y (y_move rfl) rfl ?_
    refine L_y (y_gtr rfl rfl) rfl ?_
    refine L_nil ?_
    refine hK6 _ _ ?_
    refine T_cond rfl (fun h32 => ?_) (fun h32 => ?_)
    ·
      refine T_seq fun K7 hK7 => ?_
      refine T_region ?_
      refine L_y (y_move rfl) rfl ?_
      refine L_y (y_nilp rfl) rfl ?_
      refine L_y (y_fieldA 10 Try.underlying53 rfl sz51 rfl rfl rfl) rfl ?_
      refine L_y (y_move rfl) rfl ?_
      refine L_y (y_asliceL Try.underlying51 sz5 rfl rfl inferInstance (by omega)) rfl ?_
      refine L_y (y_move rfl) rfl ?_
      refine L_o (o_copyB (news := bL (p.take (64 - l.length % 64))) S5 0 rfl Try.underlying23 sz5 rfl (cut_at g 10 _ (by omega)) rfl (S5.rdM hp hne) (bL_take _ _).symm (by rw [hashA_size, length_bL, List.length_take, h64]; omega) (bL_one _) rfl fun w2 S2 => ?_)
      have S6 := S2.blkc 0 rfl (hashA_copy _ _ _ _ (l.length % 64) _ rfl (by omega))
      have hq : (bL (p.take (64 - l.length % 64))).length = min (64 - l.length % 64) m := by rw [length_bL, List.length_take, hpl]
      refine L_y (y_assign rfl) rfl ?_
      refine L_nil ?_
      refine hK7 _ _ ?_
      refine T_seq fun K8 hK8 => ?_
      refine T_region ?_
      refine L_y (y_move rfl) rfl ?_
      refine L_y (y_move rfl) rfl ?_
      refine L_y (y_sliceL Try.underlying23 sz5 rfl rfl inferInstance (by omega)) rfl ?_
      refine L_y (y_assign rfl) rfl ?_
      refine L_nil ?_
      refine hK8 _ _ ?_
      refine T_seq fun K9 hK9 => ?_
      refine T_seq fun K10 hK10 => ?_
      refine T_region ?_
      refine L_y (y_move rfl) rfl ?_
      refine L_y (y_move rfl) rfl ?_
      refine L_y (y_add rfl rfl (i64w (by omega))) rfl ?_
      refine L_y (y_lss rfl rfl) rfl ?_
      refine L_nil ?_
      refine hK10 _ _ ?_
      refine T_cond rfl (fun h46 => ?_) (fun h46 => ?_)
      ·
        have hq2 : m < 64 - l.length % 64 := by omega
        have eq : p.take (64 - l.length % 64) = p := List.take_of_length_le (by omega)
        refine T_ret ?_
        repeat (first | with_reducible refine up_then ?_ | with_reducible refine up_in ?_)
        refine ret0 rfl ?_
        have hB := S6.blk 0 rfl
        have hh := HS_short l p rest h64 hr (by omega)
        rw [eq] at hB
        rw [List.length_append, hpl] at hh
        exact ⟨_, rfl, S6.only, _, hB, by rw [hpl]; exact hh⟩
      ·
        refine T_skip ?_
        refine hK9 _ _ ?_
        refine T_zed [0, 1, 2, 3, 4, 5, 6, 7, 8, 9, 10, 11] 12 [(0, 1), (1, 1), (2, 1), (3, 1), (4, 1), (5, 1), (6, 1), (7, 1), (8, 1), (9, 2), (10, 1), (11, 1), (12, 3)] hmix (by kernel_rfl) fun w3 l3 => ?_
        have S3 := S6.like l3
        refine ZA_B (Like w3) (Like.refl _) ?_
        refine ZB_y rfl (y_move rfl) rfl ?_
        refine ZB_y rfl (y_move rfl) rfl ?_
        refine ZB_y rfl (y_nilp rfl) rfl ?_
        refine ZB_y rfl (y_fieldA 2 Try.underlying53 rfl sz35 rfl rfl rfl) rfl ?_
        refine ZB_y rfl (y_ldW Try.underlying35 rfl sz35 rfl (S3.blk 0 rfl) ⟨hashA_state _ _ _, by simp [Go.Proofs.Ytanelemeljbbcaa.St.list]⟩) rfl ?_
        refine ZB_y rfl (y_move rfl) rfl ?_
        refine ZB_y rfl (y_nilp rfl) rfl ?_
        refine ZB_y rfl (y_fieldA 10 Try.underlying53 rfl sz51 rfl rfl rfl) rfl ?_
        refine ZB_y rfl (y_aslice Try.underlying51 sz5 rfl) rfl ?_
        refine ZB_o rfl (o_call Try.func21 rfl rfl (mix _ _ _ _ _ rfl _ (rest_reads (S3.blk 0 rfl) (by simp [h64]; omega))) rfl rfl ?_)
        rintro e4 w4 ⟨v4, rfl, l4, rfl⟩
        refine ⟨_, rfl, l4, ?_⟩
        have S4 := S3.like l4
        have q4 := l4
        refine ZB_y rfl (y_nilp rfl) rfl ?_
        refine ZB_y rfl (y_fieldA 2 Try.underlying53 rfl sz35 rfl rfl rfl) rfl ?_
        refine ZB_c rfl (o_stR S4 0 rfl rfl rfl (by exact sz35) (by rw [hashA_size]; simp [Go.Proofs.Ytanelemeljbbcaa.St.list, uA]) (uA_one _) fun w5 S5 => ?_)
        refine ZA_nil ?_
        have e64 : (bL (p.take (64 - l.length % 64))).length = 64 - l.length % 64 := by omega
        have hp9 := hp.cutb (l := (bL (p.take (64 - l.length % 64))).length) (u := m) (by omega) (Nat.le_refl _)
        rw [e64] at hp9
        have hd9 : ((p.drop (64 - l.length % 64)).take (m - (64 - l.length % 64))) = p.drop (64 - l.length % 64) := List.take_of_length_le (by simp; omega)
        rw [hd9] at hp9
        have S7 := S5.blkc (cs' := hashA (l.length + m) (stv (l ++ p) ((l.length + (64 - l.length % 64)) / 64)) (rest.take (l.length % 64) ++ p.take (64 - l.length % 64) ++ rest.drop (l.length % 64 + (p.take (64 - l.length % 64)).length))) 0 rfl (by rw [stv_fill l p rest h64 hr (by omega) (by omega)]; exact hashA_put _ _ _ _)
        refine ⟨64 - l.length % 64, _, m - (64 - l.length % 64), _, _, (Sub.cons rfl (by first | rfl | exact congrArg (Value.int _) (by omega)) (Sub.cons rfl (by first | rfl | (rw [e64])) (Sub.nil _))), by omega, by omega, by omega, hp9, fun ad h0 had => cut_block hne (by omega) ad had, by simp [h64]; omega, S7⟩
    ·
      refine T_skip ?_
      exact ⟨0, A, m, c, rest, (Sub.cons rfl (by first | rfl | exact congrArg (Value.int _) (by omega)) (Sub.cons rfl (by first | rfl | (rw [e64])) (Sub.nil _))), by omega, by omega, by omega, by rw [List.drop_zero]; exact hp, hne, h64, S5.blkc 0 rfl (by rw [Nat.add_zero, stv_app l p _ (by omega)])⟩
  ·
    rintro e6 w6 ⟨j, A1, m1, c1, rest1, hsub, hj, hjm, hm1, hp1, hne1, h641, S6⟩
    refine T_weak hsub ?_
    refine T_seq fun K11 hK11 => ?_
    refine T_block ?_
    refine T_loop5 [(0, _)] (fun (j : Nat) (A1 : Option Addr) (m1 : Nat) (c1 : Nat) (rest1 : List UInt8) => [(1, .slice A1 m1 c1)]) (fun (j : Nat) (A1 : Option Addr) (m1 : Nat) (c1 : Nat) (rest1 : List UInt8) => m1) (fun (j : Nat) (A1 : Option Addr) (m1 : Nat) (c1 : Nat) (rest1 : List UInt8) (w : World) => j ≤ m ∧ (l.length + j) % 64 = 0 ∧ m1 = m - j ∧ Rs w0 1 A1 m1 c1 (bL (p.drop j)) ∧ (∀ ad, 0 < m1 → A1 = some ad → ad.block ≠ g) ∧ rest1.length = 64 ∧ Zx.St w0 (· = g) [blk g 53 (hashA (l.length + m) (stv (l ++ p) ((l.length + j) / 64)) rest1)] w) j A1 m1 c1 rest1 (Sub.cons rfl (by first | rfl | exact congrArg (Value.int _) (by omega)) (Sub.nil _)) (Sub.cons rfl rfl (Sub.nil _)) ?_ ?_
    ·
      exact ⟨hj, hjm, hm1, hp1, hne1, h641, S6⟩
    ·
      intro j A1 m1 c1 rest1 w7 hrel
      obtain ⟨hj, hjm, hm1, hp1, hne1, h641, S7⟩ := hrel
      refine T_seq fun K12 hK12 => ?_
      refine T_seq fun K13 hK13 => ?_
      refine T_region ?_
      refine L_y (y_move rfl) rfl ?_
      refine L_y (y_len Try.underlying23 rfl) rfl ?_
      refine L_y (y_geq rfl rfl) rfl ?_
      refine L_nil ?_
      refine hK13 _ _ ?_
      refine T_cond rfl (fun h61 => ?_) (fun h61 => ?_)
      ·
        refine T_skip ?_
        refine hK12 _ _ ?_
        refine T_seq fun K14 hK14 => ?_
        refine T_block ?_
        refine T_zed [0, 1, 2, 3, 4, 5, 6, 7, 8, 9] 10 [(0, 1), (1, 1), (2, 1), (3, 1), (4, 1), (5, 1), (6, 1), (7, 2), (8, 1), (9, 1), (10, 3)] hmix (by kernel_rfl) fun w8 l8 => ?_
        have S8 := S7.like l8
        refine ZA_B (Like w8) (Like.refl _) ?_
        have hcc := hp1.cap
        refine ZB_y rfl (y_move rfl) rfl ?_
        refine ZB_y rfl (y_move rfl) rfl ?_
        refine ZB_y rfl (y_nilp rfl) rfl ?_
        refine ZB_y rfl (y_fieldA 2 Try.underlying53 rfl sz35 rfl rfl rfl) rfl ?_
        refine ZB_y rfl (y_ldW Try.underlying35 rfl sz35 rfl (S8.blk 0 rfl) ⟨hashA_state _ _ _, by simp [Go.Proofs.Ytanelemeljbbcaa.St.list]⟩) rfl ?_
        refine ZB_y rfl (y_move rfl) rfl ?_
        refine ZB_y rfl (y_sliceH Try.underlying23 sz5 rfl rfl inferInstance (by omega)) rfl ?_
        have hp8 := (S8.rdM hp1 hne1).cutb (l := 0) (u := 64) (by omega) (by omega)
        have hblk : ((l ++ p).drop (l.length + j)).take 64 = ((p.drop j).drop 0).take (64 - 0) := by rw [List.drop_append, List.drop_of_length_le (by omega), List.nil_append, Nat.add_sub_cancel_left, List.drop_zero]
        refine ZB_o rfl (o_call Try.func21 rfl rfl (mix _ _ _ _ _ rfl _ hp8) rfl rfl ?_)
        rintro e9 w9 ⟨v9, rfl, l9, rfl⟩
        refine ⟨_, rfl, l9, ?_⟩
        have S9 := S8.like l9
        have q9 := l9
        refine ZB_y rfl (y_nilp rfl) rfl ?_
        refine ZB_y rfl (y_fieldA 2 Try.underlying53 rfl sz35 rfl rfl rfl) rfl ?_
        refine ZB_c rfl (o_stR S9 0 rfl rfl rfl (by exact sz35) (by rw [hashA_size]; simp [Go.Proofs.Ytanelemeljbbcaa.St.list, uA]) (uA_one _) fun w10 S10 => ?_)
        refine ZA_nil ?_
        refine hK14 _ _ ?_
        refine T_region ?_
        refine L_y (y_move rfl) rfl ?_
        refine L_y (y_sliceL Try.underlying23 sz5 rfl rfl inferInstance (by omega)) rfl ?_
        refine L_y (y_assign rfl) rfl ?_
        refine L_nil ?_
        have hp9 := hp1.cutb (l := 64) (u := m1) (by omega) (Nat.le_refl _)
        have hd9 : (((p.drop j).drop 64).take (m1 - 64)) = p.drop (j + 64) := by rw [List.drop_drop]; exact List.take_of_length_le (by simp; omega)
        rw [hd9] at hp9
        have S8 := S10.blkc (cs' := hashA (l.length + m) (stv (l ++ p) ((l.length + (j + 64)) / 64)) rest1) 0 rfl (by rw [← Nat.add_assoc, stv_next (l ++ p) _ hjm, hblk]; exact hashA_put _ _ _ _)
        refine ⟨j + 64, _, m1 - 64, _, rest1, by omega, ⟨by omega, by omega, by omega, hp9, fun ad h0 had => cut_block hne1 (by omega) ad had, h641, S8⟩, ?_⟩
        exact (Sub.cons rfl (by first | rfl | exact congrArg (Value.int _) (by omega)) (Sub.cons rfl rfl (Sub.nil _)))
      ·
        refine T_exit ?_
        refine hK11 _ _ ?_
        refine T_region ?_
        refine L_y (y_move rfl) rfl ?_
        refine L_y (y_nilp rfl) rfl ?_
        refine L_y (y_fieldA 10 Try.underlying53 rfl sz51 rfl rfl rfl) rfl ?_
        refine L_y (y_aslice Try.underlying51 sz5 rfl) rfl ?_
        refine L_y (y_move rfl) rfl ?_
        refine L_o (o_copyB (news := bL (p.drop j)) S7 0 rfl Try.underlying23 sz5 rfl rfl rfl (S7.rdM hp1 hne1) (by rw [List.take_of_length_le (by simp; omega)]) (by rw [hashA_size, length_bL, List.length_drop, h641]; omega) (bL_one _) rfl fun w11 S11 => ?_)
        refine L_nil ?_
        refine end0 rfl ?_
        have hB := (S11.blkc 0 rfl (hashA_copy _ _ _ _ 0 _ rfl (by omega))).blk 0 rfl
        have hh := HS_end (l ++ p) rest1 (l.length + j) h641 hjm (by rw [List.length_append]; omega) (by rw [List.length_append]; omega)
        rw [List.length_append, hpl, List.drop_append, List.drop_of_length_le (show l.length ≤ l.length + j by omega), List.nil_append, Nat.add_sub_cancel_left] at hh
        exact ⟨_, rfl, S11.only, _, hB, hh⟩
end Go.Proofs.Ytanelemeljbbcaa
