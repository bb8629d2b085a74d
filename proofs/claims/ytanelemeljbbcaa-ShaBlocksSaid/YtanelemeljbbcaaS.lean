/-
  The law of the blocks.
-/
import Derived.Test.YtanelemeljbbcaaR
import Derived.Test.YtanelemeljbbcaaZg
namespace Go.Proofs.Ytanelemeljbbcaa
open Go.RowKit Zk Zx
set_option linter.unusedVariables false
set_option linter.unusedSimpArgs false

theorem all_words (a b : List UInt32) (n : Nat) (ha : a.length = n) (hb : b.length = n) :
    ((List.range n).all fun i => N (a.getD i 0) == N (b.getD i 0)) = decide (a = b) := by
  rw [Bool.eq_iff_iff, List.all_eq_true, decide_eq_true_eq]
  constructor
  · intro h
    apply List.ext_getElem (by omega)
    intro i h1 h2
    have := h i (by simp; omega)
    simp only [beq_iff_eq, List.getD_eq_getElem?_getD, List.getElem?_eq_getElem h1, List.getElem?_eq_getElem h2, Option.getD_some] at this
    exact UInt32.toNat_inj.1 (by unfold N at this; omega)
  · rintro rfl i _
    simp
theorem run_eqU {l m : List UInt32} (hl : l.length = 8) (hm : m.length = 8) (w : World) : (binOp .eql 35 (.agg (uA l)) (.agg (uA m))).run Try.prog w = .ok (.bool (decide (l = m))) w := by
  have get : ∀ (l : List UInt32), l.length = 8 → ∀ i, i < 8 → (uA l)[i]? = some (.int .u32 (N (l.getD i 0))) := fun l hl i hi => uA_get' l i (by omega)
  have h1 := run_equalIn_arr' (P := Try.prog) w 9999 Try.underlying35 _ Try.underlying34 rfl sz34 (uA l) (uA m) (fun i => N (l.getD i 0)) (fun i => N (m.getD i 0)) (get l hl) (get m hm) (fun x y => run_equalIn_int w 9998 34 .u32 .u32 x y Try.underlying34)
  rw [all_words l m 8 hl hm] at h1
  rw [run_eql_struct, h1]
  rfl
theorem y_eqU {S : World → Prop} {env : Env} {dst : Option Tmp} {ty u : TypeId} {pos : String} {after : Array Edge} {g : Option (Nat × Bool)} {x y : Operand} {l m : List UInt32} (hx : ev env x = some (.agg (uA l))) (hy : ev env y = some (.agg (uA m))) (hl : l.length = 8) (hm : m.length = 8) :
    Y Try.prog S env ⟨dst, .binOp .eql 35 x y u, ty, pos, after, g⟩ (.bool (decide (l = m))) := fun N a w ha _ => by
  simp only [execOp, ha.eval hx, ha.eval hy, Sem.run_bind, eqGuard_run (P := Try.prog) (t := 35) .eql x y _ _ (by kernel_rfl) w, Result.andThen_ok, run_eqU hl hm w, Sem.run_pure]


set_option maxRecDepth 100000 in
theorem shablocks1 (v : Go.Proofs.Ytanelemeljbbcaa.St) (b : List UInt8) (B : Option Addr) (n cb : Nat) (hn : n = 64) (w0 : World) (hb : Rs w0 1 B n cb (bL b)) :
    Calls Try.prog 5 #[.agg (uA v.list), .slice B n cb] w0 fun e w' => ∃ u, e = .returned u ∧ Like w0 w' ∧ u = .bool true := by
  refine enter1 (env := [(0, .agg (uA v.list)), (1, .slice B n cb)]) [.agg (uA v.list), .slice B n cb] Try.func5 rfl Try.ntmps5 rfl rfl ?_
  have S0 := St.start w0 noM
  refine T_seq fun K1 hK1 => ?_
  refine T_region ?_
  refine L_o (o_box rfl S0 rfl fun b1 w1 hb1 S1 => ?_)
  refine L_y (y_assign rfl) rfl ?_
  refine L_nil ?_
  refine hK1 _ _ ?_
  refine T_seq fun K2 hK2 => ?_
  refine T_region ?_
  refine L_y (y_ldW Try.underlying35 rfl sz35 rfl (S1.blk 0 rfl) (whole8 _)) rfl ?_
  refine L_y (y_move rfl) rfl ?_
  refine L_o (o_call Try.func13 rfl rfl (block v b _ _ _ hn _ (S1.rd hb)) rfl rfl ?_)
  rintro e2 w2 ⟨v2, rfl, l2, rfl⟩
  refine ⟨_, rfl, ?_⟩
  have S2 := S1.like l2
  refine L_y (y_move rfl) rfl ?_
  refine L_y (y_extract (v := .agg (uA (blockS v b).list)) rfl rfl) rfl ?_
  refine L_y (y_extract (v := .int .i64 0) rfl rfl) rfl ?_
  refine L_o (o_alloc zz35 S2 rfl fun b3 w3 hb3 S3 => ?_)
  refine L_o (o_stW S3 1 rfl rfl rfl (by exact sz35) (by simp [uA, Go.Proofs.Ytanelemeljbbcaa.St.list, z8, Value.cells]) (uA_one _) fun w4 S4 => ?_)
  refine L_y (y_assign rfl) rfl ?_
  refine L_nil ?_
  refine hK2 _ _ ?_
  refine T_seq fun K3 hK3 => ?_
  refine T_seq fun K4 hK4 => ?_
  refine T_region ?_
  refine L_y (y_move rfl) rfl ?_
  refine L_y (y_len Try.underlying23 rfl) rfl ?_
  refine L_y (y_neq rfl rfl) rfl ?_
  refine L_nil ?_
  refine hK4 _ _ ?_
  refine T_cond rfl (fun h15 => ?_) (fun h15 => ?_)
  ·
    exact absurd hn (by omega)
  ·
    refine T_skip ?_
    refine hK3 _ _ ?_
    refine T_seq fun K5 hK5 => ?_
    refine T_drawnL [(0, true), (1, true), (2, true), (3, true), (4, true), (5, true), (6, false), (7, true), (8, true), (9, true), (10, false), (11, false), (12, true), (13, true), (14, true), (15, false), (16, true), (17, true)] hmix (by kernel_rfl) fun w5 l5 => ?_
    have S5 := S4.like l5
    refine DL_y rfl (y_move rfl) rfl ?_
    refine DL_y rfl (y_eql rfl rfl) rfl ?_
    refine DL_y rfl (y_move rfl) rfl ?_
    refine DL_gyes rfl rfl rfl (y_ldW Try.underlying35 rfl sz35 rfl (S5.blk 1 rfl) (whole8 (blockS v b))) rfl ?_
    refine DL_gyes rfl rfl rfl (y_ldW Try.underlying35 rfl sz35 rfl (S5.blk 0 rfl) (whole8 _)) rfl ?_
    refine DL_gyes rfl rfl rfl (y_move rfl) rfl ?_
    refine DL_ogyes rfl rfl rfl (o_call Try.func14 rfl rfl (refblock v b _ _ _ hn _ (S5.rd hb)) rfl rfl ?_)
    rintro e6 w6 ⟨v6, rfl, l6, rfl⟩
    refine ⟨_, rfl, l6, ?_⟩
    have S6 := S5.like l6
    have q6 := l6
    refine DL_gyes rfl rfl rfl (y_eqU rfl rfl (list_8 _) (list_8 _)) rfl ?_
    refine DL_y rfl ((by first | exact y_pickT rfl rfl | exact y_pickF rfl rfl)) rfl ?_
    refine DL_y rfl (y_move rfl) rfl ?_
    refine DL_split 35 rfl (fun h35 => ?_) (fun h35 => ?_)
    ·
      refine DL_ogyes rfl rfl rfl (o_call Try.func15 rfl rfl (start _) rfl rfl ?_)
      rintro e7 w7 ⟨v7, rfl, l7, rfl⟩
      refine ⟨_, rfl, (Like.trans q6 l7), ?_⟩
      have S7 := S6.like l7
      have q7 := (Like.trans q6 l7)
      refine DL_ogyes rfl rfl rfl (o_call Try.func16 rfl rfl (refstart _) rfl rfl ?_)
      rintro e8 w8 ⟨v8, rfl, l8, rfl⟩
      refine ⟨_, rfl, (Like.trans q7 l8), ?_⟩
      have S8 := S7.like l8
      have q8 := (Like.trans q7 l8)
      refine DL_gyes rfl rfl rfl (y_eqU rfl rfl (list_8 _) (list_8 _)) rfl ?_
      refine DL_y rfl ((by first | exact y_pickT rfl rfl | exact y_pickF rfl rfl)) rfl ?_
      refine DL_y rfl (y_move rfl) rfl ?_
      refine DL_split 40 rfl (fun h40 => ?_) (fun h40 => ?_)
      ·
        refine DL_ogyes rfl rfl rfl (o_call Try.func10 rfl rfl (works _) rfl rfl ?_)
        rintro e9 w9 ⟨v9, rfl, l9, rfl⟩
        refine ⟨_, rfl, (Like.trans q8 l9), ?_⟩
        have S9 := S8.like l9
        have q9 := (Like.trans q8 l9)
        refine DL_y rfl ((by first | exact y_pickT rfl rfl | exact y_pickF rfl rfl)) rfl ?_
        refine DL_y rfl (y_assign rfl) rfl ?_
        refine DL_nil ?_
        refine hK5 _ _ ?_
        refine T_ret ?_
        repeat (first | with_reducible refine up_then ?_ | with_reducible refine up_in ?_)
        refine ret1 rfl rfl ?_
        exact ⟨_, rfl, S9.like0, rfl⟩
      ·
        exact absurd rfl h40
    ·
      exact absurd rfl h35


set_option maxRecDepth 100000 in
theorem shablocks2 (v : Go.Proofs.Ytanelemeljbbcaa.St) (b : List UInt8) (B : Option Addr) (n cb : Nat) (hn : n ≠ 64) (w0 : World) (hb : Rs w0 1 B n cb (bL b)) :
    Calls Try.prog 5 #[.agg (uA v.list), .slice B n cb] w0 fun e w' => ∃ u, e = .returned u ∧ Like w0 w' ∧ u = .bool true := by
  refine enter1 (env := [(0, .agg (uA v.list)), (1, .slice B n cb)]) [.agg (uA v.list), .slice B n cb] Try.func5 rfl Try.ntmps5 rfl rfl ?_
  have S0 := St.start w0 noM
  refine T_seq fun K1 hK1 => ?_
  refine T_region ?_
  refine L_o (o_box rfl S0 rfl fun b1 w1 hb1 S1 => ?_)
  refine L_y (y_assign rfl) rfl ?_
  refine L_nil ?_
  refine hK1 _ _ ?_
  refine T_seq fun K2 hK2 => ?_
  refine T_region ?_
  refine L_y (y_ldW Try.underlying35 rfl sz35 rfl (S1.blk 0 rfl) (whole8 _)) rfl ?_
  refine L_y (y_move rfl) rfl ?_
  refine L_o (o_call Try.func13 rfl rfl (blockno v b _ _ _ hn _ (S1.rd hb)) rfl rfl ?_)
  rintro e2 w2 ⟨v2, rfl, l2, rfl⟩
  refine ⟨_, rfl, ?_⟩
  have S2 := S1.like l2
  refine L_y (y_move rfl) rfl ?_
  refine L_y (y_extract (v := .agg (uA z8)) rfl rfl) rfl ?_
  refine L_y (y_extract (v := .int .i64 2) rfl rfl) rfl ?_
  refine L_o (o_alloc zz35 S2 rfl fun b3 w3 hb3 S3 => ?_)
  refine L_o (o_stW S3 1 rfl rfl rfl (by exact sz35) (by simp [uA, Go.Proofs.Ytanelemeljbbcaa.St.list, z8, Value.cells]) (uA_one _) fun w4 S4 => ?_)
  refine L_y (y_assign rfl) rfl ?_
  refine L_nil ?_
  refine hK2 _ _ ?_
  refine T_seq fun K3 hK3 => ?_
  refine T_seq fun K4 hK4 => ?_
  refine T_region ?_
  refine L_y (y_move rfl) rfl ?_
  refine L_y (y_len Try.underlying23 rfl) rfl ?_
  refine L_y (y_neq rfl rfl) rfl ?_
  refine L_nil ?_
  refine hK4 _ _ ?_
  refine T_cond rfl (fun h15 => ?_) (fun h15 => ?_)
  ·
    refine T_seq fun K5 hK5 => ?_
    refine T_region ?_
    refine L_y (y_move rfl) rfl ?_
    refine L_y (y_eql rfl rfl) rfl ?_
    refine L_y (y_move rfl) rfl ?_
    refine L_gyes rfl rfl ?_
    refine L_y (y_ldW Try.underlying35 rfl sz35 rfl (S4.blk 1 rfl) ⟨(by rw [List.drop_zero]; exact List.take_of_length_le (by simp [uA, z8]) : _ = uL z8), by simp [z8]⟩) rfl ?_
    refine L_gyes rfl rfl ?_
    refine L_y (y_build (cs := uA z8) rfl (by kernel_rfl)) rfl ?_
    refine L_gyes rfl rfl ?_
    refine L_y (y_eqU rfl rfl rfl rfl) rfl ?_
    refine L_y ((by first | exact y_pickT rfl rfl | exact y_pickF rfl rfl)) rfl ?_
    refine L_y (y_move rfl) rfl ?_
    refine L_split 23 rfl (fun h23 => ?_) (fun h23 => ?_)
    ·
      refine L_gyes rfl rfl ?_
      refine L_o (o_call Try.func10 rfl rfl (works _) rfl rfl ?_)
      rintro e6 w6 ⟨v6, rfl, l6, rfl⟩
      refine ⟨_, rfl, ?_⟩
      have S6 := S4.like l6
      refine L_y ((by first | exact y_pickT rfl rfl | exact y_pickF rfl rfl)) rfl ?_
      refine L_y (y_assign rfl) rfl ?_
      refine L_nil ?_
      refine hK5 _ _ ?_
      refine T_ret ?_
      repeat (first | with_reducible refine up_then ?_ | with_reducible refine up_in ?_)
      refine ret1 rfl rfl ?_
      exact ⟨_, rfl, S6.like0, rfl⟩
    ·
      exact absurd rfl h23
  ·
    exact absurd h15 (by omega)


section
open Go.ChangeShapes Go.WideShapes Go.ChangeAt
variable {H : Type} {enc : TypeId × Value → H} {w : World} {base : Nat} {spare : Nat → Bool} {held : Bool}
theorem open_st {r : Reach} {b0 : Nat} {v : Value} {d : DataW H} {p : List MemPlace} (hv : Value.okWide Try.prog w r b0 35 v) (h : DataW.Trod enc Try.prog w base spare held 35 v d p) : ∃ s : Go.Proofs.Ytanelemeljbbcaa.St, v = .agg (uA s.list) := by
  simp only [Value.okWide, Try.underlying35] at hv
  obtain ⟨cs, rfl, hs, _⟩ := hv
  have hc : Try.prog.cellsOf 34 = 1 := by kernel_rfl
  have hn : Try.prog.cellsOf 35 = 8 := by kernel_rfl
  obtain ⟨fuel, hf⟩ := h
  obtain ⟨xs, m, _, _, hl, hx, hg⟩ := DataW.trod_array Try.underlying35 hf
  obtain ⟨l, hll, hp⟩ := list_of (fun i (y : UInt32) => cs.toList[i]? = some (.int .u32 (N y))) 8 (fun i hi => by
    have h1 := hg i hi
    rw [hc, Nat.mul_one] at h1
    have hx2 : xs[i]? = some (xs[i]'(by omega)) := List.getElem?_eq_getElem _
    rw [hx2] at h1
    have hci : i < cs.size := by omega
    have e1 : ((Value.agg cs).cells.toList.drop i).take 1 = [cs[i]] := by
      simp only [Value.cells]
      rw [List.drop_eq_getElem_cons (by simpa using hci)]
      simp
    rw [e1] at h1
    obtain ⟨a, ha, _, hw⟩ := DataW.trod_int Try.underlying34 h1
    have hb := bounds_u32 hw
    refine ⟨UInt32.ofNat a.toNat, ?_⟩
    simp only [List.cons.injEq, and_true] at ha
    rw [List.getElem?_eq_getElem (by simpa using hci)]
    have : N (UInt32.ofNat a.toNat) = a := by unfold N; rw [UInt32.toNat_ofNat']; omega
    simp [ha, this])
  have hcs : cs = uA l := by
    apply Array.toList_inj.1
    apply List.ext_getElem?
    intro i
    rcases Nat.lt_or_ge i 8 with hi | hi
    · rw [hp i _ (List.getElem?_eq_getElem (by omega))]
      exact (uL_get l i _ (List.getElem?_eq_getElem (by omega))).symm
    · rw [List.getElem?_eq_none (by simp; omega), List.getElem?_eq_none (by show (uL l).length ≤ i; rw [length_uL]; omega)]
  match l, hll with
  | [a, b, c, d, e, f, g, h], _ => exact ⟨⟨a, b, c, d, e, f, g, h⟩, by rw [hcs]; rfl⟩
end
theorem shablocksI (v : Go.Proofs.Ytanelemeljbbcaa.St) (b : List UInt8) (B : Option Addr) (n cb : Nat) (w : World) (hb : Rs w 1 B n cb (bL b)) : Calls Try.prog 5 #[.agg (uA v.list), .slice B n cb] w fun e w' => e = .returned (.bool true) ∧ Below w.heap.size w w' := by
  by_cases hn : n = 64
  · exact lawC (shablocks1 v b B n cb hn w hb)
  · exact lawC (shablocks2 v b B n cb hn w hb)
end Go.Proofs.Ytanelemeljbbcaa
