import Derived.Test.YtgaklngnfecdaaaMgJBack3
import Derived.Test.YtgaklngnfecdaaaMgJBack2
import Derived.Test.YtgaklngnfecdaaaMgJBack1
import Derived.Maps.Views
import Derived.StringKeys
import Derived.Shelf.Bytes.SlIndexAt
import Derived.Laws.Small

/-
  Same.
-/
namespace Go.Proofs.Ytgaklngnfecdaaa.Rev
open Go.RowKit Zk Zx
open Oid (idf hexL idf_len readR)
open Tre (nmOk)
set_option linter.unusedVariables false
set_option linter.unusedSimpArgs false

/-- Are two commits one? -/
def sameB (x y : Cm) : Bool := decide (x.tr = y.tr) && (decide (x.ps = y.ps) && (decide (x.au = y.au) && (decide (x.tm = y.tm) && decide (x.tx = y.tx))))
theorem tr_ne {x y : Cm} (h : ¬ x.tr.l = y.tr.l) : decide (x.tr = y.tr) = false := decide_eq_false fun e => h (by rw [e])
theorem tr_eq {x y : Cm} (h : x.tr.l = y.tr.l) : decide (x.tr = y.tr) = true := decide_eq_true (Oid.Id.ext h)
theorem all_take {l k : List Oid.Id} {i : Nat} (h : l.take i = k.take i) (h1 : l.length ≤ i) (h2 : k.length ≤ i) : l = k := by
  rwa [List.take_of_length_le h1, List.take_of_length_le h2] at h
theorem ps_take {l k : List Oid.Id} {i : Nat} {p q : Oid.Id} (hl : l[i]? = some p) (hk : k[i]? = some q) (h : l.take i = k.take i) (he : p = q) : l.take (i + 1) = k.take (i + 1) := by
  rw [List.take_add_one, List.take_add_one, hl, hk, h, he]


set_option maxRecDepth 100000 in
theorem rsame (x y : Cm) (w0 : World) (hx : Rs w0 32 x.A x.n x.c (x.ps.flatMap idf)) (hy : Rs w0 32 y.A y.n y.c (y.ps.flatMap idf)) :
    Calls Try.prog 37 #[.agg (cmf x).toArray, .agg (cmf y).toArray] w0 fun e w' => ∃ u, e = .returned u ∧ Like w0 w' ∧ u = .bool (sameB x y) := by
  refine enter1 (env := [(0, .agg (cmf x).toArray), (1, .agg (cmf y).toArray)]) [.agg (cmf x).toArray, .agg (cmf y).toArray] Try.func37 rfl Try.ntmps37 rfl rfl ?_
  have S0 := St.start w0 noM
  refine T_seq fun K1 hK1 => ?_
  refine T_region ?_
  refine L_o (o_box rfl S0 rfl fun b1 w1 hb1 S1 => ?_)
  refine L_o (o_box rfl S1 rfl fun b2 w2 hb2 S2 => ?_)
  refine L_y (y_assign rfl) rfl ?_
  refine L_nil ?_
  refine hK1 _ _ ?_
  refine T_seq fun K2 hK2 => ?_
  refine T_region ?_
  refine L_y (y_fieldA 0 Try.underlying26 rfl sz23 rfl rfl rfl) rfl ?_
  refine L_y (y_ldW Try.underlying23 rfl sz23 rfl (S2.blk 0 rfl) (cm_tr x)) rfl ?_
  refine L_y (y_fieldA 0 Try.underlying26 rfl sz23 rfl rfl rfl) rfl ?_
  refine L_y (y_ldW Try.underlying23 rfl sz23 rfl (S2.blk 1 rfl) (cm_tr y)) rfl ?_
  refine L_y (y_eqB Try.underlying23 Try.underlying5 sz5 (by kernel_rfl) rfl rfl (Oid.Id.h _) (Oid.Id.h _)) rfl ?_
  refine L_y (y_move rfl) rfl ?_
  refine L_split 10 rfl (fun h10 => ?_) (fun h10 => ?_)
  ·
    refine L_gyes rfl rfl ?_
    refine L_y (y_fieldA 32 Try.underlying26 rfl sz24 rfl rfl rfl) rfl ?_
    refine L_gyes rfl rfl ?_
    refine L_y (y_ldc Try.underlying24 rfl rfl (((S2.blk 0 rfl).cell _).trans (cm32 x))) rfl ?_
    refine L_gyes rfl rfl ?_
    refine L_y (y_fieldA 32 Try.underlying26 rfl sz24 rfl rfl rfl) rfl ?_
    refine L_gyes rfl rfl ?_
    refine L_y (y_ldc Try.underlying24 rfl rfl (((S2.blk 1 rfl).cell _).trans (cm32 y))) rfl ?_
    refine L_gyes rfl rfl ?_
    refine L_o (o_call Try.func47 rfl rfl (Oid.rsameI _ _ _ x.ps _ _ _ y.ps w2 (S2.rd hx) (S2.rd hy)) rfl rfl ?_)
    rintro e4 w4 ⟨v4, rfl, l4, rfl⟩
    refine ⟨_, rfl, ?_⟩
    have S4 := S2.like l4
    refine L_y ((by first | exact y_pickT rfl rfl | exact y_pickF rfl rfl)) rfl ?_
    refine L_y (y_move rfl) rfl ?_
    refine L_split 17 rfl (fun h17 => ?_) (fun h17 => ?_)
    ·
      refine L_gyes rfl rfl ?_
      refine L_y (y_fieldA 33 Try.underlying26 rfl sz9 rfl rfl rfl) rfl ?_
      refine L_gyes rfl rfl ?_
      refine L_y (y_ldc Try.underlying9 rfl rfl (((S4.blk 0 rfl).cell _).trans (cm33 x))) rfl ?_
      refine L_gyes rfl rfl ?_
      refine L_y (y_fieldA 33 Try.underlying26 rfl sz9 rfl rfl rfl) rfl ?_
      refine L_gyes rfl rfl ?_
      refine L_y (y_ldc Try.underlying9 rfl rfl (((S4.blk 1 rfl).cell _).trans (cm33 y))) rfl ?_
      refine L_gyes rfl rfl ?_
      refine L_y (y_seql rfl rfl) rfl ?_
      refine L_y ((by first | exact y_pickT rfl rfl | exact y_pickF rfl rfl)) rfl ?_
      refine L_y (y_move rfl) rfl ?_
      refine L_split 24 rfl (fun h24 => ?_) (fun h24 => ?_)
      ·
        refine L_gyes rfl rfl ?_
        refine L_y (y_fieldA 34 Try.underlying26 rfl sz3 rfl rfl rfl) rfl ?_
        refine L_gyes rfl rfl ?_
        refine L_y (y_ldc Try.underlying3 rfl rfl (((S4.blk 0 rfl).cell _).trans (cm34 x))) rfl ?_
        refine L_gyes rfl rfl ?_
        refine L_y (y_fieldA 34 Try.underlying26 rfl sz3 rfl rfl rfl) rfl ?_
        refine L_gyes rfl rfl ?_
        refine L_y (y_ldc Try.underlying3 rfl rfl (((S4.blk 1 rfl).cell _).trans (cm34 y))) rfl ?_
        refine L_gyes rfl rfl ?_
        refine L_y (y_eql rfl rfl) rfl ?_
        refine L_y ((by first | exact y_pickT rfl rfl | exact y_pickF rfl rfl)) rfl ?_
        refine L_y (y_move rfl) rfl ?_
        refine L_split 31 rfl (fun h31 => ?_) (fun h31 => ?_)
        ·
          refine L_gyes rfl rfl ?_
          refine L_y (y_fieldA 35 Try.underlying26 rfl sz9 rfl rfl rfl) rfl ?_
          refine L_gyes rfl rfl ?_
          refine L_y (y_ldc Try.underlying9 rfl rfl (((S4.blk 0 rfl).cell _).trans (cm35 x))) rfl ?_
          refine L_gyes rfl rfl ?_
          refine L_y (y_fieldA 35 Try.underlying26 rfl sz9 rfl rfl rfl) rfl ?_
          refine L_gyes rfl rfl ?_
          refine L_y (y_ldc Try.underlying9 rfl rfl (((S4.blk 1 rfl).cell _).trans (cm35 y))) rfl ?_
          refine L_gyes rfl rfl ?_
          refine L_y (y_seql rfl rfl) rfl ?_
          refine L_y ((by first | exact y_pickT rfl rfl | exact y_pickF rfl rfl)) rfl ?_
          refine L_y (y_assign rfl) rfl ?_
          refine L_nil ?_
          refine hK2 _ _ ?_
          refine T_ret ?_
          repeat (first | with_reducible refine up_then ?_ | with_reducible refine up_in ?_)
          refine ret1 rfl rfl ?_
          exact ⟨_, rfl, S4.like0, congrArg Value.bool (by unfold sameB; first | rw [tr_ne h10, Bool.false_and] | simp [tr_eq h10, h17, h24, h31] | simp [tr_eq h10, h17, h24] | simp [tr_eq h10, h17] | simp [tr_eq h10])⟩
        ·
          refine L_gno rfl rfl rfl ?_
          refine L_gno rfl rfl rfl ?_
          refine L_gno rfl rfl rfl ?_
          refine L_gno rfl rfl rfl ?_
          refine L_gno rfl rfl rfl ?_
          refine L_y ((by first | exact y_pickT rfl rfl | exact y_pickF rfl rfl)) rfl ?_
          refine L_y (y_assign rfl) rfl ?_
          refine L_nil ?_
          refine hK2 _ _ ?_
          refine T_ret ?_
          repeat (first | with_reducible refine up_then ?_ | with_reducible refine up_in ?_)
          refine ret1 rfl rfl ?_
          exact ⟨_, rfl, S4.like0, congrArg Value.bool (by unfold sameB; first | rw [tr_ne h10, Bool.false_and] | simp [tr_eq h10, h17, h24, h31] | simp [tr_eq h10, h17, h24] | simp [tr_eq h10, h17] | simp [tr_eq h10])⟩
      ·
        refine L_gno rfl rfl rfl ?_
        refine L_gno rfl rfl rfl ?_
        refine L_gno rfl rfl rfl ?_
        refine L_gno rfl rfl rfl ?_
        refine L_gno rfl rfl rfl ?_
        refine L_y ((by first | exact y_pickT rfl rfl | exact y_pickF rfl rfl)) rfl ?_
        refine L_y (y_move rfl) rfl ?_
        refine L_gno rfl rfl rfl ?_
        refine L_gno rfl rfl rfl ?_
        refine L_gno rfl rfl rfl ?_
        refine L_gno rfl rfl rfl ?_
        refine L_gno rfl rfl rfl ?_
        refine L_y ((by first | exact y_pickT rfl rfl | exact y_pickF rfl rfl)) rfl ?_
        refine L_y (y_assign rfl) rfl ?_
        refine L_nil ?_
        refine hK2 _ _ ?_
        refine T_ret ?_
        repeat (first | with_reducible refine up_then ?_ | with_reducible refine up_in ?_)
        refine ret1 rfl rfl ?_
        exact ⟨_, rfl, S4.like0, congrArg Value.bool (by unfold sameB; first | rw [tr_ne h10, Bool.false_and] | simp [tr_eq h10, h17, h24, h31] | simp [tr_eq h10, h17, h24] | simp [tr_eq h10, h17] | simp [tr_eq h10])⟩
    ·
      refine L_gno rfl rfl rfl ?_
      refine L_gno rfl rfl rfl ?_
      refine L_gno rfl rfl rfl ?_
      refine L_gno rfl rfl rfl ?_
      refine L_gno rfl rfl rfl ?_
      refine L_y ((by first | exact y_pickT rfl rfl | exact y_pickF rfl rfl)) rfl ?_
      refine L_y (y_move rfl) rfl ?_
      refine L_gno rfl rfl rfl ?_
      refine L_gno rfl rfl rfl ?_
      refine L_gno rfl rfl rfl ?_
      refine L_gno rfl rfl rfl ?_
      refine L_gno rfl rfl rfl ?_
      refine L_y ((by first | exact y_pickT rfl rfl | exact y_pickF rfl rfl)) rfl ?_
      refine L_y (y_move rfl) rfl ?_
      refine L_gno rfl rfl rfl ?_
      refine L_gno rfl rfl rfl ?_
      refine L_gno rfl rfl rfl ?_
      refine L_gno rfl rfl rfl ?_
      refine L_gno rfl rfl rfl ?_
      refine L_y ((by first | exact y_pickT rfl rfl | exact y_pickF rfl rfl)) rfl ?_
      refine L_y (y_assign rfl) rfl ?_
      refine L_nil ?_
      refine hK2 _ _ ?_
      refine T_ret ?_
      repeat (first | with_reducible refine up_then ?_ | with_reducible refine up_in ?_)
      refine ret1 rfl rfl ?_
      exact ⟨_, rfl, S4.like0, congrArg Value.bool (by unfold sameB; first | rw [tr_ne h10, Bool.false_and] | simp [tr_eq h10, h17, h24, h31] | simp [tr_eq h10, h17, h24] | simp [tr_eq h10, h17] | simp [tr_eq h10])⟩
  ·
    refine L_gno rfl rfl rfl ?_
    refine L_gno rfl rfl rfl ?_
    refine L_gno rfl rfl rfl ?_
    refine L_gno rfl rfl rfl ?_
    refine L_gno rfl rfl rfl ?_
    refine L_y ((by first | exact y_pickT rfl rfl | exact y_pickF rfl rfl)) rfl ?_
    refine L_y (y_move rfl) rfl ?_
    refine L_gno rfl rfl rfl ?_
    refine L_gno rfl rfl rfl ?_
    refine L_gno rfl rfl rfl ?_
    refine L_gno rfl rfl rfl ?_
    refine L_gno rfl rfl rfl ?_
    refine L_y ((by first | exact y_pickT rfl rfl | exact y_pickF rfl rfl)) rfl ?_
    refine L_y (y_move rfl) rfl ?_
    refine L_gno rfl rfl rfl ?_
    refine L_gno rfl rfl rfl ?_
    refine L_gno rfl rfl rfl ?_
    refine L_gno rfl rfl rfl ?_
    refine L_gno rfl rfl rfl ?_
    refine L_y ((by first | exact y_pickT rfl rfl | exact y_pickF rfl rfl)) rfl ?_
    refine L_y (y_move rfl) rfl ?_
    refine L_gno rfl rfl rfl ?_
    refine L_gno rfl rfl rfl ?_
    refine L_gno rfl rfl rfl ?_
    refine L_gno rfl rfl rfl ?_
    refine L_gno rfl rfl rfl ?_
    refine L_y ((by first | exact y_pickT rfl rfl | exact y_pickF rfl rfl)) rfl ?_
    refine L_y (y_assign rfl) rfl ?_
    refine L_nil ?_
    refine hK2 _ _ ?_
    refine T_ret ?_
    repeat (first | with_reducible refine up_then ?_ | with_reducible refine up_in ?_)
    refine ret1 rfl rfl ?_
    exact ⟨_, rfl, S2.like0, congrArg Value.bool (by unfold sameB; first | rw [tr_ne h10, Bool.false_and] | simp [tr_eq h10, h17, h24, h31] | simp [tr_eq h10, h17, h24] | simp [tr_eq h10, h17] | simp [tr_eq h10])⟩


set_option maxRecDepth 100000 in
theorem equal (A : Option Addr) (n c : Nat) (l : List Oid.Id) (B : Option Addr) (m d : Nat) (r : List Oid.Id) (w0 : World) (hl : Rs w0 32 A n c (l.flatMap idf)) (hr : Rs w0 32 B m d (r.flatMap idf)) :
    Calls Try.prog 86 #[.slice A n c, .slice B m d] w0 fun e w' => ∃ u, e = .returned u ∧ Like w0 w' ∧ u = .bool (decide (l = r)) := by
  refine enter1 (env := [(0, .slice A n c), (1, .slice B m d)]) [.slice A n c, .slice B m d] Try.func86 rfl Try.ntmps86 rfl rfl ?_
  have hn := Oid.ids_n hl; have hm := Oid.ids_n hr; have hcap := hl.cap; have hmax := hl.max; have hcap2 := hr.cap; have hmax2 := hr.max
  have S0 := St.start w0 noM
  refine T_seq fun K1 hK1 => ?_
  refine T_region ?_
  refine L_y (y_assign rfl) rfl ?_
  refine L_nil ?_
  refine hK1 _ _ ?_
  refine T_seq fun K2 hK2 => ?_
  refine T_seq fun K3 hK3 => ?_
  refine T_region ?_
  refine L_y (y_move rfl) rfl ?_
  refine L_y (y_len Try.underlying24 rfl) rfl ?_
  refine L_y (y_move rfl) rfl ?_
  refine L_y (y_len Try.underlying24 rfl) rfl ?_
  refine L_y (y_neq rfl rfl) rfl ?_
  refine L_nil ?_
  refine hK3 _ _ ?_
  refine T_cond rfl (fun h10 => ?_) (fun h10 => ?_)
  ·
    refine T_seq fun K4 hK4 => ?_
    refine T_region ?_
    refine L_y (y_assign rfl) rfl ?_
    refine L_nil ?_
    refine hK4 _ _ ?_
    refine T_ret ?_
    repeat (first | with_reducible refine up_then ?_ | with_reducible refine up_in ?_)
    refine ret1 rfl rfl ?_
    exact ⟨_, rfl, S0.like0, congrArg Value.bool (by first | exact (decide_eq_false (fun e => h24 (by rw [e, hq] at hp; cases hp; rfl))).symm | exact (decide_eq_true (all_take htk (by omega) (by omega))).symm | exact (decide_eq_false (fun e => h10 (by rw [hn, hm, e]))).symm)⟩
  ·
    refine T_skip ?_
    refine hK2 _ _ ?_
    refine T_seq fun K5 hK5 => ?_
    refine T_seq fun K6 hK6 => ?_
    refine T_region ?_
    refine L_y (y_move rfl) rfl ?_
    refine L_y (y_len Try.underlying24 rfl) rfl ?_
    refine L_y (y_move rfl) rfl ?_
    refine L_nil ?_
    refine hK6 _ _ ?_
    refine T_block ?_
    refine T_loop1 [(0, _), (1, _), (12, _)] (fun (k : Nat) => [(13, .int .i64 (k : Int))]) (fun (k : Nat) => l.length - k) (fun (k : Nat) (w : World) => (k ≤ l.length ∧ l.take k = r.take k) ∧ St w0 noM [] w) 0 (Sub.cons rfl (by first | rfl | exact congrArg (Value.int _) (by omega)) (Sub.nil _)) (Sub.cons rfl rfl (Sub.cons rfl rfl (Sub.cons rfl rfl (Sub.nil _)))) ?_ ?_
    ·
      exact ⟨⟨by omega, by simp⟩, S0⟩
    ·
      intro k w1 hrel
      obtain ⟨⟨hk, htk⟩, S1⟩ := hrel
      refine T_seq fun K7 hK7 => ?_
      refine T_region ?_
      refine L_y (y_lss rfl rfl) rfl ?_
      refine L_nil ?_
      refine hK7 _ _ ?_
      refine T_seq fun K8 hK8 => ?_
      refine T_cond rfl (fun h14 => ?_) (fun h14 => ?_)
      ·
        obtain ⟨p, hp⟩ : ∃ p, l[k]? = some p := ⟨_, List.getElem?_eq_getElem (by omega)⟩
        obtain ⟨q, hq⟩ : ∃ q, r[k]? = some q := ⟨_, List.getElem?_eq_getElem (by omega)⟩
        refine T_skip ?_
        refine hK8 _ _ ?_
        refine T_seq fun K9 hK9 => ?_
        refine T_block ?_
        refine T_seq fun K10 hK10 => ?_
        refine T_region ?_
        refine L_y (y_move rfl) rfl ?_
        refine L_y (y_assign rfl) rfl ?_
        refine L_nil ?_
        refine hK10 _ _ ?_
        refine T_seq fun K11 hK11 => ?_
        refine T_drawnL [(0, true), (1, true), (2, true), (3, true), (4, true), (5, true), (6, true), (7, true), (8, true)] hmix (by kernel_rfl) fun w2 l2 => ?_
        have S2 := S1.like l2
        refine DL_y rfl (y_move rfl) rfl ?_
        refine DL_y rfl (y_move rfl) rfl ?_
        refine DL_y rfl (y_idx Try.underlying24 sz23 rfl rfl (S2.rd hl) inferInstance (by omega)) rfl ?_
        refine DL_y rfl (y_ldp (f := idf) idf_len Try.underlying23 rfl sz23 rfl (S2.rd hl) (by omega) hp) rfl ?_
        refine DL_y rfl (y_move rfl) rfl ?_
        refine DL_y rfl (y_move rfl) rfl ?_
        refine DL_y rfl (y_idx Try.underlying24 sz23 rfl rfl (S2.rd hr) inferInstance (by omega)) rfl ?_
        refine DL_y rfl (y_ldp (f := idf) idf_len Try.underlying23 rfl sz23 rfl (S2.rd hr) (by omega) hq) rfl ?_
        refine DL_y rfl (y_neB Try.underlying23 Try.underlying5 sz5 (by kernel_rfl) rfl rfl (Oid.Id.h _) (Oid.Id.h _)) rfl ?_
        refine DL_nil ?_
        refine hK11 _ _ ?_
        refine T_cond rfl (fun h24 => ?_) (fun h24 => ?_)
        ·
          refine T_seq fun K12 hK12 => ?_
          refine T_region ?_
          refine L_y (y_assign rfl) rfl ?_
          refine L_nil ?_
          refine hK12 _ _ ?_
          refine T_ret ?_
          repeat (first | with_reducible refine up_then ?_ | with_reducible refine up_in ?_)
          refine ret1 rfl rfl ?_
          exact ⟨_, rfl, S2.like0, congrArg Value.bool (by first | exact (decide_eq_false (fun e => h24 (by rw [e, hq] at hp; cases hp; rfl))).symm | exact (decide_eq_true (all_take htk (by omega) (by omega))).symm | exact (decide_eq_false (fun e => h10 (by rw [hn, hm, e]))).symm)⟩
        ·
          refine T_skip ?_
          refine hK9 _ _ ?_
          refine T_region ?_
          refine L_y (y_add rfl rfl (i64w (by omega))) rfl ?_
          refine L_y (y_move rfl) rfl ?_
          refine L_nil ?_
          refine ⟨k + 1, by omega, ⟨⟨by omega, ps_take hp hq htk (Oid.Id.ext (Classical.byContradiction fun e => h24 e))⟩, S2⟩, ?_⟩
          exact (Sub.cons rfl (by first | rfl | exact congrArg (Value.int _) (by omega)) (Sub.cons rfl rfl (Sub.cons rfl rfl (Sub.cons rfl rfl (Sub.nil _)))))
      ·
        refine T_exit ?_
        refine hK5 _ _ ?_
        refine T_seq fun K13 hK13 => ?_
        refine T_region ?_
        refine L_y (y_assign rfl) rfl ?_
        refine L_nil ?_
        refine hK13 _ _ ?_
        refine T_ret ?_
        repeat (first | with_reducible refine up_then ?_ | with_reducible refine up_in ?_)
        refine ret1 rfl rfl ?_
        exact ⟨_, rfl, S1.like0, congrArg Value.bool (by first | exact (decide_eq_false (fun e => h24 (by rw [e, hq] at hp; cases hp; rfl))).symm | exact (decide_eq_true (all_take htk (by omega) (by omega))).symm | exact (decide_eq_false (fun e => h10 (by rw [hn, hm, e]))).symm)⟩


set_option maxRecDepth 100000 in
theorem same (x y : Cm) (w0 : World) (hx : Rs w0 32 x.A x.n x.c (x.ps.flatMap idf)) (hy : Rs w0 32 y.A y.n y.c (y.ps.flatMap idf)) :
    Calls Try.prog 38 #[.agg (cmf x).toArray, .agg (cmf y).toArray] w0 fun e w' => ∃ u, e = .returned u ∧ Like w0 w' ∧ u = .bool (sameB x y) := by
  refine enter1 (env := [(0, .agg (cmf x).toArray), (1, .agg (cmf y).toArray)]) [.agg (cmf x).toArray, .agg (cmf y).toArray] Try.func38 rfl Try.ntmps38 rfl rfl ?_
  have S0 := St.start w0 noM
  refine T_seq fun K1 hK1 => ?_
  refine T_region ?_
  refine L_o (o_box rfl S0 rfl fun b1 w1 hb1 S1 => ?_)
  refine L_o (o_box rfl S1 rfl fun b2 w2 hb2 S2 => ?_)
  refine L_y (y_assign rfl) rfl ?_
  refine L_nil ?_
  refine hK1 _ _ ?_
  refine T_seq fun K2 hK2 => ?_
  refine T_region ?_
  refine L_y (y_fieldA 0 Try.underlying26 rfl sz23 rfl rfl rfl) rfl ?_
  refine L_y (y_ldW Try.underlying23 rfl sz23 rfl (S2.blk 0 rfl) (cm_tr x)) rfl ?_
  refine L_y (y_fieldA 0 Try.underlying26 rfl sz23 rfl rfl rfl) rfl ?_
  refine L_y (y_ldW Try.underlying23 rfl sz23 rfl (S2.blk 1 rfl) (cm_tr y)) rfl ?_
  refine L_y (y_eqB Try.underlying23 Try.underlying5 sz5 (by kernel_rfl) rfl rfl (Oid.Id.h _) (Oid.Id.h _)) rfl ?_
  refine L_y (y_move rfl) rfl ?_
  refine L_split 10 rfl (fun h10 => ?_) (fun h10 => ?_)
  ·
    refine L_gyes rfl rfl ?_
    refine L_y (y_fieldA 32 Try.underlying26 rfl sz24 rfl rfl rfl) rfl ?_
    refine L_gyes rfl rfl ?_
    refine L_y (y_ldc Try.underlying24 rfl rfl (((S2.blk 0 rfl).cell _).trans (cm32 x))) rfl ?_
    refine L_gyes rfl rfl ?_
    refine L_y (y_fieldA 32 Try.underlying26 rfl sz24 rfl rfl rfl) rfl ?_
    refine L_gyes rfl rfl ?_
    refine L_y (y_ldc Try.underlying24 rfl rfl (((S2.blk 1 rfl).cell _).trans (cm32 y))) rfl ?_
    refine L_gyes rfl rfl ?_
    refine L_o (o_call Try.func86 rfl rfl (equal _ _ _ x.ps _ _ _ y.ps w2 (S2.rd hx) (S2.rd hy)) rfl rfl ?_)
    rintro e4 w4 ⟨v4, rfl, l4, rfl⟩
    refine ⟨_, rfl, ?_⟩
    have S4 := S2.like l4
    refine L_y ((by first | exact y_pickT rfl rfl | exact y_pickF rfl rfl)) rfl ?_
    refine L_y (y_move rfl) rfl ?_
    refine L_split 17 rfl (fun h17 => ?_) (fun h17 => ?_)
    ·
      refine L_gyes rfl rfl ?_
      refine L_y (y_fieldA 33 Try.underlying26 rfl sz9 rfl rfl rfl) rfl ?_
      refine L_gyes rfl rfl ?_
      refine L_y (y_ldc Try.underlying9 rfl rfl (((S4.blk 0 rfl).cell _).trans (cm33 x))) rfl ?_
      refine L_gyes rfl rfl ?_
      refine L_y (y_fieldA 33 Try.underlying26 rfl sz9 rfl rfl rfl) rfl ?_
      refine L_gyes rfl rfl ?_
      refine L_y (y_ldc Try.underlying9 rfl rfl (((S4.blk 1 rfl).cell _).trans (cm33 y))) rfl ?_
      refine L_gyes rfl rfl ?_
      refine L_y (y_seql rfl rfl) rfl ?_
      refine L_y ((by first | exact y_pickT rfl rfl | exact y_pickF rfl rfl)) rfl ?_
      refine L_y (y_move rfl) rfl ?_
      refine L_split 24 rfl (fun h24 => ?_) (fun h24 => ?_)
      ·
        refine L_gyes rfl rfl ?_
        refine L_y (y_fieldA 34 Try.underlying26 rfl sz3 rfl rfl rfl) rfl ?_
        refine L_gyes rfl rfl ?_
        refine L_y (y_ldc Try.underlying3 rfl rfl (((S4.blk 0 rfl).cell _).trans (cm34 x))) rfl ?_
        refine L_gyes rfl rfl ?_
        refine L_y (y_fieldA 34 Try.underlying26 rfl sz3 rfl rfl rfl) rfl ?_
        refine L_gyes rfl rfl ?_
        refine L_y (y_ldc Try.underlying3 rfl rfl (((S4.blk 1 rfl).cell _).trans (cm34 y))) rfl ?_
        refine L_gyes rfl rfl ?_
        refine L_y (y_eql rfl rfl) rfl ?_
        refine L_y ((by first | exact y_pickT rfl rfl | exact y_pickF rfl rfl)) rfl ?_
        refine L_y (y_move rfl) rfl ?_
        refine L_split 31 rfl (fun h31 => ?_) (fun h31 => ?_)
        ·
          refine L_gyes rfl rfl ?_
          refine L_y (y_fieldA 35 Try.underlying26 rfl sz9 rfl rfl rfl) rfl ?_
          refine L_gyes rfl rfl ?_
          refine L_y (y_ldc Try.underlying9 rfl rfl (((S4.blk 0 rfl).cell _).trans (cm35 x))) rfl ?_
          refine L_gyes rfl rfl ?_
          refine L_y (y_fieldA 35 Try.underlying26 rfl sz9 rfl rfl rfl) rfl ?_
          refine L_gyes rfl rfl ?_
          refine L_y (y_ldc Try.underlying9 rfl rfl (((S4.blk 1 rfl).cell _).trans (cm35 y))) rfl ?_
          refine L_gyes rfl rfl ?_
          refine L_y (y_seql rfl rfl) rfl ?_
          refine L_y ((by first | exact y_pickT rfl rfl | exact y_pickF rfl rfl)) rfl ?_
          refine L_y (y_assign rfl) rfl ?_
          refine L_nil ?_
          refine hK2 _ _ ?_
          refine T_ret ?_
          repeat (first | with_reducible refine up_then ?_ | with_reducible refine up_in ?_)
          refine ret1 rfl rfl ?_
          exact ⟨_, rfl, S4.like0, congrArg Value.bool (by unfold sameB; first | rw [tr_ne h10, Bool.false_and] | simp [tr_eq h10, h17, h24, h31] | simp [tr_eq h10, h17, h24] | simp [tr_eq h10, h17] | simp [tr_eq h10])⟩
        ·
          refine L_gno rfl rfl rfl ?_
          refine L_gno rfl rfl rfl ?_
          refine L_gno rfl rfl rfl ?_
          refine L_gno rfl rfl rfl ?_
          refine L_gno rfl rfl rfl ?_
          refine L_y ((by first | exact y_pickT rfl rfl | exact y_pickF rfl rfl)) rfl ?_
          refine L_y (y_assign rfl) rfl ?_
          refine L_nil ?_
          refine hK2 _ _ ?_
          refine T_ret ?_
          repeat (first | with_reducible refine up_then ?_ | with_reducible refine up_in ?_)
          refine ret1 rfl rfl ?_
          exact ⟨_, rfl, S4.like0, congrArg Value.bool (by unfold sameB; first | rw [tr_ne h10, Bool.false_and] | simp [tr_eq h10, h17, h24, h31] | simp [tr_eq h10, h17, h24] | simp [tr_eq h10, h17] | simp [tr_eq h10])⟩
      ·
        refine L_gno rfl rfl rfl ?_
        refine L_gno rfl rfl rfl ?_
        refine L_gno rfl rfl rfl ?_
        refine L_gno rfl rfl rfl ?_
        refine L_gno rfl rfl rfl ?_
        refine L_y ((by first | exact y_pickT rfl rfl | exact y_pickF rfl rfl)) rfl ?_
        refine L_y (y_move rfl) rfl ?_
        refine L_gno rfl rfl rfl ?_
        refine L_gno rfl rfl rfl ?_
        refine L_gno rfl rfl rfl ?_
        refine L_gno rfl rfl rfl ?_
        refine L_gno rfl rfl rfl ?_
        refine L_y ((by first | exact y_pickT rfl rfl | exact y_pickF rfl rfl)) rfl ?_
        refine L_y (y_assign rfl) rfl ?_
        refine L_nil ?_
        refine hK2 _ _ ?_
        refine T_ret ?_
        repeat (first | with_reducible refine up_then ?_ | with_reducible refine up_in ?_)
        refine ret1 rfl rfl ?_
        exact ⟨_, rfl, S4.like0, congrArg Value.bool (by unfold sameB; first | rw [tr_ne h10, Bool.false_and] | simp [tr_eq h10, h17, h24, h31] | simp [tr_eq h10, h17, h24] | simp [tr_eq h10, h17] | simp [tr_eq h10])⟩
    ·
      refine L_gno rfl rfl rfl ?_
      refine L_gno rfl rfl rfl ?_
      refine L_gno rfl rfl rfl ?_
      refine L_gno rfl rfl rfl ?_
      refine L_gno rfl rfl rfl ?_
      refine L_y ((by first | exact y_pickT rfl rfl | exact y_pickF rfl rfl)) rfl ?_
      refine L_y (y_move rfl) rfl ?_
      refine L_gno rfl rfl rfl ?_
      refine L_gno rfl rfl rfl ?_
      refine L_gno rfl rfl rfl ?_
      refine L_gno rfl rfl rfl ?_
      refine L_gno rfl rfl rfl ?_
      refine L_y ((by first | exact y_pickT rfl rfl | exact y_pickF rfl rfl)) rfl ?_
      refine L_y (y_move rfl) rfl ?_
      refine L_gno rfl rfl rfl ?_
      refine L_gno rfl rfl rfl ?_
      refine L_gno rfl rfl rfl ?_
      refine L_gno rfl rfl rfl ?_
      refine L_gno rfl rfl rfl ?_
      refine L_y ((by first | exact y_pickT rfl rfl | exact y_pickF rfl rfl)) rfl ?_
      refine L_y (y_assign rfl) rfl ?_
      refine L_nil ?_
      refine hK2 _ _ ?_
      refine T_ret ?_
      repeat (first | with_reducible refine up_then ?_ | with_reducible refine up_in ?_)
      refine ret1 rfl rfl ?_
      exact ⟨_, rfl, S4.like0, congrArg Value.bool (by unfold sameB; first | rw [tr_ne h10, Bool.false_and] | simp [tr_eq h10, h17, h24, h31] | simp [tr_eq h10, h17, h24] | simp [tr_eq h10, h17] | simp [tr_eq h10])⟩
  ·
    refine L_gno rfl rfl rfl ?_
    refine L_gno rfl rfl rfl ?_
    refine L_gno rfl rfl rfl ?_
    refine L_gno rfl rfl rfl ?_
    refine L_gno rfl rfl rfl ?_
    refine L_y ((by first | exact y_pickT rfl rfl | exact y_pickF rfl rfl)) rfl ?_
    refine L_y (y_move rfl) rfl ?_
    refine L_gno rfl rfl rfl ?_
    refine L_gno rfl rfl rfl ?_
    refine L_gno rfl rfl rfl ?_
    refine L_gno rfl rfl rfl ?_
    refine L_gno rfl rfl rfl ?_
    refine L_y ((by first | exact y_pickT rfl rfl | exact y_pickF rfl rfl)) rfl ?_
    refine L_y (y_move rfl) rfl ?_
    refine L_gno rfl rfl rfl ?_
    refine L_gno rfl rfl rfl ?_
    refine L_gno rfl rfl rfl ?_
    refine L_gno rfl rfl rfl ?_
    refine L_gno rfl rfl rfl ?_
    refine L_y ((by first | exact y_pickT rfl rfl | exact y_pickF rfl rfl)) rfl ?_
    refine L_y (y_move rfl) rfl ?_
    refine L_gno rfl rfl rfl ?_
    refine L_gno rfl rfl rfl ?_
    refine L_gno rfl rfl rfl ?_
    refine L_gno rfl rfl rfl ?_
    refine L_gno rfl rfl rfl ?_
    refine L_y ((by first | exact y_pickT rfl rfl | exact y_pickF rfl rfl)) rfl ?_
    refine L_y (y_assign rfl) rfl ?_
    refine L_nil ?_
    refine hK2 _ _ ?_
    refine T_ret ?_
    repeat (first | with_reducible refine up_then ?_ | with_reducible refine up_in ?_)
    refine ret1 rfl rfl ?_
    exact ⟨_, rfl, S2.like0, congrArg Value.bool (by unfold sameB; first | rw [tr_ne h10, Bool.false_and] | simp [tr_eq h10, h17, h24, h31] | simp [tr_eq h10, h17, h24] | simp [tr_eq h10, h17] | simp [tr_eq h10])⟩
end Go.Proofs.Ytgaklngnfecdaaa.Rev


/-
  The law RevGets.
-/
namespace Go.Proofs.Ytgaklngnfecdaaa.Rev
open Go.RowKit Zk Zx
open Oid (idf hexL idf_len readR)
open Tre (nmOk)
set_option linter.unusedVariables false
set_option linter.unusedSimpArgs false

end Go.Proofs.Ytgaklngnfecdaaa.Rev


/-
  A commit's bytes and back: plain laws.
-/
namespace Go.Proofs.Ytgaklngnfecdaaa.Rev
open Go.RowKit Zk Zx
open Oid (idf hexL idf_len readR read_hex hex_read)
open Tre (nmOk)
set_option linter.unusedVariables false
set_option linter.unusedSimpArgs false

/-! ### numbers -/
theorem getD_left (a b : List UInt8) (h : 0 < a.length) : (a ++ b).getD 0 0 = a.getD 0 0 := by
  cases a with
  | nil => cases h
  | cons x r => rfl
theorem numV_dg0 : ∀ (k n : Nat), n ≤ k → numV (dg0 n) = n
  | 0, n, h => by
    obtain rfl : n = 0 := by omega
    rw [dg0_zero]
    rfl
  | k + 1, n, h => by
    by_cases h0 : n = 0
    · rw [h0, dg0_zero]; rfl
    · rw [dg0_step n (by omega), numV_snoc, numV_dg0 k (n / 10) (by omega), dig_nat]
      omega
theorem numV_dgt (n : Nat) : numV (dgt n) = n := by
  rw [dgt_eq, numV_snoc, numV_dg0 _ (n / 10) (Nat.le_refl _), dig_nat]
  omega
theorem isD_dig (n : Nat) : isD (dig n) = true := by
  unfold isD
  rw [dig_nat, decide_eq_true (by omega), decide_eq_true (by omega)]
  rfl
theorem all_dg0 : ∀ (k n : Nat), n ≤ k → (dg0 n).all isD = true
  | 0, n, h => by
    obtain rfl : n = 0 := by omega
    rw [dg0_zero]
    rfl
  | k + 1, n, h => by
    by_cases h0 : n = 0
    · rw [h0, dg0_zero]; rfl
    · rw [dg0_step n (by omega), List.all_append, all_dg0 k (n / 10) (by omega)]
      simp [isD_dig]
theorem all_dgt (n : Nat) : (dgt n).all isD = true := by
  rw [dgt_eq, List.all_append, all_dg0 _ (n / 10) (Nat.le_refl _)]
  simp [isD_dig]
theorem dg0_first : ∀ (k n : Nat), n ≤ k → 0 < n → (dg0 n).getD 0 0 ≠ 48
  | 0, n, h, h0 => by omega
  | k + 1, n, h, h0 => by
    rw [dg0_step n h0]
    by_cases h1 : n / 10 = 0
    · rw [h1, dg0_zero]
      show dig n ≠ 48
      intro e
      have := congrArg UInt8.toNat e
      rw [dig_nat] at this
      have h48 : (48 : UInt8).toNat = 48 := rfl
      omega
    · have ih := dg0_first k (n / 10) (by omega) (by omega)
      have hl : 0 < (dg0 (n / 10)).length := by
        rw [dg0_step (n / 10) (by omega), List.length_append]
        simp
      rwa [getD_left _ _ hl]
theorem dgt_pos0 {n : Nat} (h : 0 < n) : dgt n = dg0 n := by rw [dg0, if_neg (by omega)]
theorem numOk_dgt {n : Nat} (h : n < 10 ^ 15) : numOk (dgt n) = true := by
  unfold numOk
  rw [all_dgt, Bool.and_true, decide_eq_true_eq]
  refine ⟨dgt_pos n, dgt_len 14 n h, fun h2 => ?_⟩
  by_cases h0 : n = 0
  · have := dgt_len 0 n (by omega)
    omega
  · rw [dgt_pos0 (by omega)] at h2
    exact dg0_first _ n (Nat.le_refl _) (by omega) h2.1
theorem dig_of {c : UInt8} {m : Nat} (h : isD c = true) : dig (m * 10 + (c.toNat - 48)) = c := by
  have := isD_lo h
  apply UInt8.toNat_inj.1
  rw [dig_nat]
  omega
theorem dg0_numV : ∀ (k : Nat) (a : List UInt8), a.length = k → a.all isD = true → a.getD 0 0 ≠ 48 → dg0 (numV a) = a
  | 0, a, h, _, _ => by
    obtain rfl := List.eq_nil_of_length_eq_zero h
    exact dg0_zero
  | k + 1, a, h, hd, h0 => by
    have hne : a ≠ [] := fun e => by rw [e] at h; cases h
    obtain ⟨b, c, rfl⟩ : ∃ b c, a = b ++ [c] := ⟨a.dropLast, a.getLast hne, (List.dropLast_concat_getLast hne).symm⟩
    rw [List.all_append] at hd
    simp only [Bool.and_eq_true] at hd
    have hc : isD c = true := by simpa using hd.2
    have hl : b.length = k := by simpa using h
    have hlo := isD_lo hc
    rw [numV_snoc]
    cases hb : b with
    | nil =>
      rw [hb] at h0
      have h1 : c ≠ 48 := h0
      have h2 : c.toNat ≠ 48 := fun e => h1 (UInt8.toNat_inj.1 e)
      show dg0 (0 * 10 + (c.toNat - 48)) = [c]
      rw [dg0_step _ (by omega), show (0 * 10 + (c.toNat - 48)) / 10 = 0 by omega, dg0_zero, dig_of hc]
      rfl
    | cons x r =>
      have hbl : 0 < b.length := by rw [hb]; simp
      rw [getD_left _ _ hbl] at h0
      have ih := dg0_numV k b hl hd.1 h0
      rw [← hb]
      have hp : 0 < numV b := Nat.pos_of_ne_zero fun e => by
        rw [e, dg0_zero] at ih
        rw [← ih] at hbl
        cases hbl
      rw [dg0_step _ (by omega), show (numV b * 10 + (c.toNat - 48)) / 10 = numV b by omega, ih, dig_of hc]
theorem dgt_numV {a : List UInt8} (h : numOk a = true) : dgt (numV a) = a := by
  unfold numOk at h
  rw [Bool.and_eq_true, decide_eq_true_eq] at h
  obtain ⟨⟨h1, h2, h3⟩, h4⟩ := h
  by_cases h0 : a.getD 0 0 = 48
  · have hl : a.length = 1 := by
      have : ¬ 1 < a.length := fun e => h3 ⟨h0, e⟩
      omega
    obtain ⟨c, rfl⟩ := List.length_eq_one_iff.1 hl
    have hc : c = 48 := h0
    subst hc
    show dgt 0 = [48]
    rw [dgt_eq, show 0 / 10 = 0 from rfl, dg0_zero]
    rfl
  · have ih := dg0_numV _ a rfl h4 h0
    have hp : 0 < numV a := Nat.pos_of_ne_zero fun e => by
      rw [e, dg0_zero] at ih
      rw [← ih] at h1
      simp at h1
    rw [dgt_pos0 hp, ih]
theorem no10 {a : List UInt8} (h : a.all isD = true) : (10 : UInt8) ∉ a := fun hm => by
  rw [List.all_eq_true] at h
  have := h 10 hm
  revert this
  decide
/-! ### lines -/
theorem lineR_of {w a r : List UInt8} (hw : (10 : UInt8) ∉ w) (ha : (10 : UInt8) ∉ a) : lineR w (lineL w a ++ r) = some (a, r) := by
  have e : lineL w a ++ r = (w ++ [32] ++ a) ++ 10 :: r := by simp [lineL]
  rw [e]
  have hc := cutF_of (c := 10) (a := w ++ [32] ++ a) (b := r) (by simp [hw, ha])
  have hp : preP ((w ++ [32] ++ a) ++ 10 :: r) (w ++ [32]) := by
    unfold preP
    rw [List.append_assoc (w ++ [32]), List.take_left']
    rfl
  rw [lineR_yes hc ⟨hp, by simp⟩]
  congr 2
  rw [show w.length + 1 = (w ++ [32]).length by simp, List.drop_left]
theorem lineR_is {w s a b : List UInt8} (h : lineR w s = some (a, b)) : s = lineL w a ++ b := by
  unfold lineR at h
  split at h
  · cases h
  · rename_i a' b' hc
    split at h
    · rename_i hp
      cases h
      obtain ⟨h1, _⟩ := cutF_some hc
      have h2 : s.take (w ++ [32]).length = w ++ [32] := hp.1
      rw [h1, List.take_append_of_le_length (by rw [List.length_append]; simp; omega)] at h2
      have h3 : a' = (w ++ [32]) ++ a'.drop (w.length + 1) := by
        conv => lhs; rw [← List.take_append_drop (w ++ [32]).length a', h2]
        simp
      rw [h1]
      conv => lhs; rw [h3]
      simp [lineL]
    · cases h
theorem hex_no (z : List UInt8) : (10 : UInt8) ∉ hexL z := fun hm => by
  have := List.all_eq_true.1 (Oid.okS_hexL z) 10 hm
  revert this
  decide
theorem idR_of {w r : List UInt8} (p : Oid.Id) (hw : (10 : UInt8) ∉ w) : idR w (lineL w (hexL p.l) ++ r) = some (p, r) := by
  unfold idR
  rw [lineR_of hw (hex_no _)]
  have h := read_hex p.l p.h
  simp only [h, if_pos]
theorem idR_is {w s b : List UInt8} {p : Oid.Id} (h : idR w s = some (p, b)) : s = lineL w (hexL p.l) ++ b := by
  unfold idR at h
  split at h
  · cases h
  · rename_i a b' hl
    split at h
    · rename_i h0
      cases h
      rw [lineR_is hl]
      show _ = lineL w (hexL (readR a).1) ++ _
      rw [hex_read a h0]
    · cases h
theorem numbR_of {w r : List UInt8} {n : Nat} (hw : (10 : UInt8) ∉ w) (hn : n < 10 ^ 15) : numbR w (lineL w (dgt n) ++ r) = some (n, r) := by
  unfold numbR
  rw [lineR_of hw (no10 (all_dgt n))]
  simp [numOk_dgt hn, numV_dgt]
theorem numbR_is {w s b : List UInt8} {n : Nat} (h : numbR w s = some (n, b)) : s = lineL w (dgt n) ++ b := by
  unfold numbR at h
  split at h
  · cases h
  · rename_i a b' hl
    split at h
    · rename_i h0
      cases h
      rw [lineR_is hl, dgt_numV h0]
    · cases h
theorem textR_is {s t : List UInt8} (h : textR s = some t) : s = 10 :: t := by
  unfold textR at h
  split at h
  · rename_i hp
    cases h
    cases s with
    | nil => cases hp
    | cons x r =>
      have hx : [x] = [(10 : UInt8)] := hp
      cases hx
      rfl
  · cases h
theorem textR_of (t : List UInt8) : textR (10 :: t) = some t := by
  unfold textR
  rw [if_pos (show preP (10 :: t) [10] from rfl)]
  rfl
theorem parsR_of {r : List UInt8} (hr : ¬ preP r (wParent ++ [32])) : ∀ (ps : List Oid.Id) (m : Nat), ps.length ≤ m → parsR m (parL ps ++ r) = some (ps, r)
  | [], m, _ => parsR_end hr
  | p :: ps, 0, h => absurd h (by simp)
  | p :: ps, m + 1, h => by
    have e : parL (p :: ps) ++ r = lineL wParent (hexL p.l) ++ (parL ps ++ r) := by simp [parL]
    rw [e, parsR_step (b := parL ps ++ r) (p := p) ?_ (idR_of p (by decide)), parsR_of hr ps m (by simpa using h)]
    · rfl
    · unfold preP
      rw [lineL, List.append_assoc, List.append_assoc]
      exact List.take_left' rfl
theorem parsR_is : ∀ (m : Nat) {s b : List UInt8} {ps : List Oid.Id}, parsR m s = some (ps, b) → s = parL ps ++ b
  | 0, s, b, ps, h => by cases h; rfl
  | m + 1, s, b, ps, h => by
    rw [parsR] at h
    split at h
    · split at h
      · cases h
      · rename_i p b' hi
        cases hp : parsR m b' with
        | none => rw [hp] at h; cases h
        | some q =>
          rw [hp] at h
          cases h
          rw [idR_is hi, parsR_is m (ps := q.1) (b := q.2) hp]
          simp [parL]
    · cases h; rfl
theorem getR_is {s : List UInt8} {y : CmL} (h : getR s = some y) : revB (cmO y) = s := by
  unfold getR at h
  cases h1 : idR wTree s with
  | none => rw [h1] at h; cases h
  | some t =>
    cases h2 : parsR (s.length + 1) t.2 with
    | none => rw [h1] at h; simp [h2] at h
    | some p =>
      cases h3 : lineR wAuthor p.2 with
      | none => rw [h1] at h; simp [h2, h3] at h
      | some a =>
        cases h4 : numbR wTime a.2 with
        | none => rw [h1] at h; simp [h2, h3, h4] at h
        | some n =>
          cases h5 : textR n.2 with
          | none => rw [h1] at h; simp [h2, h3, h4, h5] at h
          | some x =>
            rw [h1] at h
            simp [h2, h3, h4, h5] at h
            subst h
            rw [idR_is (p := t.1) (b := t.2) h1]
            conv => rhs; rw [parsR_is _ (ps := p.1) (b := p.2) h2, lineR_is (a := a.1) (b := a.2) h3, numbR_is (n := n.1) (b := n.2) h4, textR_is h5]
            simp [revB, cmO, cmOf, digS_nat]
theorem aut_no (r a : List UInt8) : ¬ preP (lineL wAuthor a ++ r) (wParent ++ [32]) := fun h => by
  have h2 : (lineL wAuthor a ++ r).take 7 = wParent ++ [32] := h
  have h3 := congrArg List.head? h2
  simp [lineL, wAuthor, wParent] at h3
theorem nm_no {s : ByteArray} (h : nmOk s = true) : (10 : UInt8) ∉ s.data.toList := fun hm => by
  unfold nmOk at h
  simp only [Bool.and_eq_true, decide_eq_true_eq] at h
  have hs : Tre.seenP s := h.2.2.1
  obtain ⟨k, hk, he⟩ := List.getElem_of_mem hm
  have := hs k (by simpa using hk)
  have e : g8 s.data.toList k = ((s.data.toList[k]).toNat : Int) := by unfold g8; rw [List.getD_eq_getElem?_getD, List.getElem?_eq_getElem hk]; rfl
  rw [e, he] at this
  have h10 : (10 : UInt8).toNat = 10 := rfl
  omega
theorem getR_of {x : Cm} (hn : x.n = x.ps.length) (h : chk x = 0) : getR (revB x) = some ⟨x.tr, x.ps, x.au.data.toList, x.tm.toNat, x.tx.data.toList⟩ := by
  obtain ⟨c1, c2, c3, c4, c5, c6⟩ := chk_ok h
  have ha : (10 : UInt8) ∉ x.au.data.toList := nm_no c4
  have hd : digS x.tm = dgt x.tm.toNat := by rw [digS, if_neg (by omega)]
  have e : revB x = lineL wTree (hexL x.tr.l) ++ (parL x.ps ++ (lineL wAuthor x.au.data.toList ++ (lineL wTime (dgt x.tm.toNat) ++ (10 :: x.tx.data.toList)))) := by
    unfold revB
    rw [hd]
    simp
  rw [e]
  exact g6 (idR_of x.tr (by decide)) (parsR_of (aut_no _ _) x.ps _ (by
    rw [List.length_append, List.length_append, parL_len]; omega)) (lineR_of (by decide) ha) (numbR_of (by decide) (by omega)) (textR_of _)
end Go.Proofs.Ytgaklngnfecdaaa.Rev


/-
  The law RevBack.
-/
namespace Go.Proofs.Ytgaklngnfecdaaa.Rev
open Go.RowKit Zk Zx
open Oid (idf hexL idf_len readR)
open Tre (nmOk)
set_option linter.unusedVariables false
set_option linter.unusedSimpArgs false

theorem sameB_refl (x : Cm) : sameB x x = true := by simp [sameB]
theorem revB_len {x : Cm} (hn : x.n = x.ps.length) (h : chk x = 0) : (revB x).length ≤ 2000 := by
  obtain ⟨c1, c2, c3, c4, c5, c6⟩ := chk_ok h
  have h1 := nm_len c4
  have h2 : (digS x.tm).length ≤ 19 := digS_len (by omega)
  have h3 : x.tx.data.toList.length = x.tx.size := by simp
  unfold revB
  simp only [List.length_append, lineL_len, hexI_len, parL_len, List.length_cons, List.length_nil]
  have w1 : wTree.length = 4 := rfl
  have w2 : wAuthor.length = 6 := rfl
  have w3 : wTime.length = 4 := rfl
  omega
theorem back1 {x : Cm} (hn : x.n = x.ps.length) (h : chk x = 0) : gcode (revB x) = 0 ∧ ∀ A c, sameB (cmOf (gval (revB x)) A (gval (revB x)).ps.length c) x = true := by
  have hg := getR_of hn h
  obtain ⟨c1, c2, c3, c4, c5, c6⟩ := chk_ok h
  have hgo := go_some hg
  have e : chk (cmO ⟨x.tr, x.ps, x.au.data.toList, x.tm.toNat, x.tx.data.toList⟩) = chk x := by
    unfold cmO cmOf chk
    simp only [Int.toNat_of_nonneg c5, hn]
  rw [e, h] at hgo
  refine ⟨hgo.1, fun A c => ?_⟩
  have hv := hgo.2.trans (if_pos rfl)
  rw [hv]
  simp [sameB, cmOf, Int.toNat_of_nonneg c5]
theorem back2 {s : List UInt8} (h : gcode s = 0) : chk (cmO (gval s)) = 0 ∧ revB (cmO (gval s)) = s := by
  unfold gcode at h
  unfold gval
  cases e : getR s with
  | none => rw [e] at h; cases h
  | some y =>
    rw [e] at h
    have h2 : chk (cmO y) = 0 := h
    show chk (cmO (if chk (cmO y) = 0 then y else zL)) = 0 ∧ revB (cmO (if chk (cmO y) = 0 then y else zL)) = s
    rw [if_pos h2]
    exact ⟨h2, getR_is e⟩


set_option maxRecDepth 100000 in
theorem back (x y : Cm) (B : Option Addr) (m d : Nat) (s : List UInt8) (w0 : World) (hx : Rs w0 32 x.A x.n x.c (x.ps.flatMap idf)) (hy : Rs w0 32 y.A y.n y.c (y.ps.flatMap idf)) (hb : Rs w0 1 B m d (bL s)) :
    Calls Try.prog 8 #[.agg (cmf x).toArray, .agg (cmf y).toArray, .slice B m d] w0 fun e w' => ∃ u, e = .returned u ∧ Like w0 w' ∧ u = .bool true := by
  refine enter1 (env := [(0, .agg (cmf x).toArray), (1, .agg (cmf y).toArray), (2, .slice B m d)]) [.agg (cmf x).toArray, .agg (cmf y).toArray, .slice B m d] Try.func8 rfl Try.ntmps8 rfl rfl ?_
  have hxn := Oid.ids_n hx; have hm := hb.lenb; have hcap := hb.cap; have hmax := hb.max
  have S0 := St.start w0 noM
  refine T_seq fun K1 hK1 => ?_
  refine T_region ?_
  refine L_o (o_box rfl S0 rfl fun b1 w1 hb1 S1 => ?_)
  refine L_o (o_box rfl S1 rfl fun b2 w2 hb2 S2 => ?_)
  refine L_y (y_assign rfl) rfl ?_
  refine L_nil ?_
  refine hK1 _ _ ?_
  refine T_seq fun K2 hK2 => ?_
  refine T_seq fun K3 hK3 => ?_
  refine T_region ?_
  refine L_y (y_move rfl) rfl ?_
  refine L_y (y_len Try.underlying27 rfl) rfl ?_
  refine L_y (y_gtr rfl rfl) rfl ?_
  refine L_nil ?_
  refine hK3 _ _ ?_
  refine T_cond rfl (fun h17 => ?_) (fun h17 => ?_)
  ·
    refine T_seq fun K4 hK4 => ?_
    refine T_region ?_
    refine L_o (o_call Try.func23 rfl rfl (works w2) rfl rfl ?_)
    rintro e3 w3 ⟨v3, rfl, l3, rfl⟩
    refine ⟨_, rfl, ?_⟩
    have S3 := S2.like l3
    refine L_y (y_assign rfl) rfl ?_
    refine L_nil ?_
    refine hK4 _ _ ?_
    refine T_ret ?_
    repeat (first | with_reducible refine up_then ?_ | with_reducible refine up_in ?_)
    refine ret1 rfl rfl ?_
    exact ⟨_, rfl, S3.like0, rfl⟩
  ·
    refine T_skip ?_
    refine hK2 _ _ ?_
    refine T_seq fun K5 hK5 => ?_
    refine T_region ?_
    refine L_y (y_ldW Try.underlying26 rfl sz26 rfl (S2.blk 0 rfl) (cm_whole x)) rfl ?_
    refine L_o (o_call Try.func14 rfl rfl (put x w2 (S2.rd hx)) rfl rfl ?_)
    rintro e4 w4 ⟨v4, rfl, l4, B1, m1, d1, l1, e1, rfl, rfl, hl1, hf4⟩
    refine ⟨_, rfl, ?_⟩
    have S4 := S2.adoptF l4 hf4
    refine L_y (y_move rfl) rfl ?_
    refine L_y (y_extract rfl rfl) rfl ?_
    refine L_y (y_extract rfl rfl) rfl ?_
    refine L_y (y_assign rfl) rfl ?_
    refine L_y (y_assign rfl) rfl ?_
    refine L_nil ?_
    refine hK5 _ _ ?_
    refine T_seq fun K6 hK6 => ?_
    refine T_seq fun K7 hK7 => ?_
    refine T_region ?_
    refine L_y (y_move rfl) rfl ?_
    refine L_y (y_eql rfl rfl) rfl ?_
    refine L_nil ?_
    refine hK7 _ _ ?_
    refine T_cond rfl (fun h25 => ?_) (fun h25 => ?_)
    ·
      rw [if_pos h25] at hl1
      subst hl1
      have hgo := back1 hxn h25
      refine T_seq fun K8 hK8 => ?_
      refine T_region ?_
      refine L_y (y_move rfl) rfl ?_
      refine L_o (o_call Try.func35 rfl rfl (get _ _ _ (revB x) w4 (S4.fix 2 rfl) (revB_len hxn h25)) rfl rfl ?_)
      rintro e5 w5 ⟨v5, rfl, l5, A1, c1, hf5, rfl⟩
      refine ⟨_, rfl, ?_⟩
      have S5 := S4.adoptF l5 hf5
      refine L_y (y_move rfl) rfl ?_
      refine L_y (y_extract rfl rfl) rfl ?_
      refine L_y (y_extract rfl rfl) rfl ?_
      refine L_o (o_alloc zz26 S5 rfl fun b6 w6 hb6 S6 => ?_)
      refine L_o (o_stW S6 4 rfl rfl rfl (by rw [cmf_sz]; exact sz26) (by first | (rw [cmf_sz]; done) | (rw [cmf_sz]; rfl)) (fun u hu => cmf_one _ u (by rw [List.toList_toArray] at hu; exact hu)) fun w7 S7 => ?_)
      refine L_y (y_assign rfl) rfl ?_
      refine L_nil ?_
      refine hK8 _ _ ?_
      refine T_seq fun K9 hK9 => ?_
      refine T_region ?_
      refine L_y (y_move rfl) rfl ?_
      refine L_y (y_neq rfl rfl) rfl ?_
      refine L_y (y_move rfl) rfl ?_
      refine L_split 33 rfl (fun h33 => ?_) (fun h33 => ?_)
      ·
        exact absurd hgo.1 h33
      ·
        refine L_gyes rfl rfl ?_
        refine L_y (y_ldW Try.underlying26 rfl sz26 rfl (S7.blk 4 rfl) (cm_whole _)) rfl ?_
        refine L_gyes rfl rfl ?_
        refine L_y (y_ldW Try.underlying26 rfl sz26 rfl (S7.blk 0 rfl) (cm_whole x)) rfl ?_
        refine L_gyes rfl rfl ?_
        refine L_o (o_call Try.func37 rfl rfl (rsame (cmOf (gval (revB x)) A1 _ c1) x w7 (S7.fix 3 rfl) (S7.rd hx)) rfl rfl ?_)
        rintro e9 w9 ⟨v9, rfl, l9, hu9⟩
        refine ⟨_, rfl, ?_⟩
        have S9 := S7.like l9
        rw [hgo.2] at hu9
        subst hu9
        refine L_gyes rfl rfl ?_
        refine L_y ((by first | exact y_notD rfl | exact y_not rfl)) rfl ?_
        refine L_y ((by first | exact y_pickT rfl rfl | exact y_pickF rfl rfl)) rfl ?_
        refine L_nil ?_
        refine hK9 _ _ ?_
        refine T_condB rfl (fun h38 => ?_) (fun h38 => ?_)
        ·
          cases h38
        ·
          refine T_skip ?_
          refine hK6 _ _ ?_
          refine T_seq fun K10 hK10 => ?_
          refine T_region ?_
          refine L_y (y_move rfl) rfl ?_
          refine L_o (o_call Try.func35 rfl rfl (get _ _ _ s w9 (S9.rd hb) (by omega)) rfl rfl ?_)
          rintro e10 w10 ⟨v10, rfl, l10, A2, c2, hf10, rfl⟩
          refine ⟨_, rfl, ?_⟩
          have S10 := S9.adoptF l10 hf10
          refine L_y (y_move rfl) rfl ?_
          refine L_y (y_extract rfl rfl) rfl ?_
          refine L_y (y_extract rfl rfl) rfl ?_
          refine L_o (o_alloc zz26 S10 rfl fun b11 w11 hb11 S11 => ?_)
          refine L_o (o_stW S11 6 rfl rfl rfl (by rw [cmf_sz]; exact sz26) (by first | (rw [cmf_sz]; done) | (rw [cmf_sz]; rfl)) (fun u hu => cmf_one _ u (by rw [List.toList_toArray] at hu; exact hu)) fun w12 S12 => ?_)
          refine L_y (y_assign rfl) rfl ?_
          refine L_nil ?_
          refine hK10 _ _ ?_
          refine T_seq fun K11 hK11 => ?_
          refine T_seq fun K12 hK12 => ?_
          refine T_region ?_
          refine L_y (y_move rfl) rfl ?_
          refine L_y (y_eql rfl rfl) rfl ?_
          refine L_nil ?_
          refine hK12 _ _ ?_
          refine T_cond rfl (fun h45 => ?_) (fun h45 => ?_)
          ·
            refine T_seq fun K13 hK13 => ?_
            refine T_region ?_
            refine L_y (y_ldW Try.underlying26 rfl sz26 rfl (S12.blk 6 rfl) (cm_whole _)) rfl ?_
            refine L_o (o_call Try.func14 rfl rfl (put (cmOf (gval s) A2 _ c2) w12 (S12.fix 5 rfl)) rfl rfl ?_)
            rintro e13 w13 ⟨v13, rfl, l13, B3, m3, d3, l3, e3, rfl, rfl, hl3, hf13⟩
            refine ⟨_, rfl, ?_⟩
            have S13 := S12.adoptF l13 hf13
            have hb2 := back2 h45
            rw [if_pos (show chk (cmOf (gval s) A2 _ c2) = 0 from hb2.1)] at hl3
            obtain rfl : l3 = s := hl3.trans hb2.2
            refine L_y (y_move rfl) rfl ?_
            refine L_y (y_extract rfl rfl) rfl ?_
            refine L_y (y_extract rfl rfl) rfl ?_
            refine L_y (y_assign rfl) rfl ?_
            refine L_y (y_assign rfl) rfl ?_
            refine L_nil ?_
            refine hK13 _ _ ?_
            refine T_seq fun K14 hK14 => ?_
            refine T_region ?_
            refine L_y (y_move rfl) rfl ?_
            refine L_y (y_neq rfl rfl) rfl ?_
            refine L_y (y_move rfl) rfl ?_
            refine L_split 53 rfl (fun h53 => ?_) (fun h53 => ?_)
            ·
              exact absurd (show chk (cmOf (gval _) A2 _ c2) = 0 from hb2.1) h53
            ·
              refine L_gyes rfl rfl ?_
              refine L_y (y_move rfl) rfl ?_
              refine L_gyes rfl rfl ?_
              refine L_y (y_move rfl) rfl ?_
              refine L_gyes rfl rfl ?_
              refine L_o (o_call Try.func18 rfl rfl (Oct.same _ _ _ _ _ _ _ _ w13 (S13.fix 7 rfl) (S13.rd hb)) rfl rfl ?_)
              rintro e15 w15 ⟨v15, rfl, l15, rfl⟩
              refine ⟨_, rfl, ?_⟩
              have S15 := S13.like l15
              refine L_gyes rfl rfl ?_
              refine L_y ((by first | exact y_notD rfl | exact y_not rfl)) rfl ?_
              refine L_y ((by first | exact y_pickT rfl rfl | exact y_pickF rfl rfl)) rfl ?_
              refine L_nil ?_
              refine hK14 _ _ ?_
              refine T_cond rfl (fun h58 => ?_) (fun h58 => ?_)
              ·
                exact absurd rfl h58
              ·
                refine T_skip ?_
                refine hK11 _ _ ?_
                refine T_seq fun K15 hK15 => ?_
                refine T_drawnL [(0, true), (1, true), (3, true), (4, true), (2, false), (5, false), (6, true), (7, true), (8, true), (9, true), (10, false), (11, true), (12, true), (13, false), (14, true), (15, true)] hmix (by kernel_rfl) fun w16 l16 => ?_
                have S16 := S15.like l16
                refine DL_y rfl (y_ldW Try.underlying26 rfl sz26 rfl (S16.blk 0 rfl) (cm_whole x)) rfl ?_
                refine DL_y rfl (y_ldW Try.underlying26 rfl sz26 rfl (S16.blk 1 rfl) (cm_whole y)) rfl ?_
                refine DL_y rfl (y_ldW Try.underlying26 rfl sz26 rfl (S16.blk 0 rfl) (cm_whole x)) rfl ?_
                refine DL_y rfl (y_ldW Try.underlying26 rfl sz26 rfl (S16.blk 1 rfl) (cm_whole y)) rfl ?_
                refine DL_o rfl (o_call Try.func38 rfl rfl (same x y w16 (S16.rd hx) (S16.rd hy)) rfl rfl ?_)
                rintro e17 w17 ⟨v17, rfl, l17, rfl⟩
                refine ⟨_, rfl, l17, ?_⟩
                have S17 := S16.like l17
                have q17 := l17
                refine DL_o rfl (o_call Try.func37 rfl rfl (rsame x y w17 (S17.rd hx) (S17.rd hy)) rfl rfl ?_)
                rintro e18 w18 ⟨v18, rfl, l18, rfl⟩
                refine ⟨_, rfl, (Like.trans q17 l18), ?_⟩
                have S18 := S17.like l18
                have q18 := (Like.trans q17 l18)
                refine DL_y rfl (Oid.y_beqq rfl rfl rfl) rfl ?_
                refine DL_y rfl (y_move rfl) rfl ?_
                refine DL_splitB 66 rfl (fun h66 => ?_) (fun h66 => ?_)
                ·
                  refine DL_gyes rfl rfl rfl (y_ldW Try.underlying26 rfl sz26 rfl (S16.blk 0 rfl) (cm_whole x)) rfl ?_
                  refine DL_gyes rfl rfl rfl (y_ldW Try.underlying26 rfl sz26 rfl (S16.blk 0 rfl) (cm_whole x)) rfl ?_
                  refine DL_ogyes rfl rfl rfl (o_call Try.func38 rfl rfl (same x x w18 (S18.rd hx) (S18.rd hx)) rfl rfl ?_)
                  rintro e19 w19 ⟨v19, rfl, l19, hu19⟩
                  refine ⟨_, rfl, (Like.trans q18 l19), ?_⟩
                  have S19 := S18.like l19
                  rw [sameB_refl] at hu19
                  subst hu19
                  have q19 := (Like.trans q18 l19)
                  refine DL_y rfl ((by first | exact y_pickT rfl rfl | exact y_pickF rfl rfl)) rfl ?_
                  refine DL_y rfl (y_move rfl) rfl ?_
                  refine DL_splitB 71 rfl (fun h71 => ?_) (fun h71 => ?_)
                  ·
                    refine DL_ogyes rfl rfl rfl (o_call Try.func23 rfl rfl (works w19) rfl rfl ?_)
                    rintro e20 w20 ⟨v20, rfl, l20, rfl⟩
                    refine ⟨_, rfl, (Like.trans q19 l20), ?_⟩
                    have S20 := S19.like l20
                    have q20 := (Like.trans q19 l20)
                    refine DL_y rfl ((by first | exact y_pickT rfl rfl | exact y_pickF rfl rfl)) rfl ?_
                    refine DL_y rfl (y_assign rfl) rfl ?_
                    refine DL_nil ?_
                    refine hK15 _ _ ?_
                    refine T_ret ?_
                    repeat (first | with_reducible refine up_then ?_ | with_reducible refine up_in ?_)
                    refine ret1 rfl rfl ?_
                    exact ⟨_, rfl, S20.like0, rfl⟩
                  ·
                    cases h71
                ·
                  exact absurd h66 (by simp)
          ·
            refine T_skip ?_
            refine hK11 _ _ ?_
            refine T_seq fun K16 hK16 => ?_
            refine T_drawnL [(0, true), (1, true), (3, true), (4, true), (2, false), (5, false), (6, true), (7, true), (8, true), (9, true), (10, false), (11, true), (12, true), (13, false), (14, true), (15, true)] hmix (by kernel_rfl) fun w21 l21 => ?_
            have S21 := S12.like l21
            refine DL_y rfl (y_ldW Try.underlying26 rfl sz26 rfl (S21.blk 0 rfl) (cm_whole x)) rfl ?_
            refine DL_y rfl (y_ldW Try.underlying26 rfl sz26 rfl (S21.blk 1 rfl) (cm_whole y)) rfl ?_
            refine DL_y rfl (y_ldW Try.underlying26 rfl sz26 rfl (S21.blk 0 rfl) (cm_whole x)) rfl ?_
            refine DL_y rfl (y_ldW Try.underlying26 rfl sz26 rfl (S21.blk 1 rfl) (cm_whole y)) rfl ?_
            refine DL_o rfl (o_call Try.func38 rfl rfl (same x y w21 (S21.rd hx) (S21.rd hy)) rfl rfl ?_)
            rintro e22 w22 ⟨v22, rfl, l22, rfl⟩
            refine ⟨_, rfl, l22, ?_⟩
            have S22 := S21.like l22
            have q22 := l22
            refine DL_o rfl (o_call Try.func37 rfl rfl (rsame x y w22 (S22.rd hx) (S22.rd hy)) rfl rfl ?_)
            rintro e23 w23 ⟨v23, rfl, l23, rfl⟩
            refine ⟨_, rfl, (Like.trans q22 l23), ?_⟩
            have S23 := S22.like l23
            have q23 := (Like.trans q22 l23)
            refine DL_y rfl (Oid.y_beqq rfl rfl rfl) rfl ?_
            refine DL_y rfl (y_move rfl) rfl ?_
            refine DL_splitB 66 rfl (fun h66 => ?_) (fun h66 => ?_)
            ·
              refine DL_gyes rfl rfl rfl (y_ldW Try.underlying26 rfl sz26 rfl (S21.blk 0 rfl) (cm_whole x)) rfl ?_
              refine DL_gyes rfl rfl rfl (y_ldW Try.underlying26 rfl sz26 rfl (S21.blk 0 rfl) (cm_whole x)) rfl ?_
              refine DL_ogyes rfl rfl rfl (o_call Try.func38 rfl rfl (same x x w23 (S23.rd hx) (S23.rd hx)) rfl rfl ?_)
              rintro e24 w24 ⟨v24, rfl, l24, hu24⟩
              refine ⟨_, rfl, (Like.trans q23 l24), ?_⟩
              have S24 := S23.like l24
              rw [sameB_refl] at hu24
              subst hu24
              have q24 := (Like.trans q23 l24)
              refine DL_y rfl ((by first | exact y_pickT rfl rfl | exact y_pickF rfl rfl)) rfl ?_
              refine DL_y rfl (y_move rfl) rfl ?_
              refine DL_splitB 71 rfl (fun h71 => ?_) (fun h71 => ?_)
              ·
                refine DL_ogyes rfl rfl rfl (o_call Try.func23 rfl rfl (works w24) rfl rfl ?_)
                rintro e25 w25 ⟨v25, rfl, l25, rfl⟩
                refine ⟨_, rfl, (Like.trans q24 l25), ?_⟩
                have S25 := S24.like l25
                have q25 := (Like.trans q24 l25)
                refine DL_y rfl ((by first | exact y_pickT rfl rfl | exact y_pickF rfl rfl)) rfl ?_
                refine DL_y rfl (y_assign rfl) rfl ?_
                refine DL_nil ?_
                refine hK16 _ _ ?_
                refine T_ret ?_
                repeat (first | with_reducible refine up_then ?_ | with_reducible refine up_in ?_)
                refine ret1 rfl rfl ?_
                exact ⟨_, rfl, S25.like0, rfl⟩
              ·
                cases h71
            ·
              exact absurd h66 (by simp)
    ·
      refine T_skip ?_
      refine hK6 _ _ ?_
      refine T_seq fun K17 hK17 => ?_
      refine T_region ?_
      refine L_y (y_move rfl) rfl ?_
      refine L_o (o_call Try.func35 rfl rfl (get _ _ _ s w4 (S4.rd hb) (by omega)) rfl rfl ?_)
      rintro e26 w26 ⟨v26, rfl, l26, A2, c2, hf26, rfl⟩
      refine ⟨_, rfl, ?_⟩
      have S26 := S4.adoptF l26 hf26
      refine L_y (y_move rfl) rfl ?_
      refine L_y (y_extract rfl rfl) rfl ?_
      refine L_y (y_extract rfl rfl) rfl ?_
      refine L_o (o_alloc zz26 S26 rfl fun b27 w27 hb27 S27 => ?_)
      refine L_o (o_stW S27 4 rfl rfl rfl (by rw [cmf_sz]; exact sz26) (by first | (rw [cmf_sz]; done) | (rw [cmf_sz]; rfl)) (fun u hu => cmf_one _ u (by rw [List.toList_toArray] at hu; exact hu)) fun w28 S28 => ?_)
      refine L_y (y_assign rfl) rfl ?_
      refine L_nil ?_
      refine hK17 _ _ ?_
      refine T_seq fun K18 hK18 => ?_
      refine T_seq fun K19 hK19 => ?_
      refine T_region ?_
      refine L_y (y_move rfl) rfl ?_
      refine L_y (y_eql rfl rfl) rfl ?_
      refine L_nil ?_
      refine hK19 _ _ ?_
      refine T_cond rfl (fun h45 => ?_) (fun h45 => ?_)
      ·
        refine T_seq fun K20 hK20 => ?_
        refine T_region ?_
        refine L_y (y_ldW Try.underlying26 rfl sz26 rfl (S28.blk 4 rfl) (cm_whole _)) rfl ?_
        refine L_o (o_call Try.func14 rfl rfl (put (cmOf (gval s) A2 _ c2) w28 (S28.fix 3 rfl)) rfl rfl ?_)
        rintro e29 w29 ⟨v29, rfl, l29, B3, m3, d3, l3, e3, rfl, rfl, hl3, hf29⟩
        refine ⟨_, rfl, ?_⟩
        have S29 := S28.adoptF l29 hf29
        have hb2 := back2 h45
        rw [if_pos (show chk (cmOf (gval s) A2 _ c2) = 0 from hb2.1)] at hl3
        obtain rfl : l3 = s := hl3.trans hb2.2
        refine L_y (y_move rfl) rfl ?_
        refine L_y (y_extract rfl rfl) rfl ?_
        refine L_y (y_extract rfl rfl) rfl ?_
        refine L_y (y_assign rfl) rfl ?_
        refine L_y (y_assign rfl) rfl ?_
        refine L_nil ?_
        refine hK20 _ _ ?_
        refine T_seq fun K21 hK21 => ?_
        refine T_region ?_
        refine L_y (y_move rfl) rfl ?_
        refine L_y (y_neq rfl rfl) rfl ?_
        refine L_y (y_move rfl) rfl ?_
        refine L_split 53 rfl (fun h53 => ?_) (fun h53 => ?_)
        ·
          exact absurd (show chk (cmOf (gval _) A2 _ c2) = 0 from hb2.1) h53
        ·
          refine L_gyes rfl rfl ?_
          refine L_y (y_move rfl) rfl ?_
          refine L_gyes rfl rfl ?_
          refine L_y (y_move rfl) rfl ?_
          refine L_gyes rfl rfl ?_
          refine L_o (o_call Try.func18 rfl rfl (Oct.same _ _ _ _ _ _ _ _ w29 (S29.fix 5 rfl) (S29.rd hb)) rfl rfl ?_)
          rintro e31 w31 ⟨v31, rfl, l31, rfl⟩
          refine ⟨_, rfl, ?_⟩
          have S31 := S29.like l31
          refine L_gyes rfl rfl ?_
          refine L_y ((by first | exact y_notD rfl | exact y_not rfl)) rfl ?_
          refine L_y ((by first | exact y_pickT rfl rfl | exact y_pickF rfl rfl)) rfl ?_
          refine L_nil ?_
          refine hK21 _ _ ?_
          refine T_cond rfl (fun h58 => ?_) (fun h58 => ?_)
          ·
            exact absurd rfl h58
          ·
            refine T_skip ?_
            refine hK18 _ _ ?_
            refine T_seq fun K22 hK22 => ?_
            refine T_drawnL [(0, true), (1, true), (3, true), (4, true), (2, false), (5, false), (6, true), (7, true), (8, true), (9, true), (10, false), (11, true), (12, true), (13, false), (14, true), (15, true)] hmix (by kernel_rfl) fun w32 l32 => ?_
            have S32 := S31.like l32
            refine DL_y rfl (y_ldW Try.underlying26 rfl sz26 rfl (S32.blk 0 rfl) (cm_whole x)) rfl ?_
            refine DL_y rfl (y_ldW Try.underlying26 rfl sz26 rfl (S32.blk 1 rfl) (cm_whole y)) rfl ?_
            refine DL_y rfl (y_ldW Try.underlying26 rfl sz26 rfl (S32.blk 0 rfl) (cm_whole x)) rfl ?_
            refine DL_y rfl (y_ldW Try.underlying26 rfl sz26 rfl (S32.blk 1 rfl) (cm_whole y)) rfl ?_
            refine DL_o rfl (o_call Try.func38 rfl rfl (same x y w32 (S32.rd hx) (S32.rd hy)) rfl rfl ?_)
            rintro e33 w33 ⟨v33, rfl, l33, rfl⟩
            refine ⟨_, rfl, l33, ?_⟩
            have S33 := S32.like l33
            have q33 := l33
            refine DL_o rfl (o_call Try.func37 rfl rfl (rsame x y w33 (S33.rd hx) (S33.rd hy)) rfl rfl ?_)
            rintro e34 w34 ⟨v34, rfl, l34, rfl⟩
            refine ⟨_, rfl, (Like.trans q33 l34), ?_⟩
            have S34 := S33.like l34
            have q34 := (Like.trans q33 l34)
            refine DL_y rfl (Oid.y_beqq rfl rfl rfl) rfl ?_
            refine DL_y rfl (y_move rfl) rfl ?_
            refine DL_splitB 66 rfl (fun h66 => ?_) (fun h66 => ?_)
            ·
              refine DL_gyes rfl rfl rfl (y_ldW Try.underlying26 rfl sz26 rfl (S32.blk 0 rfl) (cm_whole x)) rfl ?_
              refine DL_gyes rfl rfl rfl (y_ldW Try.underlying26 rfl sz26 rfl (S32.blk 0 rfl) (cm_whole x)) rfl ?_
              refine DL_ogyes rfl rfl rfl (o_call Try.func38 rfl rfl (same x x w34 (S34.rd hx) (S34.rd hx)) rfl rfl ?_)
              rintro e35 w35 ⟨v35, rfl, l35, hu35⟩
              refine ⟨_, rfl, (Like.trans q34 l35), ?_⟩
              have S35 := S34.like l35
              rw [sameB_refl] at hu35
              subst hu35
              have q35 := (Like.trans q34 l35)
              refine DL_y rfl ((by first | exact y_pickT rfl rfl | exact y_pickF rfl rfl)) rfl ?_
              refine DL_y rfl (y_move rfl) rfl ?_
              refine DL_splitB 71 rfl (fun h71 => ?_) (fun h71 => ?_)
              ·
                refine DL_ogyes rfl rfl rfl (o_call Try.func23 rfl rfl (works w35) rfl rfl ?_)
                rintro e36 w36 ⟨v36, rfl, l36, rfl⟩
                refine ⟨_, rfl, (Like.trans q35 l36), ?_⟩
                have S36 := S35.like l36
                have q36 := (Like.trans q35 l36)
                refine DL_y rfl ((by first | exact y_pickT rfl rfl | exact y_pickF rfl rfl)) rfl ?_
                refine DL_y rfl (y_assign rfl) rfl ?_
                refine DL_nil ?_
                refine hK22 _ _ ?_
                refine T_ret ?_
                repeat (first | with_reducible refine up_then ?_ | with_reducible refine up_in ?_)
                refine ret1 rfl rfl ?_
                exact ⟨_, rfl, S36.like0, rfl⟩
              ·
                cases h71
            ·
              exact absurd h66 (by simp)
      ·
        refine T_skip ?_
        refine hK18 _ _ ?_
        refine T_seq fun K23 hK23 => ?_
        refine T_drawnL [(0, true), (1, true), (3, true), (4, true), (2, false), (5, false), (6, true), (7, true), (8, true), (9, true), (10, false), (11, true), (12, true), (13, false), (14, true), (15, true)] hmix (by kernel_rfl) fun w37 l37 => ?_
        have S37 := S28.like l37
        refine DL_y rfl (y_ldW Try.underlying26 rfl sz26 rfl (S37.blk 0 rfl) (cm_whole x)) rfl ?_
        refine DL_y rfl (y_ldW Try.underlying26 rfl sz26 rfl (S37.blk 1 rfl) (cm_whole y)) rfl ?_
        refine DL_y rfl (y_ldW Try.underlying26 rfl sz26 rfl (S37.blk 0 rfl) (cm_whole x)) rfl ?_
        refine DL_y rfl (y_ldW Try.underlying26 rfl sz26 rfl (S37.blk 1 rfl) (cm_whole y)) rfl ?_
        refine DL_o rfl (o_call Try.func38 rfl rfl (same x y w37 (S37.rd hx) (S37.rd hy)) rfl rfl ?_)
        rintro e38 w38 ⟨v38, rfl, l38, rfl⟩
        refine ⟨_, rfl, l38, ?_⟩
        have S38 := S37.like l38
        have q38 := l38
        refine DL_o rfl (o_call Try.func37 rfl rfl (rsame x y w38 (S38.rd hx) (S38.rd hy)) rfl rfl ?_)
        rintro e39 w39 ⟨v39, rfl, l39, rfl⟩
        refine ⟨_, rfl, (Like.trans q38 l39), ?_⟩
        have S39 := S38.like l39
        have q39 := (Like.trans q38 l39)
        refine DL_y rfl (Oid.y_beqq rfl rfl rfl) rfl ?_
        refine DL_y rfl (y_move rfl) rfl ?_
        refine DL_splitB 66 rfl (fun h66 => ?_) (fun h66 => ?_)
        ·
          refine DL_gyes rfl rfl rfl (y_ldW Try.underlying26 rfl sz26 rfl (S37.blk 0 rfl) (cm_whole x)) rfl ?_
          refine DL_gyes rfl rfl rfl (y_ldW Try.underlying26 rfl sz26 rfl (S37.blk 0 rfl) (cm_whole x)) rfl ?_
          refine DL_ogyes rfl rfl rfl (o_call Try.func38 rfl rfl (same x x w39 (S39.rd hx) (S39.rd hx)) rfl rfl ?_)
          rintro e40 w40 ⟨v40, rfl, l40, hu40⟩
          refine ⟨_, rfl, (Like.trans q39 l40), ?_⟩
          have S40 := S39.like l40
          rw [sameB_refl] at hu40
          subst hu40
          have q40 := (Like.trans q39 l40)
          refine DL_y rfl ((by first | exact y_pickT rfl rfl | exact y_pickF rfl rfl)) rfl ?_
          refine DL_y rfl (y_move rfl) rfl ?_
          refine DL_splitB 71 rfl (fun h71 => ?_) (fun h71 => ?_)
          ·
            refine DL_ogyes rfl rfl rfl (o_call Try.func23 rfl rfl (works w40) rfl rfl ?_)
            rintro e41 w41 ⟨v41, rfl, l41, rfl⟩
            refine ⟨_, rfl, (Like.trans q40 l41), ?_⟩
            have S41 := S40.like l41
            have q41 := (Like.trans q40 l41)
            refine DL_y rfl ((by first | exact y_pickT rfl rfl | exact y_pickF rfl rfl)) rfl ?_
            refine DL_y rfl (y_assign rfl) rfl ?_
            refine DL_nil ?_
            refine hK23 _ _ ?_
            refine T_ret ?_
            repeat (first | with_reducible refine up_then ?_ | with_reducible refine up_in ?_)
            refine ret1 rfl rfl ?_
            exact ⟨_, rfl, S41.like0, rfl⟩
          ·
            cases h71
        ·
          exact absurd h66 (by simp)


theorem back_law (x y : Cm) (B : Option Addr) (m d : Nat) (s : List UInt8) (w0 : World) (hx : Rs w0 32 x.A x.n x.c (x.ps.flatMap idf)) (hy : Rs w0 32 y.A y.n y.c (y.ps.flatMap idf)) (hb : Rs w0 1 B m d (bL s)) :
    Calls Try.prog 8 #[.agg (cmf x).toArray, .agg (cmf y).toArray, .slice B m d] w0 fun e w' => e = .returned (.bool true) ∧ Below w0.heap.size w0 w' :=
  (back x y B m d s w0 hx hy hb).mono fun e w' ⟨u, h1, h2, h3⟩ => by subst h3; exact ⟨h1, h2⟩
end Go.Proofs.Ytgaklngnfecdaaa.Rev


/-
  Tags: Check and Put.
-/
namespace Go.Proofs.Ytgaklngnfecdaaa.Rev
open Go.RowKit Zk Zx
open Oid (idf hexL ris ris_ne idf_len length_hexL)
open Tre (nmOk)
set_option linter.unusedVariables false
set_option linter.unusedSimpArgs false

theorem mkf_len (x : Mk) : (mkf x).length = 36 := by simp [mkf, idf_len]
theorem mkf_sz (x : Mk) : (mkf x).toArray.size = 36 := by rw [List.size_toArray, mkf_len]
theorem mkf_one (x : Mk) : ∀ u ∈ mkf x, u.oneCell' = true := fun u hu => by
  rcases List.mem_append.1 hu with h | h
  · exact bL_one _ u h
  · simp at h
    rcases h with rfl | rfl | rfl | rfl <;> rfl
theorem mk_at (x : Mk) (k : Nat) : (mkf x).toArray[32 + k]? = [Value.int .i64 x.kd, .string x.nm, .int .i64 x.tm, .string x.tx][k]? := by
  rw [List.getElem?_toArray, mkf, List.getElem?_append_right (by rw [idf_len]; omega), idf_len]
  congr 1
  omega
theorem mk32 (x : Mk) : (mkf x).toArray[32]? = some (.int .i64 x.kd) := mk_at x 0
theorem mk33 (x : Mk) : (mkf x).toArray[33]? = some (.string x.nm) := mk_at x 1
theorem mk34 (x : Mk) : (mkf x).toArray[34]? = some (.int .i64 x.tm) := mk_at x 2
theorem mk35 (x : Mk) : (mkf x).toArray[35]? = some (.string x.tx) := mk_at x 3
theorem mk_whole (x : Mk) : ((mkf x).toArray.toList.drop 0).take 36 = mkf x ∧ (mkf x).length = 36 := ⟨by rw [List.drop_zero]; exact List.take_of_length_le (by have := mkf_len x; simp only [] at this ⊢; omega), mkf_len x⟩
/-- What CheckMark answers. -/
def chkM (x : Mk) : Int := if 400 < x.tx.size then 3 else if x.kd < 1 ∨ 4 < x.kd then 19 else if nmOk x.nm = false then 15 else if x.tm < 0 ∨ 1099511627776 < x.tm then 2 else 0
def wObject : List UInt8 := [111, 98, 106, 101, 99, 116]
def wKind : List UInt8 := [107, 105, 110, 100]
def wName : List UInt8 := [110, 97, 109, 101]
set_option maxRecDepth 100000 in
theorem checkM (x : Mk) (w0 : World)  :
    Calls Try.prog 43 #[.agg (mkf x).toArray] w0 fun e w' => ∃ u, e = .returned u ∧ Like w0 w' ∧ u = .int .i64 (chkM x) := by
  refine enter1 (env := [(0, .agg (mkf x).toArray)]) [.agg (mkf x).toArray] Try.func43 rfl Try.ntmps43 rfl rfl ?_
  have S0 := St.start w0 noM
  refine T_seq fun K1 hK1 => ?_
  refine T_region ?_
  refine L_o (o_box rfl S0 rfl fun b1 w1 hb1 S1 => ?_)
  refine L_y (y_assign rfl) rfl ?_
  refine L_nil ?_
  refine hK1 _ _ ?_
  refine T_seq fun K2 hK2 => ?_
  refine T_block ?_
  refine T_seq fun K3 hK3 => ?_
  refine T_region ?_
  refine L_y (y_fieldA 35 Try.underlying74 rfl sz9 rfl rfl rfl) rfl ?_
  refine L_y (y_ldc Try.underlying9 rfl rfl (((S1.blk 0 rfl).cell _).trans (mk35 x))) rfl ?_
  refine L_y (y_lens Try.underlying9 rfl) rfl ?_
  refine L_y (y_gtr rfl rfl) rfl ?_
  refine L_y (y_assign rfl) rfl ?_
  refine L_nil ?_
  refine hK3 _ _ ?_
  refine T_cond rfl (fun h3 => ?_) (fun h3 => ?_)
  ·
    refine T_seq fun K4 hK4 => ?_
    refine T_region ?_
    refine L_y (y_assign rfl) rfl ?_
    refine L_nil ?_
    refine hK4 _ _ ?_
    refine T_ret ?_
    repeat (first | with_reducible refine up_then ?_ | with_reducible refine up_in ?_)
    refine ret1 rfl rfl ?_
    exact ⟨_, rfl, S1.like0, by unfold chkM; first | rw [if_pos (by omega)] | rw [if_neg (by omega), if_pos (by omega)] | rw [if_neg (by omega), if_neg (by omega), if_pos hnm] | rw [if_neg (by omega), if_neg (by omega), if_neg hnm, if_pos htm] | rw [if_neg (by omega), if_neg (by omega), if_neg hnm, if_neg htm]⟩
  ·
    refine T_seq fun K5 hK5 => ?_
    refine T_region ?_
    refine L_y (y_fieldA 32 Try.underlying74 rfl sz3 rfl rfl rfl) rfl ?_
    refine L_y (y_ldc Try.underlying3 rfl rfl (((S1.blk 0 rfl).cell _).trans (mk32 x))) rfl ?_
    refine L_y (y_lss rfl rfl) rfl ?_
    refine L_y (y_move rfl) rfl ?_
    refine L_split 12 rfl (fun h12 => ?_) (fun h12 => ?_)
    ·
      refine L_gno rfl rfl rfl ?_
      refine L_gno rfl rfl rfl ?_
      refine L_gno rfl rfl rfl ?_
      refine L_y ((by first | exact y_pickT rfl rfl | exact y_pickF rfl rfl)) rfl ?_
      refine L_y (y_assign rfl) rfl ?_
      refine L_nil ?_
      refine hK5 _ _ ?_
      refine T_true rfl ?_
      refine T_seq fun K6 hK6 => ?_
      refine T_region ?_
      refine L_y (y_assign rfl) rfl ?_
      refine L_nil ?_
      refine hK6 _ _ ?_
      refine T_ret ?_
      repeat (first | with_reducible refine up_then ?_ | with_reducible refine up_in ?_)
      refine ret1 rfl rfl ?_
      exact ⟨_, rfl, S1.like0, by unfold chkM; first | rw [if_pos (by omega)] | rw [if_neg (by omega), if_pos (by omega)] | rw [if_neg (by omega), if_neg (by omega), if_pos hnm] | rw [if_neg (by omega), if_neg (by omega), if_neg hnm, if_pos htm] | rw [if_neg (by omega), if_neg (by omega), if_neg hnm, if_neg htm]⟩
    ·
      refine L_gyes rfl rfl ?_
      refine L_y (y_fieldA 32 Try.underlying74 rfl sz3 rfl rfl rfl) rfl ?_
      refine L_gyes rfl rfl ?_
      refine L_y (y_ldc Try.underlying3 rfl rfl (((S1.blk 0 rfl).cell _).trans (mk32 x))) rfl ?_
      refine L_gyes rfl rfl ?_
      refine L_y (y_gtr rfl rfl) rfl ?_
      refine L_y ((by first | exact y_pickT rfl rfl | exact y_pickF rfl rfl)) rfl ?_
      refine L_y (y_assign rfl) rfl ?_
      refine L_nil ?_
      refine hK5 _ _ ?_
      refine T_cond rfl (fun h8 => ?_) (fun h8 => ?_)
      ·
        refine T_seq fun K7 hK7 => ?_
        refine T_region ?_
        refine L_y (y_assign rfl) rfl ?_
        refine L_nil ?_
        refine hK7 _ _ ?_
        refine T_ret ?_
        repeat (first | with_reducible refine up_then ?_ | with_reducible refine up_in ?_)
        refine ret1 rfl rfl ?_
        exact ⟨_, rfl, S1.like0, by unfold chkM; first | rw [if_pos (by omega)] | rw [if_neg (by omega), if_pos (by omega)] | rw [if_neg (by omega), if_neg (by omega), if_pos hnm] | rw [if_neg (by omega), if_neg (by omega), if_neg hnm, if_pos htm] | rw [if_neg (by omega), if_neg (by omega), if_neg hnm, if_neg htm]⟩
      ·
        refine T_seq fun K8 hK8 => ?_
        refine T_region ?_
        refine L_y (y_fieldA 33 Try.underlying74 rfl sz9 rfl rfl rfl) rfl ?_
        refine L_y (y_ldc Try.underlying9 rfl rfl (((S1.blk 0 rfl).cell _).trans (mk33 x))) rfl ?_
        refine L_o (o_call Try.func59 rfl rfl (Tre.pname x.nm w1) rfl rfl ?_)
        rintro e3 w3 ⟨v3, rfl, l3, rfl⟩
        refine ⟨_, rfl, ?_⟩
        have S3 := S1.like l3
        refine L_y ((by first | exact y_notD rfl | exact y_not rfl)) rfl ?_
        refine L_y (y_assign rfl) rfl ?_
        refine L_nil ?_
        refine hK8 _ _ ?_
        refine T_condB rfl (fun h17 => ?_) (fun h17 => ?_)
        ·
          have hnm : nmOk x.nm = false := by simpa using h17
          refine T_seq fun K9 hK9 => ?_
          refine T_region ?_
          refine L_y (y_assign rfl) rfl ?_
          refine L_nil ?_
          refine hK9 _ _ ?_
          refine T_ret ?_
          repeat (first | with_reducible refine up_then ?_ | with_reducible refine up_in ?_)
          refine ret1 rfl rfl ?_
          exact ⟨_, rfl, S3.like0, by unfold chkM; first | rw [if_pos (by omega)] | rw [if_neg (by omega), if_pos (by omega)] | rw [if_neg (by omega), if_neg (by omega), if_pos hnm] | rw [if_neg (by omega), if_neg (by omega), if_neg hnm, if_pos htm] | rw [if_neg (by omega), if_neg (by omega), if_neg hnm, if_neg htm]⟩
        ·
          have hnm : ¬ nmOk x.nm = false := by simpa using h17
          refine T_seq fun K10 hK10 => ?_
          refine T_region ?_
          refine L_y (y_fieldA 34 Try.underlying74 rfl sz3 rfl rfl rfl) rfl ?_
          refine L_y (y_ldc Try.underlying3 rfl rfl (((S3.blk 0 rfl).cell _).trans (mk34 x))) rfl ?_
          refine L_o (o_call Try.func60 rfl rfl (time_ x.tm w3) rfl rfl ?_)
          rintro e4 w4 ⟨v4, rfl, l4, rfl⟩
          refine ⟨_, rfl, ?_⟩
          have S4 := S3.like l4
          refine L_y ((by first | exact y_notD rfl | exact y_not rfl)) rfl ?_
          refine L_y (y_assign rfl) rfl ?_
          refine L_nil ?_
          refine hK10 _ _ ?_
          refine T_condB rfl (fun h22 => ?_) (fun h22 => ?_)
          ·
            have htm : x.tm < 0 ∨ 1099511627776 < x.tm := by simpa using h22
            refine T_seq fun K11 hK11 => ?_
            refine T_region ?_
            refine L_y (y_assign rfl) rfl ?_
            refine L_nil ?_
            refine hK11 _ _ ?_
            refine T_ret ?_
            repeat (first | with_reducible refine up_then ?_ | with_reducible refine up_in ?_)
            refine ret1 rfl rfl ?_
            exact ⟨_, rfl, S4.like0, by unfold chkM; first | rw [if_pos (by omega)] | rw [if_neg (by omega), if_pos (by omega)] | rw [if_neg (by omega), if_neg (by omega), if_pos hnm] | rw [if_neg (by omega), if_neg (by omega), if_neg hnm, if_pos htm] | rw [if_neg (by omega), if_neg (by omega), if_neg hnm, if_neg htm]⟩
          ·
            have htm : ¬ (x.tm < 0 ∨ 1099511627776 < x.tm) := by simpa using h22
            refine T_skip ?_
            refine hK2 _ _ ?_
            refine T_seq fun K12 hK12 => ?_
            refine T_region ?_
            refine L_y (y_assign rfl) rfl ?_
            refine L_nil ?_
            refine hK12 _ _ ?_
            refine T_ret ?_
            repeat (first | with_reducible refine up_then ?_ | with_reducible refine up_in ?_)
            refine ret1 rfl rfl ?_
            exact ⟨_, rfl, S4.like0, by unfold chkM; first | rw [if_pos (by omega)] | rw [if_neg (by omega), if_pos (by omega)] | rw [if_neg (by omega), if_neg (by omega), if_pos hnm] | rw [if_neg (by omega), if_neg (by omega), if_neg hnm, if_pos htm] | rw [if_neg (by omega), if_neg (by omega), if_neg hnm, if_neg htm]⟩


end Go.Proofs.Ytgaklngnfecdaaa.Rev


/-
  Reading a tag.
-/
namespace Go.Proofs.Ytgaklngnfecdaaa.Rev
open Go.RowKit Zk Zx
open Oid (idf hexL idf_len readR)
open Tre (nmOk)
set_option linter.unusedVariables false
set_option linter.unusedSimpArgs false

/-- What the lines of a tag say. -/
structure MkL where
  ob : Oid.Id
  kd : Nat
  nm : List UInt8
  tm : Nat
  tx : List UInt8
def mkOf (y : MkL) : Mk := ⟨y.ob, (y.kd : Int), ⟨y.nm.toArray⟩, (y.tm : Int), ⟨y.tx.toArray⟩⟩
def zML : MkL := ⟨⟨List.replicate 32 0, rfl⟩, 0, [], 0, []⟩
theorem zML_mk : mkOf zML = zMk := by kernel_rfl
def markR (s : List UInt8) : Option MkL :=
  (idR wObject s).bind fun o => (numbR wKind o.2).bind fun k => if 9 < k.1 then none else (lineR wName k.2).bind fun a => (numbR wTime a.2).bind fun n => (textR n.2).map fun x => ⟨o.1, k.1, a.1, n.1, x⟩
section
variable {s s1 s2 s3 s4 a x : List UInt8} {o : Oid.Id} {k n : Nat}
theorem m1 (h : idR wObject s = none) : markR s = none := by unfold markR; rw [h]; rfl
theorem m2 (h : idR wObject s = some (o, s1)) (hk : numbR wKind s1 = none) : markR s = none := by unfold markR; rw [h]; simp [hk]
theorem m3 (h : idR wObject s = some (o, s1)) (hk : numbR wKind s1 = some (k, s2)) (h9 : 9 < k) : markR s = none := by unfold markR; rw [h]; simp [hk, h9]
theorem m4 (h : idR wObject s = some (o, s1)) (hk : numbR wKind s1 = some (k, s2)) (ha : lineR wName s2 = none) : markR s = none := by
  unfold markR; rw [h]; by_cases h9 : 9 < k <;> simp [hk, h9, ha]
theorem m5 (h : idR wObject s = some (o, s1)) (hk : numbR wKind s1 = some (k, s2)) (ha : lineR wName s2 = some (a, s3)) (hn : numbR wTime s3 = none) : markR s = none := by
  unfold markR; rw [h]; by_cases h9 : 9 < k <;> simp [hk, h9, ha, hn]
theorem m6 (h : idR wObject s = some (o, s1)) (hk : numbR wKind s1 = some (k, s2)) (ha : lineR wName s2 = some (a, s3)) (hn : numbR wTime s3 = some (n, s4)) (hx : textR s4 = none) : markR s = none := by
  unfold markR; rw [h]; by_cases h9 : 9 < k <;> simp [hk, h9, ha, hn, hx]
theorem m7 (h : idR wObject s = some (o, s1)) (hk : numbR wKind s1 = some (k, s2)) (h9 : ¬ 9 < k) (ha : lineR wName s2 = some (a, s3)) (hn : numbR wTime s3 = some (n, s4)) (hx : textR s4 = some x) : markR s = some ⟨o, k, a, n, x⟩ := by
  unfold markR; rw [h]; simp [hk, h9, ha, hn, hx]
end
theorem stm (x : Mk) (t : Oid.Id) : ((mkf x).toArray.toList.take 0 ++ (idf t).toArray.toList ++ (mkf x).toArray.toList.drop (0 + (idf t).toArray.size)).toArray = (mkf { x with ob := t }).toArray := by
  simp only [List.take_zero, List.nil_append, List.size_toArray, idf_len, Nat.zero_add]
  congr 1
  show idf t ++ (mkf x).drop 32 = _
  unfold mkf
  rw [List.drop_append_of_le_length (by rw [idf_len]; omega), List.drop_of_length_le (by rw [idf_len]; omega), List.nil_append]
theorem stm_at (x : Mk) (k : Nat) (v : Value) (hk : k < 4) : (mkf x).toArray.setIfInBounds (32 + k) v = (idf x.ob ++ [Value.int .i64 x.kd, .string x.nm, .int .i64 x.tm, .string x.tx].set k v).toArray := by
  rw [List.setIfInBounds_toArray]
  congr 1
  unfold mkf
  rw [List.set_append_right _ _ (by rw [idf_len]; omega), idf_len, show 32 + k - 32 = k by omega]
theorem stm32 (x : Mk) (v : Int) : (mkf x).toArray.setIfInBounds 32 (.int .i64 v) = (mkf { x with kd := v }).toArray := stm_at x 0 _ (by omega)
theorem stm33 (x : Mk) (v : ByteArray) : (mkf x).toArray.setIfInBounds 33 (.string v) = (mkf { x with nm := v }).toArray := stm_at x 1 _ (by omega)
theorem stm34 (x : Mk) (v : Int) : (mkf x).toArray.setIfInBounds 34 (.int .i64 v) = (mkf { x with tm := v }).toArray := stm_at x 2 _ (by omega)
theorem stm35 (x : Mk) (v : ByteArray) : (mkf x).toArray.setIfInBounds 35 (.string v) = (mkf { x with tx := v }).toArray := stm_at x 3 _ (by omega)
/-- What GetMark answers. -/
def mcode (s : List UInt8) : Int := match markR s with
  | none => 12
  | some y => chkM (mkOf y)
def mval (s : List UInt8) : MkL := match markR s with
  | none => zML
  | some y => if chkM (mkOf y) = 0 then y else zML
theorem mo_some {s : List UInt8} {y : MkL} (h : markR s = some y) : mcode s = chkM (mkOf y) ∧ mval s = if chkM (mkOf y) = 0 then y else zML := by unfold mcode mval; rw [h]; exact ⟨rfl, rfl⟩
theorem mo_none {s : List UInt8} (h : markR s = none) : mcode s = 12 ∧ mval s = zML := by unfold mcode mval; rw [h]; exact ⟨rfl, rfl⟩
def kval (s : List UInt8) : MkL := (markR s).getD zML
def kcode (s : List UInt8) : Int := if (markR s).isSome then 0 else 12
theorem kcode_0 {s : List UInt8} (h : kcode s = 0) : markR s = some (kval s) := by
  unfold kcode at h
  unfold kval
  cases e : markR s with
  | none => rw [e] at h; cases h
  | some y => rfl
theorem kcode_n {s : List UInt8} (h : ¬ kcode s = 0) : markR s = none ∧ kcode s = 12 := by
  unfold kcode at h ⊢
  cases e : markR s with
  | none => exact ⟨rfl, rfl⟩
  | some y => rw [e] at h; exact absurd rfl h
theorem k_none {s : List UInt8} (h : markR s = none) : Value.tuple #[.agg (mkf zMk).toArray, .int .i64 12] = .tuple #[.agg (mkf (mkOf (kval s))).toArray, .int .i64 (kcode s)] := by
  rw [show kval s = zML by rw [kval, h]; rfl, show kcode s = 12 by rw [kcode, h]; rfl, zML_mk]
theorem k_some {s : List UInt8} {y : MkL} (h : markR s = some y) : Value.tuple #[.agg (mkf (mkOf y)).toArray, .int .i64 0] = .tuple #[.agg (mkf (mkOf (kval s))).toArray, .int .i64 (kcode s)] := by
  rw [show kval s = y by rw [kval, h]; rfl, show kcode s = 0 by rw [kcode, h]; rfl]


set_option maxRecDepth 100000 in
theorem mark (g : Nat) (s : List UInt8) (w0 : World) (hw : (rdR g s).holds w0) (hl : s.length ≤ 100000) :
    Calls Try.prog 87 #[.pointer (some ⟨g, 0, none⟩)] w0 fun e w' => ∃ u, e = .returned u ∧ ∃ s', Turned w0 w' (rdR g s) (rdR g s') ∧ u = .tuple #[.agg (mkf (mkOf (kval s))).toArray, .int .i64 (kcode s)] := by
  refine enterD1 (env := [(0, .pointer (some ⟨g, 0, none⟩))]) [.pointer (some ⟨g, 0, none⟩)] Try.func87 rfl Try.ntmps87 rfl rfl ?_
  have S0 := St.borrow1 (rdR g s) hw (rd_lt hw)
  refine T_seq fun K1 hK1 => ?_
  refine T_region ?_
  refine L_o (o_alloc zz74 S0 rfl fun b1 w1 hb1 S1 => ?_)
  refine L_o (o_alloc zz28 S1 rfl fun b2 w2 hb2 S2 => ?_)
  have S3 : Zx.St w0 (rdR g s).dom [rdR g s, blk b1 74 (mkf zMk).toArray, blk b2 28 #[Value.int .i64 0]] w2 := S2.cast (by kernel_rfl)
  have hne : b1 ≠ b2 := fun e => St.apart_ S3 1 2 rfl rfl rfl b1 rfl e
  refine L_nil ?_
  refine hK1 _ _ ?_
  refine T_seq fun K2 hK2 => ?_
  refine T_region ?_
  refine L_y (y_makeFunc rfl rfl) rfl ?_
  refine L_deferV rfl ?_
  refine L_nil ?_
  refine hK2 _ _ ?_
  refine T_seq fun K3 hK3 => ?_
  refine T_region ?_
  refine L_y (y_move rfl) rfl ?_
  refine L_o (o_callP Try.func125 rfl rfl (idr g s wObject w2 (S3.get 0 rfl) (by decide) (by omega)) rfl rfl ?_)
  rintro e4 w4 (⟨rfl, s9, T4, hno⟩ | ⟨v4, rfl, o, s1, hid, T4, rfl⟩)
  · exact .inr ⟨_, rfl, mark_pan rfl rfl rfl ((S3.turn 0 rfl T4).blk 1 rfl) (mkf_sz _) ((S3.turn 0 rfl T4).blk 2 rfl) hne (fun w' T' => ⟨_, rfl, _, (st_pan ((S3.turn 0 rfl T4).sel [0, 1, 2] (by decide)) T').turned1 0 rfl, k_none (m1 hno)⟩)⟩
  refine .inl ⟨_, rfl, ?_⟩
  have S4 := S3.turn 0 rfl T4
  have hl1 := idR_len hid
  refine L_y (y_fieldA 0 Try.underlying74 rfl sz23 rfl rfl rfl) rfl ?_
  refine L_o (o_stR S4 1 rfl rfl rfl (by rw [List.size_toArray, idf_len]; exact sz23) (by rw [List.size_toArray, idf_len, mkf_sz]; omega) (fun u hu => bL_one _ u (by rw [List.toList_toArray] at hu; exact hu)) fun w5 S5 => ?_)
  have S6 := S5.blkc 1 rfl (show _ = (mkf (⟨o, 0, ⟨#[]⟩, 0, ⟨#[]⟩⟩ : Mk)).toArray from stm zMk o)
  have S7 : Zx.St w0 (rdR g s).dom [rdR g s1, blk b1 74 (mkf (⟨o, 0, ⟨#[]⟩, 0, ⟨#[]⟩⟩ : Mk)).toArray, blk b2 28 #[Value.int .i64 0]] w5 := S6.cast (by kernel_rfl)
  refine L_nil ?_
  refine hK3 _ _ ?_
  refine T_seq fun K4 hK4 => ?_
  refine T_region ?_
  refine L_y (y_move rfl) rfl ?_
  refine L_o (o_callP Try.func128 rfl rfl (numb g s1 wKind w5 (S7.get 0 rfl) (by decide) (by omega)) rfl rfl ?_)
  rintro e8 w8 (⟨rfl, s9, T8, hno⟩ | ⟨v8, rfl, kd, s2, hkd, T8, rfl⟩)
  · exact .inr ⟨_, rfl, mark_pan rfl rfl rfl ((S7.turn 0 rfl T8).blk 1 rfl) (mkf_sz _) ((S7.turn 0 rfl T8).blk 2 rfl) hne (fun w' T' => ⟨_, rfl, _, (st_pan ((S7.turn 0 rfl T8).sel [0, 1, 2] (by decide)) T').turned1 0 rfl, k_none (m2 hid hno)⟩)⟩
  refine .inl ⟨_, rfl, ?_⟩
  have S8 := S7.turn 0 rfl T8
  have hl2 := (numbR_len hkd).1
  refine L_y (y_fieldA 32 Try.underlying74 rfl sz3 rfl rfl rfl) rfl ?_
  refine L_o (o_st1 S8 1 rfl rfl rfl rfl sz3 (by rw [mkf_sz]; omega) fun w9 S9 => ?_)
  have S10 := S9.blkc 1 rfl (show _ = (mkf (⟨o, (kd : Int), ⟨#[]⟩, 0, ⟨#[]⟩⟩ : Mk)).toArray from stm32 (⟨o, 0, ⟨#[]⟩, 0, ⟨#[]⟩⟩ : Mk) _)
  have S11 : Zx.St w0 (rdR g s).dom [rdR g s2, blk b1 74 (mkf (⟨o, (kd : Int), ⟨#[]⟩, 0, ⟨#[]⟩⟩ : Mk)).toArray, blk b2 28 #[Value.int .i64 0]] w9 := S10.cast (by kernel_rfl)
  refine L_nil ?_
  refine hK4 _ _ ?_
  refine T_seq fun K5 hK5 => ?_
  refine T_seq fun K6 hK6 => ?_
  refine T_region ?_
  refine L_y (y_fieldA 32 Try.underlying74 rfl sz3 rfl rfl rfl) rfl ?_
  refine L_y (y_ldc Try.underlying3 rfl rfl (((S11.blk 1 rfl).cell _).trans (mk32 _))) rfl ?_
  refine L_y (y_gtr rfl rfl) rfl ?_
  refine L_nil ?_
  refine hK6 _ _ ?_
  refine T_cond rfl (fun h13 => ?_) (fun h13 => ?_)
  ·
    have h9k : (9 : Int) < (kd : Int) := h13
    refine T_region ?_
    refine L_y (y_build rfl (show _ = some #[Value.int .i64 12] by kernel_rfl)) rfl ?_
    refine L_y (y_mkI (by kernel_rfl) rfl) rfl ?_
    refine L_panic rfl ?_
    exact mark_pan rfl rfl rfl (S11.blk 1 rfl) (mkf_sz _) (S11.blk 2 rfl) hne (fun w' T' => ⟨_, rfl, _, (st_pan (S11.sel [0, 1, 2] (by decide)) T').turned1 0 rfl, k_none (m3 hid hkd (by omega))⟩)
  ·
    have h9k : ¬ (9 : Int) < (kd : Int) := h13
    refine T_skip ?_
    refine hK5 _ _ ?_
    refine T_seq fun K7 hK7 => ?_
    refine T_region ?_
    refine L_y (y_move rfl) rfl ?_
    refine L_o (o_callP Try.func127 rfl rfl (take g s2 wName w9 (S11.get 0 rfl) (by decide) (by omega)) rfl rfl ?_)
    rintro e12 w12 (⟨rfl, T12, hno⟩ | ⟨v12, rfl, nm, s3, hnm, T12, rfl⟩)
    · exact .inr ⟨_, rfl, mark_pan rfl rfl rfl ((S11.turn 0 rfl T12).blk 1 rfl) (mkf_sz _) ((S11.turn 0 rfl T12).blk 2 rfl) hne (fun w' T' => ⟨_, rfl, _, (st_pan ((S11.turn 0 rfl T12).sel [0, 1, 2] (by decide)) T').turned1 0 rfl, k_none (m4 hid hkd hno)⟩)⟩
    refine .inl ⟨_, rfl, ?_⟩
    have S12 := S11.turn 0 rfl T12
    have hl3 := lineR_len2 hnm
    refine L_y (y_fieldA 33 Try.underlying74 rfl sz9 rfl rfl rfl) rfl ?_
    refine L_o (o_st1 S12 1 rfl rfl rfl rfl sz9 (by rw [mkf_sz]; omega) fun w13 S13 => ?_)
    have S14 := S13.blkc 1 rfl (show _ = (mkf (⟨o, (kd : Int), ⟨nm.toArray⟩, 0, ⟨#[]⟩⟩ : Mk)).toArray from stm33 (⟨o, (kd : Int), ⟨#[]⟩, 0, ⟨#[]⟩⟩ : Mk) _)
    have S15 : Zx.St w0 (rdR g s).dom [rdR g s3, blk b1 74 (mkf (⟨o, (kd : Int), ⟨nm.toArray⟩, 0, ⟨#[]⟩⟩ : Mk)).toArray, blk b2 28 #[Value.int .i64 0]] w13 := S14.cast (by kernel_rfl)
    refine L_nil ?_
    refine hK7 _ _ ?_
    refine T_seq fun K8 hK8 => ?_
    refine T_region ?_
    refine L_y (y_move rfl) rfl ?_
    refine L_o (o_callP Try.func128 rfl rfl (numb g s3 wTime w13 (S15.get 0 rfl) (by decide) (by omega)) rfl rfl ?_)
    rintro e16 w16 (⟨rfl, s9, T16, hno⟩ | ⟨v16, rfl, tm, s4, htm, T16, rfl⟩)
    · exact .inr ⟨_, rfl, mark_pan rfl rfl rfl ((S15.turn 0 rfl T16).blk 1 rfl) (mkf_sz _) ((S15.turn 0 rfl T16).blk 2 rfl) hne (fun w' T' => ⟨_, rfl, _, (st_pan ((S15.turn 0 rfl T16).sel [0, 1, 2] (by decide)) T').turned1 0 rfl, k_none (m5 hid hkd hnm hno)⟩)⟩
    refine .inl ⟨_, rfl, ?_⟩
    have S16 := S15.turn 0 rfl T16
    have hl4 := (numbR_len htm).1
    refine L_y (y_fieldA 34 Try.underlying74 rfl sz3 rfl rfl rfl) rfl ?_
    refine L_o (o_st1 S16 1 rfl rfl rfl rfl sz3 (by rw [mkf_sz]; omega) fun w17 S17 => ?_)
    have S18 := S17.blkc 1 rfl (show _ = (mkf (⟨o, (kd : Int), ⟨nm.toArray⟩, (tm : Int), ⟨#[]⟩⟩ : Mk)).toArray from stm34 (⟨o, (kd : Int), ⟨nm.toArray⟩, 0, ⟨#[]⟩⟩ : Mk) _)
    have S19 : Zx.St w0 (rdR g s).dom [rdR g s4, blk b1 74 (mkf (⟨o, (kd : Int), ⟨nm.toArray⟩, (tm : Int), ⟨#[]⟩⟩ : Mk)).toArray, blk b2 28 #[Value.int .i64 0]] w17 := S18.cast (by kernel_rfl)
    refine L_nil ?_
    refine hK8 _ _ ?_
    refine T_seq fun K9 hK9 => ?_
    refine T_region ?_
    refine L_y (y_move rfl) rfl ?_
    refine L_o (o_callP Try.func129 rfl rfl (text_ g s4 w17 (S19.get 0 rfl)) rfl rfl ?_)
    rintro e20 w20 (⟨rfl, T20, hno⟩ | ⟨v20, rfl, tx, htx, T20, rfl⟩)
    · exact .inr ⟨_, rfl, mark_pan rfl rfl rfl ((S19.turn 0 rfl T20).blk 1 rfl) (mkf_sz _) ((S19.turn 0 rfl T20).blk 2 rfl) hne (fun w' T' => ⟨_, rfl, _, (st_pan ((S19.turn 0 rfl T20).sel [0, 1, 2] (by decide)) T').turned1 0 rfl, k_none (m6 hid hkd hnm htm hno)⟩)⟩
    refine .inl ⟨_, rfl, ?_⟩
    have S20 := S19.turn 0 rfl T20
    refine L_y (y_fieldA 35 Try.underlying74 rfl sz9 rfl rfl rfl) rfl ?_
    refine L_o (o_st1 S20 1 rfl rfl rfl rfl sz9 (by rw [mkf_sz]; omega) fun w21 S21 => ?_)
    have S22 := S21.blkc 1 rfl (show _ = (mkf (⟨o, (kd : Int), ⟨nm.toArray⟩, (tm : Int), ⟨tx.toArray⟩⟩ : Mk)).toArray from stm35 (⟨o, (kd : Int), ⟨nm.toArray⟩, (tm : Int), ⟨#[]⟩⟩ : Mk) _)
    have S23 : Zx.St w0 (rdR g s).dom [rdR g s4, blk b1 74 (mkf (⟨o, (kd : Int), ⟨nm.toArray⟩, (tm : Int), ⟨tx.toArray⟩⟩ : Mk)).toArray, blk b2 28 #[Value.int .i64 0]] w21 := S22.cast (by kernel_rfl)
    refine L_nil ?_
    refine hK9 _ _ ?_
    refine T_seq fun K10 hK10 => ?_
    refine T_region ?_
    refine L_y (y_ldW Try.underlying74 rfl sz74 rfl (S23.blk 1 rfl) (mk_whole _)) rfl ?_
    refine L_o (o_stW S23 1 rfl rfl rfl (by rw [mkf_sz]; exact sz74) (by rw [mkf_sz]) (fun u hu => mkf_one _ u (by rw [List.toList_toArray] at hu; exact hu)) fun w24 S24 => ?_)
    refine L_o (o_st1 S24 2 rfl rfl rfl rfl sz28 (by simp; done) fun w25 S25 => ?_)
    refine L_nil ?_
    refine hK10 _ _ ?_
    refine T_ret ?_
    repeat (first | with_reducible refine up_then ?_ | with_reducible refine up_in ?_)
    refine mark_ret rfl rfl rfl (S25.blk 1 rfl) (mkf_sz _) (S25.blk 2 rfl) ?_
    intro w' l'
    exact ⟨_, rfl, _, (S25.like l').turned1 0 rfl, k_some (y := ⟨o, kd, nm, tm, tx⟩) (m7 hid hkd (by omega) hnm htm htx)⟩
end Go.Proofs.Ytgaklngnfecdaaa.Rev


/-
  '==' on structs of any plain fields. General; nothing here names a program.
-/
namespace Go.Proofs.Ytgaklngnfecdaaa.Zx
open Go.RowKit Zk
set_option linter.unusedVariables false
set_option linter.unusedSimpArgs false
section
variable {P : Program}
/-- What '==' says of one field. -/
def FE (P : Program) (d : Nat) (xs ys : Array Value) (f : Field) (b : Bool) : Prop :=
  f.name ≠ "_" ∧ ∃ vx vy, (∀ w, (part f.type xs f.offset).run P w = .ok vx w) ∧ (∀ w, (part f.type ys f.offset).run P w = .ok vy w) ∧ (∀ w, (Op.equalIn d f.type vx vy).run P w = .ok b w)
inductive EqFs (P : Program) (d : Nat) (xs ys : Array Value) : List Field → Bool → Prop
  | nil : EqFs P d xs ys [] true
  | cons {f : Field} {fs : List Field} {b r : Bool} : FE P d xs ys f b → EqFs P d xs ys fs r → EqFs P d xs ys (f :: fs) (b && r)
theorem EqFs.run {d : Nat} {xs ys : Array Value} : ∀ {fs : List Field} {r : Bool}, EqFs P d xs ys fs r → ∀ w, (Op.eqFields d xs ys fs).run P w = .ok r w
  | _, _, .nil, w => rfl
  | _, _, .cons (f := f) (fs := fs) (b := b) (r := r) ⟨hn, vx, vy, h1, h2, h3⟩ h, w => by
    rw [Op.eqFields, if_pos hn, Sem.run_bind, h1 w, Result.andThen_ok, Sem.run_bind, h2 w, Result.andThen_ok, Sem.run_bind, h3 w, Result.andThen_ok]
    cases b with
    | true =>
      simp only [Bool.not_true, Bool.false_eq_true, if_false]
      rw [h.run w]
      rfl
    | false =>
      simp only [Bool.not_false, if_true, Sem.run_pure]
      rfl
variable {S : World → Prop} {env : Env} {dst : Option Tmp} {ty : TypeId} {pos : String} {after : Array Edge} {g : Option (Nat × Bool)}
end
end Go.Proofs.Ytgaklngnfecdaaa.Zx


/-
  GetMark.
-/
namespace Go.Proofs.Ytgaklngnfecdaaa.Rev
open Go.RowKit Zk Zx
open Oid (idf hexL idf_len readR)
open Tre (nmOk)
set_option linter.unusedVariables false
set_option linter.unusedSimpArgs false

end Go.Proofs.Ytgaklngnfecdaaa.Rev


/-
  The laws of tags.
-/
namespace Go.Proofs.Ytgaklngnfecdaaa.Rev
open Go.RowKit Zk Zx
open Oid (idf hexL idf_len readR)
open Tre (nmOk)
set_option linter.unusedVariables false
set_option linter.unusedSimpArgs false

end Go.Proofs.Ytgaklngnfecdaaa.Rev


/-
  Tags as a law's arguments.
-/
namespace Go.Proofs.Ytgaklngnfecdaaa.Rev
open Go.ChangeShapes Go.WideShapes Go.ChangeAt Go.RowKit Go.Deep Zk Zx
open Oid (idf idf_len)
set_option linter.unusedVariables false
set_option linter.unusedSimpArgs false
set_option maxRecDepth 100000
section
variable {H : Type} {enc : TypeId × Value → H} {w : World} {base : Nat} {spare : Nat → Bool} {held : Bool}
end
end Go.Proofs.Ytgaklngnfecdaaa.Rev


/-
  Get and GetMark at longer bytes.
-/
namespace Go.Proofs.Ytgaklngnfecdaaa.Rev
open Go.RowKit Zk Zx
open Oid (idf hexL idf_len readR)
open Tre (nmOk)
set_option linter.unusedVariables false
set_option linter.unusedSimpArgs false

set_option maxRecDepth 100000 in
theorem getB (B : Option Addr) (m d : Nat) (s : List UInt8) (w0 : World) (hb : Rs w0 1 B m d (bL s)) (hl : s.length ≤ 90000) :
    Calls Try.prog 35 #[.slice B m d] w0 fun e w' => ∃ u, e = .returned u ∧ Like w0 w' ∧ ∃ A c, Fr w0 w' 32 A (gval s).ps.length c ((gval s).ps.flatMap idf) ∧ u = .tuple #[.agg (cmf (cmOf (gval s) A (gval s).ps.length c)).toArray, .int .i64 (gcode s)] := by
  refine enter1 (env := [(0, .slice B m d)]) [.slice B m d] Try.func35 rfl Try.ntmps35 rfl rfl ?_
  have S0 := St.start w0 noM
  refine T_seq fun K1 hK1 => ?_
  refine T_region ?_
  refine L_o (o_alloc zz26 S0 rfl fun b1 w1 hb1 S1 => ?_)
  refine L_y (y_assign rfl) rfl ?_
  refine L_nil ?_
  refine hK1 _ _ ?_
  refine T_seq fun K2 hK2 => ?_
  refine T_region ?_
  refine L_y (y_move rfl) rfl ?_
  refine L_y (y_bstr Try.underlying27 Try.underlying5 Try.underlying9 rfl (by first | exact S1.rd hb)) rfl ?_
  refine L_y (y_build rfl (show _ = some #[Value.string ⟨s.toArray⟩] by kernel_rfl)) rfl ?_
  refine L_o (o_box rfl S1 rfl fun b2 w2 hb2 S2 => ?_)
  have S3 : Zx.St w0 noM [blk b1 26 (cmf zCm).toArray, rdR b2 s] w2 := S2.cast (by kernel_rfl)
  refine L_y (y_assign rfl) rfl ?_
  refine L_nil ?_
  refine hK2 _ _ ?_
  refine T_seq fun K3 hK3 => ?_
  refine T_region ?_
  refine L_y (y_move rfl) rfl ?_
  refine L_o (o_call Try.func83 rfl rfl (readr' b2 s w2 (S3.get 1 rfl) (by omega)) rfl rfl ?_)
  rintro e4 w4 ⟨v4, rfl, s9, A, c, T4, hf4, rfl⟩
  refine ⟨_, rfl, ?_⟩
  have S4 := S3.turn 1 rfl T4
  have S5 := St.newF S3 1 rfl T4 (fun i hi => hi) hf4
  refine L_y (y_move rfl) rfl ?_
  refine L_y (y_extract rfl rfl) rfl ?_
  refine L_y (y_extract rfl rfl) rfl ?_
  refine L_o (o_alloc zz26 S5 rfl fun b6 w6 hb6 S6 => ?_)
  refine L_o (o_stW S6 3 rfl rfl rfl (by rw [cmf_sz]; exact sz26) (by first | (rw [cmf_sz]; done) | (rw [cmf_sz]; rfl)) (fun u hu => cmf_one _ u (by rw [List.toList_toArray] at hu; exact hu)) fun w7 S7 => ?_)
  refine L_y (y_assign rfl) rfl ?_
  refine L_nil ?_
  refine hK3 _ _ ?_
  refine T_seq fun K4 hK4 => ?_
  refine T_seq fun K5 hK5 => ?_
  refine T_region ?_
  refine L_y (y_move rfl) rfl ?_
  refine L_y (y_eql rfl rfl) rfl ?_
  refine L_nil ?_
  refine hK5 _ _ ?_
  refine T_cond rfl (fun h17 => ?_) (fun h17 => ?_)
  ·
    have hg := rcode_0 h17
    refine T_region ?_
    refine L_y (y_ldW Try.underlying26 rfl sz26 rfl (S7.blk 3 rfl) (cm_whole _)) rfl ?_
    refine L_o (o_call Try.func19 rfl rfl (check (cmOf (rval s) A _ c) w7 (S7.fix 2 rfl)) rfl rfl ?_)
    rintro e8 w8 ⟨v8, rfl, l8, rfl⟩
    refine ⟨_, rfl, ?_⟩
    have S8 := S7.like l8
    refine L_y (y_assign rfl) rfl ?_
    refine L_nil ?_
    refine hK4 _ _ ?_
    refine T_seq fun K6 hK6 => ?_
    refine T_seq fun K7 hK7 => ?_
    refine T_region ?_
    refine L_y (y_move rfl) rfl ?_
    refine L_y (y_neq rfl rfl) rfl ?_
    refine L_nil ?_
    refine hK7 _ _ ?_
    refine T_cond rfl (fun h21 => ?_) (fun h21 => ?_)
    ·
      refine T_seq fun K8 hK8 => ?_
      refine T_region ?_
      refine L_y (y_build rfl (show _ = some (cmf zCm).toArray by kernel_rfl)) rfl ?_
      refine L_y (y_move rfl) rfl ?_
      refine L_o (o_stW S8 0 rfl rfl rfl (by rw [cmf_sz]; exact sz26) (by first | (rw [cmf_sz]; done) | (rw [cmf_sz]; rfl)) (fun u hu => cmf_one _ u (by rw [List.toList_toArray] at hu; exact hu)) fun w9 S9 => ?_)
      refine L_y (y_assign rfl) rfl ?_
      refine L_nil ?_
      refine hK8 _ _ ?_
      refine T_ret ?_
      repeat (first | with_reducible refine up_then ?_ | with_reducible refine up_in ?_)
      refine retct rfl rfl rfl (S9.blk 0 rfl) Try.underlying26 rfl (by rw [cmf_sz]; exact sz26) ?_
      have hgo := go_some hg
      have hgc : chk (cmOf (rval s) A (rval s).ps.length c) = chk (cmO (rval s)) := rfl
      have hv : gval s = zL := by rw [hgo.2, if_neg (fun e => h21 (hgc.trans e))]
      rw [hv, hgo.1]
      refine ⟨_, rfl, S9.like0, none, 0, fr_nil _ _ _, ?_⟩
      exact congrArg (fun x => Value.tuple #[.agg (cmf x).toArray, _]) zL_cm.symm
    ·
      refine T_skip ?_
      refine hK6 _ _ ?_
      refine T_seq fun K9 hK9 => ?_
      refine T_region ?_
      refine L_y (y_ldW Try.underlying26 rfl sz26 rfl (S8.blk 3 rfl) (cm_whole _)) rfl ?_
      refine L_o (o_stW S8 0 rfl rfl rfl (by rw [cmf_sz]; exact sz26) (by first | (rw [cmf_sz]; done) | (rw [cmf_sz]; rfl)) (fun u hu => cmf_one _ u (by rw [List.toList_toArray] at hu; exact hu)) fun w10 S10 => ?_)
      refine L_y (y_assign rfl) rfl ?_
      refine L_nil ?_
      refine hK9 _ _ ?_
      refine T_ret ?_
      repeat (first | with_reducible refine up_then ?_ | with_reducible refine up_in ?_)
      refine retct rfl rfl rfl (S10.blk 0 rfl) Try.underlying26 rfl (by rw [cmf_sz]; exact sz26) ?_
      have hgo := go_some hg
      have hgc : chk (cmOf (rval s) A (rval s).ps.length c) = chk (cmO (rval s)) := rfl
      have h0 : chk (cmO (rval s)) = 0 := Classical.byContradiction fun e => h21 e
      have hv : gval s = rval s := by rw [hgo.2, if_pos h0]
      rw [hv, hgo.1, h0]
      exact ⟨_, rfl, S10.like0, A, c, S10.fr 2 rfl, rfl⟩
  ·
    have hg := rcode_n h17
    refine T_skip ?_
    refine hK4 _ _ ?_
    refine T_seq fun K10 hK10 => ?_
    refine T_seq fun K11 hK11 => ?_
    refine T_region ?_
    refine L_y (y_move rfl) rfl ?_
    refine L_y (y_neq rfl rfl) rfl ?_
    refine L_nil ?_
    refine hK11 _ _ ?_
    refine T_cond rfl (fun h21 => ?_) (fun h21 => ?_)
    ·
      refine T_seq fun K12 hK12 => ?_
      refine T_region ?_
      refine L_y (y_build rfl (show _ = some (cmf zCm).toArray by kernel_rfl)) rfl ?_
      refine L_y (y_move rfl) rfl ?_
      refine L_o (o_stW S7 0 rfl rfl rfl (by rw [cmf_sz]; exact sz26) (by first | (rw [cmf_sz]; done) | (rw [cmf_sz]; rfl)) (fun u hu => cmf_one _ u (by rw [List.toList_toArray] at hu; exact hu)) fun w11 S11 => ?_)
      refine L_y (y_assign rfl) rfl ?_
      refine L_nil ?_
      refine hK12 _ _ ?_
      refine T_ret ?_
      repeat (first | with_reducible refine up_then ?_ | with_reducible refine up_in ?_)
      refine retct rfl rfl rfl (S11.blk 0 rfl) Try.underlying26 rfl (by rw [cmf_sz]; exact sz26) ?_
      have hgo := go_none hg.1
      have hv : gval s = zL := hgo.2
      rw [hv, hgo.1]
      refine ⟨_, rfl, S11.like0, none, 0, fr_nil _ _ _, ?_⟩
      show Value.tuple #[.agg (cmf zCm).toArray, .int .i64 (rcode s)] = _
      rw [hg.2]
      exact congrArg (fun x => Value.tuple #[.agg (cmf x).toArray, _]) zL_cm.symm
    ·
      refine T_skip ?_
      refine hK10 _ _ ?_
      refine T_seq fun K13 hK13 => ?_
      refine T_region ?_
      refine L_y (y_ldW Try.underlying26 rfl sz26 rfl (S7.blk 3 rfl) (cm_whole _)) rfl ?_
      refine L_o (o_stW S7 0 rfl rfl rfl (by rw [cmf_sz]; exact sz26) (by first | (rw [cmf_sz]; done) | (rw [cmf_sz]; rfl)) (fun u hu => cmf_one _ u (by rw [List.toList_toArray] at hu; exact hu)) fun w12 S12 => ?_)
      refine L_y (y_assign rfl) rfl ?_
      refine L_nil ?_
      refine hK13 _ _ ?_
      refine T_ret ?_
      repeat (first | with_reducible refine up_then ?_ | with_reducible refine up_in ?_)
      refine retct rfl rfl rfl (S12.blk 0 rfl) Try.underlying26 rfl (by rw [cmf_sz]; exact sz26) ?_
      exact absurd hg.2 (fun e => h21 (by rw [e]; decide))


set_option maxRecDepth 100000 in
theorem getMB (B : Option Addr) (m d : Nat) (s : List UInt8) (w0 : World) (hb : Rs w0 1 B m d (bL s)) (hl : s.length ≤ 90000) :
    Calls Try.prog 41 #[.slice B m d] w0 fun e w' => ∃ u, e = .returned u ∧ Like w0 w' ∧ u = .tuple #[.agg (mkf (mkOf (mval s))).toArray, .int .i64 (mcode s)] := by
  refine enter1 (env := [(0, .slice B m d)]) [.slice B m d] Try.func41 rfl Try.ntmps41 rfl rfl ?_
  have S0 := St.start w0 noM
  refine T_seq fun K1 hK1 => ?_
  refine T_region ?_
  refine L_o (o_alloc zz74 S0 rfl fun b1 w1 hb1 S1 => ?_)
  refine L_y (y_assign rfl) rfl ?_
  refine L_nil ?_
  refine hK1 _ _ ?_
  refine T_seq fun K2 hK2 => ?_
  refine T_region ?_
  refine L_y (y_move rfl) rfl ?_
  refine L_y (y_bstr Try.underlying27 Try.underlying5 Try.underlying9 rfl (by first | exact S1.rd hb)) rfl ?_
  refine L_y (y_build rfl (show _ = some #[Value.string ⟨s.toArray⟩] by kernel_rfl)) rfl ?_
  refine L_o (o_box rfl S1 rfl fun b2 w2 hb2 S2 => ?_)
  have S3 : Zx.St w0 noM [blk b1 74 (mkf zMk).toArray, rdR b2 s] w2 := S2.cast (by kernel_rfl)
  refine L_y (y_assign rfl) rfl ?_
  refine L_nil ?_
  refine hK2 _ _ ?_
  refine T_seq fun K3 hK3 => ?_
  refine T_region ?_
  refine L_y (y_move rfl) rfl ?_
  refine L_o (o_call Try.func87 rfl rfl (mark b2 s w2 (S3.get 1 rfl) (by omega)) rfl rfl ?_)
  rintro e4 w4 ⟨v4, rfl, s9, T4, rfl⟩
  refine ⟨_, rfl, ?_⟩
  have S4 := S3.turn 1 rfl T4
  refine L_y (y_move rfl) rfl ?_
  refine L_y (y_extract rfl rfl) rfl ?_
  refine L_y (y_extract rfl rfl) rfl ?_
  refine L_o (o_alloc zz74 S4 rfl fun b5 w5 hb5 S5 => ?_)
  refine L_o (o_stW S5 2 rfl rfl rfl (by rw [mkf_sz]; exact sz74) (by first | (rw [mkf_sz]; done) | (rw [mkf_sz]; rfl)) (fun u hu => mkf_one _ u (by rw [List.toList_toArray] at hu; exact hu)) fun w6 S6 => ?_)
  refine L_y (y_assign rfl) rfl ?_
  refine L_nil ?_
  refine hK3 _ _ ?_
  refine T_seq fun K4 hK4 => ?_
  refine T_seq fun K5 hK5 => ?_
  refine T_region ?_
  refine L_y (y_move rfl) rfl ?_
  refine L_y (y_eql rfl rfl) rfl ?_
  refine L_nil ?_
  refine hK5 _ _ ?_
  refine T_cond rfl (fun h17 => ?_) (fun h17 => ?_)
  ·
    have hg := kcode_0 h17
    refine T_region ?_
    refine L_y (y_ldW Try.underlying74 rfl sz74 rfl (S6.blk 2 rfl) (mk_whole _)) rfl ?_
    refine L_o (o_call Try.func43 rfl rfl (checkM (mkOf (kval s)) w6) rfl rfl ?_)
    rintro e7 w7 ⟨v7, rfl, l7, rfl⟩
    refine ⟨_, rfl, ?_⟩
    have S7 := S6.like l7
    refine L_y (y_assign rfl) rfl ?_
    refine L_nil ?_
    refine hK4 _ _ ?_
    refine T_seq fun K6 hK6 => ?_
    refine T_seq fun K7 hK7 => ?_
    refine T_region ?_
    refine L_y (y_move rfl) rfl ?_
    refine L_y (y_neq rfl rfl) rfl ?_
    refine L_nil ?_
    refine hK7 _ _ ?_
    refine T_cond rfl (fun h21 => ?_) (fun h21 => ?_)
    ·
      refine T_seq fun K8 hK8 => ?_
      refine T_region ?_
      refine L_y (y_build rfl (show _ = some (mkf zMk).toArray by kernel_rfl)) rfl ?_
      refine L_y (y_move rfl) rfl ?_
      refine L_o (o_stW S7 0 rfl rfl rfl (by rw [mkf_sz]; exact sz74) (by first | (rw [mkf_sz]; done) | (rw [mkf_sz]; rfl)) (fun u hu => mkf_one _ u (by rw [List.toList_toArray] at hu; exact hu)) fun w8 S8 => ?_)
      refine L_y (y_assign rfl) rfl ?_
      refine L_nil ?_
      refine hK8 _ _ ?_
      refine T_ret ?_
      repeat (first | with_reducible refine up_then ?_ | with_reducible refine up_in ?_)
      refine retct rfl rfl rfl (S8.blk 0 rfl) Try.underlying74 rfl (by rw [mkf_sz]; exact sz74) ?_
      have hgo := mo_some hg
      have hv : mval s = zML := by rw [hgo.2, if_neg (show ¬ chkM (mkOf (kval s)) = 0 from fun e => h21 e)]
      rw [hv, hgo.1, zML_mk]
      exact ⟨_, rfl, S8.like0, rfl⟩
    ·
      refine T_skip ?_
      refine hK6 _ _ ?_
      refine T_seq fun K9 hK9 => ?_
      refine T_region ?_
      refine L_y (y_ldW Try.underlying74 rfl sz74 rfl (S7.blk 2 rfl) (mk_whole _)) rfl ?_
      refine L_o (o_stW S7 0 rfl rfl rfl (by rw [mkf_sz]; exact sz74) (by first | (rw [mkf_sz]; done) | (rw [mkf_sz]; rfl)) (fun u hu => mkf_one _ u (by rw [List.toList_toArray] at hu; exact hu)) fun w9 S9 => ?_)
      refine L_y (y_assign rfl) rfl ?_
      refine L_nil ?_
      refine hK9 _ _ ?_
      refine T_ret ?_
      repeat (first | with_reducible refine up_then ?_ | with_reducible refine up_in ?_)
      refine retct rfl rfl rfl (S9.blk 0 rfl) Try.underlying74 rfl (by rw [mkf_sz]; exact sz74) ?_
      have hgo := mo_some hg
      have h0 : chkM (mkOf (kval s)) = 0 := Classical.byContradiction fun e => h21 e
      have hv : mval s = kval s := by rw [hgo.2, if_pos h0]
      rw [hv, hgo.1, h0]
      exact ⟨_, rfl, S9.like0, rfl⟩
  ·
    have hg := kcode_n h17
    refine T_skip ?_
    refine hK4 _ _ ?_
    refine T_seq fun K10 hK10 => ?_
    refine T_seq fun K11 hK11 => ?_
    refine T_region ?_
    refine L_y (y_move rfl) rfl ?_
    refine L_y (y_neq rfl rfl) rfl ?_
    refine L_nil ?_
    refine hK11 _ _ ?_
    refine T_cond rfl (fun h21 => ?_) (fun h21 => ?_)
    ·
      refine T_seq fun K12 hK12 => ?_
      refine T_region ?_
      refine L_y (y_build rfl (show _ = some (mkf zMk).toArray by kernel_rfl)) rfl ?_
      refine L_y (y_move rfl) rfl ?_
      refine L_o (o_stW S6 0 rfl rfl rfl (by rw [mkf_sz]; exact sz74) (by first | (rw [mkf_sz]; done) | (rw [mkf_sz]; rfl)) (fun u hu => mkf_one _ u (by rw [List.toList_toArray] at hu; exact hu)) fun w10 S10 => ?_)
      refine L_y (y_assign rfl) rfl ?_
      refine L_nil ?_
      refine hK12 _ _ ?_
      refine T_ret ?_
      repeat (first | with_reducible refine up_then ?_ | with_reducible refine up_in ?_)
      refine retct rfl rfl rfl (S10.blk 0 rfl) Try.underlying74 rfl (by rw [mkf_sz]; exact sz74) ?_
      have hgo := mo_none hg.1
      have hv : mval s = zML := hgo.2
      rw [hv, hgo.1, zML_mk]
      exact ⟨_, rfl, S10.like0, by show Value.tuple #[.agg (mkf zMk).toArray, .int .i64 (kcode s)] = _; rw [hg.2]⟩
    ·
      refine T_skip ?_
      refine hK10 _ _ ?_
      refine T_seq fun K13 hK13 => ?_
      refine T_region ?_
      refine L_y (y_ldW Try.underlying74 rfl sz74 rfl (S6.blk 2 rfl) (mk_whole _)) rfl ?_
      refine L_o (o_stW S6 0 rfl rfl rfl (by rw [mkf_sz]; exact sz74) (by first | (rw [mkf_sz]; done) | (rw [mkf_sz]; rfl)) (fun u hu => mkf_one _ u (by rw [List.toList_toArray] at hu; exact hu)) fun w11 S11 => ?_)
      refine L_y (y_assign rfl) rfl ?_
      refine L_nil ?_
      refine hK13 _ _ ?_
      refine T_ret ?_
      repeat (first | with_reducible refine up_then ?_ | with_reducible refine up_in ?_)
      refine retct rfl rfl rfl (S11.blk 0 rfl) Try.underlying74 rfl (by rw [mkf_sz]; exact sz74) ?_
      exact absurd hg.2 (fun e => h21 (by rw [e]; decide))
end Go.Proofs.Ytgaklngnfecdaaa.Rev


/-
  Maps from strings to bools: sets of strings. General; nothing here names a program.
-/
namespace Go.Proofs.Ytgaklngnfecdaaa.Zx
open Go.RowKit Zk Go.Maps
set_option linter.unusedVariables false
set_option linter.unusedSimpArgs false
section
variable {P : Program} {N : Nat} {Q : Post} {env : Env} {w w0 : World} {M : Nat → Prop} {rs : List Res} {K : Env → World → Prop} {d : Tmp} {dst : Option Tmp} {ty : TypeId} {pos : String} {after : Array Edge} {g : Option (Nat × Bool)}
def hasS (L : List ByteArray) (s : ByteArray) : Bool := L.any fun t => decide (t = s)
theorem hasS_iff {L : List ByteArray} {s : ByteArray} : hasS L s = true ↔ s ∈ L := by
  unfold hasS
  rw [List.any_eq_true]
  constructor
  · rintro ⟨t, h1, h2⟩
    rw [← of_decide_eq_true h2]
    exact h1
  · exact fun h => ⟨s, h, decide_eq_true rfl⟩
/-- The map holds just these. -/
def SM (D : DU) (L : List ByteArray) : Prop := IsMap D ∧ ∀ s : ByteArray, D.atKey (.string s.data.toList) (.lit (.bool false)) = .lit (.bool (hasS L s))
theorem SM.nil : SM (.map []) [] := ⟨⟨[], rfl⟩, fun s => rfl⟩
theorem bytes_inj {a b : ByteArray} (h : a.data.toList = b.data.toList) : a = b := by
  apply ByteArray.ext
  exact Array.toList_inj.1 h
theorem SM.put {D : DU} {L : List ByteArray} (h : SM D L) (s : ByteArray) : SM (D.put (.string s.data.toList) (.lit (.bool true))) (L ++ [s]) := by
  refine ⟨?_, fun t => ?_⟩
  · obtain ⟨es, rfl⟩ := h.1
    exact ⟨_, rfl⟩
  · by_cases e : t = s
    · subst e
      rw [atKey_put_same h.1 (show WideAt.IsKeyLit (.string _) from trivial), hasS_iff.2 (by simp)]
    · have e2 : hasS (L ++ [s]) t = hasS L t := by
        rw [Bool.eq_iff_iff, hasS_iff, hasS_iff]
        simp [e]
      rw [atKey_put_other (fun q => e (bytes_inj (by injection q))), h.2 t, e2]
theorem y_lookZ {t k e : TypeId} {b n : Nat} {D : DU} {L : List ByteArray} {m x : Operand} {s : ByteArray} (hown : w.ownsMap P k (plainElem P e) b n D) (hk : P.underlying k = some .string) (ht : P.underlying t = some (.map k e)) (he : P.underlying e = some .bool)
    (hz : ∀ w, (zeroValue e).run P w = .ok (.bool false) w) (hm : ev env m = some (.map (some b))) (hx : ev env x = some (.string s)) (hs : s.size ≤ maxLen) (hc : SM D L) :
    Y P (Like w) env ⟨dst, .lookup t m x false, ty, pos, after, g⟩ (.bool (hasS L s)) := fun N a w' ha hw => by
  have h2 : w'.ownsMap P k (plainElem P e) b n D := (mapR P k e b n D).stable w w' (fun i hi => by have hi' : i = b := hi; subst hi'; exact hw.block i hown.lt) hown
  obtain ⟨v, ps, hrun, hv⟩ := h2.lookup (Maps.string_keyed hk) ht (hz w') (plainElem_bool (H := Unit) he false) (Go.WideMaps.keyOf_string_mk hk hs)
  rw [hc.2 s] at hv
  have e1 : v = .bool (hasS L s) := by
    cases v with
    | bool c =>
      rw [plainElem_bool he] at hv
      have := Option.some.inj hv
      have h3 := congrArg Prod.fst this
      simp only [DataW.lit.injEq, Lit.bool.injEq] at h3
      rw [h3]
    | _ => simp [plainElem, he] at hv
  subst e1
  simp only [execOp, ha.eval hm, ha.eval hx, Sem.run_bind, hrun, Sem.run_pure, Result.andThen_ok]
theorem o_mapUpZ {t k e : TypeId} {b n : Nat} {D : DU} {m x v : Operand} {s : ByteArray} {c : Bool} (S : St w0 M rs w) (j : Nat) (hj : rs[j]? = some (mapR P k e b n D)) (hk : P.underlying k = some .string) (ht : P.underlying t = some (.map k e)) (he : P.underlying e = some .bool)
    (hm : ev env m = some (.map (some b))) (hx : ev env x = some (.string s)) (hv : ev env v = some (.bool c)) (hs : s.size ≤ maxLen) (hn : n < 9223372036854775807)
    (h : ∀ w', St w0 M (rs.set j (mapR P k e b (n + 1) (D.put (.string s.data.toList) (.lit (.bool c))))) w' → K env w') :
    O P N Q ⟨none, .mapUpdate t m x v, ty, pos, after, g⟩ env w K := fun a ha => by
  have hown : w.ownsMap P k (plainElem P e) b n D := S.get j hj
  obtain ⟨w', hrun, h1, h2⟩ := hown.update (Maps.string_keyed hk) ht (by unfold maxLen; exact hn) (Go.WideMaps.keyOf_string_mk hk hs) (plainElem_bool (H := Unit) he c)
  unfold Oper.wp
  simp only [execOp, ha.eval hm, ha.eval hx, ha.eval hv, Sem.run_bind, hrun, Sem.run_pure, Result.andThen_ok]
  refine ⟨env, ha, h w' (S.upd j hj h2.os h2.tape h2.output h2.size (fun i hi hn => h2.block i hi fun e => hn ?_) h1 fun i hi => .inl hi)⟩
  injection e with e
end
end Go.Proofs.Ytgaklngnfecdaaa.Zx


/-
  tree.Check.
-/
namespace Go.Proofs.Ytgaklngnfecdaaa.Tre
open Go.RowKit Zk Zx
set_option linter.unusedVariables false
set_option linter.unusedSimpArgs false

theorem ok_next {l : List EV} {k : Nat} {x : EV} (h : ∀ j e, j < k → l[j]? = some e → mdOk e.md ∧ nmOk e.nm = true) (hx : l[k]? = some x) (h1 : mdOk x.md) (h2 : nmOk x.nm = true) : ∀ j e, j < k + 1 → l[j]? = some e → mdOk e.md ∧ nmOk e.nm = true := fun j e hj he => by
  rcases Nat.lt_or_ge j k with q | q
  · exact h j e q he
  · obtain rfl : j = k := by omega
    rw [hx] at he
    cases he
    exact ⟨h1, h2⟩
theorem ris_next {l : List EV} {k : Nat} {x y : EV} (h : ∀ j x y, j + 1 < k → l[j]? = some x → l[j + 1]? = some y → ltK x y = true) (hx : l[k - 1]? = some x) (hy : l[k]? = some y) (h0 : 0 < k) (h1 : ltK x y = true) : ∀ j x y, j + 1 < k + 1 → l[j]? = some x → l[j + 1]? = some y → ltK x y = true := fun j a b hj ha hb => by
  rcases Nat.lt_or_ge (j + 1) k with q | q
  · exact h j a b q ha hb
  · obtain rfl : j = k - 1 := by omega
    rw [show k - 1 + 1 = k by omega] at hb
    rw [hx] at ha
    rw [hy] at hb
    cases ha
    cases hb
    exact h1
theorem enf_sz (x : EV) : (enf x).toArray.size = 34 := by rw [List.size_toArray, enf_len]
theorem szE (x : EV) : (Try.prog.info? 252).map (·.size) = some (enf x).toArray.size := sz252.trans (congrArg some (by rw [List.size_toArray, enf_len]))
theorem risK_fin {l : List EV} {k : Nat} (h : ∀ j x y, j + 1 < k → l[j]? = some x → l[j + 1]? = some y → ltK x y = true) (h1 : k ≤ l.length ∨ k = 1) (h2 : l.length ≤ k) : risK l = true := by
  rcases h1 with h1 | h1
  · exact (risK_at l k h h1).trans (risK_end (by omega))
  · subst h1
    match l, h2 with
    | [], _ => rfl
    | [x], _ => rfl
    | x :: y :: m, h2 => simp at h2
theorem chkE_long {l : List EV} (h : 64 < l.length) : chkE l = 3 := by unfold chkE; rw [if_pos h]
theorem chkE_one {l : List EV} {c : Int} (h : ¬ 64 < l.length) (h1 : chk1 l = c) (hc : c ≠ 0) : chkE l = c := by unfold chkE; rw [if_neg h, if_pos (by rw [h1]; exact hc), h1]
theorem chkE_twice {l : List EV} (h : ¬ 64 < l.length) (h1 : chk1 l = 0) (h2 : ¬ once l) : chkE l = 17 := by unfold chkE; rw [if_neg h, if_neg (by omega), if_pos h2]
theorem chkE_ord {l : List EV} (h : ¬ 64 < l.length) (h1 : chk1 l = 0) (h2 : once l) (h3 : risK l = false) : chkE l = 18 := by unfold chkE; rw [if_neg h, if_neg (by omega), if_neg (fun x => x h2), if_pos h3]
theorem chkE_ok {l : List EV} (h : ¬ 64 < l.length) (h1 : chk1 l = 0) (h2 : once l) (h3 : risK l = true) : chkE l = 0 := by unfold chkE; rw [if_neg h, if_neg (by omega), if_neg (fun x => x h2), if_neg (by rw [h3]; exact fun x => by cases x)]


set_option maxRecDepth 100000 in
theorem pcheck (A : Option Addr) (n c : Nat) (l : List EV) (w0 : World) (hl : Rs w0 34 A n c (l.flatMap enf)) (hn5 : n ≤ 10000) :
    Calls Try.prog 188 #[.slice A n c] w0 fun e w' => ∃ u, e = .returned u ∧ Like w0 w' ∧ u = .int .i64 (chkE l) := by
  refine enter1 (env := [(0, .slice A n c)]) [.slice A n c] Try.func188 rfl Try.ntmps188 rfl rfl ?_
  have hn := ens_n hl; have hcap := hl.cap; have hmax := hl.max; have S0 := St.start w0 noM
  refine T_seq fun K1 hK1 => ?_
  refine T_region ?_
  refine L_y (y_assign rfl) rfl ?_
  refine L_nil ?_
  refine hK1 _ _ ?_
  refine T_seq fun K2 hK2 => ?_
  refine T_seq fun K3 hK3 => ?_
  refine T_region ?_
  refine L_y (y_move rfl) rfl ?_
  refine L_y (y_len Try.underlying230 rfl) rfl ?_
  refine L_y (y_gtr rfl rfl) rfl ?_
  refine L_nil ?_
  refine hK3 _ _ ?_
  refine T_cond rfl (fun h10 => ?_) (fun h10 => ?_)
  ·
    refine T_seq fun K4 hK4 => ?_
    refine T_region ?_
    refine L_y (y_assign rfl) rfl ?_
    refine L_nil ?_
    refine hK4 _ _ ?_
    refine T_ret ?_
    repeat (first | with_reducible refine up_then ?_ | with_reducible refine up_in ?_)
    refine ret1 rfl rfl ?_
    exact ⟨_, rfl, S0.like0, congrArg (Value.int _) (chkE_long (by omega)).symm⟩
  ·
    refine T_skip ?_
    refine hK2 _ _ ?_
    refine T_seq fun K5 hK5 => ?_
    refine T_region ?_
    refine L_o (o_makeMap (t := 265) (k := 9) (e := 4) S0 rfl fun b1 w1 hb1 S1 => ?_)
    refine L_y (y_assign rfl) rfl ?_
    refine L_nil ?_
    refine hK5 _ _ ?_
    refine T_seq fun K6 hK6 => ?_
    refine T_region ?_
    refine L_y (y_assign rfl) rfl ?_
    refine L_nil ?_
    refine hK6 _ _ ?_
    refine T_seq fun K7 hK7 => ?_
    refine T_seq fun K8 hK8 => ?_
    refine T_region ?_
    refine L_y (y_move rfl) rfl ?_
    refine L_y (y_len Try.underlying230 rfl) rfl ?_
    refine L_y (y_move rfl) rfl ?_
    refine L_nil ?_
    refine hK8 _ _ ?_
    refine T_block ?_
    refine T_loop3 [(0, _), (3, _), (12, _), (13, _)] (fun (k : Nat) (tw : Bool) (D : DU) => [(14, .int .i64 (k : Int)), (4, .bool tw)]) (fun (k : Nat) (tw : Bool) (D : DU) => n - k) (fun (k : Nat) (tw : Bool) (D : DU) (w : World) => (k ≤ n ∧ (∀ j e, j < k → l[j]? = some e → mdOk e.md ∧ nmOk e.nm = true) ∧ tw = decide (¬ once (l.take k)) ∧ SM D ((l.take k).map EV.nm)) ∧ St w0 noM [mapR Try.prog 9 4 b1 k D] w) 0 false (.map []) (Sub.cons rfl (by first | rfl | exact congrArg (Value.int _) (by omega)) (Sub.cons rfl (by first | rfl | exact congrArg (Value.int _) (by omega)) (Sub.nil _))) (Sub.cons rfl rfl (Sub.cons rfl rfl (Sub.cons rfl rfl (Sub.cons rfl rfl (Sub.nil _))))) ?_ ?_
    ·
      exact ⟨⟨Nat.zero_le _, fun j e hj => absurd hj (by omega), by simp [once], SM.nil⟩, S1⟩
    ·
      intro k tw D w2 hrel
      obtain ⟨⟨hk, hok, htw, hsm⟩, S2⟩ := hrel
      refine T_seq fun K9 hK9 => ?_
      refine T_region ?_
      refine L_y (y_lss rfl rfl) rfl ?_
      refine L_nil ?_
      refine hK9 _ _ ?_
      refine T_seq fun K10 hK10 => ?_
      refine T_cond rfl (fun h15 => ?_) (fun h15 => ?_)
      ·
        obtain ⟨x, hx⟩ : ∃ x, l[k]? = some x := ⟨_, List.getElem?_eq_getElem (by omega)⟩
        refine T_skip ?_
        refine hK10 _ _ ?_
        refine T_seq fun K11 hK11 => ?_
        refine T_block ?_
        refine T_seq fun K12 hK12 => ?_
        refine T_region ?_
        refine L_y (y_idx Try.underlying230 sz252 rfl rfl (S2.rd hl) (Nt.mk (by omega) : Nt _ (k)) (by omega)) rfl ?_
        refine L_y (y_ldp (f := enf) enf_len Try.underlying252 rfl sz252 rfl (S2.rd hl) (by omega) hx) rfl ?_
        refine L_o (o_alloc zz252 S2 rfl fun b3 w3 hb3 S3 => ?_)
        refine L_o (o_stW S3 1 rfl rfl rfl (szE x) ((enf_sz x).trans (by kernel_rfl)) (enf_one x) fun w4 S4 => ?_)
        refine L_nil ?_
        refine hK12 _ _ ?_
        refine T_seq fun K13 hK13 => ?_
        refine T_seq fun K14 hK14 => ?_
        refine T_region ?_
        refine L_y (y_fieldA 1 Try.underlying252 rfl sz3 rfl rfl rfl) rfl ?_
        refine L_y (y_ldc Try.underlying3 rfl rfl (((S4.blk 1 rfl).cell _).trans (by rfl))) rfl ?_
        refine L_o (o_call Try.func199 rfl rfl (mode_ x.md w4) rfl rfl ?_)
        rintro e5 w5 ⟨v5, rfl, l5, rfl⟩
        refine ⟨_, rfl, ?_⟩
        have S5 := S4.like l5
        refine L_y ((by first | exact y_notD rfl | exact y_not rfl)) rfl ?_
        refine L_nil ?_
        refine hK14 _ _ ?_
        refine T_cond rfl (fun h21 => ?_) (fun h21 => ?_)
        ·
          have hmd : ¬ mdOk x.md := h21
          refine T_seq fun K15 hK15 => ?_
          refine T_region ?_
          refine L_y (y_assign rfl) rfl ?_
          refine L_nil ?_
          refine hK15 _ _ ?_
          refine T_ret ?_
          repeat (first | with_reducible refine up_then ?_ | with_reducible refine up_in ?_)
          refine ret1 rfl rfl ?_
          exact ⟨_, rfl, S5.like0, congrArg (Value.int _) (chkE_one (by omega) ((chk1_at k hok (by omega)).trans (chk1_md hx hmd)) (by decide)).symm⟩
        ·
          have hmd : mdOk x.md := Decidable.not_not.1 h21
          refine T_skip ?_
          refine hK13 _ _ ?_
          refine T_seq fun K16 hK16 => ?_
          refine T_seq fun K17 hK17 => ?_
          refine T_region ?_
          refine L_y (y_fieldA 0 Try.underlying252 rfl sz9 rfl rfl rfl) rfl ?_
          refine L_y (y_ldc Try.underlying9 rfl rfl (((S5.blk 1 rfl).cell _).trans (by rfl))) rfl ?_
          refine L_o (o_call Try.func59 rfl rfl (pname x.nm w5) rfl rfl ?_)
          rintro e6 w6 ⟨v6, rfl, l6, rfl⟩
          refine ⟨_, rfl, ?_⟩
          have S6 := S5.like l6
          refine L_y ((by first | exact y_notD rfl | exact y_not rfl)) rfl ?_
          refine L_nil ?_
          refine hK17 _ _ ?_
          refine T_condB rfl (fun h25 => ?_) (fun h25 => ?_)
          ·
            have hnm : nmOk x.nm = false := by simpa using h25
            refine T_seq fun K18 hK18 => ?_
            refine T_region ?_
            refine L_y (y_assign rfl) rfl ?_
            refine L_nil ?_
            refine hK18 _ _ ?_
            refine T_ret ?_
            repeat (first | with_reducible refine up_then ?_ | with_reducible refine up_in ?_)
            refine ret1 rfl rfl ?_
            exact ⟨_, rfl, S6.like0, congrArg (Value.int _) (chkE_one (by omega) ((chk1_at k hok (by omega)).trans (chk1_nm hx hmd hnm)) (by decide)).symm⟩
          ·
            have hnm : nmOk x.nm = true := by simpa using h25
            refine T_skip ?_
            refine hK16 _ _ ?_
            refine T_seq fun K19 hK19 => ?_
            refine T_region ?_
            refine L_y (y_move rfl) rfl ?_
            refine L_y (y_move rfl) rfl ?_
            refine L_splitB 27 rfl (fun h27 => ?_) (fun h27 => ?_)
            ·
              refine L_gno rfl rfl rfl ?_
              refine L_gno rfl rfl rfl ?_
              refine L_gno rfl rfl rfl ?_
              refine L_gno rfl rfl rfl ?_
              refine L_y ((by first | exact y_pickT rfl rfl | exact y_pickF rfl rfl)) rfl ?_
              refine L_y (y_assign rfl) rfl ?_
              refine L_nil ?_
              refine hK19 _ _ ?_
              refine T_region ?_
              refine L_y (y_move rfl) rfl ?_
              refine L_y (y_fieldA 0 Try.underlying252 rfl sz9 rfl rfl rfl) rfl ?_
              refine L_y (y_ldc Try.underlying9 rfl rfl (((S6.blk 1 rfl).cell _).trans (by rfl))) rfl ?_
              refine L_o (o_mapUpZ S6 0 rfl Try.underlying9 Try.underlying265 Try.underlying4 rfl rfl rfl (Nat.le_trans x.h.2 (by decide)) (by omega) fun w8 S8 => ?_)
              refine L_nil ?_
              refine hK11 _ _ ?_
              refine T_region ?_
              refine L_y (y_add rfl rfl (i64w (by omega))) rfl ?_
              refine L_y (y_move rfl) rfl ?_
              refine L_nil ?_
              have hon2 : true = decide (¬ once (l.take (k + 1))) := by have h8 : ¬ once (l.take k) := of_decide_eq_true (htw.symm.trans h27); rw [eq_comm, decide_eq_true_iff]; exact fun h9 => h8 (once_down h9)
              have S9 := S8.drop (.cons_cons _ (.cons _ (.refl _)))
              refine ⟨k + 1, _, _, by omega, ⟨⟨by omega, ok_next hok hx hmd hnm, hon2, by rw [take_sn2 hx, List.map_append]; exact hsm.put x.nm⟩, S9⟩, ?_⟩
              exact (Sub.cons rfl (by first | rfl | exact congrArg (Value.int _) (by omega)) (Sub.cons rfl (by first | rfl | exact congrArg (Value.int _) (by omega)) (Sub.cons rfl rfl (Sub.cons rfl rfl (Sub.cons rfl rfl (Sub.cons rfl rfl (Sub.nil _)))))))
            ·
              refine L_gyes rfl rfl ?_
              refine L_y (y_move rfl) rfl ?_
              refine L_gyes rfl rfl ?_
              refine L_y (y_fieldA 0 Try.underlying252 rfl sz9 rfl rfl rfl) rfl ?_
              refine L_gyes rfl rfl ?_
              refine L_y (y_ldc Try.underlying9 rfl rfl (((S6.blk 1 rfl).cell _).trans (by rfl))) rfl ?_
              refine L_gyes rfl rfl ?_
              refine L_y (y_lookZ (S6.get 0 rfl) Try.underlying9 Try.underlying265 Try.underlying4 zz4 rfl rfl (Nat.le_trans x.h.2 (by decide)) hsm) rfl ?_
              refine L_y ((by first | exact y_pickT rfl rfl | exact y_pickF rfl rfl)) rfl ?_
              refine L_y (y_assign rfl) rfl ?_
              refine L_nil ?_
              refine hK19 _ _ ?_
              refine T_region ?_
              refine L_y (y_move rfl) rfl ?_
              refine L_y (y_fieldA 0 Try.underlying252 rfl sz9 rfl rfl rfl) rfl ?_
              refine L_y (y_ldc Try.underlying9 rfl rfl (((S6.blk 1 rfl).cell _).trans (by rfl))) rfl ?_
              refine L_o (o_mapUpZ S6 0 rfl Try.underlying9 Try.underlying265 Try.underlying4 rfl rfl rfl (Nat.le_trans x.h.2 (by decide)) (by omega) fun w9 S9 => ?_)
              refine L_nil ?_
              refine hK11 _ _ ?_
              refine T_region ?_
              refine L_y (y_add rfl rfl (i64w (by omega))) rfl ?_
              refine L_y (y_move rfl) rfl ?_
              refine L_nil ?_
              have hon2 : hasS ((l.take k).map EV.nm) x.nm = decide (¬ once (l.take (k + 1))) := by rw [Bool.eq_iff_iff, hasS_iff, decide_eq_true_iff]; have h8 : once (l.take k) := Decidable.not_not.1 (of_decide_eq_false (htw.symm.trans h27)); exact ⟨fun h => not_onceT hx h, fun h => Classical.byContradiction fun h9 => h (once_snoc hx h8 h9)⟩
              have S9 := S9.drop (.cons_cons _ (.cons _ (.refl _)))
              refine ⟨k + 1, _, _, by omega, ⟨⟨by omega, ok_next hok hx hmd hnm, hon2, by rw [take_sn2 hx, List.map_append]; exact hsm.put x.nm⟩, S9⟩, ?_⟩
              exact (Sub.cons rfl (by first | rfl | exact congrArg (Value.int _) (by omega)) (Sub.cons rfl (by first | rfl | exact congrArg (Value.int _) (by omega)) (Sub.cons rfl rfl (Sub.cons rfl rfl (Sub.cons rfl rfl (Sub.cons rfl rfl (Sub.nil _)))))))
      ·
        have hkn : k = n := by omega
        rw [List.take_of_length_le (by omega)] at htw
        have hc1 : chk1 l = 0 := (chk1_at k hok (by omega)).trans (by rw [List.drop_of_length_le (by omega)]; rfl)
        refine T_exit ?_
        refine hK7 _ _ ?_
        refine T_seq fun K20 hK20 => ?_
        refine T_seq fun K21 hK21 => ?_
        refine T_region ?_
        refine L_y (y_move rfl) rfl ?_
        refine L_nil ?_
        refine hK21 _ _ ?_
        refine T_condB rfl (fun h37 => ?_) (fun h37 => ?_)
        ·
          have hon : ¬ once l := of_decide_eq_true (htw.symm.trans h37)
          refine T_seq fun K22 hK22 => ?_
          refine T_region ?_
          refine L_y (y_assign rfl) rfl ?_
          refine L_nil ?_
          refine hK22 _ _ ?_
          refine T_ret ?_
          repeat (first | with_reducible refine up_then ?_ | with_reducible refine up_in ?_)
          refine ret1 rfl rfl ?_
          exact ⟨_, rfl, S2.like0, congrArg (Value.int _) (chkE_twice (by omega) hc1 hon).symm⟩
        ·
          have hon : once l := Decidable.not_not.1 (of_decide_eq_false (htw.symm.trans h37))
          refine T_skip ?_
          refine hK20 _ _ ?_
          refine T_seq fun K23 hK23 => ?_
          refine T_seq fun K24 hK24 => ?_
          refine T_region ?_
          refine L_y (y_assign rfl) rfl ?_
          refine L_nil ?_
          refine hK24 _ _ ?_
          refine T_block ?_
          refine T_loop1 [(0, _)] (fun (k : Nat) => [(7, .int .i64 (k : Int))]) (fun (k : Nat) => n - k) (fun (k : Nat) (w : World) => ((1 ≤ k ∧ (k ≤ n ∨ k = 1)) ∧ (∀ j x y, j + 1 < k → l[j]? = some x → l[j + 1]? = some y → ltK x y = true)) ∧ St w0 noM [] w) 1 (Sub.cons rfl (by first | rfl | exact congrArg (Value.int _) (by omega)) (Sub.nil _)) (Sub.cons rfl rfl (Sub.nil _)) ?_ ?_
          ·
            exact ⟨⟨⟨Nat.le_refl _, .inr rfl⟩, fun j x y hj => absurd hj (by omega)⟩, S2.drop (.cons _ (.refl _))⟩
          ·
            intro k w10 hrel
            obtain ⟨⟨⟨hk1, hk2⟩, hri⟩, S10⟩ := hrel
            refine T_seq fun K25 hK25 => ?_
            refine T_seq fun K26 hK26 => ?_
            refine T_region ?_
            refine L_y (y_move rfl) rfl ?_
            refine L_y (y_move rfl) rfl ?_
            refine L_y (y_len Try.underlying230 rfl) rfl ?_
            refine L_y (y_lss rfl rfl) rfl ?_
            refine L_nil ?_
            refine hK26 _ _ ?_
            refine T_cond rfl (fun h41 => ?_) (fun h41 => ?_)
            ·
              obtain ⟨x, hx⟩ : ∃ x, l[k - 1]? = some x := ⟨_, List.getElem?_eq_getElem (by omega)⟩
              obtain ⟨y, hy⟩ : ∃ y, l[k]? = some y := ⟨_, List.getElem?_eq_getElem (by omega)⟩
              refine T_skip ?_
              refine hK25 _ _ ?_
              refine T_seq fun K27 hK27 => ?_
              refine T_block ?_
              refine T_seq fun K28 hK28 => ?_
              refine T_tail 9 hmix (by kernel_rfl) fun w11 l11 K29 hK29 => ?_
              have S11 := S10.like l11
              refine HL_y (y_move rfl) rfl ?_
              refine HL_y (y_move rfl) rfl ?_
              refine HL_y (y_sub rfl rfl (i64w (by omega))) rfl ?_
              refine HL_y (y_idx Try.underlying230 sz252 rfl rfl (S11.rd hl) (Nt.mk (by omega) : Nt _ (k - 1)) (by omega)) rfl ?_
              refine HL_y (y_ldp (f := enf) enf_len Try.underlying252 rfl sz252 rfl (S11.rd hl) (by omega) hx) rfl ?_
              refine HL_y (y_move rfl) rfl ?_
              refine HL_y (y_move rfl) rfl ?_
              refine HL_y (y_idx Try.underlying230 sz252 rfl rfl (S11.rd hl) (Nt.mk (by omega) : Nt _ (k)) (by omega)) rfl ?_
              refine HL_y (y_ldp (f := enf) enf_len Try.underlying252 rfl sz252 rfl (S11.rd hl) (by omega) hy) rfl ?_
              refine HL_nil ?_
              refine hK29 _ ?_
              refine L_o (o_call Try.func201 rfl rfl (order x y w11) rfl rfl ?_)
              rintro e12 w12 ⟨v12, rfl, l12, v53, rfl, hv53⟩
              refine ⟨_, rfl, ?_⟩
              have S12 := S11.like l12
              refine L_y (y_geq rfl rfl) rfl ?_
              refine L_nil ?_
              refine hK28 _ _ ?_
              refine T_cond rfl (fun h54 => ?_) (fun h54 => ?_)
              ·
                have hxy : ltK x y = false := by cases h9 : ltK x y with | false => rfl | true => exact absurd (hv53.2 h9) (by omega)
                refine T_seq fun K30 hK30 => ?_
                refine T_region ?_
                refine L_y (y_assign rfl) rfl ?_
                refine L_nil ?_
                refine hK30 _ _ ?_
                refine T_ret ?_
                repeat (first | with_reducible refine up_then ?_ | with_reducible refine up_in ?_)
                refine ret1 rfl rfl ?_
                exact ⟨_, rfl, S12.like0, congrArg (Value.int _) (chkE_ord (by omega) hc1 hon ((risK_at l k hri (by omega)).trans (risK_no hx (by rw [show k - 1 + 1 = k by omega]; exact hy) hxy))).symm⟩
              ·
                have hxy : ltK x y = true := hv53.1 (by omega)
                refine T_skip ?_
                refine hK27 _ _ ?_
                refine T_region ?_
                refine L_y (y_move rfl) rfl ?_
                refine L_y (y_add rfl rfl (i64w (by omega))) rfl ?_
                refine L_y (y_assign rfl) rfl ?_
                refine L_nil ?_
                refine ⟨k + 1, by omega, ⟨⟨⟨by omega, by omega⟩, ris_next hri hx hy (by omega) hxy⟩, S12⟩, ?_⟩
                exact (Sub.cons rfl (congrArg (Value.int _) (by omega)) (Sub.cons rfl rfl (Sub.nil _)))
            ·
              refine T_exit ?_
              refine hK23 _ _ ?_
              refine T_seq fun K31 hK31 => ?_
              refine T_region ?_
              refine L_y (y_assign rfl) rfl ?_
              refine L_nil ?_
              refine hK31 _ _ ?_
              refine T_ret ?_
              repeat (first | with_reducible refine up_then ?_ | with_reducible refine up_in ?_)
              refine ret1 rfl rfl ?_
              exact ⟨_, rfl, S10.like0, congrArg (Value.int _) (chkE_ok (by omega) hc1 hon (risK_fin hri (by omega) (by omega))).symm⟩
end Go.Proofs.Ytgaklngnfecdaaa.Tre


/-
  The document: Check.
-/
namespace Go.Proofs.Ytgaklngnfecdaaa.Tre
open Go.RowKit Zk Zx
set_option linter.unusedVariables false
set_option linter.unusedSimpArgs false

end Go.Proofs.Ytgaklngnfecdaaa.Tre


/-
  Index, Cut of bytes.
-/
namespace Go.Proofs.Ytgaklngnfecdaaa.Obj
open Go.RowKit Zk Zx
open Oid (idf idf_len)
open Tre (nmOk EV enf enf_len mdOk chkE)
open Rev (cutF cutF_some cutF_none)
set_option linter.unusedVariables false
set_option linter.unusedSimpArgs false

theorem bytesOf_nat (l : List UInt8) : Lib.bytesOf (l.map fun c => (c.toNat : Int)) = l := by
  unfold Lib.bytesOf
  rw [List.map_map]
  conv => rhs; rw [← List.map_id l]
  apply List.map_congr_left
  intro c _
  simp
theorem byteC (c : UInt8) : ((c.toNat : Int)).toNat.toUInt8 = c := by rw [Int.toNat_natCast]; exact UInt8.ofNat_toNat
theorem L187 : Go.Proofs.Lays.n187 Try.prog Tre.idxB_ren := { Tre.idxB with }
set_option maxHeartbeats 1000000 in
set_option maxRecDepth 100000 in
theorem idxNoneP {P : Program} {ρ : Go.Shelf.Ren} (L : Go.Proofs.Lays.n187 P ρ) (n c0 : Nat) (cv : Int) (w : World) : Calls P (ρ.f 187) #[.slice none n c0, .int .u8 cv] w fun e w' => e = .returned (.int .i64 (-1)) ∧ w' = w := by
  have t3 := L.t3; have t5 := L.t5; have t37 := L.t37
  have a3 := L.a3; have a5 := L.a5; have a37 := L.a37
  have mixed := L.mixed; have z3 := L.z3; have v3 := L.v3; have z5 := L.z5; have v5 := L.v5; have z37 := L.z37; have v37 := L.v37
  go_enter L.f187, Body.n187_ntmps ρ
  go_wp2
  rw [run_callFunc_extern L.f255 (by kernel_rfl) (by kernel_rfl) (by kernel_rfl) (e := Extern.BytealgIndexByte.indexByte) (by kernel_rfl), Lib.run_indexByteNil w n c0 cv]
  simp only [Result.andThen]
  rw [Oper.upon_value]
  go_wp2
  go_ret
  exact ⟨rfl, rfl⟩
theorem idxNone (n c0 : Nat) (cv : Int) (w : World) : Calls Try.prog 93 #[.slice none n c0, .int .u8 cv] w fun e w' => e = .returned (.int .i64 (-1)) ∧ w' = w := idxNoneP L187 n c0 cv w
theorem bidx (A : Option Addr) (n c : Nat) (l : List UInt8) (x : UInt8) (w0 : World) (hb : Rs w0 1 A n c (bL l)) : Calls Try.prog 93 #[.slice A n c, .int .u8 (x.toNat : Int)] w0 fun e w' => ∃ u, e = .returned u ∧ Like w0 w' ∧ u = .int .i64 (Lib.indexByte l x) := by
  have hl := hb.lenb
  cases A with
  | none =>
    have h0 : n = 0 := by
      rcases Nat.eq_zero_or_pos n with h | h
      · exact h
      · obtain ⟨ad, h1, _⟩ := hb.rd.2 h
        cases h1
    have hl0 : l = [] := List.length_eq_zero_iff.1 (by omega)
    subst hl0
    exact (idxNone n c _ w0).mono fun e w' ⟨h1, h2⟩ => by subst h2; exact ⟨_, h1, Like.refl _, rfl⟩
  | some a =>
    have h := Any.bytes_IndexByte_at L187 a n c (l.map fun c => (c.toNat : Int)) (x.toNat : Int) w0 (by rw [List.length_map]; exact hl) (fun i hi => by
      obtain ⟨ad, v, h1, h2, h3⟩ := hb.at_ hi
      cases h1
      rw [h3]
      have hx : l[i]? = some l[i] := List.getElem?_eq_getElem (by omega)
      rw [bL_get _ _ _ hx] at h2
      cases h2
      rw [List.getD_eq_getElem?_getD, List.getElem?_map, hx]
      rfl)
    rw [bytesOf_nat, byteC] at h
    refine (show Calls Try.prog 93 _ _ _ from h).mono fun e w' ⟨h1, h2⟩ => ?_
    subst h2
    exact ⟨_, h1, Like.refl _, rfl⟩
theorem bidx1 (a : Addr) (n c b2 d : Nat) (l : List UInt8) (x : UInt8) (w0 : World) (hb : Rs w0 1 (some a) n c (bL l)) (hs : Rs w0 1 (some ⟨b2, 0, none⟩) 1 d (bL [x])) : Calls Try.prog 205 #[.slice (some a) n c, .slice (some ⟨b2, 0, none⟩) 1 d] w0 fun e w' => ∃ u, e = .returned u ∧ Like w0 w' ∧ u = .int .i64 (Lib.indexByte l x) := by
  have hl := hb.lenb
  have hc2 : w0.cell? ⟨b2, 0, none⟩ = some (.int .u8 (x.toNat : Int)) := by
    obtain ⟨ad, v, h1, h2, h3⟩ := hs.at_ (k := 0) (by omega)
    cases h1
    have h4 : v = .int .u8 (x.toNat : Int) := by cases h2; rfl
    rw [h4] at h3
    exact h3
  have h := Any.bytes_Index_one_at Tre.idxB a n c b2 0 d (l.map fun c => (c.toNat : Int)) (x.toNat : Int) w0 (by rw [List.length_map]; exact hl) (fun i hi => by
    obtain ⟨ad, v, h1, h2, h3⟩ := hb.at_ hi
    cases h1
    rw [h3]
    have hx : l[i]? = some l[i] := List.getElem?_eq_getElem (by omega)
    rw [bL_get _ _ _ hx] at h2
    cases h2
    rw [List.getD_eq_getElem?_getD, List.getElem?_map, hx]
    rfl) hc2
  rw [bytesOf_nat, byteC] at h
  refine (show Calls Try.prog 205 _ _ _ from h).mono fun e w' ⟨h1, h2⟩ => ?_
  subst h2
  exact ⟨_, h1, Like.refl _, rfl⟩
/-- What Cut answers at one byte. -/
def bcutV (c : UInt8) (a : Addr) (n cp : Nat) (l : List UInt8) : Value := match cutF c l with
  | some (p, q) => .tuple #[.slice (cutA (some a) cp 0 1) p.length cp, .slice (cutA (some a) cp (p.length + 1) 1) (n - (p.length + 1)) (cp - (p.length + 1)), .bool true]
  | none => .tuple #[.slice (some a) n cp, .slice none 0 0, .bool false]
theorem bcutV_some {c : UInt8} {a : Addr} {n cp : Nat} {l p q : List UInt8} (h : cutF c l = some (p, q)) : bcutV c a n cp l = .tuple #[.slice (cutA (some a) cp 0 1) p.length cp, .slice (cutA (some a) cp (p.length + 1) 1) (n - (p.length + 1)) (cp - (p.length + 1)), .bool true] := by unfold bcutV; rw [h]
theorem bcutV_none {c : UInt8} {a : Addr} {n cp : Nat} {l : List UInt8} (h : cutF c l = none) : bcutV c a n cp l = .tuple #[.slice (some a) n cp, .slice none 0 0, .bool false] := by unfold bcutV; rw [h]
theorem idx_some {c : UInt8} {l p q : List UInt8} (h : cutF c l = some (p, q)) : Lib.indexByte l c = (p.length : Int) := by have := Rev.idx_cut c l; rw [h] at this; exact this
theorem idx_none {c : UInt8} {l : List UInt8} (h : cutF c l = none) : Lib.indexByte l c = -1 := by have := Rev.idx_cut c l; rw [h] at this; exact this


set_option maxRecDepth 100000 in
theorem bcut1 (a : Addr) (n c b2 d : Nat) (l : List UInt8) (x : UInt8) (w0 : World) (hb : Rs w0 1 (some a) n c (bL l)) (hs : Rs w0 1 (some ⟨b2, 0, none⟩) 1 d (bL [x])) (p q : List UInt8) (hcf : cutF x l = some (p, q)) :
    Calls Try.prog 200 #[.slice (some a) n c, .slice (some ⟨b2, 0, none⟩) 1 d] w0 fun e w' => ∃ u, e = .returned u ∧ Like w0 w' ∧ u = bcutV x a n c l := by
  refine enter1 (env := [(0, .slice (some a) n c), (1, .slice (some ⟨b2, 0, none⟩) 1 d)]) [.slice (some a) n c, .slice (some ⟨b2, 0, none⟩) 1 d] Try.func200 rfl Try.ntmps200 rfl rfl ?_
  have hl := hb.lenb; have hcap := hb.cap; have hmax := hb.max
  have hlp : l.length = p.length + 1 + q.length := by have h9 := (cutF_some hcf).1; rw [h9, List.length_append, List.length_cons]; omega
  have S0 := St.start w0 noM
  refine T_seq fun K1 hK1 => ?_
  refine T_region ?_
  refine L_y (y_assign rfl) rfl ?_
  refine L_y (y_assign rfl) rfl ?_
  refine L_y (y_assign rfl) rfl ?_
  refine L_nil ?_
  refine hK1 _ _ ?_
  refine T_seq fun K2 hK2 => ?_
  refine T_seq fun K3 hK3 => ?_
  refine T_region ?_
  refine L_y (y_move rfl) rfl ?_
  refine L_y (y_move rfl) rfl ?_
  refine L_o (o_call Try.func205 rfl rfl (bidx1 a n c b2 d l x w0 (S0.rd hb) (S0.rd hs)) rfl rfl ?_)
  rintro e1 w1 ⟨v1, rfl, l1, rfl⟩
  refine ⟨_, rfl, ?_⟩
  have S1 := S0.like l1
  rw [idx_some hcf]
  refine L_y (y_assign rfl) rfl ?_
  refine L_nil ?_
  refine hK3 _ _ ?_
  refine T_seq fun K4 hK4 => ?_
  refine T_region ?_
  refine L_y (y_move rfl) rfl ?_
  refine L_y (y_geq rfl rfl) rfl ?_
  refine L_nil ?_
  refine hK4 _ _ ?_
  refine T_cond rfl (fun h12 => ?_) (fun h12 => ?_)
  ·
    refine T_seq fun K5 hK5 => ?_
    refine T_drawnL [(0, true), (1, true), (2, true), (3, true), (4, true), (5, true), (6, true), (7, true), (8, true), (9, true), (10, true), (11, true)] hmix (by kernel_rfl) fun w2 l2 => ?_
    have S2 := S1.like l2
    refine DL_y rfl (y_move rfl) rfl ?_
    refine DL_y rfl (y_move rfl) rfl ?_
    refine DL_y rfl (y_sliceH Try.underlying27 sz5 rfl rfl (Nt.mk rfl : Nt _ (p.length)) (by omega)) rfl ?_
    refine DL_y rfl (y_move rfl) rfl ?_
    refine DL_y rfl (y_move rfl) rfl ?_
    refine DL_y rfl (y_move rfl) rfl ?_
    refine DL_y rfl (y_len Try.underlying27 rfl) rfl ?_
    refine DL_y rfl (y_add rfl rfl (i64w (by omega))) rfl ?_
    refine DL_y rfl (y_sliceL Try.underlying27 sz5 rfl rfl (Nt.mk (by omega) : Nt _ (p.length + 1)) (by omega)) rfl ?_
    refine DL_y rfl (y_assign rfl) rfl ?_
    refine DL_y rfl (y_assign rfl) rfl ?_
    refine DL_y rfl (y_assign rfl) rfl ?_
    refine DL_nil ?_
    refine hK5 _ _ ?_
    refine T_ret ?_
    repeat (first | with_reducible refine up_then ?_ | with_reducible refine up_in ?_)
    refine ret3 rfl rfl rfl rfl ?_
    exact ⟨_, rfl, S2.like0, (bcutV_some hcf).symm⟩
  ·
    exact absurd (by omega) h12


set_option maxRecDepth 100000 in
theorem bcut0 (a : Addr) (n c b2 d : Nat) (l : List UInt8) (x : UInt8) (w0 : World) (hb : Rs w0 1 (some a) n c (bL l)) (hs : Rs w0 1 (some ⟨b2, 0, none⟩) 1 d (bL [x])) (hcf : cutF x l = none) :
    Calls Try.prog 200 #[.slice (some a) n c, .slice (some ⟨b2, 0, none⟩) 1 d] w0 fun e w' => ∃ u, e = .returned u ∧ Like w0 w' ∧ u = bcutV x a n c l := by
  refine enter1 (env := [(0, .slice (some a) n c), (1, .slice (some ⟨b2, 0, none⟩) 1 d)]) [.slice (some a) n c, .slice (some ⟨b2, 0, none⟩) 1 d] Try.func200 rfl Try.ntmps200 rfl rfl ?_
  have hl := hb.lenb; have hcap := hb.cap; have hmax := hb.max
  have S0 := St.start w0 noM
  refine T_seq fun K1 hK1 => ?_
  refine T_region ?_
  refine L_y (y_assign rfl) rfl ?_
  refine L_y (y_assign rfl) rfl ?_
  refine L_y (y_assign rfl) rfl ?_
  refine L_nil ?_
  refine hK1 _ _ ?_
  refine T_seq fun K2 hK2 => ?_
  refine T_seq fun K3 hK3 => ?_
  refine T_region ?_
  refine L_y (y_move rfl) rfl ?_
  refine L_y (y_move rfl) rfl ?_
  refine L_o (o_call Try.func205 rfl rfl (bidx1 a n c b2 d l x w0 (S0.rd hb) (S0.rd hs)) rfl rfl ?_)
  rintro e1 w1 ⟨v1, rfl, l1, rfl⟩
  refine ⟨_, rfl, ?_⟩
  have S1 := S0.like l1
  rw [idx_none hcf]
  refine L_y (y_assign rfl) rfl ?_
  refine L_nil ?_
  refine hK3 _ _ ?_
  refine T_seq fun K4 hK4 => ?_
  refine T_region ?_
  refine L_y (y_move rfl) rfl ?_
  refine L_y (y_geq rfl rfl) rfl ?_
  refine L_nil ?_
  refine hK4 _ _ ?_
  refine T_cond rfl (fun h12 => ?_) (fun h12 => ?_)
  ·
    omega
  ·
    refine T_skip ?_
    refine hK2 _ _ ?_
    refine T_seq fun K5 hK5 => ?_
    refine T_region ?_
    refine L_y (y_move rfl) rfl ?_
    refine L_y (y_assign rfl) rfl ?_
    refine L_y (y_assign rfl) rfl ?_
    refine L_y (y_assign rfl) rfl ?_
    refine L_nil ?_
    refine hK5 _ _ ?_
    refine T_ret ?_
    repeat (first | with_reducible refine up_then ?_ | with_reducible refine up_in ?_)
    refine ret3 rfl rfl rfl rfl ?_
    exact ⟨_, rfl, S1.like0, (bcutV_none hcf).symm⟩


theorem bcut (a : Addr) (n c b2 d : Nat) (l : List UInt8) (x : UInt8) (w0 : World) (hb : Rs w0 1 (some a) n c (bL l)) (hs : Rs w0 1 (some ⟨b2, 0, none⟩) 1 d (bL [x])) : Calls Try.prog 200 #[.slice (some a) n c, .slice (some ⟨b2, 0, none⟩) 1 d] w0 fun e w' => ∃ u, e = .returned u ∧ Like w0 w' ∧ u = bcutV x a n c l := by
  cases h : cutF x l with
  | none => exact bcut0 a n c b2 d l x w0 hb hs h
  | some pq => exact bcut1 a n c b2 d l x w0 hb hs pq.1 pq.2 h
end Go.Proofs.Ytgaklngnfecdaaa.Obj


/-
  make of elements of many cells.
-/
namespace Go.Proofs.Ytgaklngnfecdaaa.Zx
open Go.RowKit Zk
set_option linter.unusedVariables false
set_option linter.unusedSimpArgs false
section
variable {P : Program} {N : Nat} {Q : Exit → Env → World → Prop} {env : Env} {w w0 : World} {M : Nat → Prop} {rs : List Res} {K : Env → World → Prop} {d : Tmp} {ty : TypeId} {pos : String} {after : Array Edge} {g : Option (Nat × Bool)}
variable {dst : Option Tmp}
end
end Go.Proofs.Ytgaklngnfecdaaa.Zx


/-
  Results, one of them in a variable; a callee's state taken over whole.
-/
namespace Go.Proofs.Ytgaklngnfecdaaa.Zx
open Go.RowKit Zk
set_option linter.unusedVariables false
set_option linter.unusedSimpArgs false
section
variable {P : Program} {N : Nat} {Q : Exit → Env → World → Prop} {env : Env} {w w0 : World}
variable {S : World → Prop} {dst : Option Tmp} {ty : TypeId} {pos : String} {after : Array Edge} {gd : Option (Nat × Bool)}
end
end Go.Proofs.Ytgaklngnfecdaaa.Zx


/-
  '!=' on truth values; bytes turned.
-/
namespace Go.Proofs.Ytgaklngnfecdaaa.Zx
open Go.RowKit Zk
set_option linter.unusedVariables false
set_option linter.unusedSimpArgs false
section
variable {P : Program} {env : Env} {S : World → Prop} {dst : Option Tmp} {ty : TypeId} {pos : String} {after : Array Edge} {g : Option (Nat × Bool)}
end
end Go.Proofs.Ytgaklngnfecdaaa.Zx


/-
  Three results, the first in a variable.
-/
namespace Go.Proofs.Ytgaklngnfecdaaa.Zx
open Go.RowKit Zk
set_option linter.unusedVariables false
set_option linter.unusedSimpArgs false
section
variable {P : Program} {N : Nat} {Q : Exit → Env → World → Prop} {env : Env} {w w0 : World}
theorem retctt {fn : Func} {R : Ending → World → Prop} {p q r : Tmp} {lt b t : Nat} {cs : Array Value} {d : TypeDesc} {v u : Value} (hr : fn.results = #[.cell p lt, .tmp q, .tmp r]) (hp : look env p = some (.pointer (some ⟨b, 0, none⟩))) (hq : look env q = some v) (hq2 : look env r = some u) (hb : Blk w b t cs) (hd : P.underlying lt = some d) (hrow : d.isRow = true)
    (hsz : (P.info? lt).map (·.size) = some cs.size) (h : R (.returned (.tuple #[.agg cs, v, u])) w) (hd0 : dfs env = [] := by rfl) : bodyQ P fn R .ret env w :=
  ⟨hd0, _, fun N a ha => by rw [resB_tt hr a.tmps (ha.getD hp) hb d hd hrow hsz, ha.getD hq, ha.getD hq2], h⟩
end
end Go.Proofs.Ytgaklngnfecdaaa.Zx


/-
  An entry taken off bytes: laws.
-/
namespace Go.Proofs.Ytgaklngnfecdaaa.Obj
open Go.RowKit Zk Zx
open Oid (idf idf_len)
open Tre (nmOk EV enf enf_len mdOk chkE)
open Rev (cutF cutF_some cutF_none)
set_option linter.unusedVariables false
set_option linter.unusedSimpArgs false

theorem rs_tail {w : World} {A : Option Addr} {n c : Nat} {b : List UInt8} (k : Nat) (h : Rs w 1 A n c (bL b)) (h1 : k ≤ n) : Rs w 1 (cutA A c k 1) (n - k) (c - k) (bL (b.drop k)) := by
  have h2 := h.cutb (l := k) (u := n) h1 (Nat.le_refl _)
  rwa [List.take_of_length_le (by rw [List.length_drop, h.lenb]; omega)] at h2
theorem cutA_some (a : Addr) (c l size : Nat) : ∃ a2, cutA (some a) c l size = some a2 := by
  unfold cutA
  split
  · exact ⟨a, rfl⟩
  · exact ⟨_, rfl⟩
/-- An entry's cells. -/
def ef (nm : ByteArray) (md : Int) (id : List UInt8) : List Value := .string nm :: .int .i64 md :: bL id
theorem ef_en (y : EV) : enf y = ef y.nm y.md y.id := rfl
theorem ef_len (nm : ByteArray) (md : Int) {id : List UInt8} (h : id.length = 32) : (ef nm md id).length = 34 := by simp [ef, h]
theorem ef_one (nm : ByteArray) (md : Int) (id : List UInt8) : ∀ u ∈ ef nm md id, u.oneCell' = true := fun u hu => by
  rcases List.mem_cons.1 hu with rfl | hu
  · rfl
  · rcases List.mem_cons.1 hu with rfl | hu
    · rfl
    · exact bL_one _ u hu
theorem ef_whole (nm : ByteArray) (md : Int) {id : List UInt8} (h : id.length = 32) : ((ef nm md id).toArray.toList.drop 0).take 34 = ef nm md id ∧ (ef nm md id).length = 34 := ⟨by rw [List.drop_zero, List.toList_toArray]; exact List.take_of_length_le (by rw [ef_len nm md h]; omega), ef_len nm md h⟩
theorem ef_0 (nm : ByteArray) (md : Int) (id : List UInt8) : (ef nm md id).toArray[0]? = some (.string nm) := rfl
theorem ef_1 (nm : ByteArray) (md : Int) (id : List UInt8) : (ef nm md id).toArray[1]? = some (.int .i64 md) := rfl
theorem ef_set0 {nm nm' : ByteArray} {md : Int} {id : List UInt8} : (ef nm md id).toArray.setIfInBounds 0 (.string nm') = (ef nm' md id).toArray := by rw [List.setIfInBounds_toArray]; rfl
theorem ef_set1 {nm : ByteArray} {md md' : Int} {id : List UInt8} : (ef nm md id).toArray.setIfInBounds 1 (.int .i64 md') = (ef nm md' id).toArray := by rw [List.setIfInBounds_toArray]; rfl
theorem ef_cp {nm : ByteArray} {md : Int} {id z : List UInt8} (h : id.length = 32) (hz : z.length = 32) : ((ef nm md id).toArray.toList.take 2 ++ bL z ++ (ef nm md id).toArray.toList.drop (2 + (bL z).length)).toArray = (ef nm md z).toArray := by
  rw [List.drop_of_length_le (by rw [List.toList_toArray, ef_len nm md h, length_bL]; omega), List.append_nil]
  rfl
def zB : List UInt8 := List.replicate 32 0
theorem zB_len : zB.length = 32 := rfl
/-- An entry taken off bytes: an error, a name, what is left. -/
def oneC : List UInt8 → Int × List UInt8 × List UInt8
  | [] => (16, [], [])
  | m :: r => if ¬ ((m.toNat : Int) - 48 = 1 ∨ (m.toNat : Int) - 48 = 2 ∨ (m.toNat : Int) - 48 = 3) then (16, [], []) else match r with
    | [] => (10, [], [])
    | s :: t => if s ≠ 32 then (16, [], []) else match cutF 0 t with
      | none => if nmOk ⟨t.toArray⟩ = false then (15, [], []) else (10, [], [])
      | some (p, q) => if nmOk ⟨p.toArray⟩ = false then (15, [], []) else if q.length < 32 then (10, [], []) else (0, p, q.drop 32)
/-- What one answers. -/
def OneV (a : Addr) (n c : Nat) (b : List UInt8) (u : Value) : Prop := ∃ (nm : ByteArray) (md : Int) (id : List UInt8) (A : Option Addr) (k cp : Nat), id.length = 32 ∧ u = .tuple #[.agg (ef nm md id).toArray, .slice A k cp, .int .i64 (oneC b).1] ∧
  ((oneC b).1 = 0 → nm = ⟨(oneC b).2.1.toArray⟩ ∧ md = ((b.getD 0 0).toNat : Int) - 48 ∧ ∀ W, Rs W 1 (some a) n c (bL b) → Rs W 1 A k cp (bL (oneC b).2.2))
theorem OneV.bad {a : Addr} {n c : Nat} {b : List UInt8} {nm : ByteArray} {md e : Int} {id : List UInt8} (hi : id.length = 32) (he : (oneC b).1 = e) (h0 : e ≠ 0) : OneV a n c b (.tuple #[.agg (ef nm md id).toArray, .slice none 0 0, .int .i64 e]) :=
  ⟨nm, md, id, none, 0, 0, hi, by rw [he], fun h => absurd (he.symm.trans h) h0⟩
section
variable {m s : UInt8} {t p q : List UInt8}
abbrev mok (m : UInt8) : Prop := (m.toNat : Int) - 48 = 1 ∨ (m.toNat : Int) - 48 = 2 ∨ (m.toNat : Int) - 48 = 3
theorem one_16 {r : List UInt8} (h : ¬ mok m) : (oneC (m :: r)).1 = 16 := by unfold oneC; simp only []; rw [if_pos h]
theorem one_10 (h : mok m) : (oneC [m]).1 = 10 := by unfold oneC; simp only []; rw [if_neg (fun q => q h)]
theorem one_16b (h : mok m) (hs : s ≠ 32) : (oneC (m :: s :: t)).1 = 16 := by unfold oneC; simp only []; rw [if_neg (fun q => q h)]; (try simp only []); rw [if_pos hs]
theorem one_n15 (h : mok m) (hc : cutF 0 t = none) (hn : nmOk ⟨t.toArray⟩ = false) : (oneC (m :: 32 :: t)).1 = 15 := by unfold oneC; simp only []; rw [if_neg (fun q => q h)]; (try simp only []); rw [if_neg (fun q => q rfl), hc]; (try simp only []); rw [if_pos hn]
theorem one_n10 (h : mok m) (hc : cutF 0 t = none) (hn : ¬ nmOk ⟨t.toArray⟩ = false) : (oneC (m :: 32 :: t)).1 = 10 := by unfold oneC; simp only []; rw [if_neg (fun q => q h)]; (try simp only []); rw [if_neg (fun q => q rfl), hc]; (try simp only []); rw [if_neg hn]
theorem one_s15 (h : mok m) (hc : cutF 0 t = some (p, q)) (hn : nmOk ⟨p.toArray⟩ = false) : (oneC (m :: 32 :: t)).1 = 15 := by unfold oneC; simp only []; rw [if_neg (fun q => q h)]; (try simp only []); rw [if_neg (fun q => q rfl), hc]; (try simp only []); rw [if_pos hn]
theorem one_s10 (h : mok m) (hc : cutF 0 t = some (p, q)) (hn : ¬ nmOk ⟨p.toArray⟩ = false) (hq : q.length < 32) : (oneC (m :: 32 :: t)).1 = 10 := by unfold oneC; simp only []; rw [if_neg (fun q => q h)]; (try simp only []); rw [if_neg (fun q => q rfl), hc]; (try simp only []); rw [if_neg hn, if_pos hq]
theorem one_s0 (h : mok m) (hc : cutF 0 t = some (p, q)) (hn : ¬ nmOk ⟨p.toArray⟩ = false) (hq : ¬ q.length < 32) : oneC (m :: 32 :: t) = (0, p, q.drop 32) := by unfold oneC; simp only []; rw [if_neg (fun q => q h)]; (try simp only []); rw [if_neg (fun q => q rfl), hc]; (try simp only []); rw [if_neg hn, if_neg hq]
end
theorem one_less {b : List UInt8} (h : (oneC b).1 = 0) : (oneC b).2.2.length + 34 ≤ b.length := by
  unfold oneC at h ⊢
  match b with
  | [] => cases h
  | m :: r =>
    simp only [] at h ⊢
    split at h
    · cases h
    · rename_i h1
      rw [if_neg h1]
      match r with
      | [] => cases h
      | s :: t =>
        simp only [] at h ⊢
        split at h
        · cases h
        · rename_i h2
          rw [if_neg h2]
          cases hc : cutF 0 t with
          | none =>
            rw [hc] at h
            simp only [] at h
            split at h <;> cases h
          | some pq =>
            obtain ⟨p, q⟩ := pq
            rw [hc] at h
            simp only [] at h ⊢
            split at h
            · cases h
            · rename_i h3
              rw [if_neg h3]
              split at h
              · cases h
              · rename_i h4
                rw [if_neg h4]
                have h9 := (cutF_some hc).1
                simp only [List.length_cons, List.length_drop]
                rw [h9, List.length_append, List.length_cons]
                omega
end Go.Proofs.Ytgaklngnfecdaaa.Obj


/-
  An entry taken off bytes.
-/
namespace Go.Proofs.Ytgaklngnfecdaaa.Obj
open Go.RowKit Zk Zx
open Oid (idf idf_len)
open Tre (nmOk EV enf enf_len mdOk chkE)
open Rev (cutF cutF_some cutF_none)
set_option linter.unusedVariables false
set_option linter.unusedSimpArgs false

theorem OneV.good {a : Addr} {n c : Nat} {b p q : List UInt8} {nm : ByteArray} {md : Int} {id : List UInt8} {A : Option Addr} {k cp : Nat} (hi : id.length = 32) (e : oneC b = (0, p, q)) (hn : nm = ⟨p.toArray⟩) (hm : md = ((b.getD 0 0).toNat : Int) - 48) (hR : ∀ W, Rs W 1 (some a) n c (bL b) → Rs W 1 A k cp (bL q)) : OneV a n c b (.tuple #[.agg (ef nm md id).toArray, .slice A k cp, .int .i64 0]) :=
  ⟨nm, md, id, A, k, cp, hi, by rw [e], fun _ => ⟨by rw [e]; exact hn, hm, fun W hW => by rw [e]; exact hR W hW⟩⟩
theorem cut_drop {t p q : List UInt8} (h : cutF 0 t = some (p, q)) : t.drop (p.length + 1) = q ∧ t.take p.length = p ∧ t.length = p.length + 1 + q.length := by
  have h9 := (cutF_some h).1
  refine ⟨?_, ?_, ?_⟩
  · rw [h9, ← List.drop_drop, List.drop_append_of_le_length (Nat.le_refl _), List.drop_of_length_le (Nat.le_refl _)]; rfl
  · rw [h9, List.take_append_of_le_length (Nat.le_refl _), List.take_of_length_le (Nat.le_refl _)]
  · rw [h9, List.length_append, List.length_cons]; omega
theorem bL_takeN (l : List UInt8) (k : Nat) : (bL l).take k = bL (l.take k) := by unfold bL; rw [List.map_take]
theorem nat32 {s : UInt8} (h : ¬ (s.toNat : Int) ≠ 32) : s = 32 := UInt8.toNat_inj.1 (by show s.toNat = 32; omega)


set_option maxRecDepth 100000 in
theorem one1 (a : Addr) (n c : Nat) (m : UInt8) (r : List UInt8) (w0 : World) (hb : Rs w0 1 (some a) n c (bL (m :: r))) (p q : List UInt8) (hcf0 : cutF 0 ((m :: r).drop 2) = some (p, q)) :
    Calls Try.prog 187 #[.slice (some a) n c] w0 fun e w' => ∃ u, e = .returned u ∧ Like w0 w' ∧ OneV a n c (m :: r) u := by
  refine enter1 (env := [(0, .slice (some a) n c)]) [.slice (some a) n c] Try.func187 rfl Try.ntmps187 rfl rfl ?_
  have hl := hb.lenb; have hcap := hb.cap; have hmax := hb.max; have hm9 := m.toNat_lt; have hl1 : 1 ≤ n := by rw [← hl]; simp
  have S0 := St.start w0 noM
  refine T_seq fun K1 hK1 => ?_
  refine T_region ?_
  refine L_o (o_alloc zz252 S0 rfl fun b1 w1 hb1 S1 => ?_)
  have S2 : Zx.St w0 noM [blk b1 252 (ef ⟨#[]⟩ 0 zB).toArray] w1 := S1.cast (by kernel_rfl)
  refine L_y (y_assign rfl) rfl ?_
  refine L_y (y_assign rfl) rfl ?_
  refine L_nil ?_
  refine hK1 _ _ ?_
  refine T_seq fun K2 hK2 => ?_
  refine T_region ?_
  refine L_o (o_alloc zz252 S2 rfl fun b3 w3 hb3 S3 => ?_)
  have S4 : Zx.St w0 noM [blk b1 252 (ef ⟨#[]⟩ 0 zB).toArray, blk b3 252 (ef ⟨#[]⟩ 0 zB).toArray] w3 := S3.cast (by kernel_rfl)
  refine L_nil ?_
  refine hK2 _ _ ?_
  refine T_seq fun K3 hK3 => ?_
  refine T_region ?_
  refine L_y (y_move rfl) rfl ?_
  refine L_y (y_idx Try.underlying27 sz5 rfl rfl (by first | exact S4.rd hb) inferInstance (by omega)) rfl ?_
  refine L_y (y_ldr Try.underlying5 rfl rfl (S4.rd hb) (bL_get _ _ _ (rfl : (m :: r)[0]? = some m))) rfl ?_
  refine L_y (y_conv is5 Try.underlying3 rfl (i64w (by omega))) rfl ?_
  refine L_y (y_sub rfl rfl (i64w (by omega))) rfl ?_
  refine L_y (y_fieldA 1 Try.underlying252 rfl sz3 rfl rfl rfl) rfl ?_
  refine L_o (o_st1 S4 1 rfl rfl rfl rfl sz3 (by rw [List.size_toArray, ef_len _ _ zB_len]; omega) fun w5 S5 => ?_)
  have S90 := S5.blkc 1 rfl ef_set1
  refine L_nil ?_
  refine hK3 _ _ ?_
  refine T_seq fun K4 hK4 => ?_
  refine T_seq fun K5 hK5 => ?_
  refine T_region ?_
  refine L_y (y_fieldA 1 Try.underlying252 rfl sz3 rfl rfl rfl) rfl ?_
  refine L_y (y_ldc Try.underlying3 rfl rfl (((S90.blk 1 rfl).cell _).trans (ef_1 _ _ _))) rfl ?_
  refine L_o (o_call Try.func199 rfl rfl (Tre.mode_ ((m.toNat : Int) - 48) w5) rfl rfl ?_)
  rintro e6 w6 ⟨v6, rfl, l6, rfl⟩
  refine ⟨_, rfl, ?_⟩
  have S6 := S90.like l6
  refine L_y ((by first | exact y_notD rfl | exact y_not rfl)) rfl ?_
  refine L_nil ?_
  refine hK5 _ _ ?_
  refine T_cond rfl (fun h18 => ?_) (fun h18 => ?_)
  ·
    refine T_seq fun K6 hK6 => ?_
    refine T_region ?_
    refine L_y (y_ldW Try.underlying252 rfl sz252 rfl (S6.blk 1 rfl) (ef_whole _ _ (by first | exact zB_len | exact hq32))) rfl ?_
    refine L_o (o_stW S6 0 rfl rfl rfl (by rw [List.size_toArray, ef_len _ _ (by first | exact zB_len | exact hq32)]; exact sz252) (by first | (rw [List.size_toArray, List.size_toArray, ef_len _ _ (by first | exact zB_len | exact hq32), ef_len _ _ zB_len]; done) | (rw [List.size_toArray, ef_len _ _ (by first | exact zB_len | exact hq32)]; rfl)) (fun u hu => ef_one _ _ _ u (by rw [List.toList_toArray] at hu; exact hu)) fun w7 S7 => ?_)
    refine L_y (y_assign rfl) rfl ?_
    refine L_y (y_assign rfl) rfl ?_
    refine L_nil ?_
    refine hK6 _ _ ?_
    refine T_ret ?_
    repeat (first | with_reducible refine up_then ?_ | with_reducible refine up_in ?_)
    refine retctt rfl rfl rfl rfl (S7.blk 0 rfl) Try.underlying252 rfl (by rw [List.size_toArray, ef_len _ _ (by first | exact zB_len | exact hq32)]; exact sz252) ?_
    exact ⟨_, rfl, S7.like0, OneV.bad zB_len (one_16 h18) (by decide)⟩
  ·
    refine T_skip ?_
    refine hK4 _ _ ?_
    refine T_seq fun K7 hK7 => ?_
    refine T_seq fun K8 hK8 => ?_
    refine T_region ?_
    refine L_y (y_move rfl) rfl ?_
    refine L_y (y_len Try.underlying27 rfl) rfl ?_
    refine L_y (y_lss rfl rfl) rfl ?_
    refine L_nil ?_
    refine hK8 _ _ ?_
    refine T_cond rfl (fun h22 => ?_) (fun h22 => ?_)
    ·
      refine T_seq fun K9 hK9 => ?_
      refine T_region ?_
      refine L_y (y_ldW Try.underlying252 rfl sz252 rfl (S6.blk 1 rfl) (ef_whole _ _ (by first | exact zB_len | exact hq32))) rfl ?_
      refine L_o (o_stW S6 0 rfl rfl rfl (by rw [List.size_toArray, ef_len _ _ (by first | exact zB_len | exact hq32)]; exact sz252) (by first | (rw [List.size_toArray, List.size_toArray, ef_len _ _ (by first | exact zB_len | exact hq32), ef_len _ _ zB_len]; done) | (rw [List.size_toArray, ef_len _ _ (by first | exact zB_len | exact hq32)]; rfl)) (fun u hu => ef_one _ _ _ u (by rw [List.toList_toArray] at hu; exact hu)) fun w8 S8 => ?_)
      refine L_y (y_assign rfl) rfl ?_
      refine L_y (y_assign rfl) rfl ?_
      refine L_nil ?_
      refine hK9 _ _ ?_
      refine T_ret ?_
      repeat (first | with_reducible refine up_then ?_ | with_reducible refine up_in ?_)
      refine retctt rfl rfl rfl rfl (S8.blk 0 rfl) Try.underlying252 rfl (by rw [List.size_toArray, ef_len _ _ (by first | exact zB_len | exact hq32)]; exact sz252) ?_
      have hr : r = [] := by cases r with | nil => rfl | cons s t => simp at hl; omega
      subst hr
      exact ⟨_, rfl, S8.like0, OneV.bad zB_len (one_10 (Classical.not_not.1 h18)) (by decide)⟩
    ·
      obtain ⟨s, t, rfl⟩ : ∃ s t, r = s :: t := by cases r with | nil => (simp at hl; omega) | cons s t => exact ⟨s, t, rfl⟩
      have hs9 := s.toNat_lt
      have hcf : cutF 0 t = some (p, q) := hcf0
      refine T_skip ?_
      refine hK7 _ _ ?_
      refine T_seq fun K10 hK10 => ?_
      refine T_seq fun K11 hK11 => ?_
      refine T_region ?_
      refine L_y (y_move rfl) rfl ?_
      refine L_y (y_idx Try.underlying27 sz5 rfl rfl (by first | exact S6.rd hb) inferInstance (by omega)) rfl ?_
      refine L_y (y_ldr Try.underlying5 rfl rfl (S6.rd hb) (bL_get _ _ _ (rfl : (m :: s :: t)[1]? = some s))) rfl ?_
      refine L_y (y_neq rfl rfl) rfl ?_
      refine L_nil ?_
      refine hK11 _ _ ?_
      refine T_cond rfl (fun h27 => ?_) (fun h27 => ?_)
      ·
        refine T_seq fun K12 hK12 => ?_
        refine T_region ?_
        refine L_y (y_ldW Try.underlying252 rfl sz252 rfl (S6.blk 1 rfl) (ef_whole _ _ (by first | exact zB_len | exact hq32))) rfl ?_
        refine L_o (o_stW S6 0 rfl rfl rfl (by rw [List.size_toArray, ef_len _ _ (by first | exact zB_len | exact hq32)]; exact sz252) (by first | (rw [List.size_toArray, List.size_toArray, ef_len _ _ (by first | exact zB_len | exact hq32), ef_len _ _ zB_len]; done) | (rw [List.size_toArray, ef_len _ _ (by first | exact zB_len | exact hq32)]; rfl)) (fun u hu => ef_one _ _ _ u (by rw [List.toList_toArray] at hu; exact hu)) fun w9 S9 => ?_)
        refine L_y (y_assign rfl) rfl ?_
        refine L_y (y_assign rfl) rfl ?_
        refine L_nil ?_
        refine hK12 _ _ ?_
        refine T_ret ?_
        repeat (first | with_reducible refine up_then ?_ | with_reducible refine up_in ?_)
        refine retctt rfl rfl rfl rfl (S9.blk 0 rfl) Try.underlying252 rfl (by rw [List.size_toArray, ef_len _ _ (by first | exact zB_len | exact hq32)]; exact sz252) ?_
        exact ⟨_, rfl, S9.like0, OneV.bad zB_len (one_16b (Classical.not_not.1 h18) (fun e => h27 (by rw [e]; rfl))) (by decide)⟩
      ·
        obtain rfl := nat32 h27
        refine T_skip ?_
        refine hK10 _ _ ?_
        refine T_seq fun K13 hK13 => ?_
        refine T_region ?_
        refine L_y (y_move rfl) rfl ?_
        refine L_y (y_sliceL Try.underlying27 sz5 rfl rfl inferInstance (by omega)) rfl ?_
        refine L_o (o_bsl [_] te27 zz5 S6 rfl rfl rfl rfl rfl rfl rfl rfl fun b10 w10 S10 => ?_)
        obtain ⟨a2, ha2⟩ := cutA_some a c 2 1
        rw [ha2]
        have hb2 : Rs w0 1 (some a2) (n - 2) (c - 2) (bL t) := by rw [← ha2]; exact rs_tail 2 hb (by omega)
        have hcp := hb2.cap; have hln := hb2.lenb
        refine L_o (o_call Try.func200 rfl rfl (bcut a2 (n - 2) (c - 2) _ 1 t 0 w10 (S10.rd hb2) (S10.row 2 rfl)) rfl rfl ?_)
        rintro e11 w11 ⟨v11, rfl, l11, rfl⟩
        refine ⟨_, rfl, ?_⟩
        have S11 := S10.like l11
        rw [bcutV_some hcf]
        obtain ⟨hcd, hct, hcl⟩ := cut_drop hcf
        have hbq : Rs w0 1 (cutA (some a2) (c - 2) (p.length + 1) 1) (n - 2 - (p.length + 1)) (c - 2 - (p.length + 1)) (bL q) := by have h9 := rs_tail (p.length + 1) hb2 (by omega); rw [hcd] at h9; exact h9
        have hbp : Rs w0 1 (cutA (some a2) (c - 2) 0 1) p.length (c - 2) (bL p) := by have h9 := hb2.cutb (l := 0) (u := p.length) (by omega) (by omega); rw [List.drop_zero, Nat.sub_zero, hct] at h9; exact h9
        refine L_y (y_move rfl) rfl ?_
        refine L_y (y_extract rfl rfl) rfl ?_
        refine L_y (y_extract rfl rfl) rfl ?_
        refine L_y (y_extract rfl rfl) rfl ?_
        refine L_y (y_assign rfl) rfl ?_
        refine L_y (y_assign rfl) rfl ?_
        refine L_y (y_assign rfl) rfl ?_
        refine L_nil ?_
        refine hK13 _ _ ?_
        refine T_seq fun K14 hK14 => ?_
        refine T_region ?_
        refine L_y (y_move rfl) rfl ?_
        refine L_y (y_bstr Try.underlying27 Try.underlying5 Try.underlying9 rfl (S11.rd hbp)) rfl ?_
        refine L_y (y_fieldA 0 Try.underlying252 rfl sz9 rfl rfl rfl) rfl ?_
        refine L_o (o_st1 S11 1 rfl rfl rfl rfl sz9 (by rw [List.size_toArray, ef_len _ _ zB_len]; omega) fun w12 S12 => ?_)
        have S90 := S12.blkc 1 rfl ef_set0
        refine L_nil ?_
        refine hK14 _ _ ?_
        refine T_seq fun K15 hK15 => ?_
        refine T_seq fun K16 hK16 => ?_
        refine T_region ?_
        refine L_y (y_fieldA 0 Try.underlying252 rfl sz9 rfl rfl rfl) rfl ?_
        refine L_y (y_ldc Try.underlying9 rfl rfl (((S90.blk 1 rfl).cell _).trans (ef_0 _ _ _))) rfl ?_
        refine L_o (o_call Try.func59 rfl rfl (Tre.pname _ w12) rfl rfl ?_)
        rintro e13 w13 ⟨v13, rfl, l13, rfl⟩
        refine ⟨_, rfl, ?_⟩
        have S13 := S90.like l13
        refine L_y ((by first | exact y_notD rfl | exact y_not rfl)) rfl ?_
        refine L_nil ?_
        refine hK16 _ _ ?_
        refine T_condB rfl (fun h43 => ?_) (fun h43 => ?_)
        ·
          refine T_seq fun K17 hK17 => ?_
          refine T_region ?_
          refine L_y (y_ldW Try.underlying252 rfl sz252 rfl (S13.blk 1 rfl) (ef_whole _ _ (by first | exact zB_len | exact hq32))) rfl ?_
          refine L_o (o_stW S13 0 rfl rfl rfl (by rw [List.size_toArray, ef_len _ _ (by first | exact zB_len | exact hq32)]; exact sz252) (by first | (rw [List.size_toArray, List.size_toArray, ef_len _ _ (by first | exact zB_len | exact hq32), ef_len _ _ zB_len]; done) | (rw [List.size_toArray, ef_len _ _ (by first | exact zB_len | exact hq32)]; rfl)) (fun u hu => ef_one _ _ _ u (by rw [List.toList_toArray] at hu; exact hu)) fun w14 S14 => ?_)
          refine L_y (y_assign rfl) rfl ?_
          refine L_y (y_assign rfl) rfl ?_
          refine L_nil ?_
          refine hK17 _ _ ?_
          refine T_ret ?_
          repeat (first | with_reducible refine up_then ?_ | with_reducible refine up_in ?_)
          refine retctt rfl rfl rfl rfl (S14.blk 0 rfl) Try.underlying252 rfl (by rw [List.size_toArray, ef_len _ _ (by first | exact zB_len | exact hq32)]; exact sz252) ?_
          exact ⟨_, rfl, S14.like0, OneV.bad zB_len (one_s15 (Classical.not_not.1 h18) hcf (by simpa using h43)) (by decide)⟩
        ·
          refine T_skip ?_
          refine hK15 _ _ ?_
          refine T_seq fun K18 hK18 => ?_
          refine T_seq fun K19 hK19 => ?_
          refine T_region ?_
          refine L_y (y_move rfl) rfl ?_
          refine L_y ((by first | exact y_notD rfl | exact y_not rfl)) rfl ?_
          refine L_y (y_move rfl) rfl ?_
          refine L_gyes rfl rfl ?_
          refine L_y (y_move rfl) rfl ?_
          refine L_gyes rfl rfl ?_
          refine L_y (y_len Try.underlying27 rfl) rfl ?_
          refine L_gyes rfl rfl ?_
          refine L_y (y_lss rfl rfl) rfl ?_
          refine L_y ((by first | exact y_pickT rfl rfl | exact y_pickF rfl rfl)) rfl ?_
          refine L_nil ?_
          refine hK19 _ _ ?_
          refine T_cond rfl (fun h51 => ?_) (fun h51 => ?_)
          ·
            refine T_seq fun K20 hK20 => ?_
            refine T_region ?_
            refine L_y (y_ldW Try.underlying252 rfl sz252 rfl (S13.blk 1 rfl) (ef_whole _ _ (by first | exact zB_len | exact hq32))) rfl ?_
            refine L_o (o_stW S13 0 rfl rfl rfl (by rw [List.size_toArray, ef_len _ _ (by first | exact zB_len | exact hq32)]; exact sz252) (by first | (rw [List.size_toArray, List.size_toArray, ef_len _ _ (by first | exact zB_len | exact hq32), ef_len _ _ zB_len]; done) | (rw [List.size_toArray, ef_len _ _ (by first | exact zB_len | exact hq32)]; rfl)) (fun u hu => ef_one _ _ _ u (by rw [List.toList_toArray] at hu; exact hu)) fun w15 S15 => ?_)
            refine L_y (y_assign rfl) rfl ?_
            refine L_y (y_assign rfl) rfl ?_
            refine L_nil ?_
            refine hK20 _ _ ?_
            refine T_ret ?_
            repeat (first | with_reducible refine up_then ?_ | with_reducible refine up_in ?_)
            refine retctt rfl rfl rfl rfl (S15.blk 0 rfl) Try.underlying252 rfl (by rw [List.size_toArray, ef_len _ _ (by first | exact zB_len | exact hq32)]; exact sz252) ?_
            exact ⟨_, rfl, S15.like0, OneV.bad zB_len (one_s10 (Classical.not_not.1 h18) hcf (by simpa using h43) (by omega)) (by decide)⟩
          ·
            refine T_skip ?_
            refine hK18 _ _ ?_
            refine T_seq fun K21 hK21 => ?_
            have hq32 : (q.take 32).length = 32 := by rw [List.length_take]; omega
            refine T_drawnX (fun w => Rs w 1 (some a) n c (bL (m :: 32 :: t))) hmix (by kernel_rfl) (fun w l => ((S13.like l).rd hb)) fun w16 l16 => ?_
            have S16 := S13.like l16
            refine DX_y 1 (by kernel_rfl) rfl (y_move rfl) rfl ?_
            refine DX_y 2 (by kernel_rfl) rfl (y_fieldA 2 Try.underlying252 rfl sz23 rfl rfl rfl) rfl ?_
            refine DX_y 3 (by kernel_rfl) rfl (y_aslice Try.underlying23 sz5 rfl) rfl ?_
            refine DX_y 4 (by kernel_rfl) rfl (y_move rfl) rfl ?_
            refine DX_o2 0 5 (by kernel_rfl) rfl rfl ?_ ?_
            ·
              refine o_y (y_ldW Try.underlying252 rfl sz252 rfl (S16.blk 1 rfl) (ef_whole _ _ (by first | exact zB_len | exact hq32))) (Like.refl _) rfl ⟨(S16.rd hb), ?_⟩
              refine DX_o1 5 (by kernel_rfl) rfl ?_
              refine o_copyB (news := bL (q.take 32)) S16 1 rfl Try.underlying27 sz5 rfl rfl rfl (S16.rd hbq) (bL_takeN q 32).symm (by rw [List.size_toArray, ef_len _ _ zB_len, length_bL, hq32]; omega) (bL_one _) rfl fun w17 S17 => ?_
              refine ⟨(S17.rd hb), ?_⟩
              have S18 := S17.blkc 1 rfl (ef_cp zB_len hq32)
              refine DX_y 6 (by kernel_rfl) rfl (y_sliceL Try.underlying27 sz5 rfl rfl (Nt.mk (by rw [length_bL, hq32]) : Nt _ (32)) (by omega)) rfl ?_
              refine DX_o1 7 (by kernel_rfl) rfl ?_
              refine o_stW S18 0 rfl rfl rfl (by rw [List.size_toArray, ef_len _ _ (by first | exact zB_len | exact hq32)]; exact sz252) (by first | (rw [List.size_toArray, List.size_toArray, ef_len _ _ (by first | exact zB_len | exact hq32), ef_len _ _ zB_len]; done) | (rw [List.size_toArray, ef_len _ _ (by first | exact zB_len | exact hq32)]; rfl)) (fun u hu => ef_one _ _ _ u (by rw [List.toList_toArray] at hu; exact hu)) fun w19 S19 => ?_
              refine ⟨(S19.rd hb), ?_⟩
              refine DX_y 8 (by kernel_rfl) rfl (y_assign rfl) rfl ?_
              refine DX_y 9 (by kernel_rfl) rfl (y_assign rfl) rfl ?_
              refine DX_nil (by kernel_rfl) ?_
              refine hK21 _ _ ?_
              refine T_ret ?_
              repeat (first | with_reducible refine up_then ?_ | with_reducible refine up_in ?_)
              refine retctt rfl rfl rfl rfl (S19.blk 0 rfl) Try.underlying252 rfl (by rw [List.size_toArray, ef_len _ _ (by first | exact zB_len | exact hq32)]; exact sz252) ?_
              exact ⟨_, rfl, S19.like0, OneV.good (by first | exact zB_len | exact hq32) (one_s0 (Classical.not_not.1 h18) hcf (by simpa using h43) (by omega)) rfl rfl (fun W hW => rs_tail 32 (by have h9 := rs_tail (p.length + 1) (show Rs W 1 (some a2) (n - 2) (c - 2) (bL t) by rw [← ha2]; exact rs_tail 2 hW (by omega)) (by omega); rw [hcd] at h9; exact h9) (by omega))⟩
            ·
              refine o_copyB (news := bL (q.take 32)) S16 1 rfl Try.underlying27 sz5 rfl rfl rfl (S16.rd hbq) (bL_takeN q 32).symm (by rw [List.size_toArray, ef_len _ _ zB_len, length_bL, hq32]; omega) (bL_one _) rfl fun w20 S20 => ?_
              refine ⟨(S20.rd hb), ?_⟩
              have S21 := S20.blkc 1 rfl (ef_cp zB_len hq32)
              refine DX_y 6 (by kernel_rfl) rfl (y_sliceL Try.underlying27 sz5 rfl rfl (Nt.mk (by rw [length_bL, hq32]) : Nt _ (32)) (by omega)) rfl ?_
              refine DX_o1 0 (by kernel_rfl) rfl ?_
              refine o_y (y_ldW Try.underlying252 rfl sz252 rfl (S21.blk 1 rfl) (ef_whole _ _ (by first | exact zB_len | exact hq32))) (Like.refl _) rfl ⟨(S21.rd hb), ?_⟩
              refine DX_o1 7 (by kernel_rfl) rfl ?_
              refine o_stW S21 0 rfl rfl rfl (by rw [List.size_toArray, ef_len _ _ (by first | exact zB_len | exact hq32)]; exact sz252) (by first | (rw [List.size_toArray, List.size_toArray, ef_len _ _ (by first | exact zB_len | exact hq32), ef_len _ _ zB_len]; done) | (rw [List.size_toArray, ef_len _ _ (by first | exact zB_len | exact hq32)]; rfl)) (fun u hu => ef_one _ _ _ u (by rw [List.toList_toArray] at hu; exact hu)) fun w22 S22 => ?_
              refine ⟨(S22.rd hb), ?_⟩
              refine DX_y 8 (by kernel_rfl) rfl (y_assign rfl) rfl ?_
              refine DX_y 9 (by kernel_rfl) rfl (y_assign rfl) rfl ?_
              refine DX_nil (by kernel_rfl) ?_
              refine hK21 _ _ ?_
              refine T_ret ?_
              repeat (first | with_reducible refine up_then ?_ | with_reducible refine up_in ?_)
              refine retctt rfl rfl rfl rfl (S22.blk 0 rfl) Try.underlying252 rfl (by rw [List.size_toArray, ef_len _ _ (by first | exact zB_len | exact hq32)]; exact sz252) ?_
              exact ⟨_, rfl, S22.like0, OneV.good (by first | exact zB_len | exact hq32) (one_s0 (Classical.not_not.1 h18) hcf (by simpa using h43) (by omega)) rfl rfl (fun W hW => rs_tail 32 (by have h9 := rs_tail (p.length + 1) (show Rs W 1 (some a2) (n - 2) (c - 2) (bL t) by rw [← ha2]; exact rs_tail 2 hW (by omega)) (by omega); rw [hcd] at h9; exact h9) (by omega))⟩


set_option maxRecDepth 100000 in
theorem one0 (a : Addr) (n c : Nat) (m : UInt8) (r : List UInt8) (w0 : World) (hb : Rs w0 1 (some a) n c (bL (m :: r))) (hcf0 : cutF 0 ((m :: r).drop 2) = none) :
    Calls Try.prog 187 #[.slice (some a) n c] w0 fun e w' => ∃ u, e = .returned u ∧ Like w0 w' ∧ OneV a n c (m :: r) u := by
  refine enter1 (env := [(0, .slice (some a) n c)]) [.slice (some a) n c] Try.func187 rfl Try.ntmps187 rfl rfl ?_
  have hl := hb.lenb; have hcap := hb.cap; have hmax := hb.max; have hm9 := m.toNat_lt; have hl1 : 1 ≤ n := by rw [← hl]; simp
  have S0 := St.start w0 noM
  refine T_seq fun K1 hK1 => ?_
  refine T_region ?_
  refine L_o (o_alloc zz252 S0 rfl fun b1 w1 hb1 S1 => ?_)
  have S2 : Zx.St w0 noM [blk b1 252 (ef ⟨#[]⟩ 0 zB).toArray] w1 := S1.cast (by kernel_rfl)
  refine L_y (y_assign rfl) rfl ?_
  refine L_y (y_assign rfl) rfl ?_
  refine L_nil ?_
  refine hK1 _ _ ?_
  refine T_seq fun K2 hK2 => ?_
  refine T_region ?_
  refine L_o (o_alloc zz252 S2 rfl fun b3 w3 hb3 S3 => ?_)
  have S4 : Zx.St w0 noM [blk b1 252 (ef ⟨#[]⟩ 0 zB).toArray, blk b3 252 (ef ⟨#[]⟩ 0 zB).toArray] w3 := S3.cast (by kernel_rfl)
  refine L_nil ?_
  refine hK2 _ _ ?_
  refine T_seq fun K3 hK3 => ?_
  refine T_region ?_
  refine L_y (y_move rfl) rfl ?_
  refine L_y (y_idx Try.underlying27 sz5 rfl rfl (by first | exact S4.rd hb) inferInstance (by omega)) rfl ?_
  refine L_y (y_ldr Try.underlying5 rfl rfl (S4.rd hb) (bL_get _ _ _ (rfl : (m :: r)[0]? = some m))) rfl ?_
  refine L_y (y_conv is5 Try.underlying3 rfl (i64w (by omega))) rfl ?_
  refine L_y (y_sub rfl rfl (i64w (by omega))) rfl ?_
  refine L_y (y_fieldA 1 Try.underlying252 rfl sz3 rfl rfl rfl) rfl ?_
  refine L_o (o_st1 S4 1 rfl rfl rfl rfl sz3 (by rw [List.size_toArray, ef_len _ _ zB_len]; omega) fun w5 S5 => ?_)
  have S90 := S5.blkc 1 rfl ef_set1
  refine L_nil ?_
  refine hK3 _ _ ?_
  refine T_seq fun K4 hK4 => ?_
  refine T_seq fun K5 hK5 => ?_
  refine T_region ?_
  refine L_y (y_fieldA 1 Try.underlying252 rfl sz3 rfl rfl rfl) rfl ?_
  refine L_y (y_ldc Try.underlying3 rfl rfl (((S90.blk 1 rfl).cell _).trans (ef_1 _ _ _))) rfl ?_
  refine L_o (o_call Try.func199 rfl rfl (Tre.mode_ ((m.toNat : Int) - 48) w5) rfl rfl ?_)
  rintro e6 w6 ⟨v6, rfl, l6, rfl⟩
  refine ⟨_, rfl, ?_⟩
  have S6 := S90.like l6
  refine L_y ((by first | exact y_notD rfl | exact y_not rfl)) rfl ?_
  refine L_nil ?_
  refine hK5 _ _ ?_
  refine T_cond rfl (fun h18 => ?_) (fun h18 => ?_)
  ·
    refine T_seq fun K6 hK6 => ?_
    refine T_region ?_
    refine L_y (y_ldW Try.underlying252 rfl sz252 rfl (S6.blk 1 rfl) (ef_whole _ _ (by first | exact zB_len | exact hq32))) rfl ?_
    refine L_o (o_stW S6 0 rfl rfl rfl (by rw [List.size_toArray, ef_len _ _ (by first | exact zB_len | exact hq32)]; exact sz252) (by first | (rw [List.size_toArray, List.size_toArray, ef_len _ _ (by first | exact zB_len | exact hq32), ef_len _ _ zB_len]; done) | (rw [List.size_toArray, ef_len _ _ (by first | exact zB_len | exact hq32)]; rfl)) (fun u hu => ef_one _ _ _ u (by rw [List.toList_toArray] at hu; exact hu)) fun w7 S7 => ?_)
    refine L_y (y_assign rfl) rfl ?_
    refine L_y (y_assign rfl) rfl ?_
    refine L_nil ?_
    refine hK6 _ _ ?_
    refine T_ret ?_
    repeat (first | with_reducible refine up_then ?_ | with_reducible refine up_in ?_)
    refine retctt rfl rfl rfl rfl (S7.blk 0 rfl) Try.underlying252 rfl (by rw [List.size_toArray, ef_len _ _ (by first | exact zB_len | exact hq32)]; exact sz252) ?_
    exact ⟨_, rfl, S7.like0, OneV.bad zB_len (one_16 h18) (by decide)⟩
  ·
    refine T_skip ?_
    refine hK4 _ _ ?_
    refine T_seq fun K7 hK7 => ?_
    refine T_seq fun K8 hK8 => ?_
    refine T_region ?_
    refine L_y (y_move rfl) rfl ?_
    refine L_y (y_len Try.underlying27 rfl) rfl ?_
    refine L_y (y_lss rfl rfl) rfl ?_
    refine L_nil ?_
    refine hK8 _ _ ?_
    refine T_cond rfl (fun h22 => ?_) (fun h22 => ?_)
    ·
      refine T_seq fun K9 hK9 => ?_
      refine T_region ?_
      refine L_y (y_ldW Try.underlying252 rfl sz252 rfl (S6.blk 1 rfl) (ef_whole _ _ (by first | exact zB_len | exact hq32))) rfl ?_
      refine L_o (o_stW S6 0 rfl rfl rfl (by rw [List.size_toArray, ef_len _ _ (by first | exact zB_len | exact hq32)]; exact sz252) (by first | (rw [List.size_toArray, List.size_toArray, ef_len _ _ (by first | exact zB_len | exact hq32), ef_len _ _ zB_len]; done) | (rw [List.size_toArray, ef_len _ _ (by first | exact zB_len | exact hq32)]; rfl)) (fun u hu => ef_one _ _ _ u (by rw [List.toList_toArray] at hu; exact hu)) fun w8 S8 => ?_)
      refine L_y (y_assign rfl) rfl ?_
      refine L_y (y_assign rfl) rfl ?_
      refine L_nil ?_
      refine hK9 _ _ ?_
      refine T_ret ?_
      repeat (first | with_reducible refine up_then ?_ | with_reducible refine up_in ?_)
      refine retctt rfl rfl rfl rfl (S8.blk 0 rfl) Try.underlying252 rfl (by rw [List.size_toArray, ef_len _ _ (by first | exact zB_len | exact hq32)]; exact sz252) ?_
      have hr : r = [] := by cases r with | nil => rfl | cons s t => simp at hl; omega
      subst hr
      exact ⟨_, rfl, S8.like0, OneV.bad zB_len (one_10 (Classical.not_not.1 h18)) (by decide)⟩
    ·
      obtain ⟨s, t, rfl⟩ : ∃ s t, r = s :: t := by cases r with | nil => (simp at hl; omega) | cons s t => exact ⟨s, t, rfl⟩
      have hs9 := s.toNat_lt
      have hcf : cutF 0 t = none := hcf0
      refine T_skip ?_
      refine hK7 _ _ ?_
      refine T_seq fun K10 hK10 => ?_
      refine T_seq fun K11 hK11 => ?_
      refine T_region ?_
      refine L_y (y_move rfl) rfl ?_
      refine L_y (y_idx Try.underlying27 sz5 rfl rfl (by first | exact S6.rd hb) inferInstance (by omega)) rfl ?_
      refine L_y (y_ldr Try.underlying5 rfl rfl (S6.rd hb) (bL_get _ _ _ (rfl : (m :: s :: t)[1]? = some s))) rfl ?_
      refine L_y (y_neq rfl rfl) rfl ?_
      refine L_nil ?_
      refine hK11 _ _ ?_
      refine T_cond rfl (fun h27 => ?_) (fun h27 => ?_)
      ·
        refine T_seq fun K12 hK12 => ?_
        refine T_region ?_
        refine L_y (y_ldW Try.underlying252 rfl sz252 rfl (S6.blk 1 rfl) (ef_whole _ _ (by first | exact zB_len | exact hq32))) rfl ?_
        refine L_o (o_stW S6 0 rfl rfl rfl (by rw [List.size_toArray, ef_len _ _ (by first | exact zB_len | exact hq32)]; exact sz252) (by first | (rw [List.size_toArray, List.size_toArray, ef_len _ _ (by first | exact zB_len | exact hq32), ef_len _ _ zB_len]; done) | (rw [List.size_toArray, ef_len _ _ (by first | exact zB_len | exact hq32)]; rfl)) (fun u hu => ef_one _ _ _ u (by rw [List.toList_toArray] at hu; exact hu)) fun w9 S9 => ?_)
        refine L_y (y_assign rfl) rfl ?_
        refine L_y (y_assign rfl) rfl ?_
        refine L_nil ?_
        refine hK12 _ _ ?_
        refine T_ret ?_
        repeat (first | with_reducible refine up_then ?_ | with_reducible refine up_in ?_)
        refine retctt rfl rfl rfl rfl (S9.blk 0 rfl) Try.underlying252 rfl (by rw [List.size_toArray, ef_len _ _ (by first | exact zB_len | exact hq32)]; exact sz252) ?_
        exact ⟨_, rfl, S9.like0, OneV.bad zB_len (one_16b (Classical.not_not.1 h18) (fun e => h27 (by rw [e]; rfl))) (by decide)⟩
      ·
        obtain rfl := nat32 h27
        refine T_skip ?_
        refine hK10 _ _ ?_
        refine T_seq fun K13 hK13 => ?_
        refine T_region ?_
        refine L_y (y_move rfl) rfl ?_
        refine L_y (y_sliceL Try.underlying27 sz5 rfl rfl inferInstance (by omega)) rfl ?_
        refine L_o (o_bsl [_] te27 zz5 S6 rfl rfl rfl rfl rfl rfl rfl rfl fun b10 w10 S10 => ?_)
        obtain ⟨a2, ha2⟩ := cutA_some a c 2 1
        rw [ha2]
        have hb2 : Rs w0 1 (some a2) (n - 2) (c - 2) (bL t) := by rw [← ha2]; exact rs_tail 2 hb (by omega)
        have hcp := hb2.cap; have hln := hb2.lenb
        refine L_o (o_call Try.func200 rfl rfl (bcut a2 (n - 2) (c - 2) _ 1 t 0 w10 (S10.rd hb2) (S10.row 2 rfl)) rfl rfl ?_)
        rintro e11 w11 ⟨v11, rfl, l11, rfl⟩
        refine ⟨_, rfl, ?_⟩
        have S11 := S10.like l11
        rw [bcutV_none hcf]
        refine L_y (y_move rfl) rfl ?_
        refine L_y (y_extract rfl rfl) rfl ?_
        refine L_y (y_extract rfl rfl) rfl ?_
        refine L_y (y_extract rfl rfl) rfl ?_
        refine L_y (y_assign rfl) rfl ?_
        refine L_y (y_assign rfl) rfl ?_
        refine L_y (y_assign rfl) rfl ?_
        refine L_nil ?_
        refine hK13 _ _ ?_
        refine T_seq fun K14 hK14 => ?_
        refine T_region ?_
        refine L_y (y_move rfl) rfl ?_
        refine L_y (y_bstr Try.underlying27 Try.underlying5 Try.underlying9 rfl (S11.rd hb2)) rfl ?_
        refine L_y (y_fieldA 0 Try.underlying252 rfl sz9 rfl rfl rfl) rfl ?_
        refine L_o (o_st1 S11 1 rfl rfl rfl rfl sz9 (by rw [List.size_toArray, ef_len _ _ zB_len]; omega) fun w12 S12 => ?_)
        have S90 := S12.blkc 1 rfl ef_set0
        refine L_nil ?_
        refine hK14 _ _ ?_
        refine T_seq fun K15 hK15 => ?_
        refine T_seq fun K16 hK16 => ?_
        refine T_region ?_
        refine L_y (y_fieldA 0 Try.underlying252 rfl sz9 rfl rfl rfl) rfl ?_
        refine L_y (y_ldc Try.underlying9 rfl rfl (((S90.blk 1 rfl).cell _).trans (ef_0 _ _ _))) rfl ?_
        refine L_o (o_call Try.func59 rfl rfl (Tre.pname _ w12) rfl rfl ?_)
        rintro e13 w13 ⟨v13, rfl, l13, rfl⟩
        refine ⟨_, rfl, ?_⟩
        have S13 := S90.like l13
        refine L_y ((by first | exact y_notD rfl | exact y_not rfl)) rfl ?_
        refine L_nil ?_
        refine hK16 _ _ ?_
        refine T_condB rfl (fun h43 => ?_) (fun h43 => ?_)
        ·
          refine T_seq fun K17 hK17 => ?_
          refine T_region ?_
          refine L_y (y_ldW Try.underlying252 rfl sz252 rfl (S13.blk 1 rfl) (ef_whole _ _ (by first | exact zB_len | exact hq32))) rfl ?_
          refine L_o (o_stW S13 0 rfl rfl rfl (by rw [List.size_toArray, ef_len _ _ (by first | exact zB_len | exact hq32)]; exact sz252) (by first | (rw [List.size_toArray, List.size_toArray, ef_len _ _ (by first | exact zB_len | exact hq32), ef_len _ _ zB_len]; done) | (rw [List.size_toArray, ef_len _ _ (by first | exact zB_len | exact hq32)]; rfl)) (fun u hu => ef_one _ _ _ u (by rw [List.toList_toArray] at hu; exact hu)) fun w14 S14 => ?_)
          refine L_y (y_assign rfl) rfl ?_
          refine L_y (y_assign rfl) rfl ?_
          refine L_nil ?_
          refine hK17 _ _ ?_
          refine T_ret ?_
          repeat (first | with_reducible refine up_then ?_ | with_reducible refine up_in ?_)
          refine retctt rfl rfl rfl rfl (S14.blk 0 rfl) Try.underlying252 rfl (by rw [List.size_toArray, ef_len _ _ (by first | exact zB_len | exact hq32)]; exact sz252) ?_
          exact ⟨_, rfl, S14.like0, OneV.bad zB_len (one_n15 (Classical.not_not.1 h18) hcf (by simpa using h43)) (by decide)⟩
        ·
          refine T_skip ?_
          refine hK15 _ _ ?_
          refine T_seq fun K18 hK18 => ?_
          refine T_seq fun K19 hK19 => ?_
          refine T_region ?_
          refine L_y (y_move rfl) rfl ?_
          refine L_y ((by first | exact y_notD rfl | exact y_not rfl)) rfl ?_
          refine L_y (y_move rfl) rfl ?_
          refine L_gno rfl rfl rfl ?_
          refine L_gno rfl rfl rfl ?_
          refine L_gno rfl rfl rfl ?_
          refine L_y ((by first | exact y_pickT rfl rfl | exact y_pickF rfl rfl)) rfl ?_
          refine L_nil ?_
          refine hK19 _ _ ?_
          refine T_true rfl ?_
          refine T_seq fun K20 hK20 => ?_
          refine T_region ?_
          refine L_y (y_ldW Try.underlying252 rfl sz252 rfl (S13.blk 1 rfl) (ef_whole _ _ (by first | exact zB_len | exact hq32))) rfl ?_
          refine L_o (o_stW S13 0 rfl rfl rfl (by rw [List.size_toArray, ef_len _ _ (by first | exact zB_len | exact hq32)]; exact sz252) (by first | (rw [List.size_toArray, List.size_toArray, ef_len _ _ (by first | exact zB_len | exact hq32), ef_len _ _ zB_len]; done) | (rw [List.size_toArray, ef_len _ _ (by first | exact zB_len | exact hq32)]; rfl)) (fun u hu => ef_one _ _ _ u (by rw [List.toList_toArray] at hu; exact hu)) fun w15 S15 => ?_)
          refine L_y (y_assign rfl) rfl ?_
          refine L_y (y_assign rfl) rfl ?_
          refine L_nil ?_
          refine hK20 _ _ ?_
          refine T_ret ?_
          repeat (first | with_reducible refine up_then ?_ | with_reducible refine up_in ?_)
          refine retctt rfl rfl rfl rfl (S15.blk 0 rfl) Try.underlying252 rfl (by rw [List.size_toArray, ef_len _ _ (by first | exact zB_len | exact hq32)]; exact sz252) ?_
          exact ⟨_, rfl, S15.like0, OneV.bad zB_len (one_n10 (Classical.not_not.1 h18) hcf (by simpa using h43)) (by decide)⟩


theorem one (a : Addr) (n c : Nat) (m : UInt8) (r : List UInt8) (w0 : World) (hb : Rs w0 1 (some a) n c (bL (m :: r))) : Calls Try.prog 187 #[.slice (some a) n c] w0 fun e w' => ∃ u, e = .returned u ∧ Like w0 w' ∧ OneV a n c (m :: r) u := by
  cases h : cutF 0 ((m :: r).drop 2) with
  | none => exact one0 a n c m r w0 hb h
  | some pq => exact one1 a n c m r w0 hb pq.1 pq.2 h
end Go.Proofs.Ytgaklngnfecdaaa.Obj


/-
  Bytes as a tree.
-/
namespace Go.Proofs.Ytgaklngnfecdaaa.Obj
open Go.RowKit Zk Zx
open Oid (idf idf_len)
open Tre (nmOk EV enf enf_len mdOk chkE)
open Rev (cutF cutF_some cutF_none)
set_option linter.unusedVariables false
set_option linter.unusedSimpArgs false

def stp (y : EV) : ByteArray × Int := (y.nm, y.md)
theorem chk1_congr : ∀ {l k : List EV}, l.map stp = k.map stp → Tre.chk1 l = Tre.chk1 k
  | [], [], _ => rfl
  | [], y :: k, h => by cases h
  | x :: l, [], h => by cases h
  | x :: l, y :: k, h => by
    rw [List.map_cons, List.map_cons] at h
    injection h with h1 h2
    have e1 : x.nm = y.nm := congrArg Prod.fst h1
    have e2 : x.md = y.md := congrArg Prod.snd h1
    unfold Tre.chk1
    rw [e1, e2, chk1_congr h2]
theorem key_congr {x y : EV} (h : stp x = stp y) : Tre.keyB x = Tre.keyB y := by
  have e1 : x.nm = y.nm := congrArg Prod.fst h
  have e2 : x.md = y.md := congrArg Prod.snd h
  unfold Tre.keyB
  rw [e1, e2]
theorem risK_congr : ∀ {l k : List EV}, l.map stp = k.map stp → Tre.risK l = Tre.risK k
  | [], [], _ => rfl
  | [], y :: k, h => by cases h
  | x :: l, [], h => by cases h
  | [x], [y], _ => rfl
  | [x], y :: z :: k, h => by simp at h
  | x :: z :: l, [y], h => by simp at h
  | x :: x2 :: l, y :: y2 :: k, h => by
    rw [List.map_cons, List.map_cons] at h
    injection h with h1 h2
    have h3 : stp x2 :: l.map stp = stp y2 :: k.map stp := h2
    injection h3 with h3 _
    unfold Tre.risK
    rw [risK_congr (show (x2 :: l).map stp = (y2 :: k).map stp from h2)]
    unfold Tre.ltK
    rw [key_congr h1, key_congr h3]
theorem once_congr {l k : List EV} (h : l.map stp = k.map stp) : Tre.once l ↔ Tre.once k := by
  have e : l.map EV.nm = k.map EV.nm := by
    have := congrArg (List.map Prod.fst) h
    rwa [List.map_map, List.map_map] at this
  unfold Tre.once
  rw [e]
theorem chkE_congr {l k : List EV} (h : l.map stp = k.map stp) : chkE l = chkE k := by
  have hl : l.length = k.length := by have := congrArg List.length h; simpa using this
  unfold chkE
  rw [hl, chk1_congr h, risK_congr h]
  by_cases ho : Tre.once k
  · have ho2 := (once_congr h).2 ho
    simp only [ho, ho2]
  · have ho2 : ¬ Tre.once l := fun q => ho ((once_congr h).1 q)
    simp only [ho, ho2]
/-- An entry, its id left out. -/
def zEV (nm : ByteArray) (md : Int) : EV := if h : nm.size ≤ 1000000000 then ⟨nm, md, zB, rfl, h⟩ else ⟨⟨#[]⟩, md, zB, rfl, by decide⟩
theorem zEV_st {nm : ByteArray} {md : Int} (h : nm.size ≤ 1000000000) : stp (zEV nm md) = (nm, md) := by unfold zEV; rw [dif_pos h]; rfl
def getT : Nat → List UInt8 → List EV → Int × List EV
  | 0, _, acc => (0, acc)
  | k + 1, b, acc => if b = [] then (0, acc) else if (oneC b).1 ≠ 0 then ((oneC b).1, []) else getT k (oneC b).2.2 (acc ++ [zEV ⟨(oneC b).2.1.toArray⟩ (((b.getD 0 0).toNat : Int) - 48)])
def finT (r : Int × List EV) : Int := if r.1 ≠ 0 then r.1 else chkE r.2
/-- The error of bytes as a tree. -/
def treeE (b : List UInt8) : Int := finT (getT (b.length + 1) b [])
theorem getT_nil (k : Nat) (acc : List EV) : getT k [] acc = (0, acc) := by cases k <;> simp [getT]
theorem getT_bad {k : Nat} {b : List UInt8} {acc : List EV} (hb : b ≠ []) (h : (oneC b).1 ≠ 0) : getT (k + 1) b acc = ((oneC b).1, []) := by unfold getT; rw [if_neg hb, if_pos h]
theorem getT_ok {k : Nat} {b : List UInt8} {acc : List EV} (hb : b ≠ []) (h : ¬ (oneC b).1 ≠ 0) : getT (k + 1) b acc = getT k (oneC b).2.2 (acc ++ [zEV ⟨(oneC b).2.1.toArray⟩ (((b.getD 0 0).toNat : Int) - 48)]) := by
  conv => lhs; unfold getT
  rw [if_neg hb, if_neg h]
theorem some_of {w : World} {A : Option Addr} {n c : Nat} {xs : List Value} (h : Rs w 1 A n c xs) (hn : 0 < n) : ∃ a, A = some a := by
  obtain ⟨ad, h1, _⟩ := h.rd.2 hn
  exact ⟨ad, h1⟩
theorem one_name {b : List UInt8} : (oneC b).2.1.length ≤ b.length := by
  unfold oneC
  match b with
  | [] => simp
  | m :: r =>
    simp only []
    split
    · simp
    · match r with
      | [] => simp
      | s :: t =>
        simp only []
        split
        · simp
        · cases hc : cutF 0 t with
          | none => simp only []; split <;> simp
          | some pq =>
            obtain ⟨p, q⟩ := pq
            simp only []
            split
            · simp
            · split
              · simp
              · have h9 := (cutF_some hc).1
                simp only [List.length_cons]
                rw [h9, List.length_append, List.length_cons]
                omega


set_option maxRecDepth 100000 in
theorem get (A : Option Addr) (n c : Nat) (b0 : List UInt8) (w0 : World) (hb : Rs w0 1 A n c (bL b0)) (h9 : b0.length ≤ 9000) :
    Calls Try.prog 165 #[.slice A n c] w0 fun e w' => ∃ u, e = .returned u ∧ Like w0 w' ∧ ∃ A k cp, u = .tuple #[.slice A k cp, .int .i64 (treeE b0)] := by
  refine enter1 (env := [(0, .slice A n c)]) [.slice A n c] Try.func165 rfl Try.ntmps165 rfl rfl ?_
  have S0 := St.start w0 noM
  refine T_seq fun K1 hK1 => ?_
  refine T_region ?_
  refine L_y (y_assign rfl) rfl ?_
  refine L_y (y_assign rfl) rfl ?_
  refine L_nil ?_
  refine hK1 _ _ ?_
  refine T_seq fun K2 hK2 => ?_
  refine T_region ?_
  have S1 := S0.nilrow 252 34
  refine L_y (y_assign rfl) rfl ?_
  refine L_nil ?_
  refine hK2 _ _ ?_
  refine T_seq fun K3 hK3 => ?_
  refine T_block ?_
  refine T_loop9 [] (fun (A : Option Addr) (n : Nat) (c : Nat) (b : List UInt8) (k : Nat) (acc : List EV) (l : List EV) (A4 : Option Addr) (c4 : Nat) => [(0, .slice A n c), (4, .slice A4 l.length c4)]) (fun (A : Option Addr) (n : Nat) (c : Nat) (b : List UInt8) (k : Nat) (acc : List EV) (l : List EV) (A4 : Option Addr) (c4 : Nat) => b.length) (fun (A : Option Addr) (n : Nat) (c : Nat) (b : List UInt8) (k : Nat) (acc : List EV) (l : List EV) (A4 : Option Addr) (c4 : Nat) (w : World) => (b.length < k ∧ b.length ≤ 9000 ∧ l.length + b.length ≤ 9000 ∧ l.map stp = acc.map stp ∧ treeE b0 = finT (getT k b acc)) ∧ Rs w0 1 A n c (bL b) ∧ Zx.St w0 noM [Zx.row 252 34 A4 l.length c4 (l.flatMap enf)] w) A n c b0 (b0.length + 1) [] [] none 0 (Sub.cons rfl (by first | rfl | exact congrArg (Value.int _) (by omega)) (Sub.cons rfl (by first | rfl | exact congrArg (Value.int _) (by omega)) (Sub.nil _))) (Sub.nil _) ?_ ?_
  ·
    exact ⟨⟨by omega, by omega, by simp; omega, rfl, rfl⟩, hb, S1⟩
  ·
    intro A n c b k acc l A4 c4 w2 hrel
    obtain ⟨⟨hbk, hb9, hlb, hst, ht⟩, hb, S2⟩ := hrel
    have hln := hb.lenb; have hcap := hb.cap; have hmax := hb.max
    refine T_seq fun K4 hK4 => ?_
    refine T_seq fun K5 hK5 => ?_
    refine T_region ?_
    refine L_y (y_move rfl) rfl ?_
    refine L_y (y_len Try.underlying27 rfl) rfl ?_
    refine L_y (y_gtr rfl rfl) rfl ?_
    refine L_nil ?_
    refine hK5 _ _ ?_
    refine T_cond rfl (fun h11 => ?_) (fun h11 => ?_)
    ·
      obtain ⟨a, rfl⟩ := some_of hb (by omega)
      obtain ⟨m, r, rfl⟩ : ∃ m r, b = m :: r := by cases b with | nil => (simp at hln; omega) | cons m r => exact ⟨m, r, rfl⟩
      obtain ⟨k, rfl⟩ : ∃ j, k = j + 1 := ⟨k - 1, by omega⟩
      refine T_skip ?_
      refine hK4 _ _ ?_
      refine T_block ?_
      refine T_seq fun K6 hK6 => ?_
      refine T_region ?_
      refine L_y (y_move rfl) rfl ?_
      refine L_o (o_call Try.func187 rfl rfl (one a n c m r w2 (S2.rd hb)) rfl rfl ?_)
      rintro e3 w3 ⟨v3, rfl, l3, ⟨nm, md, id, A9, k9, c9, hid, rfl, hgood⟩⟩
      refine ⟨_, rfl, ?_⟩
      have S3 := S2.like l3
      refine L_y (y_move rfl) rfl ?_
      refine L_y (y_extract rfl rfl) rfl ?_
      refine L_y (y_extract rfl rfl) rfl ?_
      refine L_y (y_extract rfl rfl) rfl ?_
      refine L_o (o_alloc zz252 S3 rfl fun b4 w4 hb4 S4 => ?_)
      refine L_o (o_stW S4 1 rfl rfl rfl (by rw [List.size_toArray, ef_len _ _ hid]; exact sz252) (by rw [List.size_toArray, ef_len _ _ hid]; rfl) (fun u hu => ef_one _ _ _ u (by rw [List.toList_toArray] at hu; exact hu)) fun w5 S5 => ?_)
      refine L_y (y_assign rfl) rfl ?_
      refine L_y (y_assign rfl) rfl ?_
      refine L_nil ?_
      refine hK6 _ _ ?_
      refine T_seq fun K7 hK7 => ?_
      refine T_seq fun K8 hK8 => ?_
      refine T_region ?_
      refine L_y (y_move rfl) rfl ?_
      refine L_y (y_neq rfl rfl) rfl ?_
      refine L_nil ?_
      refine hK8 _ _ ?_
      refine T_cond rfl (fun h19 => ?_) (fun h19 => ?_)
      ·
        refine T_seq fun K9 hK9 => ?_
        refine T_region ?_
        refine L_y (y_move rfl) rfl ?_
        refine L_y (y_assign rfl) rfl ?_
        refine L_y (y_assign rfl) rfl ?_
        refine L_nil ?_
        refine hK9 _ _ ?_
        refine T_ret ?_
        repeat (first | with_reducible refine up_then ?_ | with_reducible refine up_in ?_)
        refine ret2 rfl rfl rfl ?_
        have he : treeE b0 = (oneC (m :: r)).1 := by rw [ht, getT_bad (by simp) (fun q => h19 q)]; unfold finT; rw [if_pos (fun q => h19 q)]
        exact ⟨_, rfl, S5.like0, none, 0, 0, by rw [he]; rfl⟩
      ·
        have he0 : (oneC (m :: r)).1 = 0 := Classical.byContradiction fun q => h19 q
        obtain ⟨hnm, hmd, hrest⟩ := hgood he0
        have hns : nm.size ≤ 1000000000 := by rw [hnm, Rev.bsz]; have h9 := one_name (b := m :: r); omega
        obtain ⟨yE, hyE⟩ : ∃ y : EV, y = ⟨nm, md, id, hid, hns⟩ := ⟨_, rfl⟩
        have hye : ef nm md id = enf yE := by rw [hyE]; rfl
        have hys : stp yE = (⟨(oneC (m :: r)).2.1.toArray⟩, (((m :: r).getD 0 0).toNat : Int) - 48) := by rw [hyE, ← hnm, ← hmd]; rfl
        rw [hye] at S5
        refine T_skip ?_
        refine hK7 _ _ ?_
        refine T_seq fun K10 hK10 => ?_
        refine T_region ?_
        refine L_y (y_move rfl) rfl ?_
        refine L_y (y_ldW Try.underlying252 rfl sz252 rfl (S5.blk 1 rfl) (by first | exact Tre.whole_enf yE | exact ⟨Tre.take_enf yE, enf_len yE⟩)) rfl ?_
        refine L_o (o_bsl (enf yE) te230 zz252 S5 rfl rfl rfl (by simp [Value.cells, enf_len]) (by simp [Value.cells]) rfl rfl rfl fun b6 w6 S6 => ?_)
        refine L_o (o_app te230 S6 0 rfl rfl rfl (by first | exact S6.row 0 rfl | exact S6.row 2 rfl) (fun u hu => by rw [ef_en] at hu; exact ef_one _ _ _ u hu) rfl (by omega) (by omega) fun A7 c7 w7 S7 => ?_)
        have S7d := S7.drop (rs' := [_, _]) (.cons_cons _ (.cons_cons _ (.cons _ (.refl _))))
        refine L_y (y_assign rfl) rfl ?_
        refine L_nil ?_
        refine hK10 _ _ ?_
        refine T_region ?_
        refine L_y (y_move rfl) rfl ?_
        refine L_y (y_assign rfl) rfl ?_
        refine L_nil ?_
        have hz := one_less (b := m :: r) (by omega : (oneC (m :: r)).1 = 0)
        have hsz : (⟨(oneC (m :: r)).2.1.toArray⟩ : ByteArray).size ≤ 1000000000 := by rw [Rev.bsz]; have h9 := one_name (b := m :: r); omega
        simp only [List.length_cons] at hz hlb hbk hb9 hln
        have S91 := S7d.sel [0] (by decide)
        have S92 := S91.rowc 0 rfl (n' := (l ++ [yE]).length) (xs' := (l ++ [yE]).flatMap enf) (by rw [List.length_append]; rfl) (by rw [List.flatMap_append]; simp [hyE])
        refine ⟨_, _, _, (oneC (m :: r)).2.2, k, acc ++ [zEV ⟨(oneC (m :: r)).2.1.toArray⟩ ((((m :: r).getD 0 0).toNat : Int) - 48)], l ++ [yE], _, _, by simp only [List.length_cons]; omega, ⟨⟨by omega, by omega, by rw [List.length_append]; simp only [List.length_cons, List.length_nil]; omega, by rw [List.map_append, List.map_append, hst, List.map_cons, List.map_nil, List.map_cons, List.map_nil, zEV_st hsz, hys], by rw [ht, getT_ok (by simp) (fun q => q (by omega))]⟩, hrest _ hb, S92⟩, ?_⟩
        exact (Sub.cons rfl (by first | rfl | exact congrArg (Value.int _) (by omega)) (Sub.cons rfl (by rw [List.length_append]; rfl) (Sub.nil _)))
    ·
      have hb0 : b = [] := List.length_eq_zero_iff.1 (by omega)
      subst hb0
      refine T_exit ?_
      refine hK3 _ _ ?_
      refine T_seq fun K11 hK11 => ?_
      refine T_seq fun K12 hK12 => ?_
      refine T_region ?_
      refine L_y (y_move rfl) rfl ?_
      refine L_o (o_call Try.func188 rfl rfl (Tre.pcheck A4 _ c4 l w2 (S2.row 0 rfl) (by omega)) rfl rfl ?_)
      rintro e8 w8 ⟨v8, rfl, l8, rfl⟩
      refine ⟨_, rfl, ?_⟩
      have S8 := S2.like l8
      refine L_y (y_assign rfl) rfl ?_
      refine L_nil ?_
      refine hK12 _ _ ?_
      refine T_seq fun K13 hK13 => ?_
      refine T_region ?_
      refine L_y (y_move rfl) rfl ?_
      refine L_y (y_neq rfl rfl) rfl ?_
      refine L_nil ?_
      refine hK13 _ _ ?_
      refine T_cond rfl (fun h29 => ?_) (fun h29 => ?_)
      ·
        refine T_seq fun K14 hK14 => ?_
        refine T_region ?_
        refine L_y (y_move rfl) rfl ?_
        refine L_y (y_assign rfl) rfl ?_
        refine L_y (y_assign rfl) rfl ?_
        refine L_nil ?_
        refine hK14 _ _ ?_
        refine T_ret ?_
        repeat (first | with_reducible refine up_then ?_ | with_reducible refine up_in ?_)
        refine ret2 rfl rfl rfl ?_
        have he : treeE b0 = chkE l := by rw [ht, getT_nil]; unfold finT; rw [if_neg (by simp)]; exact chkE_congr hst.symm
        exact ⟨_, rfl, S8.like0, none, 0, 0, by rw [he]⟩
      ·
        refine T_skip ?_
        refine hK11 _ _ ?_
        refine T_seq fun K15 hK15 => ?_
        refine T_region ?_
        refine L_y (y_move rfl) rfl ?_
        refine L_y (y_assign rfl) rfl ?_
        refine L_y (y_assign rfl) rfl ?_
        refine L_nil ?_
        refine hK15 _ _ ?_
        refine T_ret ?_
        repeat (first | with_reducible refine up_then ?_ | with_reducible refine up_in ?_)
        refine ret2 rfl rfl rfl ?_
        have he : treeE b0 = 0 := by rw [ht, getT_nil]; unfold finT; rw [if_neg (by simp)]; exact (chkE_congr hst.symm).trans (Classical.byContradiction fun q => h29 q)
        exact ⟨_, rfl, S8.like0, A4, l.length, c4, by rw [he]⟩
end Go.Proofs.Ytgaklngnfecdaaa.Obj
