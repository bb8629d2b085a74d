import Derived.Test.YtpcgldkllnkaeaaMgAppliesW1

/-
  Op: size, right.
-/
namespace Go.Proofs.Ytpcgldkllnkaeaa
open Go.RowKit Zk Zx
set_option linter.unusedVariables false
set_option linter.unusedSimpArgs false

set_option maxRecDepth 100000 in
theorem osize (o : OP) (w0 : World) (ho : o.p.ok w0) :
    Calls Try.prog 38 #[.agg (opf o).toArray] w0 fun e w' => ∃ u, e = .returned u ∧ Like w0 w' ∧ u = .int .i64 (szV o.v) := by
  refine enter1 (env := [(0, .agg (opf o).toArray)]) [.agg (opf o).toArray] Try.func38 rfl Try.ntmps38 rfl rfl ?_
  have hol := Rs.lenb ho; have S0 := St.start w0 noM
  refine T_seq fun K1 hK1 => ?_
  refine T_region ?_
  refine L_o (o_box rfl S0 rfl fun b1 w1 hb1 S1 => ?_)
  refine L_y (y_assign rfl) rfl ?_
  refine L_nil ?_
  refine hK1 _ _ ?_
  refine T_seq fun K2 hK2 => ?_
  refine T_seq fun K3 hK3 => ?_
  refine T_region ?_
  refine L_y (y_fieldA 0 Try.underlying57 rfl sz4 rfl rfl rfl) rfl ?_
  refine L_y (y_ldc Try.underlying4 rfl rfl (((S1.blk 0 rfl).cell _).trans (by rfl))) rfl ?_
  refine L_nil ?_
  refine hK3 _ _ ?_
  refine T_condB rfl (fun h4 => ?_) (fun h4 => ?_)
  ·
    refine T_seq fun K4 hK4 => ?_
    refine T_region ?_
    refine L_y (y_fieldA 2 Try.underlying57 rfl sz3 rfl rfl rfl) rfl ?_
    refine L_y (y_ldc Try.underlying3 rfl rfl (((S1.blk 0 rfl).cell _).trans (by rfl))) rfl ?_
    refine L_y (y_assign rfl) rfl ?_
    refine L_nil ?_
    refine hK4 _ _ ?_
    refine T_ret ?_
    refine ur ?_
    refine ret1 rfl rfl ?_
    exact ⟨_, rfl, S1.like0, by unfold szV; simp [OP.v, opf, pv, h4, hol]⟩
  ·
    refine T_skip ?_
    refine hK2 _ _ ?_
    refine T_seq fun K5 hK5 => ?_
    refine T_region ?_
    refine L_y (y_fieldA 3 Try.underlying57 rfl sz22 rfl rfl rfl) rfl ?_
    refine L_y (y_ldc Try.underlying22 rfl rfl (((S1.blk 0 rfl).cell _).trans (by rfl))) rfl ?_
    refine L_y (y_len Try.underlying22 rfl) rfl ?_
    refine L_y (y_assign rfl) rfl ?_
    refine L_nil ?_
    refine hK5 _ _ ?_
    refine T_ret ?_
    refine ur ?_
    refine ret1 rfl rfl ?_
    exact ⟨_, rfl, S1.like0, by unfold szV; simp [OP.v, opf, pv, h4, hol]⟩


set_option maxRecDepth 100000 in
theorem rsize (o : OP) (w0 : World) (ho : o.p.ok w0) :
    Calls Try.prog 28 #[.agg (opf o).toArray] w0 fun e w' => ∃ u, e = .returned u ∧ Like w0 w' ∧ u = .int .i64 (szV o.v) := by
  refine enter1 (env := [(0, .agg (opf o).toArray)]) [.agg (opf o).toArray] Try.func28 rfl Try.ntmps28 rfl rfl ?_
  have hol := Rs.lenb ho; have S0 := St.start w0 noM
  refine T_seq fun K1 hK1 => ?_
  refine T_region ?_
  refine L_o (o_box rfl S0 rfl fun b1 w1 hb1 S1 => ?_)
  refine L_y (y_assign rfl) rfl ?_
  refine L_nil ?_
  refine hK1 _ _ ?_
  refine T_seq fun K2 hK2 => ?_
  refine T_seq fun K3 hK3 => ?_
  refine T_region ?_
  refine L_y (y_fieldA 0 Try.underlying58 rfl sz4 rfl rfl rfl) rfl ?_
  refine L_y (y_ldc Try.underlying4 rfl rfl (((S1.blk 0 rfl).cell _).trans (by rfl))) rfl ?_
  refine L_nil ?_
  refine hK3 _ _ ?_
  refine T_condB rfl (fun h4 => ?_) (fun h4 => ?_)
  ·
    refine T_seq fun K4 hK4 => ?_
    refine T_region ?_
    refine L_y (y_fieldA 2 Try.underlying58 rfl sz3 rfl rfl rfl) rfl ?_
    refine L_y (y_ldc Try.underlying3 rfl rfl (((S1.blk 0 rfl).cell _).trans (by rfl))) rfl ?_
    refine L_y (y_assign rfl) rfl ?_
    refine L_nil ?_
    refine hK4 _ _ ?_
    refine T_ret ?_
    refine ur ?_
    refine ret1 rfl rfl ?_
    exact ⟨_, rfl, S1.like0, by unfold szV; simp [OP.v, opf, pv, h4, hol]⟩
  ·
    refine T_skip ?_
    refine hK2 _ _ ?_
    refine T_seq fun K5 hK5 => ?_
    refine T_region ?_
    refine L_y (y_fieldA 3 Try.underlying58 rfl sz22 rfl rfl rfl) rfl ?_
    refine L_y (y_ldc Try.underlying22 rfl rfl (((S1.blk 0 rfl).cell _).trans (by rfl))) rfl ?_
    refine L_y (y_len Try.underlying22 rfl) rfl ?_
    refine L_y (y_assign rfl) rfl ?_
    refine L_nil ?_
    refine hK5 _ _ ?_
    refine T_ret ?_
    refine ur ?_
    refine ret1 rfl rfl ?_
    exact ⟨_, rfl, S1.like0, by unfold szV; simp [OP.v, opf, pv, h4, hol]⟩


set_option maxRecDepth 100000 in
theorem oright (o : OP) (b : Int) (w0 : World) (ho : o.p.ok w0) (hb : 0 ≤ b ∧ b ≤ 4000) :
    Calls Try.prog 37 #[.agg (opf o).toArray, .int .i64 b] w0 fun e w' => ∃ u, e = .returned u ∧ Like w0 w' ∧ u = .bool (rtV b o.v) := by
  refine enter1 (env := [(0, .agg (opf o).toArray), (1, .int .i64 b)]) [.agg (opf o).toArray, .int .i64 b] Try.func37 rfl Try.ntmps37 rfl rfl ?_
  have hol := Rs.lenb ho; have S0 := St.start w0 noM
  refine T_seq fun K1 hK1 => ?_
  refine T_region ?_
  refine L_o (o_box rfl S0 rfl fun b1 w1 hb1 S1 => ?_)
  refine L_y (y_assign rfl) rfl ?_
  refine L_nil ?_
  refine hK1 _ _ ?_
  refine T_seq fun K2 hK2 => ?_
  refine T_seq fun K3 hK3 => ?_
  refine T_region ?_
  refine L_y (y_fieldA 0 Try.underlying57 rfl sz4 rfl rfl rfl) rfl ?_
  refine L_y (y_ldc Try.underlying4 rfl rfl (((S1.blk 0 rfl).cell _).trans (by rfl))) rfl ?_
  refine L_nil ?_
  refine hK3 _ _ ?_
  refine T_condB rfl (fun h6 => ?_) (fun h6 => ?_)
  ·
    refine T_seq fun K4 hK4 => ?_
    refine T_region ?_
    refine L_y (y_fieldA 2 Try.underlying57 rfl sz3 rfl rfl rfl) rfl ?_
    refine L_y (y_ldc Try.underlying3 rfl rfl (((S1.blk 0 rfl).cell _).trans (by rfl))) rfl ?_
    refine L_y (y_geq rfl rfl) rfl ?_
    refine L_y (y_move rfl) rfl ?_
    refine L_split 10 rfl (fun h10 => ?_) (fun h10 => ?_)
    ·
      refine L_gyes rfl rfl ?_
      refine L_y (y_fieldA 2 Try.underlying57 rfl sz3 rfl rfl rfl) rfl ?_
      refine L_gyes rfl rfl ?_
      refine L_y (y_ldc Try.underlying3 rfl rfl (((S1.blk 0 rfl).cell _).trans (by rfl))) rfl ?_
      refine L_gyes rfl rfl ?_
      refine L_y (y_move rfl) rfl ?_
      refine L_gyes rfl rfl ?_
      refine L_y (y_leq rfl rfl) rfl ?_
      refine L_y (y_pk rfl rfl) rfl ?_
      refine L_y (y_move rfl) rfl ?_
      refine L_split 16 rfl (fun h16 => ?_) (fun h16 => ?_)
      ·
        refine L_gyes rfl rfl ?_
        refine L_y (y_fieldA 1 Try.underlying57 rfl sz3 rfl rfl rfl) rfl ?_
        refine L_gyes rfl rfl ?_
        refine L_y (y_ldc Try.underlying3 rfl rfl (((S1.blk 0 rfl).cell _).trans (by rfl))) rfl ?_
        refine L_gyes rfl rfl ?_
        refine L_y (y_geq rfl rfl) rfl ?_
        refine L_y (y_pk rfl rfl) rfl ?_
        refine L_y (y_move rfl) rfl ?_
        refine L_split 21 rfl (fun h21 => ?_) (fun h21 => ?_)
        ·
          refine L_gyes rfl rfl ?_
          refine L_y (y_fieldA 1 Try.underlying57 rfl sz3 rfl rfl rfl) rfl ?_
          refine L_gyes rfl rfl ?_
          refine L_y (y_ldc Try.underlying3 rfl rfl (((S1.blk 0 rfl).cell _).trans (by rfl))) rfl ?_
          refine L_gyes rfl rfl ?_
          refine L_y (y_move rfl) rfl ?_
          refine L_gyes rfl rfl ?_
          refine L_y (y_fieldA 2 Try.underlying57 rfl sz3 rfl rfl rfl) rfl ?_
          refine L_gyes rfl rfl ?_
          refine L_y (y_ldc Try.underlying3 rfl rfl (((S1.blk 0 rfl).cell _).trans (by rfl))) rfl ?_
          refine L_gyes rfl rfl ?_
          refine L_y (y_sub rfl rfl (i64w (by omega))) rfl ?_
          refine L_gyes rfl rfl ?_
          refine L_y (y_leq rfl rfl) rfl ?_
          refine L_y (y_pk rfl rfl) rfl ?_
          refine L_y (y_move rfl) rfl ?_
          refine L_split 30 rfl (fun h30 => ?_) (fun h30 => ?_)
          ·
            refine L_gyes rfl rfl ?_
            refine L_y (y_fieldA 3 Try.underlying57 rfl sz22 rfl rfl rfl) rfl ?_
            refine L_gyes rfl rfl ?_
            refine L_y (y_ldc Try.underlying22 rfl rfl (((S1.blk 0 rfl).cell _).trans (by rfl))) rfl ?_
            refine L_gyes rfl rfl ?_
            refine L_y (y_len Try.underlying22 rfl) rfl ?_
            refine L_gyes rfl rfl ?_
            refine L_y (y_eql rfl rfl) rfl ?_
            refine L_y (y_pk rfl rfl) rfl ?_
            refine L_y (y_assign rfl) rfl ?_
            refine L_nil ?_
            refine hK4 _ _ ?_
            refine T_ret ?_
            refine ur ?_
            refine ret1 rfl rfl ?_
            exact ⟨_, rfl, S1.like0, congrArg Value.bool (by unfold rtV; simp [OP.v, h6, hol, *]; try omega)⟩
          ·
            refine L_gno rfl rfl rfl ?_
            refine L_gno rfl rfl rfl ?_
            refine L_gno rfl rfl rfl ?_
            refine L_gno rfl rfl rfl ?_
            refine L_y (y_pk rfl rfl) rfl ?_
            refine L_y (y_assign rfl) rfl ?_
            refine L_nil ?_
            refine hK4 _ _ ?_
            refine T_ret ?_
            refine ur ?_
            refine ret1 rfl rfl ?_
            exact ⟨_, rfl, S1.like0, congrArg Value.bool (by unfold rtV; simp [OP.v, h6, hol, *]; try omega)⟩
        ·
          refine L_gno rfl rfl rfl ?_
          refine L_gno rfl rfl rfl ?_
          refine L_gno rfl rfl rfl ?_
          refine L_gno rfl rfl rfl ?_
          refine L_gno rfl rfl rfl ?_
          refine L_gno rfl rfl rfl ?_
          refine L_gno rfl rfl rfl ?_
          refine L_y (y_pk rfl rfl) rfl ?_
          refine L_y (y_move rfl) rfl ?_
          refine L_gno rfl rfl rfl ?_
          refine L_gno rfl rfl rfl ?_
          refine L_gno rfl rfl rfl ?_
          refine L_gno rfl rfl rfl ?_
          refine L_y (y_pk rfl rfl) rfl ?_
          refine L_y (y_assign rfl) rfl ?_
          refine L_nil ?_
          refine hK4 _ _ ?_
          refine T_ret ?_
          refine ur ?_
          refine ret1 rfl rfl ?_
          exact ⟨_, rfl, S1.like0, congrArg Value.bool (by unfold rtV; simp [OP.v, h6, hol, *]; try omega)⟩
      ·
        refine L_gno rfl rfl rfl ?_
        refine L_gno rfl rfl rfl ?_
        refine L_gno rfl rfl rfl ?_
        refine L_y (y_pk rfl rfl) rfl ?_
        refine L_y (y_move rfl) rfl ?_
        refine L_gno rfl rfl rfl ?_
        refine L_gno rfl rfl rfl ?_
        refine L_gno rfl rfl rfl ?_
        refine L_gno rfl rfl rfl ?_
        refine L_gno rfl rfl rfl ?_
        refine L_gno rfl rfl rfl ?_
        refine L_gno rfl rfl rfl ?_
        refine L_y (y_pk rfl rfl) rfl ?_
        refine L_y (y_move rfl) rfl ?_
        refine L_gno rfl rfl rfl ?_
        refine L_gno rfl rfl rfl ?_
        refine L_gno rfl rfl rfl ?_
        refine L_gno rfl rfl rfl ?_
        refine L_y (y_pk rfl rfl) rfl ?_
        refine L_y (y_assign rfl) rfl ?_
        refine L_nil ?_
        refine hK4 _ _ ?_
        refine T_ret ?_
        refine ur ?_
        refine ret1 rfl rfl ?_
        exact ⟨_, rfl, S1.like0, congrArg Value.bool (by unfold rtV; simp [OP.v, h6, hol, *]; try omega)⟩
    ·
      refine L_gno rfl rfl rfl ?_
      refine L_gno rfl rfl rfl ?_
      refine L_gno rfl rfl rfl ?_
      refine L_gno rfl rfl rfl ?_
      refine L_y (y_pk rfl rfl) rfl ?_
      refine L_y (y_move rfl) rfl ?_
      refine L_gno rfl rfl rfl ?_
      refine L_gno rfl rfl rfl ?_
      refine L_gno rfl rfl rfl ?_
      refine L_y (y_pk rfl rfl) rfl ?_
      refine L_y (y_move rfl) rfl ?_
      refine L_gno rfl rfl rfl ?_
      refine L_gno rfl rfl rfl ?_
      refine L_gno rfl rfl rfl ?_
      refine L_gno rfl rfl rfl ?_
      refine L_gno rfl rfl rfl ?_
      refine L_gno rfl rfl rfl ?_
      refine L_gno rfl rfl rfl ?_
      refine L_y (y_pk rfl rfl) rfl ?_
      refine L_y (y_move rfl) rfl ?_
      refine L_gno rfl rfl rfl ?_
      refine L_gno rfl rfl rfl ?_
      refine L_gno rfl rfl rfl ?_
      refine L_gno rfl rfl rfl ?_
      refine L_y (y_pk rfl rfl) rfl ?_
      refine L_y (y_assign rfl) rfl ?_
      refine L_nil ?_
      refine hK4 _ _ ?_
      refine T_ret ?_
      refine ur ?_
      refine ret1 rfl rfl ?_
      exact ⟨_, rfl, S1.like0, congrArg Value.bool (by unfold rtV; simp [OP.v, h6, hol, *]; try omega)⟩
  ·
    refine T_skip ?_
    refine hK2 _ _ ?_
    refine T_seq fun K5 hK5 => ?_
    refine T_region ?_
    refine L_y (y_fieldA 3 Try.underlying57 rfl sz22 rfl rfl rfl) rfl ?_
    refine L_y (y_ldc Try.underlying22 rfl rfl (((S1.blk 0 rfl).cell _).trans (by rfl))) rfl ?_
    refine L_y (y_len Try.underlying22 rfl) rfl ?_
    refine L_y (y_geq rfl rfl) rfl ?_
    refine L_y (y_move rfl) rfl ?_
    refine L_split 40 rfl (fun h40 => ?_) (fun h40 => ?_)
    ·
      refine L_gyes rfl rfl ?_
      refine L_y (y_fieldA 1 Try.underlying57 rfl sz3 rfl rfl rfl) rfl ?_
      refine L_gyes rfl rfl ?_
      refine L_y (y_ldc Try.underlying3 rfl rfl (((S1.blk 0 rfl).cell _).trans (by rfl))) rfl ?_
      refine L_gyes rfl rfl ?_
      refine L_y (y_eql rfl rfl) rfl ?_
      refine L_y (y_pk rfl rfl) rfl ?_
      refine L_y (y_move rfl) rfl ?_
      refine L_split 45 rfl (fun h45 => ?_) (fun h45 => ?_)
      ·
        refine L_gyes rfl rfl ?_
        refine L_y (y_fieldA 2 Try.underlying57 rfl sz3 rfl rfl rfl) rfl ?_
        refine L_gyes rfl rfl ?_
        refine L_y (y_ldc Try.underlying3 rfl rfl (((S1.blk 0 rfl).cell _).trans (by rfl))) rfl ?_
        refine L_gyes rfl rfl ?_
        refine L_y (y_eql rfl rfl) rfl ?_
        refine L_y (y_pk rfl rfl) rfl ?_
        refine L_y (y_assign rfl) rfl ?_
        refine L_nil ?_
        refine hK5 _ _ ?_
        refine T_ret ?_
        refine ur ?_
        refine ret1 rfl rfl ?_
        exact ⟨_, rfl, S1.like0, congrArg Value.bool (by unfold rtV; simp [OP.v, h6, hol, *]; try omega)⟩
      ·
        refine L_gno rfl rfl rfl ?_
        refine L_gno rfl rfl rfl ?_
        refine L_gno rfl rfl rfl ?_
        refine L_y (y_pk rfl rfl) rfl ?_
        refine L_y (y_assign rfl) rfl ?_
        refine L_nil ?_
        refine hK5 _ _ ?_
        refine T_ret ?_
        refine ur ?_
        refine ret1 rfl rfl ?_
        exact ⟨_, rfl, S1.like0, congrArg Value.bool (by unfold rtV; simp [OP.v, h6, hol, *]; try omega)⟩
    ·
      refine L_gno rfl rfl rfl ?_
      refine L_gno rfl rfl rfl ?_
      refine L_gno rfl rfl rfl ?_
      refine L_y (y_pk rfl rfl) rfl ?_
      refine L_y (y_move rfl) rfl ?_
      refine L_gno rfl rfl rfl ?_
      refine L_gno rfl rfl rfl ?_
      refine L_gno rfl rfl rfl ?_
      refine L_y (y_pk rfl rfl) rfl ?_
      refine L_y (y_assign rfl) rfl ?_
      refine L_nil ?_
      refine hK5 _ _ ?_
      refine T_ret ?_
      refine ur ?_
      refine ret1 rfl rfl ?_
      exact ⟨_, rfl, S1.like0, congrArg Value.bool (by unfold rtV; simp [OP.v, h6, hol, *]; try omega)⟩
end Go.Proofs.Ytpcgldkllnkaeaa


/-
  Check.
-/
namespace Go.Proofs.Ytpcgldkllnkaeaa
open Go.RowKit Zk Zx
set_option linter.unusedVariables false
set_option linter.unusedSimpArgs false

def errV (b t : Int) (l : List OV) : Int := if chkV b t l then 0 else 2
theorem chk_no {b t : Int} {l : List OV} (h : ¬ (0 ≤ b ∧ b ≤ 4000 ∧ 0 ≤ t ∧ t ≤ 4000)) : errV b t l = 2 := by
  unfold errV chkV
  rw [decide_eq_false h]
  rfl
theorem chk_eq {b t : Int} {l : List OV} (h : 0 ≤ b ∧ b ≤ 4000 ∧ 0 ≤ t ∧ t ≤ 4000) : errV b t l = if chkL b t l then 0 else 2 := by
  unfold errV chkV
  rw [decide_eq_true h, Bool.true_and]
theorem drop_at' {α : Type} {l : List α} {k : Nat} {a : α} (h : l[k]? = some a) : l.drop k = a :: l.drop (k + 1) := by
  obtain ⟨h1, h2⟩ := List.getElem?_eq_some_iff.1 h
  rw [← h2, List.getElem_cons_drop]
theorem map_at {l : List OP} {k : Nat} {o : OP} (h : l[k]? = some o) : (l.map OP.v)[k]? = some o.v := by rw [List.getElem?_map, h]; rfl
theorem chkL_bad {b left : Int} {l : List OP} {k : Nat} {o : OP} (ho : l[k]? = some o) (h : rtV b o.v = false ∨ left < szV o.v) : chkL b left ((l.map OP.v).drop k) = false := by
  rw [drop_at' (map_at ho)]
  unfold chkL
  rcases h with h | h
  · rw [h]; rfl
  · rw [decide_eq_false (by omega : ¬ szV o.v ≤ left)]; simp
theorem chkL_ok {b left : Int} {l : List OP} {k : Nat} {o : OP} (ho : l[k]? = some o) (h1 : rtV b o.v = true) (h2 : szV o.v ≤ left) : chkL b left ((l.map OP.v).drop k) = chkL b (left - szV o.v) ((l.map OP.v).drop (k + 1)) := by
  rw [drop_at' (map_at ho)]
  conv => lhs; unfold chkL
  rw [h1, decide_eq_true h2]
  rfl
theorem chkL_end {b left : Int} {l : List OP} {k : Nat} (h : l.length ≤ k) : chkL b left ((l.map OP.v).drop k) = decide (left = 0) := by
  rw [List.drop_of_length_le (by rw [List.length_map]; exact h)]
  rfl


set_option maxRecDepth 100000 in
theorem pcheck (A : Option Addr) (n c : Nat) (l : List OP) (b t : Int) (w0 : World) (hl : Rs w0 4 A n c (l.flatMap opf)) (hok : OkO w0 l) :
    Calls Try.prog 20 #[.agg (scA b t A n c)] w0 fun e w' => ∃ u, e = .returned u ∧ Like w0 w' ∧ u = .int .i64 (errV b t (l.map OP.v)) := by
  refine enter1 (env := [(0, .agg (scA b t A n c))]) [.agg (scA b t A n c)] Try.func20 rfl Try.ntmps20 rfl rfl ?_
  have hn := ops_n hl; have hcap := hl.cap; have hmax := hl.max; have S0 := St.start w0 noM
  refine T_seq fun K1 hK1 => ?_
  refine T_region ?_
  refine L_o (o_box rfl S0 rfl fun b1 w1 hb1 S1 => ?_)
  refine L_y (y_assign rfl) rfl ?_
  refine L_nil ?_
  refine hK1 _ _ ?_
  refine T_seq fun K2 hK2 => ?_
  refine T_seq fun K3 hK3 => ?_
  refine T_region ?_
  refine L_y (y_fieldA 0 Try.underlying25 rfl sz3 rfl rfl rfl) rfl ?_
  refine L_y (y_ldc Try.underlying3 rfl rfl (((S1.blk 0 rfl).cell _).trans (by rfl))) rfl ?_
  refine L_y (y_lss rfl rfl) rfl ?_
  refine L_y (y_move rfl) rfl ?_
  refine L_split 9 rfl (fun h9 => ?_) (fun h9 => ?_)
  ·
    refine L_gno rfl rfl rfl ?_
    refine L_gno rfl rfl rfl ?_
    refine L_gno rfl rfl rfl ?_
    refine L_y (y_pk rfl rfl) rfl ?_
    refine L_y (y_move rfl) rfl ?_
    refine L_gno rfl rfl rfl ?_
    refine L_gno rfl rfl rfl ?_
    refine L_gno rfl rfl rfl ?_
    refine L_y (y_pk rfl rfl) rfl ?_
    refine L_y (y_move rfl) rfl ?_
    refine L_gno rfl rfl rfl ?_
    refine L_gno rfl rfl rfl ?_
    refine L_gno rfl rfl rfl ?_
    refine L_y (y_pk rfl rfl) rfl ?_
    refine L_nil ?_
    refine hK3 _ _ ?_
    refine T_true rfl ?_
    refine T_seq fun K4 hK4 => ?_
    refine T_region ?_
    refine L_y (y_assign rfl) rfl ?_
    refine L_nil ?_
    refine hK4 _ _ ?_
    refine T_ret ?_
    refine ur ?_
    refine ret1 rfl rfl ?_
    first | exact ⟨_, rfl, S1.like0, by rw [chk_no (by omega)]⟩ | exact ⟨_, rfl, S1.like0, by rw [chk_eq (by omega), hch, hbad]; rfl⟩ | exact ⟨_, rfl, S1.like0, by rw [chk_eq (by omega), hch, chkL_end (by omega), decide_eq_false (by omega)]; rfl⟩ | exact ⟨_, rfl, S1.like0, by rw [chk_eq (by omega), hch, chkL_end (by omega), decide_eq_true (by omega)]; rfl⟩
  ·
    refine L_gyes rfl rfl ?_
    refine L_y (y_fieldA 0 Try.underlying25 rfl sz3 rfl rfl rfl) rfl ?_
    refine L_gyes rfl rfl ?_
    refine L_y (y_ldc Try.underlying3 rfl rfl (((S1.blk 0 rfl).cell _).trans (by rfl))) rfl ?_
    refine L_gyes rfl rfl ?_
    refine L_y (y_gtr rfl rfl) rfl ?_
    refine L_y (y_pk rfl rfl) rfl ?_
    refine L_y (y_move rfl) rfl ?_
    refine L_split 14 rfl (fun h14 => ?_) (fun h14 => ?_)
    ·
      refine L_gno rfl rfl rfl ?_
      refine L_gno rfl rfl rfl ?_
      refine L_gno rfl rfl rfl ?_
      refine L_y (y_pk rfl rfl) rfl ?_
      refine L_y (y_move rfl) rfl ?_
      refine L_gno rfl rfl rfl ?_
      refine L_gno rfl rfl rfl ?_
      refine L_gno rfl rfl rfl ?_
      refine L_y (y_pk rfl rfl) rfl ?_
      refine L_nil ?_
      refine hK3 _ _ ?_
      refine T_true rfl ?_
      refine T_seq fun K5 hK5 => ?_
      refine T_region ?_
      refine L_y (y_assign rfl) rfl ?_
      refine L_nil ?_
      refine hK5 _ _ ?_
      refine T_ret ?_
      refine ur ?_
      refine ret1 rfl rfl ?_
      first | exact ⟨_, rfl, S1.like0, by rw [chk_no (by omega)]⟩ | exact ⟨_, rfl, S1.like0, by rw [chk_eq (by omega), hch, hbad]; rfl⟩ | exact ⟨_, rfl, S1.like0, by rw [chk_eq (by omega), hch, chkL_end (by omega), decide_eq_false (by omega)]; rfl⟩ | exact ⟨_, rfl, S1.like0, by rw [chk_eq (by omega), hch, chkL_end (by omega), decide_eq_true (by omega)]; rfl⟩
    ·
      refine L_gyes rfl rfl ?_
      refine L_y (y_fieldA 1 Try.underlying25 rfl sz3 rfl rfl rfl) rfl ?_
      refine L_gyes rfl rfl ?_
      refine L_y (y_ldc Try.underlying3 rfl rfl (((S1.blk 0 rfl).cell _).trans (by rfl))) rfl ?_
      refine L_gyes rfl rfl ?_
      refine L_y (y_lss rfl rfl) rfl ?_
      refine L_y (y_pk rfl rfl) rfl ?_
      refine L_y (y_move rfl) rfl ?_
      refine L_split 19 rfl (fun h19 => ?_) (fun h19 => ?_)
      ·
        refine L_gno rfl rfl rfl ?_
        refine L_gno rfl rfl rfl ?_
        refine L_gno rfl rfl rfl ?_
        refine L_y (y_pk rfl rfl) rfl ?_
        refine L_nil ?_
        refine hK3 _ _ ?_
        refine T_true rfl ?_
        refine T_seq fun K6 hK6 => ?_
        refine T_region ?_
        refine L_y (y_assign rfl) rfl ?_
        refine L_nil ?_
        refine hK6 _ _ ?_
        refine T_ret ?_
        refine ur ?_
        refine ret1 rfl rfl ?_
        first | exact ⟨_, rfl, S1.like0, by rw [chk_no (by omega)]⟩ | exact ⟨_, rfl, S1.like0, by rw [chk_eq (by omega), hch, hbad]; rfl⟩ | exact ⟨_, rfl, S1.like0, by rw [chk_eq (by omega), hch, chkL_end (by omega), decide_eq_false (by omega)]; rfl⟩ | exact ⟨_, rfl, S1.like0, by rw [chk_eq (by omega), hch, chkL_end (by omega), decide_eq_true (by omega)]; rfl⟩
      ·
        refine L_gyes rfl rfl ?_
        refine L_y (y_fieldA 1 Try.underlying25 rfl sz3 rfl rfl rfl) rfl ?_
        refine L_gyes rfl rfl ?_
        refine L_y (y_ldc Try.underlying3 rfl rfl (((S1.blk 0 rfl).cell _).trans (by rfl))) rfl ?_
        refine L_gyes rfl rfl ?_
        refine L_y (y_gtr rfl rfl) rfl ?_
        refine L_y (y_pk rfl rfl) rfl ?_
        refine L_nil ?_
        refine hK3 _ _ ?_
        refine T_cond rfl (fun h23 => ?_) (fun h23 => ?_)
        ·
          refine T_seq fun K7 hK7 => ?_
          refine T_region ?_
          refine L_y (y_assign rfl) rfl ?_
          refine L_nil ?_
          refine hK7 _ _ ?_
          refine T_ret ?_
          refine ur ?_
          refine ret1 rfl rfl ?_
          first | exact ⟨_, rfl, S1.like0, by rw [chk_no (by omega)]⟩ | exact ⟨_, rfl, S1.like0, by rw [chk_eq (by omega), hch, hbad]; rfl⟩ | exact ⟨_, rfl, S1.like0, by rw [chk_eq (by omega), hch, chkL_end (by omega), decide_eq_false (by omega)]; rfl⟩ | exact ⟨_, rfl, S1.like0, by rw [chk_eq (by omega), hch, chkL_end (by omega), decide_eq_true (by omega)]; rfl⟩
        ·
          refine T_skip ?_
          refine hK2 _ _ ?_
          refine T_seq fun K8 hK8 => ?_
          refine T_region ?_
          refine L_y (y_fieldA 1 Try.underlying25 rfl sz3 rfl rfl rfl) rfl ?_
          refine L_y (y_ldc Try.underlying3 rfl rfl (((S1.blk 0 rfl).cell _).trans (by rfl))) rfl ?_
          refine L_y (y_assign rfl) rfl ?_
          refine L_nil ?_
          refine hK8 _ _ ?_
          refine T_seq fun K9 hK9 => ?_
          refine T_seq fun K10 hK10 => ?_
          refine T_region ?_
          refine L_y (y_fieldA 2 Try.underlying25 rfl sz23 rfl rfl rfl) rfl ?_
          refine L_y (y_ldc Try.underlying23 rfl rfl (((S1.blk 0 rfl).cell _).trans (by rfl))) rfl ?_
          refine L_y (y_len Try.underlying23 rfl) rfl ?_
          refine L_y (y_move rfl) rfl ?_
          refine L_nil ?_
          refine hK10 _ _ ?_
          refine T_block ?_
          refine T_loop2 [(1, _), (27, _), (28, _)] (fun (k : Nat) (left : Int) => [(29, .int .i64 (k : Int)), (3, .int .i64 left)]) (fun (k : Nat) (left : Int) => n - k) (fun (k : Nat) (left : Int) (w : World) => (k ≤ n ∧ 0 ≤ left ∧ left ≤ 4000 ∧ chkL b t (l.map OP.v) = chkL b left ((l.map OP.v).drop k)) ∧ St w0 noM [blk b1 25 (scA b t A n c)] w) 0 t (Sub.cons rfl (by first | rfl | exact congrArg (Value.int _) (by omega)) (Sub.cons rfl (by first | rfl | exact congrArg (Value.int _) (by omega)) (Sub.nil _))) (Sub.cons rfl rfl (Sub.cons rfl rfl (Sub.cons rfl rfl (Sub.nil _)))) ?_ ?_
          ·
            exact ⟨⟨Nat.zero_le _, by omega, by omega, rfl⟩, S1⟩
          ·
            intro k left w5 hrel
            obtain ⟨⟨hk, hl0, hl1, hch⟩, S5⟩ := hrel
            refine T_seq fun K11 hK11 => ?_
            refine T_region ?_
            refine L_y (y_lss rfl rfl) rfl ?_
            refine L_nil ?_
            refine hK11 _ _ ?_
            refine T_seq fun K12 hK12 => ?_
            refine T_cond rfl (fun h30 => ?_) (fun h30 => ?_)
            ·
              obtain ⟨o, ho⟩ : ∃ o, l[k]? = some o := ⟨_, List.getElem?_eq_getElem (by omega)⟩
              refine T_skip ?_
              refine hK12 _ _ ?_
              refine T_seq fun K13 hK13 => ?_
              refine T_block ?_
              refine T_seq fun K14 hK14 => ?_
              refine T_region ?_
              refine L_y (y_idx Try.underlying23 sz57 rfl rfl (S5.rd hl) (Nt.mk (by omega) : Nt _ (k)) (by omega)) rfl ?_
              refine L_y (y_ldp (f := opf) opf_len Try.underlying57 rfl sz57 rfl (S5.rd hl) (by omega) ho) rfl ?_
              refine L_o (o_alloc zz57 S5 rfl fun b6 w6 hb6 S6 => ?_)
              refine L_o (o_stW S6 1 rfl rfl rfl sz57 rfl (opf_one o) fun w7 S7 => ?_)
              refine L_nil ?_
              refine hK14 _ _ ?_
              refine T_seq fun K15 hK15 => ?_
              refine T_seq fun K16 hK16 => ?_
              refine T_region ?_
              refine L_y (y_ldW Try.underlying57 rfl sz57 rfl (S7.blk 1 rfl) (show _ = opf o ∧ _ from ⟨rfl, rfl⟩)) rfl ?_
              refine L_y (y_fieldA 0 Try.underlying25 rfl sz3 rfl rfl rfl) rfl ?_
              refine L_y (y_ldc Try.underlying3 rfl rfl (((S7.blk 0 rfl).cell _).trans (by rfl))) rfl ?_
              refine L_o (o_call Try.func37 rfl rfl (oright o b w7 (hok.like S7.like0 o (List.mem_of_getElem? ho)) (by omega)) rfl rfl ?_)
              rintro e8 w8 ⟨v8, rfl, l8, rfl⟩
              refine ⟨_, rfl, ?_⟩
              have S8 := S7.like l8
              refine L_y ((by first | exact y_notD rfl | exact y_not rfl)) rfl ?_
              refine L_y (y_move rfl) rfl ?_
              refine L_splitB 38 rfl (fun h38 => ?_) (fun h38 => ?_)
              ·
                have hbad : chkL b left ((l.map OP.v).drop k) = false := chkL_bad ho (.inl (by simpa using h38))
                refine L_gno rfl rfl rfl ?_
                refine L_gno rfl rfl rfl ?_
                refine L_gno rfl rfl rfl ?_
                refine L_gno rfl rfl rfl ?_
                refine L_y (y_pk rfl rfl) rfl ?_
                refine L_nil ?_
                refine hK16 _ _ ?_
                refine T_true rfl ?_
                refine T_seq fun K17 hK17 => ?_
                refine T_region ?_
                refine L_y (y_assign rfl) rfl ?_
                refine L_nil ?_
                refine hK17 _ _ ?_
                refine T_ret ?_
                refine ur ?_
                refine ret1 rfl rfl ?_
                first | exact ⟨_, rfl, S8.like0, by rw [chk_no (by omega)]⟩ | exact ⟨_, rfl, S8.like0, by rw [chk_eq (by omega), hch, hbad]; rfl⟩ | exact ⟨_, rfl, S8.like0, by rw [chk_eq (by omega), hch, chkL_end (by omega), decide_eq_false (by omega)]; rfl⟩ | exact ⟨_, rfl, S8.like0, by rw [chk_eq (by omega), hch, chkL_end (by omega), decide_eq_true (by omega)]; rfl⟩
              ·
                have hgood : rtV b o.v = true := by simpa using h38
                have hszp := sz_nonneg hgood
                refine L_gyes rfl rfl ?_
                refine L_y (y_ldW Try.underlying57 rfl sz57 rfl (S8.blk 1 rfl) (show _ = opf o ∧ _ from ⟨rfl, rfl⟩)) rfl ?_
                refine L_gyes rfl rfl ?_
                refine L_o (o_call Try.func38 rfl rfl (osize o w8 (hok.like S8.like0 o (List.mem_of_getElem? ho))) rfl rfl ?_)
                rintro e10 w10 ⟨v10, rfl, l10, rfl⟩
                refine ⟨_, rfl, ?_⟩
                have S10 := S8.like l10
                refine L_gyes rfl rfl ?_
                refine L_y (y_move rfl) rfl ?_
                refine L_gyes rfl rfl ?_
                refine L_y (y_gtr rfl rfl) rfl ?_
                refine L_y (y_pk rfl rfl) rfl ?_
                refine L_nil ?_
                refine hK16 _ _ ?_
                refine T_cond rfl (fun h43 => ?_) (fun h43 => ?_)
                ·
                  first | have hbad : chkL b left ((l.map OP.v).drop k) = false := chkL_bad ho (.inr (by omega)) | skip
                  refine T_seq fun K18 hK18 => ?_
                  refine T_region ?_
                  refine L_y (y_assign rfl) rfl ?_
                  refine L_nil ?_
                  refine hK18 _ _ ?_
                  refine T_ret ?_
                  refine ur ?_
                  refine ret1 rfl rfl ?_
                  first | exact ⟨_, rfl, S10.like0, by rw [chk_no (by omega)]⟩ | exact ⟨_, rfl, S10.like0, by rw [chk_eq (by omega), hch, hbad]; rfl⟩ | exact ⟨_, rfl, S10.like0, by rw [chk_eq (by omega), hch, chkL_end (by omega), decide_eq_false (by omega)]; rfl⟩ | exact ⟨_, rfl, S10.like0, by rw [chk_eq (by omega), hch, chkL_end (by omega), decide_eq_true (by omega)]; rfl⟩
                ·
                  refine T_skip ?_
                  refine hK15 _ _ ?_
                  refine T_region ?_
                  refine L_y (y_move rfl) rfl ?_
                  refine L_y (y_ldW Try.underlying57 rfl sz57 rfl (S10.blk 1 rfl) (show _ = opf o ∧ _ from ⟨rfl, rfl⟩)) rfl ?_
                  refine L_o (o_call Try.func38 rfl rfl (osize o w10 (hok.like S10.like0 o (List.mem_of_getElem? ho))) rfl rfl ?_)
                  rintro e11 w11 ⟨v11, rfl, l11, rfl⟩
                  refine ⟨_, rfl, ?_⟩
                  have S11 := S10.like l11
                  refine L_y (y_sub rfl rfl (i64w (by omega))) rfl ?_
                  refine L_y (y_assign rfl) rfl ?_
                  refine L_nil ?_
                  refine hK13 _ _ ?_
                  refine T_region ?_
                  refine L_y (y_add rfl rfl (i64w (by omega))) rfl ?_
                  refine L_y (y_move rfl) rfl ?_
                  refine L_nil ?_
                  have S91 := S11.drop (rs' := [_]) (.cons_cons _ (.cons _ (.refl _)))
                  refine ⟨k + 1, left - szV o.v, by omega, ⟨⟨by omega, by omega, by omega, by rw [hch, chkL_ok ho hgood (by omega)]⟩, S91⟩, ?_⟩
                  exact (Sub.cons rfl (by first | rfl | exact congrArg (Value.int _) (by omega)) (Sub.cons rfl (by first | rfl | exact congrArg (Value.int _) (by omega)) (Sub.cons rfl rfl (Sub.cons rfl rfl (Sub.cons rfl rfl (Sub.nil _))))))
            ·
              refine T_exit ?_
              refine hK9 _ _ ?_
              refine T_seq fun K19 hK19 => ?_
              refine T_seq fun K20 hK20 => ?_
              refine T_region ?_
              refine L_y (y_move rfl) rfl ?_
              refine L_y (y_gtr rfl rfl) rfl ?_
              refine L_nil ?_
              refine hK20 _ _ ?_
              refine T_cond rfl (fun h50 => ?_) (fun h50 => ?_)
              ·
                refine T_seq fun K21 hK21 => ?_
                refine T_region ?_
                refine L_y (y_assign rfl) rfl ?_
                refine L_nil ?_
                refine hK21 _ _ ?_
                refine T_ret ?_
                refine ur ?_
                refine ret1 rfl rfl ?_
                first | exact ⟨_, rfl, S5.like0, by rw [chk_no (by omega)]⟩ | exact ⟨_, rfl, S5.like0, by rw [chk_eq (by omega), hch, hbad]; rfl⟩ | exact ⟨_, rfl, S5.like0, by rw [chk_eq (by omega), hch, chkL_end (by omega), decide_eq_false (by omega)]; rfl⟩ | exact ⟨_, rfl, S5.like0, by rw [chk_eq (by omega), hch, chkL_end (by omega), decide_eq_true (by omega)]; rfl⟩
              ·
                refine T_skip ?_
                refine hK19 _ _ ?_
                refine T_seq fun K22 hK22 => ?_
                refine T_region ?_
                refine L_y (y_assign rfl) rfl ?_
                refine L_nil ?_
                refine hK22 _ _ ?_
                refine T_ret ?_
                refine ur ?_
                refine ret1 rfl rfl ?_
                first | exact ⟨_, rfl, S5.like0, by rw [chk_no (by omega)]⟩ | exact ⟨_, rfl, S5.like0, by rw [chk_eq (by omega), hch, hbad]; rfl⟩ | exact ⟨_, rfl, S5.like0, by rw [chk_eq (by omega), hch, chkL_end (by omega), decide_eq_false (by omega)]; rfl⟩ | exact ⟨_, rfl, S5.like0, by rw [chk_eq (by omega), hch, chkL_end (by omega), decide_eq_true (by omega)]; rfl⟩
end Go.Proofs.Ytpcgldkllnkaeaa


/-
  Check of the document.
-/
namespace Go.Proofs.Ytpcgldkllnkaeaa
open Go.RowKit Zk Zx
set_option linter.unusedVariables false
set_option linter.unusedSimpArgs false

set_option maxRecDepth 100000 in
theorem rcheck (A : Option Addr) (n c : Nat) (l : List OP) (b t : Int) (w0 : World) (hl : Rs w0 4 A n c (l.flatMap opf)) (hok : OkO w0 l) :
    Calls Try.prog 21 #[.agg (scA b t A n c)] w0 fun e w' => ∃ u, e = .returned u ∧ Like w0 w' ∧ u = .int .i64 (errV b t (l.map OP.v)) := by
  refine enter1 (env := [(0, .agg (scA b t A n c))]) [.agg (scA b t A n c)] Try.func21 rfl Try.ntmps21 rfl rfl ?_
  have hn := ops_n hl; have hcap := hl.cap; have hmax := hl.max; have S0 := St.start w0 noM
  refine T_seq fun K1 hK1 => ?_
  refine T_region ?_
  refine L_o (o_box rfl S0 rfl fun b1 w1 hb1 S1 => ?_)
  refine L_y (y_assign rfl) rfl ?_
  refine L_nil ?_
  refine hK1 _ _ ?_
  refine T_seq fun K2 hK2 => ?_
  refine T_seq fun K3 hK3 => ?_
  refine T_region ?_
  refine L_y (y_fieldA 0 Try.underlying30 rfl sz3 rfl rfl rfl) rfl ?_
  refine L_y (y_ldc Try.underlying3 rfl rfl (((S1.blk 0 rfl).cell _).trans (by rfl))) rfl ?_
  refine L_y (y_lss rfl rfl) rfl ?_
  refine L_y (y_move rfl) rfl ?_
  refine L_split 9 rfl (fun h9 => ?_) (fun h9 => ?_)
  ·
    refine L_gno rfl rfl rfl ?_
    refine L_gno rfl rfl rfl ?_
    refine L_gno rfl rfl rfl ?_
    refine L_y (y_pk rfl rfl) rfl ?_
    refine L_y (y_move rfl) rfl ?_
    refine L_gno rfl rfl rfl ?_
    refine L_gno rfl rfl rfl ?_
    refine L_gno rfl rfl rfl ?_
    refine L_y (y_pk rfl rfl) rfl ?_
    refine L_y (y_move rfl) rfl ?_
    refine L_gno rfl rfl rfl ?_
    refine L_gno rfl rfl rfl ?_
    refine L_gno rfl rfl rfl ?_
    refine L_y (y_pk rfl rfl) rfl ?_
    refine L_nil ?_
    refine hK3 _ _ ?_
    refine T_true rfl ?_
    refine T_seq fun K4 hK4 => ?_
    refine T_region ?_
    refine L_y (y_assign rfl) rfl ?_
    refine L_nil ?_
    refine hK4 _ _ ?_
    refine T_ret ?_
    refine ur ?_
    refine ret1 rfl rfl ?_
    first | exact ⟨_, rfl, S1.like0, by rw [chk_no (by omega)]⟩ | exact ⟨_, rfl, S1.like0, by rw [chk_eq (by omega), hch, hbad]; rfl⟩ | exact ⟨_, rfl, S1.like0, by rw [chk_eq (by omega), hch, chkL_end (by omega), decide_eq_false (by omega)]; rfl⟩ | exact ⟨_, rfl, S1.like0, by rw [chk_eq (by omega), hch, chkL_end (by omega), decide_eq_true (by omega)]; rfl⟩
  ·
    refine L_gyes rfl rfl ?_
    refine L_y (y_fieldA 0 Try.underlying30 rfl sz3 rfl rfl rfl) rfl ?_
    refine L_gyes rfl rfl ?_
    refine L_y (y_ldc Try.underlying3 rfl rfl (((S1.blk 0 rfl).cell _).trans (by rfl))) rfl ?_
    refine L_gyes rfl rfl ?_
    refine L_y (y_gtr rfl rfl) rfl ?_
    refine L_y (y_pk rfl rfl) rfl ?_
    refine L_y (y_move rfl) rfl ?_
    refine L_split 14 rfl (fun h14 => ?_) (fun h14 => ?_)
    ·
      refine L_gno rfl rfl rfl ?_
      refine L_gno rfl rfl rfl ?_
      refine L_gno rfl rfl rfl ?_
      refine L_y (y_pk rfl rfl) rfl ?_
      refine L_y (y_move rfl) rfl ?_
      refine L_gno rfl rfl rfl ?_
      refine L_gno rfl rfl rfl ?_
      refine L_gno rfl rfl rfl ?_
      refine L_y (y_pk rfl rfl) rfl ?_
      refine L_nil ?_
      refine hK3 _ _ ?_
      refine T_true rfl ?_
      refine T_seq fun K5 hK5 => ?_
      refine T_region ?_
      refine L_y (y_assign rfl) rfl ?_
      refine L_nil ?_
      refine hK5 _ _ ?_
      refine T_ret ?_
      refine ur ?_
      refine ret1 rfl rfl ?_
      first | exact ⟨_, rfl, S1.like0, by rw [chk_no (by omega)]⟩ | exact ⟨_, rfl, S1.like0, by rw [chk_eq (by omega), hch, hbad]; rfl⟩ | exact ⟨_, rfl, S1.like0, by rw [chk_eq (by omega), hch, chkL_end (by omega), decide_eq_false (by omega)]; rfl⟩ | exact ⟨_, rfl, S1.like0, by rw [chk_eq (by omega), hch, chkL_end (by omega), decide_eq_true (by omega)]; rfl⟩
    ·
      refine L_gyes rfl rfl ?_
      refine L_y (y_fieldA 1 Try.underlying30 rfl sz3 rfl rfl rfl) rfl ?_
      refine L_gyes rfl rfl ?_
      refine L_y (y_ldc Try.underlying3 rfl rfl (((S1.blk 0 rfl).cell _).trans (by rfl))) rfl ?_
      refine L_gyes rfl rfl ?_
      refine L_y (y_lss rfl rfl) rfl ?_
      refine L_y (y_pk rfl rfl) rfl ?_
      refine L_y (y_move rfl) rfl ?_
      refine L_split 19 rfl (fun h19 => ?_) (fun h19 => ?_)
      ·
        refine L_gno rfl rfl rfl ?_
        refine L_gno rfl rfl rfl ?_
        refine L_gno rfl rfl rfl ?_
        refine L_y (y_pk rfl rfl) rfl ?_
        refine L_nil ?_
        refine hK3 _ _ ?_
        refine T_true rfl ?_
        refine T_seq fun K6 hK6 => ?_
        refine T_region ?_
        refine L_y (y_assign rfl) rfl ?_
        refine L_nil ?_
        refine hK6 _ _ ?_
        refine T_ret ?_
        refine ur ?_
        refine ret1 rfl rfl ?_
        first | exact ⟨_, rfl, S1.like0, by rw [chk_no (by omega)]⟩ | exact ⟨_, rfl, S1.like0, by rw [chk_eq (by omega), hch, hbad]; rfl⟩ | exact ⟨_, rfl, S1.like0, by rw [chk_eq (by omega), hch, chkL_end (by omega), decide_eq_false (by omega)]; rfl⟩ | exact ⟨_, rfl, S1.like0, by rw [chk_eq (by omega), hch, chkL_end (by omega), decide_eq_true (by omega)]; rfl⟩
      ·
        refine L_gyes rfl rfl ?_
        refine L_y (y_fieldA 1 Try.underlying30 rfl sz3 rfl rfl rfl) rfl ?_
        refine L_gyes rfl rfl ?_
        refine L_y (y_ldc Try.underlying3 rfl rfl (((S1.blk 0 rfl).cell _).trans (by rfl))) rfl ?_
        refine L_gyes rfl rfl ?_
        refine L_y (y_gtr rfl rfl) rfl ?_
        refine L_y (y_pk rfl rfl) rfl ?_
        refine L_nil ?_
        refine hK3 _ _ ?_
        refine T_cond rfl (fun h23 => ?_) (fun h23 => ?_)
        ·
          refine T_seq fun K7 hK7 => ?_
          refine T_region ?_
          refine L_y (y_assign rfl) rfl ?_
          refine L_nil ?_
          refine hK7 _ _ ?_
          refine T_ret ?_
          refine ur ?_
          refine ret1 rfl rfl ?_
          first | exact ⟨_, rfl, S1.like0, by rw [chk_no (by omega)]⟩ | exact ⟨_, rfl, S1.like0, by rw [chk_eq (by omega), hch, hbad]; rfl⟩ | exact ⟨_, rfl, S1.like0, by rw [chk_eq (by omega), hch, chkL_end (by omega), decide_eq_false (by omega)]; rfl⟩ | exact ⟨_, rfl, S1.like0, by rw [chk_eq (by omega), hch, chkL_end (by omega), decide_eq_true (by omega)]; rfl⟩
        ·
          refine T_skip ?_
          refine hK2 _ _ ?_
          refine T_seq fun K8 hK8 => ?_
          refine T_region ?_
          refine L_y (y_assign rfl) rfl ?_
          refine L_nil ?_
          refine hK8 _ _ ?_
          refine T_seq fun K9 hK9 => ?_
          refine T_seq fun K10 hK10 => ?_
          refine T_region ?_
          refine L_y (y_assign rfl) rfl ?_
          refine L_nil ?_
          refine hK10 _ _ ?_
          refine T_block ?_
          refine T_loop2 [(1, _)] (fun (k : Nat) (laid : Int) => [(4, .int .i64 (k : Int)), (3, .int .i64 laid)]) (fun (k : Nat) (laid : Int) => n - k) (fun (k : Nat) (laid : Int) (w : World) => (k ≤ n ∧ 0 ≤ laid ∧ laid ≤ t ∧ chkL b t (l.map OP.v) = chkL b (t - laid) ((l.map OP.v).drop k)) ∧ St w0 noM [blk b1 30 (scA b t A n c)] w) 0 0 (Sub.cons rfl (by first | rfl | exact congrArg (Value.int _) (by omega)) (Sub.cons rfl (by first | rfl | exact congrArg (Value.int _) (by omega)) (Sub.nil _))) (Sub.cons rfl rfl (Sub.nil _)) ?_ ?_
          ·
            exact ⟨⟨Nat.zero_le _, by omega, by omega, by rw [Int.sub_zero]; rfl⟩, S1⟩
          ·
            intro k laid w5 hrel
            obtain ⟨⟨hk, hl0, hl1, hch⟩, S5⟩ := hrel
            refine T_seq fun K11 hK11 => ?_
            refine T_seq fun K12 hK12 => ?_
            refine T_region ?_
            refine L_y (y_move rfl) rfl ?_
            refine L_y (y_fieldA 2 Try.underlying30 rfl sz28 rfl rfl rfl) rfl ?_
            refine L_y (y_ldc Try.underlying28 rfl rfl (((S5.blk 0 rfl).cell _).trans (by rfl))) rfl ?_
            refine L_y (y_len Try.underlying28 rfl) rfl ?_
            refine L_y (y_lss rfl rfl) rfl ?_
            refine L_nil ?_
            refine hK12 _ _ ?_
            refine T_cond rfl (fun h28 => ?_) (fun h28 => ?_)
            ·
              obtain ⟨o, ho⟩ : ∃ o, l[k]? = some o := ⟨_, List.getElem?_eq_getElem (by omega)⟩
              have hol : o.p.l.length = o.p.n := Rs.lenb (hok o (List.mem_of_getElem? ho))
              refine T_skip ?_
              refine hK11 _ _ ?_
              refine T_seq fun K13 hK13 => ?_
              refine T_block ?_
              refine T_seq fun K14 hK14 => ?_
              refine T_region ?_
              refine L_y (y_fieldA 2 Try.underlying30 rfl sz28 rfl rfl rfl) rfl ?_
              refine L_y (y_ldc Try.underlying28 rfl rfl (((S5.blk 0 rfl).cell _).trans (by rfl))) rfl ?_
              refine L_y (y_move rfl) rfl ?_
              refine L_y (y_idx Try.underlying28 sz58 rfl rfl (S5.rd hl) (Nt.mk (by omega) : Nt _ (k)) (by omega)) rfl ?_
              refine L_y (y_ldp (f := opf) opf_len Try.underlying58 rfl sz58 rfl (S5.rd hl) (by omega) ho) rfl ?_
              refine L_o (o_alloc zz58 S5 rfl fun b6 w6 hb6 S6 => ?_)
              refine L_o (o_stW S6 1 rfl rfl rfl sz58 rfl (opf_one o) fun w7 S7 => ?_)
              refine L_nil ?_
              refine hK14 _ _ ?_
              refine T_seq fun K15 hK15 => ?_
              refine T_seq fun K16 hK16 => ?_
              refine T_region ?_
              refine L_y (y_fieldA 0 Try.underlying58 rfl sz4 rfl rfl rfl) rfl ?_
              refine L_y (y_ldc Try.underlying4 rfl rfl (((S7.blk 1 rfl).cell _).trans (by rfl))) rfl ?_
              refine L_y (y_move rfl) rfl ?_
              refine L_splitB 38 rfl (fun h38 => ?_) (fun h38 => ?_)
              ·
                refine L_gyes rfl rfl ?_
                refine L_y (y_fieldA 2 Try.underlying58 rfl sz3 rfl rfl rfl) rfl ?_
                refine L_gyes rfl rfl ?_
                refine L_y (y_ldc Try.underlying3 rfl rfl (((S7.blk 1 rfl).cell _).trans (by rfl))) rfl ?_
                refine L_gyes rfl rfl ?_
                refine L_y (y_lss rfl rfl) rfl ?_
                refine L_gyes rfl rfl ?_
                refine L_y (y_move rfl) rfl ?_
                refine L_split 42 rfl (fun h42 => ?_) (fun h42 => ?_)
                ·
                  refine L_gno rfl rfl rfl ?_
                  refine L_gno rfl rfl rfl ?_
                  refine L_gno rfl rfl rfl ?_
                  refine L_gno rfl rfl rfl ?_
                  refine L_gno rfl rfl rfl ?_
                  refine L_gyes rfl rfl ?_
                  refine L_y (y_pk rfl rfl) rfl ?_
                  refine L_gyes rfl rfl ?_
                  refine L_y (y_move rfl) rfl ?_
                  refine L_gno rfl rfl rfl ?_
                  refine L_gno rfl rfl rfl ?_
                  refine L_gno rfl rfl rfl ?_
                  refine L_gyes rfl rfl ?_
                  refine L_y (y_pk rfl rfl) rfl ?_
                  refine L_gyes rfl rfl ?_
                  refine L_y (y_move rfl) rfl ?_
                  refine L_gno rfl rfl rfl ?_
                  refine L_gno rfl rfl rfl ?_
                  refine L_gno rfl rfl rfl ?_
                  refine L_gno rfl rfl rfl ?_
                  refine L_gno rfl rfl rfl ?_
                  refine L_gno rfl rfl rfl ?_
                  refine L_gno rfl rfl rfl ?_
                  refine L_gno rfl rfl rfl ?_
                  refine L_gyes rfl rfl ?_
                  refine L_y (y_pk rfl rfl) rfl ?_
                  refine L_gyes rfl rfl ?_
                  refine L_y (y_move rfl) rfl ?_
                  refine L_gno rfl rfl rfl ?_
                  refine L_gno rfl rfl rfl ?_
                  refine L_gno rfl rfl rfl ?_
                  refine L_gno rfl rfl rfl ?_
                  refine L_gyes rfl rfl ?_
                  refine L_y (y_pk rfl rfl) rfl ?_
                  refine L_y (y_pk rfl rfl) rfl ?_
                  refine L_nil ?_
                  refine hK16 _ _ ?_
                  refine T_true rfl ?_
                  refine T_seq fun K17 hK17 => ?_
                  have hbad : chkL b (t - laid) ((l.map OP.v).drop k) = false := by first | (exfalso; rw [h38] at h74; cases h74; done) | exact chkL_bad ho (.inl (by unfold rtV; simp [OP.v, *]; try omega))
                  refine T_region ?_
                  refine L_y (y_assign rfl) rfl ?_
                  refine L_nil ?_
                  refine hK17 _ _ ?_
                  refine T_ret ?_
                  refine ur ?_
                  refine ret1 rfl rfl ?_
                  first | exact ⟨_, rfl, S7.like0, by rw [chk_no (by omega)]⟩ | exact ⟨_, rfl, S7.like0, by rw [chk_eq (by omega), hch, hbad]; rfl⟩ | exact ⟨_, rfl, S7.like0, by rw [chk_eq (by omega), hch, chkL_end (by omega), decide_eq_false (by omega)]; rfl⟩ | exact ⟨_, rfl, S7.like0, by rw [chk_eq (by omega), hch, chkL_end (by omega), decide_eq_true (by omega)]; rfl⟩
                ·
                  refine L_gyes rfl rfl ?_
                  refine L_y (y_fieldA 2 Try.underlying58 rfl sz3 rfl rfl rfl) rfl ?_
                  refine L_gyes rfl rfl ?_
                  refine L_y (y_ldc Try.underlying3 rfl rfl (((S7.blk 1 rfl).cell _).trans (by rfl))) rfl ?_
                  refine L_gyes rfl rfl ?_
                  refine L_y (y_fieldA 0 Try.underlying30 rfl sz3 rfl rfl rfl) rfl ?_
                  refine L_gyes rfl rfl ?_
                  refine L_y (y_ldc Try.underlying3 rfl rfl (((S7.blk 0 rfl).cell _).trans (by rfl))) rfl ?_
                  refine L_gyes rfl rfl ?_
                  refine L_y (y_gtr rfl rfl) rfl ?_
                  refine L_gyes rfl rfl ?_
                  refine L_y (y_pk rfl rfl) rfl ?_
                  refine L_gyes rfl rfl ?_
                  refine L_y (y_move rfl) rfl ?_
                  refine L_split 49 rfl (fun h49 => ?_) (fun h49 => ?_)
                  ·
                    refine L_gno rfl rfl rfl ?_
                    refine L_gno rfl rfl rfl ?_
                    refine L_gno rfl rfl rfl ?_
                    refine L_gyes rfl rfl ?_
                    refine L_y (y_pk rfl rfl) rfl ?_
                    refine L_gyes rfl rfl ?_
                    refine L_y (y_move rfl) rfl ?_
                    refine L_gno rfl rfl rfl ?_
                    refine L_gno rfl rfl rfl ?_
                    refine L_gno rfl rfl rfl ?_
                    refine L_gno rfl rfl rfl ?_
                    refine L_gno rfl rfl rfl ?_
                    refine L_gno rfl rfl rfl ?_
                    refine L_gno rfl rfl rfl ?_
                    refine L_gno rfl rfl rfl ?_
                    refine L_gyes rfl rfl ?_
                    refine L_y (y_pk rfl rfl) rfl ?_
                    refine L_gyes rfl rfl ?_
                    refine L_y (y_move rfl) rfl ?_
                    refine L_gno rfl rfl rfl ?_
                    refine L_gno rfl rfl rfl ?_
                    refine L_gno rfl rfl rfl ?_
                    refine L_gno rfl rfl rfl ?_
                    refine L_gyes rfl rfl ?_
                    refine L_y (y_pk rfl rfl) rfl ?_
                    refine L_y (y_pk rfl rfl) rfl ?_
                    refine L_nil ?_
                    refine hK16 _ _ ?_
                    refine T_true rfl ?_
                    refine T_seq fun K18 hK18 => ?_
                    have hbad : chkL b (t - laid) ((l.map OP.v).drop k) = false := by first | (exfalso; rw [h38] at h74; cases h74; done) | exact chkL_bad ho (.inl (by unfold rtV; simp [OP.v, *]; try omega))
                    refine T_region ?_
                    refine L_y (y_assign rfl) rfl ?_
                    refine L_nil ?_
                    refine hK18 _ _ ?_
                    refine T_ret ?_
                    refine ur ?_
                    refine ret1 rfl rfl ?_
                    first | exact ⟨_, rfl, S7.like0, by rw [chk_no (by omega)]⟩ | exact ⟨_, rfl, S7.like0, by rw [chk_eq (by omega), hch, hbad]; rfl⟩ | exact ⟨_, rfl, S7.like0, by rw [chk_eq (by omega), hch, chkL_end (by omega), decide_eq_false (by omega)]; rfl⟩ | exact ⟨_, rfl, S7.like0, by rw [chk_eq (by omega), hch, chkL_end (by omega), decide_eq_true (by omega)]; rfl⟩
                  ·
                    refine L_gyes rfl rfl ?_
                    refine L_y (y_fieldA 1 Try.underlying58 rfl sz3 rfl rfl rfl) rfl ?_
                    refine L_gyes rfl rfl ?_
                    refine L_y (y_ldc Try.underlying3 rfl rfl (((S7.blk 1 rfl).cell _).trans (by rfl))) rfl ?_
                    refine L_gyes rfl rfl ?_
                    refine L_y (y_lss rfl rfl) rfl ?_
                    refine L_gyes rfl rfl ?_
                    refine L_y (y_pk rfl rfl) rfl ?_
                    refine L_gyes rfl rfl ?_
                    refine L_y (y_move rfl) rfl ?_
                    refine L_split 54 rfl (fun h54 => ?_) (fun h54 => ?_)
                    ·
                      refine L_gno rfl rfl rfl ?_
                      refine L_gno rfl rfl rfl ?_
                      refine L_gno rfl rfl rfl ?_
                      refine L_gno rfl rfl rfl ?_
                      refine L_gno rfl rfl rfl ?_
                      refine L_gno rfl rfl rfl ?_
                      refine L_gno rfl rfl rfl ?_
                      refine L_gno rfl rfl rfl ?_
                      refine L_gyes rfl rfl ?_
                      refine L_y (y_pk rfl rfl) rfl ?_
                      refine L_gyes rfl rfl ?_
                      refine L_y (y_move rfl) rfl ?_
                      refine L_gno rfl rfl rfl ?_
                      refine L_gno rfl rfl rfl ?_
                      refine L_gno rfl rfl rfl ?_
                      refine L_gno rfl rfl rfl ?_
                      refine L_gyes rfl rfl ?_
                      refine L_y (y_pk rfl rfl) rfl ?_
                      refine L_y (y_pk rfl rfl) rfl ?_
                      refine L_nil ?_
                      refine hK16 _ _ ?_
                      refine T_true rfl ?_
                      refine T_seq fun K19 hK19 => ?_
                      have hbad : chkL b (t - laid) ((l.map OP.v).drop k) = false := by first | (exfalso; rw [h38] at h74; cases h74; done) | exact chkL_bad ho (.inl (by unfold rtV; simp [OP.v, *]; try omega))
                      refine T_region ?_
                      refine L_y (y_assign rfl) rfl ?_
                      refine L_nil ?_
                      refine hK19 _ _ ?_
                      refine T_ret ?_
                      refine ur ?_
                      refine ret1 rfl rfl ?_
                      first | exact ⟨_, rfl, S7.like0, by rw [chk_no (by omega)]⟩ | exact ⟨_, rfl, S7.like0, by rw [chk_eq (by omega), hch, hbad]; rfl⟩ | exact ⟨_, rfl, S7.like0, by rw [chk_eq (by omega), hch, chkL_end (by omega), decide_eq_false (by omega)]; rfl⟩ | exact ⟨_, rfl, S7.like0, by rw [chk_eq (by omega), hch, chkL_end (by omega), decide_eq_true (by omega)]; rfl⟩
                    ·
                      refine L_gyes rfl rfl ?_
                      refine L_y (y_fieldA 1 Try.underlying58 rfl sz3 rfl rfl rfl) rfl ?_
                      refine L_gyes rfl rfl ?_
                      refine L_y (y_ldc Try.underlying3 rfl rfl (((S7.blk 1 rfl).cell _).trans (by rfl))) rfl ?_
                      refine L_gyes rfl rfl ?_
                      refine L_y (y_fieldA 0 Try.underlying30 rfl sz3 rfl rfl rfl) rfl ?_
                      refine L_gyes rfl rfl ?_
                      refine L_y (y_ldc Try.underlying3 rfl rfl (((S7.blk 0 rfl).cell _).trans (by rfl))) rfl ?_
                      refine L_gyes rfl rfl ?_
                      refine L_y (y_fieldA 2 Try.underlying58 rfl sz3 rfl rfl rfl) rfl ?_
                      refine L_gyes rfl rfl ?_
                      refine L_y (y_ldc Try.underlying3 rfl rfl (((S7.blk 1 rfl).cell _).trans (by rfl))) rfl ?_
                      refine L_gyes rfl rfl ?_
                      refine L_y (y_sub rfl rfl (i64w (by omega))) rfl ?_
                      refine L_gyes rfl rfl ?_
                      refine L_y (y_gtr rfl rfl) rfl ?_
                      refine L_gyes rfl rfl ?_
                      refine L_y (y_pk rfl rfl) rfl ?_
                      refine L_gyes rfl rfl ?_
                      refine L_y (y_move rfl) rfl ?_
                      refine L_split 64 rfl (fun h64 => ?_) (fun h64 => ?_)
                      ·
                        refine L_gno rfl rfl rfl ?_
                        refine L_gno rfl rfl rfl ?_
                        refine L_gno rfl rfl rfl ?_
                        refine L_gno rfl rfl rfl ?_
                        refine L_gyes rfl rfl ?_
                        refine L_y (y_pk rfl rfl) rfl ?_
                        refine L_y (y_pk rfl rfl) rfl ?_
                        refine L_nil ?_
                        refine hK16 _ _ ?_
                        refine T_true rfl ?_
                        refine T_seq fun K20 hK20 => ?_
                        have hbad : chkL b (t - laid) ((l.map OP.v).drop k) = false := by first | (exfalso; rw [h38] at h74; cases h74; done) | exact chkL_bad ho (.inl (by unfold rtV; simp [OP.v, *]; try omega))
                        refine T_region ?_
                        refine L_y (y_assign rfl) rfl ?_
                        refine L_nil ?_
                        refine hK20 _ _ ?_
                        refine T_ret ?_
                        refine ur ?_
                        refine ret1 rfl rfl ?_
                        first | exact ⟨_, rfl, S7.like0, by rw [chk_no (by omega)]⟩ | exact ⟨_, rfl, S7.like0, by rw [chk_eq (by omega), hch, hbad]; rfl⟩ | exact ⟨_, rfl, S7.like0, by rw [chk_eq (by omega), hch, chkL_end (by omega), decide_eq_false (by omega)]; rfl⟩ | exact ⟨_, rfl, S7.like0, by rw [chk_eq (by omega), hch, chkL_end (by omega), decide_eq_true (by omega)]; rfl⟩
                      ·
                        refine L_gyes rfl rfl ?_
                        refine L_y (y_fieldA 3 Try.underlying58 rfl sz22 rfl rfl rfl) rfl ?_
                        refine L_gyes rfl rfl ?_
                        refine L_y (y_ldc Try.underlying22 rfl rfl (((S7.blk 1 rfl).cell _).trans (by rfl))) rfl ?_
                        refine L_gyes rfl rfl ?_
                        refine L_y (y_len Try.underlying22 rfl) rfl ?_
                        refine L_gyes rfl rfl ?_
                        refine L_y (y_gtr rfl rfl) rfl ?_
                        refine L_gyes rfl rfl ?_
                        refine L_y (y_pk rfl rfl) rfl ?_
                        refine L_y (y_pk rfl rfl) rfl ?_
                        refine L_nil ?_
                        refine hK16 _ _ ?_
                        refine T_cond rfl (fun h70 => ?_) (fun h70 => ?_)
                        ·
                          refine T_seq fun K21 hK21 => ?_
                          have hbad : chkL b (t - laid) ((l.map OP.v).drop k) = false := by first | (exfalso; rw [h38] at h74; cases h74; done) | exact chkL_bad ho (.inl (by unfold rtV; simp [OP.v, *]; try omega))
                          refine T_region ?_
                          refine L_y (y_assign rfl) rfl ?_
                          refine L_nil ?_
                          refine hK21 _ _ ?_
                          refine T_ret ?_
                          refine ur ?_
                          refine ret1 rfl rfl ?_
                          first | exact ⟨_, rfl, S7.like0, by rw [chk_no (by omega)]⟩ | exact ⟨_, rfl, S7.like0, by rw [chk_eq (by omega), hch, hbad]; rfl⟩ | exact ⟨_, rfl, S7.like0, by rw [chk_eq (by omega), hch, chkL_end (by omega), decide_eq_false (by omega)]; rfl⟩ | exact ⟨_, rfl, S7.like0, by rw [chk_eq (by omega), hch, chkL_end (by omega), decide_eq_true (by omega)]; rfl⟩
                        ·
                          refine T_skip ?_
                          refine hK15 _ _ ?_
                          refine T_seq fun K22 hK22 => ?_
                          refine T_seq fun K23 hK23 => ?_
                          refine T_region ?_
                          refine L_y (y_fieldA 0 Try.underlying58 rfl sz4 rfl rfl rfl) rfl ?_
                          refine L_y (y_ldc Try.underlying4 rfl rfl (((S7.blk 1 rfl).cell _).trans (by rfl))) rfl ?_
                          refine L_y ((by first | exact y_notD rfl | exact y_not rfl)) rfl ?_
                          refine L_y (y_move rfl) rfl ?_
                          refine L_splitB 74 rfl (fun h74 => ?_) (fun h74 => ?_)
                          ·
                            refine L_gyes rfl rfl ?_
                            refine L_y (y_fieldA 3 Try.underlying58 rfl sz22 rfl rfl rfl) rfl ?_
                            refine L_gyes rfl rfl ?_
                            refine L_y (y_ldc Try.underlying22 rfl rfl (((S7.blk 1 rfl).cell _).trans (by rfl))) rfl ?_
                            refine L_gyes rfl rfl ?_
                            refine L_y (y_len Try.underlying22 rfl) rfl ?_
                            refine L_gyes rfl rfl ?_
                            refine L_y (y_eql rfl rfl) rfl ?_
                            refine L_gyes rfl rfl ?_
                            refine L_y (y_move rfl) rfl ?_
                            refine L_split 79 rfl (fun h79 => ?_) (fun h79 => ?_)
                            ·
                              refine L_gno rfl rfl rfl ?_
                              refine L_gno rfl rfl rfl ?_
                              refine L_gno rfl rfl rfl ?_
                              refine L_gyes rfl rfl ?_
                              refine L_y (y_pk rfl rfl) rfl ?_
                              refine L_gyes rfl rfl ?_
                              refine L_y (y_move rfl) rfl ?_
                              refine L_gno rfl rfl rfl ?_
                              refine L_gno rfl rfl rfl ?_
                              refine L_gno rfl rfl rfl ?_
                              refine L_gyes rfl rfl ?_
                              refine L_y (y_pk rfl rfl) rfl ?_
                              refine L_y (y_pk rfl rfl) rfl ?_
                              refine L_nil ?_
                              refine hK23 _ _ ?_
                              refine T_true rfl ?_
                              refine T_seq fun K24 hK24 => ?_
                              have hbad : chkL b (t - laid) ((l.map OP.v).drop k) = false := by first | (exfalso; rw [h38] at h74; cases h74; done) | exact chkL_bad ho (.inl (by unfold rtV; simp [OP.v, *]; try omega))
                              refine T_region ?_
                              refine L_y (y_assign rfl) rfl ?_
                              refine L_nil ?_
                              refine hK24 _ _ ?_
                              refine T_ret ?_
                              refine ur ?_
                              refine ret1 rfl rfl ?_
                              first | exact ⟨_, rfl, S7.like0, by rw [chk_no (by omega)]⟩ | exact ⟨_, rfl, S7.like0, by rw [chk_eq (by omega), hch, hbad]; rfl⟩ | exact ⟨_, rfl, S7.like0, by rw [chk_eq (by omega), hch, chkL_end (by omega), decide_eq_false (by omega)]; rfl⟩ | exact ⟨_, rfl, S7.like0, by rw [chk_eq (by omega), hch, chkL_end (by omega), decide_eq_true (by omega)]; rfl⟩
                            ·
                              refine L_gyes rfl rfl ?_
                              refine L_y (y_fieldA 1 Try.underlying58 rfl sz3 rfl rfl rfl) rfl ?_
                              refine L_gyes rfl rfl ?_
                              refine L_y (y_ldc Try.underlying3 rfl rfl (((S7.blk 1 rfl).cell _).trans (by rfl))) rfl ?_
                              refine L_gyes rfl rfl ?_
                              refine L_y (y_neq rfl rfl) rfl ?_
                              refine L_gyes rfl rfl ?_
                              refine L_y (y_pk rfl rfl) rfl ?_
                              refine L_gyes rfl rfl ?_
                              refine L_y (y_move rfl) rfl ?_
                              refine L_split 84 rfl (fun h84 => ?_) (fun h84 => ?_)
                              ·
                                refine L_gno rfl rfl rfl ?_
                                refine L_gno rfl rfl rfl ?_
                                refine L_gno rfl rfl rfl ?_
                                refine L_gyes rfl rfl ?_
                                refine L_y (y_pk rfl rfl) rfl ?_
                                refine L_y (y_pk rfl rfl) rfl ?_
                                refine L_nil ?_
                                refine hK23 _ _ ?_
                                refine T_true rfl ?_
                                refine T_seq fun K25 hK25 => ?_
                                have hbad : chkL b (t - laid) ((l.map OP.v).drop k) = false := by first | (exfalso; rw [h38] at h74; cases h74; done) | exact chkL_bad ho (.inl (by unfold rtV; simp [OP.v, *]; try omega))
                                refine T_region ?_
                                refine L_y (y_assign rfl) rfl ?_
                                refine L_nil ?_
                                refine hK25 _ _ ?_
                                refine T_ret ?_
                                refine ur ?_
                                refine ret1 rfl rfl ?_
                                first | exact ⟨_, rfl, S7.like0, by rw [chk_no (by omega)]⟩ | exact ⟨_, rfl, S7.like0, by rw [chk_eq (by omega), hch, hbad]; rfl⟩ | exact ⟨_, rfl, S7.like0, by rw [chk_eq (by omega), hch, chkL_end (by omega), decide_eq_false (by omega)]; rfl⟩ | exact ⟨_, rfl, S7.like0, by rw [chk_eq (by omega), hch, chkL_end (by omega), decide_eq_true (by omega)]; rfl⟩
                              ·
                                refine L_gyes rfl rfl ?_
                                refine L_y (y_fieldA 2 Try.underlying58 rfl sz3 rfl rfl rfl) rfl ?_
                                refine L_gyes rfl rfl ?_
                                refine L_y (y_ldc Try.underlying3 rfl rfl (((S7.blk 1 rfl).cell _).trans (by rfl))) rfl ?_
                                refine L_gyes rfl rfl ?_
                                refine L_y (y_neq rfl rfl) rfl ?_
                                refine L_gyes rfl rfl ?_
                                refine L_y (y_pk rfl rfl) rfl ?_
                                refine L_y (y_pk rfl rfl) rfl ?_
                                refine L_nil ?_
                                refine hK23 _ _ ?_
                                refine T_cond rfl (fun h89 => ?_) (fun h89 => ?_)
                                ·
                                  refine T_seq fun K26 hK26 => ?_
                                  have hbad : chkL b (t - laid) ((l.map OP.v).drop k) = false := by first | (exfalso; rw [h38] at h74; cases h74; done) | exact chkL_bad ho (.inl (by unfold rtV; simp [OP.v, *]; try omega))
                                  refine T_region ?_
                                  refine L_y (y_assign rfl) rfl ?_
                                  refine L_nil ?_
                                  refine hK26 _ _ ?_
                                  refine T_ret ?_
                                  refine ur ?_
                                  refine ret1 rfl rfl ?_
                                  first | exact ⟨_, rfl, S7.like0, by rw [chk_no (by omega)]⟩ | exact ⟨_, rfl, S7.like0, by rw [chk_eq (by omega), hch, hbad]; rfl⟩ | exact ⟨_, rfl, S7.like0, by rw [chk_eq (by omega), hch, chkL_end (by omega), decide_eq_false (by omega)]; rfl⟩ | exact ⟨_, rfl, S7.like0, by rw [chk_eq (by omega), hch, chkL_end (by omega), decide_eq_true (by omega)]; rfl⟩
                                ·
                                  refine T_skip ?_
                                  refine hK22 _ _ ?_
                                  refine T_seq fun K27 hK27 => ?_
                                  refine T_seq fun K28 hK28 => ?_
                                  have hgood : rtV b o.v = true := by first | (exfalso; rw [h38] at h74; cases h74; done) | (unfold rtV; simp [OP.v, *]; try omega)
                                  have hszp := sz_nonneg hgood
                                  refine T_drawnL [(0, true), (2, true), (3, true), (4, true), (5, true), (1, false), (6, true)] hmix (by kernel_rfl) fun w16 l16 => ?_
                                  have S16 := S7.like l16
                                  refine DL_y rfl (y_ldW Try.underlying58 rfl sz58 rfl (S16.blk 1 rfl) (show _ = opf o ∧ _ from ⟨rfl, rfl⟩)) rfl ?_
                                  refine DL_y rfl (y_fieldA 1 Try.underlying30 rfl sz3 rfl rfl rfl) rfl ?_
                                  refine DL_y rfl (y_ldc Try.underlying3 rfl rfl (((S16.blk 0 rfl).cell _).trans (by rfl))) rfl ?_
                                  refine DL_y rfl (y_move rfl) rfl ?_
                                  refine DL_y rfl (y_sub rfl rfl (i64w (by omega))) rfl ?_
                                  refine DL_o rfl (o_call Try.func28 rfl rfl (rsize o w16 (hok.like S16.like0 o (List.mem_of_getElem? ho))) rfl rfl ?_)
                                  rintro e17 w17 ⟨v17, rfl, l17, rfl⟩
                                  refine ⟨_, rfl, l17, ?_⟩
                                  have S17 := S16.like l17
                                  have q17 := l17
                                  refine DL_y rfl (y_gtr rfl rfl) rfl ?_
                                  refine DL_nil ?_
                                  refine hK28 _ _ ?_
                                  refine T_cond rfl (fun h96 => ?_) (fun h96 => ?_)
                                  ·
                                    refine T_seq fun K29 hK29 => ?_
                                    have hbad : chkL b (t - laid) ((l.map OP.v).drop k) = false := chkL_bad ho (.inr (by omega))
                                    refine T_region ?_
                                    refine L_y (y_assign rfl) rfl ?_
                                    refine L_nil ?_
                                    refine hK29 _ _ ?_
                                    refine T_ret ?_
                                    refine ur ?_
                                    refine ret1 rfl rfl ?_
                                    first | exact ⟨_, rfl, S17.like0, by rw [chk_no (by omega)]⟩ | exact ⟨_, rfl, S17.like0, by rw [chk_eq (by omega), hch, hbad]; rfl⟩ | exact ⟨_, rfl, S17.like0, by rw [chk_eq (by omega), hch, chkL_end (by omega), decide_eq_false (by omega)]; rfl⟩ | exact ⟨_, rfl, S17.like0, by rw [chk_eq (by omega), hch, chkL_end (by omega), decide_eq_true (by omega)]; rfl⟩
                                  ·
                                    refine T_skip ?_
                                    refine hK27 _ _ ?_
                                    refine T_region ?_
                                    refine L_y (y_move rfl) rfl ?_
                                    refine L_y (y_ldW Try.underlying58 rfl sz58 rfl (S17.blk 1 rfl) (show _ = opf o ∧ _ from ⟨rfl, rfl⟩)) rfl ?_
                                    refine L_o (o_call Try.func28 rfl rfl (rsize o w17 (hok.like S17.like0 o (List.mem_of_getElem? ho))) rfl rfl ?_)
                                    rintro e18 w18 ⟨v18, rfl, l18, rfl⟩
                                    refine ⟨_, rfl, ?_⟩
                                    have S18 := S17.like l18
                                    refine L_y (y_add rfl rfl (i64w (by omega))) rfl ?_
                                    refine L_y (y_assign rfl) rfl ?_
                                    refine L_nil ?_
                                    refine hK13 _ _ ?_
                                    refine T_region ?_
                                    refine L_y (y_move rfl) rfl ?_
                                    refine L_y (y_add rfl rfl (i64w (by omega))) rfl ?_
                                    refine L_y (y_assign rfl) rfl ?_
                                    refine L_nil ?_
                                    have S91 := S18.drop (rs' := [_]) (.cons_cons _ (.cons _ (.refl _)))
                                    refine ⟨k + 1, laid + szV o.v, by omega, ⟨⟨by omega, by omega, by omega, by rw [hch, chkL_ok ho hgood (by omega), show t - laid - szV o.v = t - (laid + szV o.v) by omega]⟩, S91⟩, ?_⟩
                                    exact (Sub.cons rfl (by first | rfl | exact congrArg (Value.int _) (by omega)) (Sub.cons rfl (by first | rfl | exact congrArg (Value.int _) (by omega)) (Sub.cons rfl rfl (Sub.nil _))))
                          ·
                            refine L_gno rfl rfl rfl ?_
                            refine L_gno rfl rfl rfl ?_
                            refine L_gno rfl rfl rfl ?_
                            refine L_gno rfl rfl rfl ?_
                            refine L_gno rfl rfl rfl ?_
                            refine L_gnu rfl rfl rfl ?_
                            refine L_gnu rfl rfl rfl ?_
                            refine L_gnu rfl rfl rfl ?_
                            refine L_gno rfl rfl rfl ?_
                            refine L_gno rfl rfl rfl ?_
                            refine L_gnu rfl rfl rfl ?_
                            refine L_gnu rfl rfl rfl ?_
                            refine L_gnu rfl rfl rfl ?_
                            refine L_gno rfl rfl rfl ?_
                            refine L_y (y_pk rfl rfl) rfl ?_
                            refine L_nil ?_
                            refine hK23 _ _ ?_
                            refine T_false rfl ?_
                            refine T_skip ?_
                            refine hK22 _ _ ?_
                            refine T_seq fun K30 hK30 => ?_
                            refine T_seq fun K31 hK31 => ?_
                            have hgood : rtV b o.v = true := by first | (exfalso; rw [h38] at h74; cases h74; done) | (unfold rtV; simp [OP.v, *]; try omega)
                            have hszp := sz_nonneg hgood
                            refine T_drawnL [(0, true), (2, true), (3, true), (4, true), (5, true), (1, false), (6, true)] hmix (by kernel_rfl) fun w19 l19 => ?_
                            have S19 := S7.like l19
                            refine DL_y rfl (y_ldW Try.underlying58 rfl sz58 rfl (S19.blk 1 rfl) (show _ = opf o ∧ _ from ⟨rfl, rfl⟩)) rfl ?_
                            refine DL_y rfl (y_fieldA 1 Try.underlying30 rfl sz3 rfl rfl rfl) rfl ?_
                            refine DL_y rfl (y_ldc Try.underlying3 rfl rfl (((S19.blk 0 rfl).cell _).trans (by rfl))) rfl ?_
                            refine DL_y rfl (y_move rfl) rfl ?_
                            refine DL_y rfl (y_sub rfl rfl (i64w (by omega))) rfl ?_
                            refine DL_o rfl (o_call Try.func28 rfl rfl (rsize o w19 (hok.like S19.like0 o (List.mem_of_getElem? ho))) rfl rfl ?_)
                            rintro e20 w20 ⟨v20, rfl, l20, rfl⟩
                            refine ⟨_, rfl, l20, ?_⟩
                            have S20 := S19.like l20
                            have q20 := l20
                            refine DL_y rfl (y_gtr rfl rfl) rfl ?_
                            refine DL_nil ?_
                            refine hK31 _ _ ?_
                            refine T_cond rfl (fun h96 => ?_) (fun h96 => ?_)
                            ·
                              refine T_seq fun K32 hK32 => ?_
                              have hbad : chkL b (t - laid) ((l.map OP.v).drop k) = false := chkL_bad ho (.inr (by omega))
                              refine T_region ?_
                              refine L_y (y_assign rfl) rfl ?_
                              refine L_nil ?_
                              refine hK32 _ _ ?_
                              refine T_ret ?_
                              refine ur ?_
                              refine ret1 rfl rfl ?_
                              first | exact ⟨_, rfl, S20.like0, by rw [chk_no (by omega)]⟩ | exact ⟨_, rfl, S20.like0, by rw [chk_eq (by omega), hch, hbad]; rfl⟩ | exact ⟨_, rfl, S20.like0, by rw [chk_eq (by omega), hch, chkL_end (by omega), decide_eq_false (by omega)]; rfl⟩ | exact ⟨_, rfl, S20.like0, by rw [chk_eq (by omega), hch, chkL_end (by omega), decide_eq_true (by omega)]; rfl⟩
                            ·
                              refine T_skip ?_
                              refine hK30 _ _ ?_
                              refine T_region ?_
                              refine L_y (y_move rfl) rfl ?_
                              refine L_y (y_ldW Try.underlying58 rfl sz58 rfl (S20.blk 1 rfl) (show _ = opf o ∧ _ from ⟨rfl, rfl⟩)) rfl ?_
                              refine L_o (o_call Try.func28 rfl rfl (rsize o w20 (hok.like S20.like0 o (List.mem_of_getElem? ho))) rfl rfl ?_)
                              rintro e21 w21 ⟨v21, rfl, l21, rfl⟩
                              refine ⟨_, rfl, ?_⟩
                              have S21 := S20.like l21
                              refine L_y (y_add rfl rfl (i64w (by omega))) rfl ?_
                              refine L_y (y_assign rfl) rfl ?_
                              refine L_nil ?_
                              refine hK13 _ _ ?_
                              refine T_region ?_
                              refine L_y (y_move rfl) rfl ?_
                              refine L_y (y_add rfl rfl (i64w (by omega))) rfl ?_
                              refine L_y (y_assign rfl) rfl ?_
                              refine L_nil ?_
                              have S91 := S21.drop (rs' := [_]) (.cons_cons _ (.cons _ (.refl _)))
                              refine ⟨k + 1, laid + szV o.v, by omega, ⟨⟨by omega, by omega, by omega, by rw [hch, chkL_ok ho hgood (by omega), show t - laid - szV o.v = t - (laid + szV o.v) by omega]⟩, S91⟩, ?_⟩
                              exact (Sub.cons rfl (by first | rfl | exact congrArg (Value.int _) (by omega)) (Sub.cons rfl (by first | rfl | exact congrArg (Value.int _) (by omega)) (Sub.cons rfl rfl (Sub.nil _))))
              ·
                refine L_gno rfl rfl rfl ?_
                refine L_gno rfl rfl rfl ?_
                refine L_gno rfl rfl rfl ?_
                refine L_gno rfl rfl rfl ?_
                refine L_gnu rfl rfl rfl ?_
                refine L_gnu rfl rfl rfl ?_
                refine L_gnu rfl rfl rfl ?_
                refine L_gnu rfl rfl rfl ?_
                refine L_gnu rfl rfl rfl ?_
                refine L_gno rfl rfl rfl ?_
                refine L_gno rfl rfl rfl ?_
                refine L_gnu rfl rfl rfl ?_
                refine L_gnu rfl rfl rfl ?_
                refine L_gnu rfl rfl rfl ?_
                refine L_gno rfl rfl rfl ?_
                refine L_gno rfl rfl rfl ?_
                refine L_gnu rfl rfl rfl ?_
                refine L_gnu rfl rfl rfl ?_
                refine L_gnu rfl rfl rfl ?_
                refine L_gnu rfl rfl rfl ?_
                refine L_gnu rfl rfl rfl ?_
                refine L_gnu rfl rfl rfl ?_
                refine L_gnu rfl rfl rfl ?_
                refine L_gnu rfl rfl rfl ?_
                refine L_gno rfl rfl rfl ?_
                refine L_gno rfl rfl rfl ?_
                refine L_gnu rfl rfl rfl ?_
                refine L_gnu rfl rfl rfl ?_
                refine L_gnu rfl rfl rfl ?_
                refine L_gnu rfl rfl rfl ?_
                refine L_gno rfl rfl rfl ?_
                refine L_y (y_pk rfl rfl) rfl ?_
                refine L_nil ?_
                refine hK16 _ _ ?_
                refine T_false rfl ?_
                refine T_skip ?_
                refine hK15 _ _ ?_
                refine T_seq fun K33 hK33 => ?_
                refine T_seq fun K34 hK34 => ?_
                refine T_region ?_
                refine L_y (y_fieldA 0 Try.underlying58 rfl sz4 rfl rfl rfl) rfl ?_
                refine L_y (y_ldc Try.underlying4 rfl rfl (((S7.blk 1 rfl).cell _).trans (by rfl))) rfl ?_
                refine L_y ((by first | exact y_notD rfl | exact y_not rfl)) rfl ?_
                refine L_y (y_move rfl) rfl ?_
                refine L_splitB 74 rfl (fun h74 => ?_) (fun h74 => ?_)
                ·
                  refine L_gyes rfl rfl ?_
                  refine L_y (y_fieldA 3 Try.underlying58 rfl sz22 rfl rfl rfl) rfl ?_
                  refine L_gyes rfl rfl ?_
                  refine L_y (y_ldc Try.underlying22 rfl rfl (((S7.blk 1 rfl).cell _).trans (by rfl))) rfl ?_
                  refine L_gyes rfl rfl ?_
                  refine L_y (y_len Try.underlying22 rfl) rfl ?_
                  refine L_gyes rfl rfl ?_
                  refine L_y (y_eql rfl rfl) rfl ?_
                  refine L_gyes rfl rfl ?_
                  refine L_y (y_move rfl) rfl ?_
                  refine L_split 79 rfl (fun h79 => ?_) (fun h79 => ?_)
                  ·
                    refine L_gno rfl rfl rfl ?_
                    refine L_gno rfl rfl rfl ?_
                    refine L_gno rfl rfl rfl ?_
                    refine L_gyes rfl rfl ?_
                    refine L_y (y_pk rfl rfl) rfl ?_
                    refine L_gyes rfl rfl ?_
                    refine L_y (y_move rfl) rfl ?_
                    refine L_gno rfl rfl rfl ?_
                    refine L_gno rfl rfl rfl ?_
                    refine L_gno rfl rfl rfl ?_
                    refine L_gyes rfl rfl ?_
                    refine L_y (y_pk rfl rfl) rfl ?_
                    refine L_y (y_pk rfl rfl) rfl ?_
                    refine L_nil ?_
                    refine hK34 _ _ ?_
                    refine T_true rfl ?_
                    refine T_seq fun K35 hK35 => ?_
                    have hbad : chkL b (t - laid) ((l.map OP.v).drop k) = false := by first | (exfalso; rw [h38] at h74; cases h74; done) | exact chkL_bad ho (.inl (by unfold rtV; simp [OP.v, *]; try omega))
                    refine T_region ?_
                    refine L_y (y_assign rfl) rfl ?_
                    refine L_nil ?_
                    refine hK35 _ _ ?_
                    refine T_ret ?_
                    refine ur ?_
                    refine ret1 rfl rfl ?_
                    first | exact ⟨_, rfl, S7.like0, by rw [chk_no (by omega)]⟩ | exact ⟨_, rfl, S7.like0, by rw [chk_eq (by omega), hch, hbad]; rfl⟩ | exact ⟨_, rfl, S7.like0, by rw [chk_eq (by omega), hch, chkL_end (by omega), decide_eq_false (by omega)]; rfl⟩ | exact ⟨_, rfl, S7.like0, by rw [chk_eq (by omega), hch, chkL_end (by omega), decide_eq_true (by omega)]; rfl⟩
                  ·
                    refine L_gyes rfl rfl ?_
                    refine L_y (y_fieldA 1 Try.underlying58 rfl sz3 rfl rfl rfl) rfl ?_
                    refine L_gyes rfl rfl ?_
                    refine L_y (y_ldc Try.underlying3 rfl rfl (((S7.blk 1 rfl).cell _).trans (by rfl))) rfl ?_
                    refine L_gyes rfl rfl ?_
                    refine L_y (y_neq rfl rfl) rfl ?_
                    refine L_gyes rfl rfl ?_
                    refine L_y (y_pk rfl rfl) rfl ?_
                    refine L_gyes rfl rfl ?_
                    refine L_y (y_move rfl) rfl ?_
                    refine L_split 84 rfl (fun h84 => ?_) (fun h84 => ?_)
                    ·
                      refine L_gno rfl rfl rfl ?_
                      refine L_gno rfl rfl rfl ?_
                      refine L_gno rfl rfl rfl ?_
                      refine L_gyes rfl rfl ?_
                      refine L_y (y_pk rfl rfl) rfl ?_
                      refine L_y (y_pk rfl rfl) rfl ?_
                      refine L_nil ?_
                      refine hK34 _ _ ?_
                      refine T_true rfl ?_
                      refine T_seq fun K36 hK36 => ?_
                      have hbad : chkL b (t - laid) ((l.map OP.v).drop k) = false := by first | (exfalso; rw [h38] at h74; cases h74; done) | exact chkL_bad ho (.inl (by unfold rtV; simp [OP.v, *]; try omega))
                      refine T_region ?_
                      refine L_y (y_assign rfl) rfl ?_
                      refine L_nil ?_
                      refine hK36 _ _ ?_
                      refine T_ret ?_
                      refine ur ?_
                      refine ret1 rfl rfl ?_
                      first | exact ⟨_, rfl, S7.like0, by rw [chk_no (by omega)]⟩ | exact ⟨_, rfl, S7.like0, by rw [chk_eq (by omega), hch, hbad]; rfl⟩ | exact ⟨_, rfl, S7.like0, by rw [chk_eq (by omega), hch, chkL_end (by omega), decide_eq_false (by omega)]; rfl⟩ | exact ⟨_, rfl, S7.like0, by rw [chk_eq (by omega), hch, chkL_end (by omega), decide_eq_true (by omega)]; rfl⟩
                    ·
                      refine L_gyes rfl rfl ?_
                      refine L_y (y_fieldA 2 Try.underlying58 rfl sz3 rfl rfl rfl) rfl ?_
                      refine L_gyes rfl rfl ?_
                      refine L_y (y_ldc Try.underlying3 rfl rfl (((S7.blk 1 rfl).cell _).trans (by rfl))) rfl ?_
                      refine L_gyes rfl rfl ?_
                      refine L_y (y_neq rfl rfl) rfl ?_
                      refine L_gyes rfl rfl ?_
                      refine L_y (y_pk rfl rfl) rfl ?_
                      refine L_y (y_pk rfl rfl) rfl ?_
                      refine L_nil ?_
                      refine hK34 _ _ ?_
                      refine T_cond rfl (fun h89 => ?_) (fun h89 => ?_)
                      ·
                        refine T_seq fun K37 hK37 => ?_
                        have hbad : chkL b (t - laid) ((l.map OP.v).drop k) = false := by first | (exfalso; rw [h38] at h74; cases h74; done) | exact chkL_bad ho (.inl (by unfold rtV; simp [OP.v, *]; try omega))
                        refine T_region ?_
                        refine L_y (y_assign rfl) rfl ?_
                        refine L_nil ?_
                        refine hK37 _ _ ?_
                        refine T_ret ?_
                        refine ur ?_
                        refine ret1 rfl rfl ?_
                        first | exact ⟨_, rfl, S7.like0, by rw [chk_no (by omega)]⟩ | exact ⟨_, rfl, S7.like0, by rw [chk_eq (by omega), hch, hbad]; rfl⟩ | exact ⟨_, rfl, S7.like0, by rw [chk_eq (by omega), hch, chkL_end (by omega), decide_eq_false (by omega)]; rfl⟩ | exact ⟨_, rfl, S7.like0, by rw [chk_eq (by omega), hch, chkL_end (by omega), decide_eq_true (by omega)]; rfl⟩
                      ·
                        refine T_skip ?_
                        refine hK33 _ _ ?_
                        refine T_seq fun K38 hK38 => ?_
                        refine T_seq fun K39 hK39 => ?_
                        have hgood : rtV b o.v = true := by first | (exfalso; rw [h38] at h74; cases h74; done) | (unfold rtV; simp [OP.v, *]; try omega)
                        have hszp := sz_nonneg hgood
                        refine T_drawnL [(0, true), (2, true), (3, true), (4, true), (5, true), (1, false), (6, true)] hmix (by kernel_rfl) fun w25 l25 => ?_
                        have S25 := S7.like l25
                        refine DL_y rfl (y_ldW Try.underlying58 rfl sz58 rfl (S25.blk 1 rfl) (show _ = opf o ∧ _ from ⟨rfl, rfl⟩)) rfl ?_
                        refine DL_y rfl (y_fieldA 1 Try.underlying30 rfl sz3 rfl rfl rfl) rfl ?_
                        refine DL_y rfl (y_ldc Try.underlying3 rfl rfl (((S25.blk 0 rfl).cell _).trans (by rfl))) rfl ?_
                        refine DL_y rfl (y_move rfl) rfl ?_
                        refine DL_y rfl (y_sub rfl rfl (i64w (by omega))) rfl ?_
                        refine DL_o rfl (o_call Try.func28 rfl rfl (rsize o w25 (hok.like S25.like0 o (List.mem_of_getElem? ho))) rfl rfl ?_)
                        rintro e26 w26 ⟨v26, rfl, l26, rfl⟩
                        refine ⟨_, rfl, l26, ?_⟩
                        have S26 := S25.like l26
                        have q26 := l26
                        refine DL_y rfl (y_gtr rfl rfl) rfl ?_
                        refine DL_nil ?_
                        refine hK39 _ _ ?_
                        refine T_cond rfl (fun h96 => ?_) (fun h96 => ?_)
                        ·
                          refine T_seq fun K40 hK40 => ?_
                          have hbad : chkL b (t - laid) ((l.map OP.v).drop k) = false := chkL_bad ho (.inr (by omega))
                          refine T_region ?_
                          refine L_y (y_assign rfl) rfl ?_
                          refine L_nil ?_
                          refine hK40 _ _ ?_
                          refine T_ret ?_
                          refine ur ?_
                          refine ret1 rfl rfl ?_
                          first | exact ⟨_, rfl, S26.like0, by rw [chk_no (by omega)]⟩ | exact ⟨_, rfl, S26.like0, by rw [chk_eq (by omega), hch, hbad]; rfl⟩ | exact ⟨_, rfl, S26.like0, by rw [chk_eq (by omega), hch, chkL_end (by omega), decide_eq_false (by omega)]; rfl⟩ | exact ⟨_, rfl, S26.like0, by rw [chk_eq (by omega), hch, chkL_end (by omega), decide_eq_true (by omega)]; rfl⟩
                        ·
                          refine T_skip ?_
                          refine hK38 _ _ ?_
                          refine T_region ?_
                          refine L_y (y_move rfl) rfl ?_
                          refine L_y (y_ldW Try.underlying58 rfl sz58 rfl (S26.blk 1 rfl) (show _ = opf o ∧ _ from ⟨rfl, rfl⟩)) rfl ?_
                          refine L_o (o_call Try.func28 rfl rfl (rsize o w26 (hok.like S26.like0 o (List.mem_of_getElem? ho))) rfl rfl ?_)
                          rintro e27 w27 ⟨v27, rfl, l27, rfl⟩
                          refine ⟨_, rfl, ?_⟩
                          have S27 := S26.like l27
                          refine L_y (y_add rfl rfl (i64w (by omega))) rfl ?_
                          refine L_y (y_assign rfl) rfl ?_
                          refine L_nil ?_
                          refine hK13 _ _ ?_
                          refine T_region ?_
                          refine L_y (y_move rfl) rfl ?_
                          refine L_y (y_add rfl rfl (i64w (by omega))) rfl ?_
                          refine L_y (y_assign rfl) rfl ?_
                          refine L_nil ?_
                          have S91 := S27.drop (rs' := [_]) (.cons_cons _ (.cons _ (.refl _)))
                          refine ⟨k + 1, laid + szV o.v, by omega, ⟨⟨by omega, by omega, by omega, by rw [hch, chkL_ok ho hgood (by omega), show t - laid - szV o.v = t - (laid + szV o.v) by omega]⟩, S91⟩, ?_⟩
                          exact (Sub.cons rfl (by first | rfl | exact congrArg (Value.int _) (by omega)) (Sub.cons rfl (by first | rfl | exact congrArg (Value.int _) (by omega)) (Sub.cons rfl rfl (Sub.nil _))))
                ·
                  refine L_gno rfl rfl rfl ?_
                  refine L_gno rfl rfl rfl ?_
                  refine L_gno rfl rfl rfl ?_
                  refine L_gno rfl rfl rfl ?_
                  refine L_gno rfl rfl rfl ?_
                  refine L_gnu rfl rfl rfl ?_
                  refine L_gnu rfl rfl rfl ?_
                  refine L_gnu rfl rfl rfl ?_
                  refine L_gno rfl rfl rfl ?_
                  refine L_gno rfl rfl rfl ?_
                  refine L_gnu rfl rfl rfl ?_
                  refine L_gnu rfl rfl rfl ?_
                  refine L_gnu rfl rfl rfl ?_
                  refine L_gno rfl rfl rfl ?_
                  refine L_y (y_pk rfl rfl) rfl ?_
                  refine L_nil ?_
                  refine hK34 _ _ ?_
                  refine T_false rfl ?_
                  refine T_skip ?_
                  refine hK33 _ _ ?_
                  refine T_seq fun K41 hK41 => ?_
                  refine T_seq fun K42 hK42 => ?_
                  have hgood : rtV b o.v = true := by first | (exfalso; rw [h38] at h74; cases h74; done) | (unfold rtV; simp [OP.v, *]; try omega)
                  have hszp := sz_nonneg hgood
                  refine T_drawnL [(0, true), (2, true), (3, true), (4, true), (5, true), (1, false), (6, true)] hmix (by kernel_rfl) fun w28 l28 => ?_
                  have S28 := S7.like l28
                  refine DL_y rfl (y_ldW Try.underlying58 rfl sz58 rfl (S28.blk 1 rfl) (show _ = opf o ∧ _ from ⟨rfl, rfl⟩)) rfl ?_
                  refine DL_y rfl (y_fieldA 1 Try.underlying30 rfl sz3 rfl rfl rfl) rfl ?_
                  refine DL_y rfl (y_ldc Try.underlying3 rfl rfl (((S28.blk 0 rfl).cell _).trans (by rfl))) rfl ?_
                  refine DL_y rfl (y_move rfl) rfl ?_
                  refine DL_y rfl (y_sub rfl rfl (i64w (by omega))) rfl ?_
                  refine DL_o rfl (o_call Try.func28 rfl rfl (rsize o w28 (hok.like S28.like0 o (List.mem_of_getElem? ho))) rfl rfl ?_)
                  rintro e29 w29 ⟨v29, rfl, l29, rfl⟩
                  refine ⟨_, rfl, l29, ?_⟩
                  have S29 := S28.like l29
                  have q29 := l29
                  refine DL_y rfl (y_gtr rfl rfl) rfl ?_
                  refine DL_nil ?_
                  refine hK42 _ _ ?_
                  refine T_cond rfl (fun h96 => ?_) (fun h96 => ?_)
                  ·
                    refine T_seq fun K43 hK43 => ?_
                    have hbad : chkL b (t - laid) ((l.map OP.v).drop k) = false := chkL_bad ho (.inr (by omega))
                    refine T_region ?_
                    refine L_y (y_assign rfl) rfl ?_
                    refine L_nil ?_
                    refine hK43 _ _ ?_
                    refine T_ret ?_
                    refine ur ?_
                    refine ret1 rfl rfl ?_
                    first | exact ⟨_, rfl, S29.like0, by rw [chk_no (by omega)]⟩ | exact ⟨_, rfl, S29.like0, by rw [chk_eq (by omega), hch, hbad]; rfl⟩ | exact ⟨_, rfl, S29.like0, by rw [chk_eq (by omega), hch, chkL_end (by omega), decide_eq_false (by omega)]; rfl⟩ | exact ⟨_, rfl, S29.like0, by rw [chk_eq (by omega), hch, chkL_end (by omega), decide_eq_true (by omega)]; rfl⟩
                  ·
                    refine T_skip ?_
                    refine hK41 _ _ ?_
                    refine T_region ?_
                    refine L_y (y_move rfl) rfl ?_
                    refine L_y (y_ldW Try.underlying58 rfl sz58 rfl (S29.blk 1 rfl) (show _ = opf o ∧ _ from ⟨rfl, rfl⟩)) rfl ?_
                    refine L_o (o_call Try.func28 rfl rfl (rsize o w29 (hok.like S29.like0 o (List.mem_of_getElem? ho))) rfl rfl ?_)
                    rintro e30 w30 ⟨v30, rfl, l30, rfl⟩
                    refine ⟨_, rfl, ?_⟩
                    have S30 := S29.like l30
                    refine L_y (y_add rfl rfl (i64w (by omega))) rfl ?_
                    refine L_y (y_assign rfl) rfl ?_
                    refine L_nil ?_
                    refine hK13 _ _ ?_
                    refine T_region ?_
                    refine L_y (y_move rfl) rfl ?_
                    refine L_y (y_add rfl rfl (i64w (by omega))) rfl ?_
                    refine L_y (y_assign rfl) rfl ?_
                    refine L_nil ?_
                    have S91 := S30.drop (rs' := [_]) (.cons_cons _ (.cons _ (.refl _)))
                    refine ⟨k + 1, laid + szV o.v, by omega, ⟨⟨by omega, by omega, by omega, by rw [hch, chkL_ok ho hgood (by omega), show t - laid - szV o.v = t - (laid + szV o.v) by omega]⟩, S91⟩, ?_⟩
                    exact (Sub.cons rfl (by first | rfl | exact congrArg (Value.int _) (by omega)) (Sub.cons rfl (by first | rfl | exact congrArg (Value.int _) (by omega)) (Sub.cons rfl rfl (Sub.nil _))))
            ·
              refine T_exit ?_
              refine hK9 _ _ ?_
              refine T_seq fun K44 hK44 => ?_
              refine T_seq fun K45 hK45 => ?_
              refine T_region ?_
              refine L_y (y_move rfl) rfl ?_
              refine L_y (y_fieldA 1 Try.underlying30 rfl sz3 rfl rfl rfl) rfl ?_
              refine L_y (y_ldc Try.underlying3 rfl rfl (((S5.blk 0 rfl).cell _).trans (by rfl))) rfl ?_
              refine L_y (y_neq rfl rfl) rfl ?_
              refine L_nil ?_
              refine hK45 _ _ ?_
              refine T_cond rfl (fun h104 => ?_) (fun h104 => ?_)
              ·
                refine T_seq fun K46 hK46 => ?_
                refine T_region ?_
                refine L_y (y_assign rfl) rfl ?_
                refine L_nil ?_
                refine hK46 _ _ ?_
                refine T_ret ?_
                refine ur ?_
                refine ret1 rfl rfl ?_
                first | exact ⟨_, rfl, S5.like0, by rw [chk_no (by omega)]⟩ | exact ⟨_, rfl, S5.like0, by rw [chk_eq (by omega), hch, hbad]; rfl⟩ | exact ⟨_, rfl, S5.like0, by rw [chk_eq (by omega), hch, chkL_end (by omega), decide_eq_false (by omega)]; rfl⟩ | exact ⟨_, rfl, S5.like0, by rw [chk_eq (by omega), hch, chkL_end (by omega), decide_eq_true (by omega)]; rfl⟩
              ·
                refine T_skip ?_
                refine hK44 _ _ ?_
                refine T_seq fun K47 hK47 => ?_
                refine T_region ?_
                refine L_y (y_assign rfl) rfl ?_
                refine L_nil ?_
                refine hK47 _ _ ?_
                refine T_ret ?_
                refine ur ?_
                refine ret1 rfl rfl ?_
                first | exact ⟨_, rfl, S5.like0, by rw [chk_no (by omega)]⟩ | exact ⟨_, rfl, S5.like0, by rw [chk_eq (by omega), hch, hbad]; rfl⟩ | exact ⟨_, rfl, S5.like0, by rw [chk_eq (by omega), hch, chkL_end (by omega), decide_eq_false (by omega)]; rfl⟩ | exact ⟨_, rfl, S5.like0, by rw [chk_eq (by omega), hch, chkL_end (by omega), decide_eq_true (by omega)]; rfl⟩
end Go.Proofs.Ytpcgldkllnkaeaa


/-
  Texts alike.
-/
namespace Go.Proofs.Ytpcgldkllnkaeaa
open Go.RowKit Zk Zx
set_option linter.unusedVariables false
set_option linter.unusedSimpArgs false

theorem byt_inj (l k : List UInt8) : decide ((⟨l.toArray⟩ : ByteArray) = ⟨k.toArray⟩) = decide (l = k) := by
  by_cases h : l = k
  · subst h; simp
  · have : (⟨l.toArray⟩ : ByteArray) ≠ ⟨k.toArray⟩ := fun e => h (by simpa using e)
    simp [h]
/-- How many bytes two texts begin with alike. -/
def comP : List UInt8 → List UInt8 → Nat
  | a :: x, b :: y => if a = b then comP x y + 1 else 0
  | _, _ => 0
theorem g8_cons (a : UInt8) (l : List UInt8) (k : Nat) : g8 (a :: l) (k + 1) = g8 l k := by simp [g8]
theorem g8_zero (a b : UInt8) (l m : List UInt8) : g8 (a :: l) 0 = g8 (b :: m) 0 ↔ a = b := by
  simp only [g8, List.getD_cons_zero]
  constructor
  · intro h; exact UInt8.toNat_inj.1 (by omega)
  · intro h; rw [h]
theorem comP_stop : ∀ (a b : List UInt8) (i : Nat), (∀ j, j < i → g8 a j = g8 b j) → i ≤ a.length → i ≤ b.length → (a.length ≤ i ∨ b.length ≤ i ∨ g8 a i ≠ g8 b i) → comP a b = i
  | [], b, i, _, h1, _, _ => by
    have : i = 0 := by simpa using h1
    subst this
    unfold comP
    rfl
  | a :: x, [], i, _, _, h2, _ => by
    have : i = 0 := by simpa using h2
    subst this
    rfl
  | a :: x, b :: y, 0, _, _, _, hs => by
    rcases hs with hs | hs | hs
    · simp at hs
    · simp at hs
    · have : a ≠ b := fun e => hs ((g8_zero a b x y).2 e)
      unfold comP
      rw [if_neg this]
  | a :: x, b :: y, i + 1, h, h1, h2, hs => by
    have e : a = b := (g8_zero a b x y).1 (h 0 (by omega))
    unfold comP
    rw [if_pos e, comP_stop x y i (fun j hj => by have := h (j + 1) (by omega); rwa [g8_cons, g8_cons] at this) (by simpa using h1) (by simpa using h2) (by simpa [g8_cons] using hs)]
theorem comP_le : ∀ a b : List UInt8, comP a b ≤ a.length ∧ comP a b ≤ b.length
  | [], b => by unfold comP; simp
  | a :: x, [] => by unfold comP; simp
  | a :: x, b :: y => by
    unfold comP
    split
    · have := comP_le x y; simp; omega
    · simp
set_option maxRecDepth 100000 in
theorem same1 (A B : Option Addr) (n c m d : Nat) (a b : List UInt8) (w0 : World) (ha : Rs w0 1 A n c (bL a)) (hb : Rs w0 1 B m d (bL b)) :
    Calls Try.prog 14 #[.slice A n c, .slice B m d] w0 fun e w' => ∃ u, e = .returned u ∧ Like w0 w' ∧ u = .bool (decide (a = b)) := by
  refine enter1 (env := [(0, .slice A n c), (1, .slice B m d)]) [.slice A n c, .slice B m d] Try.func14 rfl Try.ntmps14 rfl rfl ?_
  have S0 := St.start w0 noM
  refine T_seq fun K1 hK1 => ?_
  refine T_region ?_
  refine L_y (y_assign rfl) rfl ?_
  refine L_nil ?_
  refine hK1 _ _ ?_
  refine T_seq fun K2 hK2 => ?_
  refine T_region ?_
  refine L_y (y_move rfl) rfl ?_
  refine L_y (y_bstr Try.underlying22 Try.underlying5 Try.underlying9 rfl (S0.rd ha)) rfl ?_
  refine L_y (y_move rfl) rfl ?_
  refine L_y (y_bstr Try.underlying22 Try.underlying5 Try.underlying9 rfl (S0.rd hb)) rfl ?_
  refine L_y (y_seql rfl rfl) rfl ?_
  refine L_y (y_assign rfl) rfl ?_
  refine L_nil ?_
  refine hK2 _ _ ?_
  refine T_ret ?_
  refine ur ?_
  refine ret1 rfl rfl ?_
  exact ⟨_, rfl, S0.like0, by rw [byt_inj]⟩


set_option maxRecDepth 100000 in
theorem palike (A B : Option Addr) (n c m d : Nat) (a b : List UInt8) (w0 : World) (ha : Rs w0 1 A n c (bL a)) (hb : Rs w0 1 B m d (bL b)) :
    Calls Try.prog 53 #[.slice A n c, .slice B m d] w0 fun e w' => ∃ u, e = .returned u ∧ Like w0 w' ∧ u = .int .i64 (comP a b : Int) := by
  refine enter1 (env := [(0, .slice A n c), (1, .slice B m d)]) [.slice A n c, .slice B m d] Try.func53 rfl Try.ntmps53 rfl rfl ?_
  have hn := ha.lenb; have hm := hb.lenb; have hc1 := ha.cap; have hc2 := hb.cap; have hm1 := ha.max; have hm2 := hb.max; have S0 := St.start w0 noM
  refine T_seq fun K1 hK1 => ?_
  refine T_region ?_
  refine L_y (y_assign rfl) rfl ?_
  refine L_nil ?_
  refine hK1 _ _ ?_
  refine T_seq fun K2 hK2 => ?_
  refine T_region ?_
  refine L_y (y_move rfl) rfl ?_
  refine L_y (y_len Try.underlying22 rfl) rfl ?_
  refine L_y (y_move rfl) rfl ?_
  refine L_y (y_len Try.underlying22 rfl) rfl ?_
  refine L_y (y_min rfl rfl) rfl ?_
  refine L_y (y_assign rfl) rfl ?_
  refine L_nil ?_
  refine hK2 _ _ ?_
  refine T_seq fun K3 hK3 => ?_
  refine T_seq fun K4 hK4 => ?_
  refine T_region ?_
  refine L_y (y_move rfl) rfl ?_
  refine L_y (y_move rfl) rfl ?_
  refine L_nil ?_
  refine hK4 _ _ ?_
  refine T_block ?_
  refine T_loop1 [(0, _), (1, _), (5, _), (12, _)] (fun (i : Nat) => [(13, .int .i64 (i : Int))]) (fun (i : Nat) => n - i) (fun (i : Nat) (w : World) => (i ≤ n ∧ i ≤ m ∧ ∀ j, j < i → g8 a j = g8 b j) ∧ St w0 noM [] w) 0 (Sub.cons rfl (by first | rfl | exact congrArg (Value.int _) (by omega)) (Sub.nil _)) (Sub.cons rfl rfl (Sub.cons rfl rfl (Sub.cons rfl rfl (Sub.cons rfl rfl (Sub.nil _))))) ?_ ?_
  ·
    exact ⟨⟨Nat.zero_le _, Nat.zero_le _, fun j h => by omega⟩, S0⟩
  ·
    intro i w1 hrel
    obtain ⟨⟨hi, hi2, hj⟩, S1⟩ := hrel
    refine T_seq fun K5 hK5 => ?_
    refine T_region ?_
    refine L_y (y_lss rfl rfl) rfl ?_
    refine L_nil ?_
    refine hK5 _ _ ?_
    refine T_seq fun K6 hK6 => ?_
    refine T_cond rfl (fun h14 => ?_) (fun h14 => ?_)
    ·
      refine T_skip ?_
      refine hK6 _ _ ?_
      refine T_seq fun K7 hK7 => ?_
      refine T_block ?_
      refine T_seq fun K8 hK8 => ?_
      refine T_region ?_
      refine L_y (y_move rfl) rfl ?_
      refine L_y (y_assign rfl) rfl ?_
      refine L_nil ?_
      refine hK8 _ _ ?_
      refine T_seq fun K9 hK9 => ?_
      refine T_drawnL [(0, true), (1, true), (2, true), (3, true), (4, true), (5, true), (6, true), (7, true), (8, true)] hmix (by kernel_rfl) fun w2 l2 => ?_
      have S2 := S1.like l2
      refine DL_y rfl (y_move rfl) rfl ?_
      refine DL_y rfl (y_move rfl) rfl ?_
      refine DL_y rfl (y_idx Try.underlying22 sz5 rfl rfl (S2.rd ha) (Nt.mk (by omega) : Nt _ (i)) (by omega)) rfl ?_
      refine DL_yb rfl (y_ldb Try.underlying5 rfl rfl (S2.rd ha) (by omega)) rfl fun _ _ => ?_
      refine DL_y rfl (y_move rfl) rfl ?_
      refine DL_y rfl (y_move rfl) rfl ?_
      refine DL_y rfl (y_idx Try.underlying22 sz5 rfl rfl (S2.rd hb) (Nt.mk (by omega) : Nt _ (i)) (by omega)) rfl ?_
      refine DL_yb rfl (y_ldb Try.underlying5 rfl rfl (S2.rd hb) (by omega)) rfl fun _ _ => ?_
      refine DL_y rfl (y_neq rfl rfl) rfl ?_
      refine DL_nil ?_
      refine hK9 _ _ ?_
      refine T_cond rfl (fun h24 => ?_) (fun h24 => ?_)
      ·
        refine T_seq fun K10 hK10 => ?_
        refine T_region ?_
        refine L_y (y_move rfl) rfl ?_
        refine L_y (y_assign rfl) rfl ?_
        refine L_nil ?_
        refine hK10 _ _ ?_
        refine T_ret ?_
        refine ur ?_
        refine ret1 rfl rfl ?_
        first | exact ⟨_, rfl, S2.like0, by rw [comP_stop a b i hj (by omega) (by omega) (.inr (.inr h24))]⟩ | exact ⟨_, rfl, S2.like0, by rw [comP_stop a b i hj (by omega) (by omega) (by omega)]; congr 1; omega⟩
      ·
        refine T_skip ?_
        refine hK7 _ _ ?_
        refine T_region ?_
        refine L_y (y_add rfl rfl (i64w (by omega))) rfl ?_
        refine L_y (y_move rfl) rfl ?_
        refine L_nil ?_
        refine ⟨i + 1, by omega, ⟨⟨by omega, by omega, fun j h => by rcases Nat.lt_or_ge j i with q | q; exact hj j q; (rw [show j = i by omega]; omega)⟩, S2⟩, ?_⟩
        exact (Sub.cons rfl (by first | rfl | exact congrArg (Value.int _) (by omega)) (Sub.cons rfl rfl (Sub.cons rfl rfl (Sub.cons rfl rfl (Sub.cons rfl rfl (Sub.nil _))))))
    ·
      refine T_exit ?_
      refine hK3 _ _ ?_
      refine T_seq fun K11 hK11 => ?_
      refine T_region ?_
      refine L_y (y_move rfl) rfl ?_
      refine L_y (y_assign rfl) rfl ?_
      refine L_nil ?_
      refine hK11 _ _ ?_
      refine T_ret ?_
      refine ur ?_
      refine ret1 rfl rfl ?_
      first | exact ⟨_, rfl, S1.like0, by rw [comP_stop a b i hj (by omega) (by omega) (.inr (.inr h24))]⟩ | exact ⟨_, rfl, S1.like0, by rw [comP_stop a b i hj (by omega) (by omega) (by omega)]; congr 1; omega⟩


theorem rs_nil1 {w : World} {A : Option Addr} {n c : Nat} {l : List UInt8} (hl : Rs w 1 A n c (bL l)) (h : A = none) : n = 0 := by
  subst h
  rcases Nat.eq_zero_or_pos n with q | q
  · exact q
  · obtain ⟨_, h2, _⟩ := hl.rd.2 q
    cases h2


set_option maxRecDepth 100000 in
theorem bclone (A : Option Addr) (n c : Nat) (a : List UInt8) (w0 : World) (ha : Rs w0 1 A n c (bL a)) (hmx : n ≤ 4611686018427) :
    Calls Try.prog 41 #[.slice A n c] w0 fun e w' => ∃ u, e = .returned u ∧ Like w0 w' ∧ ∃ A' c', u = .slice A' n c' ∧ w'.ownsRow w0.heap.size 5 1 (.slice A' n c') n (bL a) := by
  refine enter1 (env := [(0, .slice A n c)]) [.slice A n c] Try.func41 rfl Try.ntmps41 rfl rfl ?_
  have hz := rs_nil1 ha; have hn := ha.lenb; have hcap := ha.cap; have hmax := ha.max; have S0 := St.start w0 noM
  refine T_seq fun K1 hK1 => ?_
  refine T_region ?_
  refine L_y (y_assign rfl) rfl ?_
  refine L_nil ?_
  refine hK1 _ _ ?_
  refine T_seq fun K2 hK2 => ?_
  refine T_seq fun K3 hK3 => ?_
  refine T_region ?_
  refine L_y (y_move rfl) rfl ?_
  refine L_y (y_seqn Try.underlying22 rfl) rfl ?_
  refine L_nil ?_
  refine hK3 _ _ ?_
  refine T_condB rfl (fun h4 => ?_) (fun h4 => ?_)
  ·
    refine T_seq fun K4 hK4 => ?_
    refine T_region ?_
    refine L_y (y_assign rfl) rfl ?_
    refine L_nil ?_
    refine hK4 _ _ ?_
    refine T_ret ?_
    refine ur ?_
    refine ret1 rfl rfl ?_
    first | exact ⟨_, rfl, S0.like0, _, _, by rw [Nat.zero_add], by have h9 := S0.own 0 rfl; rw [Nat.zero_add] at h9; exact h9⟩ | exact ⟨_, rfl, S0.like0, none, 0, by rw [hz (by simpa using h4)], by rw [hz (by simpa using h4), show a = [] from List.eq_nil_of_length_eq_zero (by have := hz (by simpa using h4); omega)]; exact World.ownsRow_nil _ _ _ _⟩
  ·
    refine T_skip ?_
    refine hK2 _ _ ?_
    refine T_seq fun K5 hK5 => ?_
    refine T_region ?_
    refine L_o (o_bsl0 te22 S0 rfl fun b1 w1 l1 S1 => ?_)
    refine L_y (y_move rfl) rfl ?_
    refine L_o (o_app te22 S1 0 rfl rfl rfl (S1.rd ha) (bL_one _) rfl (by omega) (by omega) fun A2 c2 w2 S2 => ?_)
    refine L_y (y_assign rfl) rfl ?_
    refine L_nil ?_
    refine hK5 _ _ ?_
    refine T_ret ?_
    refine ur ?_
    refine ret1 rfl rfl ?_
    first | exact ⟨_, rfl, S2.like0, _, _, by rw [Nat.zero_add], by have h9 := S2.own 0 rfl; rw [Nat.zero_add] at h9; exact h9⟩ | exact ⟨_, rfl, S2.like0, none, 0, by rw [hz (by simpa using h4)], by rw [hz (by simpa using h4), show a = [] from List.eq_nil_of_length_eq_zero (by have := hz (by simpa using h4); omega)]; exact World.ownsRow_nil _ _ _ _⟩
end Go.Proofs.Ytpcgldkllnkaeaa


/-
  Families: a piece taken out and put in, anywhere; rows that stay as they are. General; nothing here names a program.
-/
namespace Go.Proofs.Ytpcgldkllnkaeaa.Zx
open Go.RowKit Zk
set_option linter.unusedVariables false
set_option linter.unusedSimpArgs false
section
variable {w w0 : World} {M : Nat → Prop} {rs : List Res}
theorem split_at {α : Type} {l : List α} {k : Nat} {x : α} (h : l[k]? = some x) : ∃ a b, l = a ++ x :: b ∧ ∀ y, l.set k y = a ++ y :: b := by
  obtain ⟨h1, h2⟩ := List.getElem?_eq_some_iff.1 h
  refine ⟨l.take k, l.drop (k + 1), ?_, fun y => ?_⟩
  · rw [← h2, List.getElem_cons_drop, List.take_append_drop]
  · rw [List.set_eq_take_append_cons_drop, if_pos h1]
theorem mid_perm {α : Type} (a b : List α) (x : α) : (a ++ x :: b).Perm (a ++ b ++ [x]) :=
  List.perm_middle.trans ((List.perm_append_comm (l₁ := [x]) (l₂ := a ++ b)))
theorem St.famOutAt (S : St w0 M rs w) (k : Nat) {L L1 L2 : List Res} {r : Res} (hk : rs[k]? = some (fam L)) (hL : L = L1 ++ r :: L2) : St w0 M (rs.set k (fam (L1 ++ L2)) ++ [r]) w := by
  subst hL
  obtain ⟨a, b, h1, h2⟩ := split_at hk
  rw [h2]
  subst h1
  have S1 := (S.perm (mid_perm a b _)).famOut
  refine S1.perm ?_
  have := (mid_perm a b (fam (L1 ++ L2))).symm.append_right [r]
  simpa using this
theorem St.famInAt {L1 L2 : List Res} {r : Res} (S : St w0 M (rs ++ [r]) w) (k : Nat) (hk : rs[k]? = some (fam (L1 ++ L2))) : St w0 M (rs.set k (fam (L1 ++ r :: L2))) w := by
  obtain ⟨a, b, h1, h2⟩ := split_at hk
  rw [h2]
  subst h1
  have hp := (mid_perm a b (fam (L1 ++ L2))).append_right [r]
  have S1 : St w0 M ((a ++ b) ++ [fam (L1 ++ L2), r]) w := S.perm (by simpa using hp)
  exact S1.famIn.perm (mid_perm a b _).symm
/-- A row that is only read from now on. -/
theorem St.still (S : St w0 M rs w) (k : Nat) {e size n c : Nat} {A : Option Addr} {xs : List Value} (hk : rs[k]? = some (Zx.row e size A n c xs)) : St w0 M (rs.set k (fixed size A n c xs)) w :=
  S.upd k hk rfl rfl rfl (Nat.le_refl _) (fun _ _ _ => rfl) (rs_of_row (S.get k hk)) fun i ⟨ad, hn, hA, hi⟩ => .inl (by
    have hown : w.ownsRow 0 e size (.slice A n c) n xs := S.get k hk
    obtain ⟨b, cap, h1, _, _⟩ := hown.form hn
    injection h1 with hA2 _ _
    rw [hA2] at hA
    cases hA
    subst hi
    show (Value.slice A n c).ownBlock = _
    rw [hA2]
    rfl)
def partR (p : Part) : Res := fixed 1 p.A p.n p.c (bL p.l)
end
section
variable {P : Program} {env : Env} {w : World} {dst : Option Tmp} {ty : TypeId} {pos : String} {after : Array Edge} {g : Option (Nat × Bool)}
/-- An array, read where a slice points. -/
theorem y_ldArr {x : Operand} {A : Option Addr} {n c m : Nat} {l : List UInt8} {lt e : TypeId} (ht : P.underlying lt = some (.array m e)) (hsz : (P.info? lt).map (·.size) = some m) (hx : ev env x = some (.pointer A)) (hr : Rs w 1 A n c (bL l)) (hm : m ≤ n) (hpos : 0 < m) :
    Y P (Like w) env ⟨dst, .load lt x, ty, pos, after, g⟩ (.agg (bA (l.take m))) := by
  obtain ⟨ad, rfl, hb, hcell⟩ := hr.rd.2 (by omega)
  have hl := hr.lenb
  have hr2 : Rs w m (some ad) 1 1 (bL (l.take m)) := ⟨⟨by simp; omega, fun _ => ⟨ad, rfl, hb, fun j u hj => hcell j u (by
    have e1 : bL (l.take m) = (bL l).take m := by simp [bL]
    rw [e1, List.getElem?_take] at hj
    split at hj
    · exact hj
    · cases hj)⟩⟩, Nat.le_refl _, by omega⟩
  have h := y_ldn (P := P) (env := env) (dst := dst) (ty := ty) (pos := pos) (after := after) (g := g) (x := x) (k := 0) ht rfl hsz (by rw [hx]; simp [pR, Addr.add]) hr2 (by omega)
  have e2 : ((bL (l.take m)).drop (0 * m)).take m = bL (l.take m) := by
    rw [Nat.zero_mul, List.drop_zero]
    exact List.take_of_length_le (by simp; omega)
  rw [e2] at h
  exact h
end
end Go.Proofs.Ytpcgldkllnkaeaa.Zx


/-
  Where each part of a base stands.
-/
namespace Go.Proofs.Ytpcgldkllnkaeaa
open Go.RowKit Zk Zx
set_option linter.unusedVariables false
set_option linter.unusedSimpArgs false
def nL (l : List Nat) : List Value := l.map fun (i : Nat) => Value.int .i64 (i : Int)
theorem nL_app (l m : List Nat) : nL (l ++ m) = nL l ++ nL m := by simp [nL]
theorem nL_one (l : List Nat) : ∀ u ∈ nL l, u.oneCell' = true := fun u hu => by
  obtain ⟨i, _, rfl⟩ := List.mem_map.1 hu
  rfl
theorem nL_len (l : List Nat) : (nL l).length = l.length := by simp [nL]
theorem nL_get {l : List Nat} {k v : Nat} (h : l[k]? = some v) : (nL l)[k]? = some (.int .i64 (v : Int)) := by simp [nL, h]
/-- The first six bytes from a place on. -/
def six (a : List UInt8) (i : Nat) : List UInt8 := (a.drop i).take 6
def posF (a : List UInt8) (k : Nat) (key : List UInt8) : List Nat := (List.range k).filter fun i => six a i == key
theorem posF_succ (a : List UInt8) (k : Nat) (key : List UInt8) : posF a (k + 1) key = posF a k key ++ (if six a k = key then [k] else []) := by
  unfold posF
  rw [List.range_succ, List.filter_append]
  congr 1
  by_cases h : six a k = key <;> simp [h]
theorem posF_lt {a : List UInt8} {k i : Nat} {key : List UInt8} (h : i ∈ posF a k key) : i < k := by
  have := (List.mem_filter.1 h).1
  simpa using this
theorem posF_len (a : List UInt8) (k : Nat) (key : List UInt8) : (posF a k key).length ≤ k := by
  unfold posF
  have := List.length_filter_le (fun i => six a i == key) (List.range k)
  simpa using this
/-- A key, and the slice of the places where it stands. -/
structure PE where
  k : List UInt8
  A : Option Addr
  n : Nat
  c : Nat
  xs : List Nat
def PE.ent (p : PE) : List UInt8 × Value := (p.k, .slice p.A p.n p.c)
def PE.row (p : PE) : Res := Zx.row 3 1 p.A p.n p.c (nL p.xs)
structure PI (a : List UInt8) (k : Nat) (pes : List PE) : Prop where
  each : ∀ p ∈ pes, p.xs = posF a k p.k
  nodup : (pes.map PE.k).Nodup
  all : ∀ i, i < k → six a i ∈ pes.map PE.k
theorem PI.start (a : List UInt8) : PI a 0 [] := ⟨fun p hp => (List.not_mem_nil hp).elim, List.Pairwise.nil, fun i h => by omega⟩
theorem ent_found {pes : List PE} {key : List UInt8} {i : Nat} {v : Value} (h : posB key (pes.map PE.ent) 0 = some (i, v)) : ∃ p, pes[i]? = some p ∧ p.k = key ∧ v = .slice p.A p.n p.c := by
  obtain ⟨_, h2⟩ := posB_some h
  rw [Nat.sub_zero, List.getElem?_map] at h2
  cases hp : pes[i]? with
  | none => rw [hp] at h2; cases h2
  | some p =>
    rw [hp] at h2
    have h3 := Option.some.inj h2
    exact ⟨p, rfl, congrArg Prod.fst h3, (congrArg Prod.snd h3).symm⟩
theorem ent_none {pes : List PE} {key : List UInt8} (h : posB key (pes.map PE.ent) 0 = none) : key ∉ pes.map PE.k := fun hm => by
  obtain ⟨p, hp, e⟩ := List.mem_map.1 hm
  exact posB_none h (PE.ent p) (List.mem_map.2 ⟨p, hp, rfl⟩) e
theorem PI.found {a : List UInt8} {k i : Nat} {pes : List PE} (h : PI a k pes) {p : PE} (hp : pes[i]? = some p) (hk : p.k = six a k) {q : PE} (hq : q.k = p.k) (hx : q.xs = p.xs ++ [k]) : PI a (k + 1) (pes.set i q) := by
  have hmap : (pes.set i q).map PE.k = pes.map PE.k := by
    rw [List.map_set, hq]
    have : (pes.map PE.k)[i]? = some p.k := by rw [List.getElem?_map, hp]; rfl
    obtain ⟨h1, h2⟩ := List.getElem?_eq_some_iff.1 this
    rw [← h2, List.set_getElem_self]
  have hil := (List.getElem?_eq_some_iff.1 hp).1
  refine ⟨fun r hr => ?_, by rw [hmap]; exact h.nodup, fun j hj => ?_⟩
  · obtain ⟨j, hj, rfl⟩ := List.getElem_of_mem hr
    rw [posF_succ]
    by_cases e : i = j
    · subst e
      rw [List.getElem_set_self, hx, if_pos (by rw [hq, hk]), hq, h.each p (List.mem_of_getElem? hp)]
    · rw [List.getElem_set_ne e]
      have hjl : j < pes.length := by rw [List.length_set] at hj; exact hj
      have hne : six a k ≠ (pes[j]'hjl).k := fun e2 => by
        have hnd := List.pairwise_iff_getElem.1 h.nodup
        have e3 : p.k = pes[j].k := hk.trans e2
        have hpi : pes[i] = p := by
          have := List.getElem?_eq_getElem hil
          rw [this] at hp
          exact Option.some.inj hp
        rcases Nat.lt_or_gt_of_ne e with q1 | q1
        · exact hnd i j (by rw [List.length_map]; exact hil) (by rw [List.length_map]; exact hjl) q1 (by rw [List.getElem_map, List.getElem_map, hpi]; exact e3)
        · exact hnd j i (by rw [List.length_map]; exact hjl) (by rw [List.length_map]; exact hil) q1 (by rw [List.getElem_map, List.getElem_map, hpi]; exact e3.symm)
      rw [if_neg hne, List.append_nil]
      exact h.each _ (List.getElem_mem hjl)
  · rw [hmap]
    rcases Nat.lt_or_ge j k with q1 | q1
    · exact h.all j q1
    · have e : j = k := by omega
      subst e
      rw [← hk]
      exact List.mem_map.2 ⟨p, List.mem_of_getElem? hp, rfl⟩
theorem PI.new {a : List UInt8} {k : Nat} {pes : List PE} (h : PI a k pes) (hk : six a k ∉ pes.map PE.k) {q : PE} (hq : q.k = six a k) (hx : q.xs = [k]) : PI a (k + 1) (pes ++ [q]) := by
  refine ⟨fun r hr => ?_, ?_, fun j hj => ?_⟩
  · rw [posF_succ]
    rcases List.mem_append.1 hr with hr | hr
    · have hne : six a k ≠ r.k := fun e => hk (by rw [e]; exact List.mem_map.2 ⟨r, hr, rfl⟩)
      rw [if_neg hne, List.append_nil]
      exact h.each r hr
    · obtain rfl := List.mem_singleton.1 hr
      rw [if_pos hq.symm, hx]
      have : posF a k r.k = [] := by
        rw [List.eq_nil_iff_forall_not_mem]
        intro i hi
        have h1 := posF_lt hi
        have h2 : six a i = r.k := by simpa using (List.mem_filter.1 hi).2
        exact hk (by rw [← hq, ← h2]; exact h.all i h1)
      rw [this]
      rfl
  · rw [List.map_append, List.map_cons, List.map_nil, List.nodup_append]
    refine ⟨h.nodup, by simp, fun x hx y hy => ?_⟩
    rw [List.mem_singleton.1 hy, hq]
    intro e
    exact hk (by rw [← e]; exact hx)
  · rw [List.map_append, List.mem_append]
    rcases Nat.lt_or_ge j k with q1 | q1
    · exact .inl (h.all j q1)
    · have e : j = k := by omega
      subst e
      exact .inr (by simp [hq])
theorem rows_at {pes : List PE} {i : Nat} {p : PE} (h : pes[i]? = some p) : pes.map PE.row = (pes.take i).map PE.row ++ p.row :: (pes.drop (i + 1)).map PE.row := by
  obtain ⟨h1, h2⟩ := List.getElem?_eq_some_iff.1 h
  rw [← h2, ← List.map_cons (f := PE.row), List.getElem_cons_drop, ← List.map_append, List.take_append_drop]
theorem rows_set {pes : List PE} {i : Nat} {q : PE} (h : i < pes.length) : (pes.take i).map PE.row ++ q.row :: (pes.drop (i + 1)).map PE.row = (pes.set i q).map PE.row := by
  rw [List.set_eq_take_append_cons_drop, if_pos h, List.map_append, List.map_cons]
theorem ents_set {pes : List PE} {i : Nat} {q : PE} : (pes.map PE.ent).set i (PE.ent q) = (pes.set i q).map PE.ent := by rw [List.map_set]
/-- What stands at a key. -/
theorem look_pes {a : List UInt8} {k : Nat} {pes : List PE} (h : PI a k pes) (key : List UInt8) {w : World} (hf : (fam (pes.map PE.row)).holds w) : ∃ A n c, getB key (pes.map PE.ent) (.slice none 0 0) = .slice A n c ∧ Rs w 1 A n c (nL (posF a k key)) := by
  unfold getB
  cases hp : posB key (pes.map PE.ent) 0 with
  | some x =>
    obtain ⟨i, v⟩ := x
    obtain ⟨p, h1, h2, h3⟩ := ent_found hp
    have hm := List.mem_of_getElem? h1
    refine ⟨p.A, p.n, p.c, h3, ?_⟩
    have h4 : p.row.holds w := hf.1 _ (List.mem_map.2 ⟨p, hm, rfl⟩)
    rw [← h2, ← h.each p hm]
    exact rs_of_row h4
  | none =>
    refine ⟨none, 0, 0, rfl, ?_⟩
    have : posF a k key = [] := by
      rw [List.eq_nil_iff_forall_not_mem]
      intro i hi
      have h1 := posF_lt hi
      have h2 : six a i = key := by simpa using (List.mem_filter.1 hi).2
      exact ent_none hp (by rw [← h2]; exact h.all i h1)
    rw [this]
    exact Rs.nil w 1
/-- One more place is looked at. -/
def stepB (a t : List UInt8) (s : Nat × Nat) (k : Nat) : Nat × Nat := if s.2 < comP (a.drop k) t then (k, comP (a.drop k) t) else s
/-- The longest part of a with which t begins, if it is of six bytes at least. -/
def bst (a t : List UInt8) : Nat × Nat := if t.length < 6 then (0, 0) else (posF a (a.length - 5) (t.take 6)).foldl (stepB a t) (0, 0)
theorem fold_bd {a t : List UInt8} : ∀ (xs : List Nat) (s : Nat × Nat), s.2 ≤ t.length ∧ s.1 + s.2 ≤ a.length → (xs.foldl (stepB a t) s).2 ≤ t.length ∧ (xs.foldl (stepB a t) s).1 + (xs.foldl (stepB a t) s).2 ≤ a.length
  | [], s, h => h
  | k :: xs, s, h => by
    refine fold_bd xs _ ?_
    unfold stepB
    split
    · rename_i hk
      have h1 := comP_le (a.drop k) t
      rw [List.length_drop] at h1
      refine ⟨h1.2, ?_⟩
      show k + comP (a.drop k) t ≤ a.length
      omega
    · exact h
theorem bst_bd (a t : List UInt8) : (bst a t).2 ≤ t.length ∧ (bst a t).1 + (bst a t).2 ≤ a.length := by
  unfold bst
  split
  · simp
  · exact fold_bd _ _ (by simp)
end Go.Proofs.Ytpcgldkllnkaeaa


/-
  places.
-/
namespace Go.Proofs.Ytpcgldkllnkaeaa
open Go.RowKit Zk Zx
set_option linter.unusedVariables false
set_option linter.unusedSimpArgs false

theorem six_len {a : List UInt8} {k : Nat} (h : k + 6 ≤ a.length) : (six a k).length = 6 := by unfold six; rw [List.length_take, List.length_drop]; omega
theorem cut_six {w : World} {A : Option Addr} {n c k : Nat} {a : List UInt8} (h : Rs w 1 A n c (bL a)) (hk : k + 6 ≤ n) : Rs w 1 (cutA A c k 1) (k + 6 - k) (c - k) (bL (six a k)) := by
  have h2 := h.cut (l := k) (u := k + 6) (by omega) hk
  have e : ((bL a).drop (k * 1)).take ((k + 6 - k) * 1) = bL (six a k) := by
    rw [Nat.mul_one, Nat.mul_one, show k + 6 - k = 6 by omega]
    simp [bL, six]
  rwa [e] at h2
theorem take_six (a : List UInt8) (k : Nat) (h : k + 6 ≤ a.length) : (six a k).take 6 = six a k := List.take_of_length_le (by rw [six_len h]; exact Nat.le_refl _)


set_option maxRecDepth 100000 in
theorem places (A : Option Addr) (n c : Nat) (a : List UInt8) (w0 : World) (ha : Rs w0 1 A n c (bL a)) (hmx : n ≤ 4000) :
    Calls Try.prog 39 #[.slice A n c] w0 fun e w' => ∃ u, e = .returned u ∧ Like w0 w' ∧ ∃ b pes, u = .map (some b) ∧ PI a (a.length - 5) pes ∧ St w0 noM [mapB 6 b (pes.map PE.ent), fam (pes.map PE.row)] w' := by
  refine enter1 (env := [(0, .slice A n c)]) [.slice A n c] Try.func39 rfl Try.ntmps39 rfl rfl ?_
  have hn := ha.lenb; have hcap := ha.cap; have hmax := ha.max; have S0 := St.start w0 noM
  refine T_seq fun K1 hK1 => ?_
  refine T_region ?_
  refine L_y (y_assign rfl) rfl ?_
  refine L_nil ?_
  refine hK1 _ _ ?_
  refine T_seq fun K2 hK2 => ?_
  refine T_region ?_
  refine L_o (o_makeMapB (n := 6) S0 rfl fun b1 w1 hb1 S1 => ?_)
  refine L_y (y_assign rfl) rfl ?_
  refine L_nil ?_
  refine hK2 _ _ ?_
  refine T_seq fun K3 hK3 => ?_
  refine T_seq fun K4 hK4 => ?_
  refine T_region ?_
  refine L_y (y_assign rfl) rfl ?_
  refine L_nil ?_
  refine hK4 _ _ ?_
  refine T_block ?_
  refine T_loop2 [(0, _), (3, _)] (fun (k : Nat) (pes : List PE) => [(4, .int .i64 (k : Int))]) (fun (k : Nat) (pes : List PE) => n - k) (fun (k : Nat) (pes : List PE) (w : World) => k ≤ n - 5 ∧ PI a k pes ∧ St w0 noM [mapB 6 b1 (pes.map PE.ent), fam (pes.map PE.row)] w) 0 [] (Sub.cons rfl (by first | rfl | exact congrArg (Value.int _) (by omega)) (Sub.nil _)) (Sub.cons rfl rfl (Sub.cons rfl rfl (Sub.nil _))) ?_ ?_
  ·
    have S9 := S1.fam0
    exact ⟨Nat.zero_le _, PI.start a, S9⟩
  ·
    intro k pes w2 hrel
    obtain ⟨hk, hpi0, S2⟩ := hrel
    refine T_seq fun K5 hK5 => ?_
    refine T_seq fun K6 hK6 => ?_
    refine T_region ?_
    refine L_y (y_move rfl) rfl ?_
    refine L_y (y_add rfl rfl (i64w (by omega))) rfl ?_
    refine L_y (y_move rfl) rfl ?_
    refine L_y (y_len Try.underlying22 rfl) rfl ?_
    refine L_y (y_leq rfl rfl) rfl ?_
    refine L_nil ?_
    refine hK6 _ _ ?_
    refine T_cond rfl (fun h11 => ?_) (fun h11 => ?_)
    ·
      refine T_skip ?_
      refine hK5 _ _ ?_
      refine T_seq fun K7 hK7 => ?_
      refine T_block ?_
      refine T_seq fun K8 hK8 => ?_
      refine T_region ?_
      refine L_y (y_move rfl) rfl ?_
      refine L_y (y_move rfl) rfl ?_
      refine L_y (y_move rfl) rfl ?_
      refine L_y (y_add rfl rfl (i64w (by omega))) rfl ?_
      refine L_y (y_slice Try.underlying22 sz5 rfl rfl rfl (Nt.mk (by omega) : Nt _ (k)) (Nt.mk (by omega) : Nt _ (k + 6)) (by omega) (by omega)) rfl ?_
      refine L_y (y_arrAt Try.underlying98 rfl (by omega)) rfl ?_
      refine L_y (y_ldArr Try.underlying98 sz98 rfl (cut_six (S2.rd ha) (by omega)) (by omega) (by omega)) rfl ?_
      refine L_o (o_alloc zz98 S2 rfl fun b3 w3 hb3 S3 => ?_)
      refine L_o (o_stW S3 2 rfl rfl rfl (by rw [size_bA, List.length_take, six_len (by omega)]; exact sz98) (by rw [size_bA, List.length_take, six_len (by omega)]; rfl) (bL_one _) fun w4 S4 => ?_)
      refine L_nil ?_
      refine hK8 _ _ ?_
      refine T_region ?_
      refine L_y (y_move rfl) rfl ?_
      refine L_y (y_ldW Try.underlying98 rfl sz98 rfl (S4.blk 2 rfl) (show _ = bL (six a k) ∧ _ from ⟨by rw [take_six a k (by omega)]; exact List.take_of_length_le (by show (bL (six a k)).length ≤ 6; rw [length_bL, six_len (by omega)]; exact Nat.le_refl _), by rw [length_bL, six_len (by omega)]⟩)) rfl ?_
      refine L_y (y_move rfl) rfl ?_
      refine L_o (o_bsl [_] te99 zz3 S4 rfl rfl rfl rfl rfl rfl rfl rfl fun b5 w5 S5 => ?_)
      refine L_o (o_entryB S5 0 rfl Try.underlying74 Try.underlying98 Try.underlying5 sz5 zz99 rfl rfl (six_len (by omega)) rfl (fun i6 v6 hp6 S6 => ?_) (fun hp6 w6 S6 => ?_))
      ·
        obtain ⟨p, hpi, hpk, rfl⟩ := ent_found hp6
        have hil := (List.getElem?_eq_some_iff.1 hpi).1
        have S91 := S6.famOutAt 1 rfl (rows_at hpi)
        have hpx := hpi0.each p (List.mem_of_getElem? hpi)
        have hpn : p.n = p.xs.length := by have := (S91.row 4 rfl).len; rw [nL_len] at this; omega
        have hpl := posF_len a k p.k
        rw [← hpx] at hpl
        refine L_y (y_extract rfl rfl) rfl ?_
        refine L_o (o_app te99 S91 4 rfl rfl rfl (by first | exact S91.fix 1 rfl | exact S91.row 3 rfl | exact S91.row 4 rfl) (nL_one [k]) rfl (by omega) (by omega) fun A7 c7 w7 S7 => ?_)
        have S7d := S7.drop (rs' := [_, _, _, _]) (.cons_cons _ (.cons_cons _ (.cons_cons _ (.cons _ (.refl _)))))
        refine L_y (y_extract rfl rfl) rfl ?_
        refine L_o (o_entryStB S7d 0 rfl (show (pes.map PE.ent)[i6]? = some (six a k, Value.slice p.A p.n p.c) from by rw [List.getElem?_map, hpi, ← hpk]; rfl) rfl rfl rfl fun w8 S8 => ?_)
        refine L_nil ?_
        refine hK7 _ _ ?_
        refine T_region ?_
        refine L_y (y_move rfl) rfl ?_
        refine L_y (y_add rfl rfl (i64w (by omega))) rfl ?_
        refine L_y (y_assign rfl) rfl ?_
        refine L_nil ?_
        have S92 := S8.sel [0, 1, 3] (by decide)
        have S93 := St.famInAt (rs := [mapB 6 b1 ((pes.map PE.ent).set i6 (six a k, Value.slice A7 (p.n + 1) c7)), fam ((pes.take i6).map PE.row ++ (pes.drop (i6 + 1)).map PE.row)]) (r := row 3 1 A7 (p.n + 1) c7 (nL p.xs ++ nL [k])) S92 1 rfl
        have e93 : (pes.map PE.ent).set i6 (six a k, Value.slice A7 (p.n + 1) c7) = (pes.set i6 (⟨p.k, A7, p.n + 1, c7, p.xs ++ [k]⟩ : PE)).map PE.ent := by rw [← ents_set]; unfold PE.ent; rw [hpk]
        have e94 : (pes.take i6).map PE.row ++ row 3 1 A7 (p.n + 1) c7 (nL p.xs ++ nL [k]) :: (pes.drop (i6 + 1)).map PE.row = (pes.set i6 (⟨p.k, A7, p.n + 1, c7, p.xs ++ [k]⟩ : PE)).map PE.row := by rw [← rows_set hil]; unfold PE.row; rw [nL_app]
        have S94 : St w0 noM [mapB 6 b1 ((pes.set i6 (⟨p.k, A7, p.n + 1, c7, p.xs ++ [k]⟩ : PE)).map PE.ent), fam ((pes.set i6 (⟨p.k, A7, p.n + 1, c7, p.xs ++ [k]⟩ : PE)).map PE.row)] w8 := by rw [← e93, ← e94]; exact S93
        refine ⟨k + 1, pes.set i6 (⟨p.k, A7, p.n + 1, c7, p.xs ++ [k]⟩ : PE), by omega, ⟨by omega, hpi0.found hpi hpk rfl rfl, S94⟩, ?_⟩
        exact (Sub.cons rfl (by first | rfl | exact congrArg (Value.int _) (by omega)) (Sub.cons rfl rfl (Sub.cons rfl rfl (Sub.nil _))))
      ·
        have S91 := S6.nilrow 3 1
        refine L_y (y_extract rfl rfl) rfl ?_
        refine L_o (o_app te99 S91 4 rfl rfl rfl (by first | exact S91.fix 1 rfl | exact S91.row 3 rfl | exact S91.row 4 rfl) (nL_one [k]) rfl (by omega) (by omega) fun A9 c9 w9 S9 => ?_)
        have S9d := S9.drop (rs' := [_, _, _, _]) (.cons_cons _ (.cons_cons _ (.cons_cons _ (.cons _ (.refl _)))))
        refine L_y (y_extract rfl rfl) rfl ?_
        refine L_o (o_entryStB S9d 0 rfl (show (pes.map PE.ent ++ [(six a k, Value.slice none 0 0)])[(pes.map PE.ent).length]? = some (six a k, Value.slice none 0 0) from List.getElem?_concat_length) rfl rfl rfl fun w10 S10 => ?_)
        refine L_nil ?_
        refine hK7 _ _ ?_
        refine T_region ?_
        refine L_y (y_move rfl) rfl ?_
        refine L_y (y_add rfl rfl (i64w (by omega))) rfl ?_
        refine L_y (y_assign rfl) rfl ?_
        refine L_nil ?_
        have S92 := S10.sel [0, 1, 3] (by decide)
        have S93 := St.famInAt (L1 := pes.map PE.row) (L2 := []) (rs := [mapB 6 b1 ((pes.map PE.ent ++ [(six a k, Value.slice none 0 0)]).set (pes.map PE.ent).length (six a k, Value.slice A9 (0 + 1) c9)), fam (pes.map PE.row ++ [])]) (r := row 3 1 A9 (0 + 1) c9 ([] ++ nL [k])) (by rw [List.append_nil]; exact S92) 1 rfl
        have e93 : (pes.map PE.ent ++ [(six a k, Value.slice none 0 0)]).set (pes.map PE.ent).length (six a k, Value.slice A9 (0 + 1) c9) = (pes ++ [(⟨six a k, A9, 1, c9, [k]⟩ : PE)]).map PE.ent := by rw [List.set_append_right _ _ (Nat.le_refl _), Nat.sub_self, List.map_append]; rfl
        have S94 : St w0 noM [mapB 6 b1 ((pes ++ [(⟨six a k, A9, 1, c9, [k]⟩ : PE)]).map PE.ent), fam ((pes ++ [(⟨six a k, A9, 1, c9, [k]⟩ : PE)]).map PE.row)] w10 := by rw [← e93, List.map_append]; exact S93
        refine ⟨k + 1, pes ++ [(⟨six a k, A9, 1, c9, [k]⟩ : PE)], by omega, ⟨by omega, hpi0.new (ent_none hp6) rfl rfl, S94⟩, ?_⟩
        exact (Sub.cons rfl (by first | rfl | exact congrArg (Value.int _) (by omega)) (Sub.cons rfl rfl (Sub.cons rfl rfl (Sub.nil _))))
    ·
      refine T_exit ?_
      refine hK3 _ _ ?_
      refine T_seq fun K9 hK9 => ?_
      refine T_region ?_
      refine L_y (y_move rfl) rfl ?_
      refine L_y (y_assign rfl) rfl ?_
      refine L_nil ?_
      refine hK9 _ _ ?_
      refine T_ret ?_
      refine ur ?_
      refine ret1 rfl rfl ?_
      have hke : k = a.length - 5 := by omega
      subst hke
      exact ⟨_, rfl, S2.like0, b1, pes, rfl, hpi0, S2⟩
end Go.Proofs.Ytpcgldkllnkaeaa


/-
  longest.
-/
namespace Go.Proofs.Ytpcgldkllnkaeaa
open Go.RowKit Zk Zx
set_option linter.unusedVariables false
set_option linter.unusedSimpArgs false

theorem take1 {α : Type} {l : List α} {k : Nat} {x : α} (hx : l[k]? = some x) : l.take (k + 1) = l.take k ++ [x] := by rw [List.take_add_one, hx]; rfl
theorem cut_tail {w : World} {A : Option Addr} {n c k : Nat} {a : List UInt8} (h : Rs w 1 A n c (bL a)) (hk : k ≤ n) : Rs w 1 (cutA A c k 1) (n - k) (c - k) (bL (a.drop k)) := by
  have hl := h.lenb
  have h2 := h.cut (l := k) (u := n) hk (Nat.le_refl _)
  have e : ((bL a).drop (k * 1)).take ((n - k) * 1) = bL (a.drop k) := by
    rw [Nat.mul_one, Nat.mul_one]
    have e2 : (bL a).drop k = bL (a.drop k) := by simp [bL]
    rw [e2]
    exact List.take_of_length_le (by simp; omega)
  rwa [e] at h2
theorem cut_mid {w : World} {A : Option Addr} {n c k u : Nat} {a : List UInt8} (h : Rs w 1 A n c (bL a)) (hk : k ≤ u) (hu : u ≤ n) : Rs w 1 (cutA A c k 1) (u - k) (c - k) (bL ((a.drop k).take (u - k))) := by
  have h2 := h.cut (l := k) (u := u) hk hu
  have e : ((bL a).drop (k * 1)).take ((u - k) * 1) = bL ((a.drop k).take (u - k)) := by
    rw [Nat.mul_one, Nat.mul_one]
    simp [bL]
  rwa [e] at h2
theorem six0 (t : List UInt8) : (six t 0).take 6 = t.take 6 := by unfold six; rw [List.drop_zero, List.take_take, Nat.min_self]


set_option maxRecDepth 100000 in
theorem longest (A B : Option Addr) (n c m d b : Nat) (a t : List UInt8) (pes : List PE) (w0 : World) (ha : Rs w0 1 A n c (bL a)) (ht : Rs w0 1 B m d (bL t)) (hmx : n ≤ 4000) (hmt : m ≤ 4000) (hm : (mapB 6 b (pes.map PE.ent)).holds w0) (hmd : ∀ i, i = b → i < w0.heap.size) (hf : (fam (pes.map PE.row)).holds w0) (hpi : PI a (a.length - 5) pes) :
    Calls Try.prog 42 #[.slice A n c, .map (some b), .slice B m d] w0 fun e w' => ∃ u, e = .returned u ∧ Like w0 w' ∧ u = .tuple #[.int .i64 ((bst a t).1 : Int), .int .i64 ((bst a t).2 : Int)] := by
  refine enter1 (env := [(0, .slice A n c), (1, .map (some b)), (2, .slice B m d)]) [.slice A n c, .map (some b), .slice B m d] Try.func42 rfl Try.ntmps42 rfl rfl ?_
  have hn := ha.lenb; have hcap := ha.cap; have hmax := ha.max; have hmn := ht.lenb; have hcap2 := ht.cap; have hmax2 := ht.max; have S0 := St.start w0 noM
  refine T_seq fun K1 hK1 => ?_
  refine T_region ?_
  refine L_y (y_assign rfl) rfl ?_
  refine L_y (y_assign rfl) rfl ?_
  refine L_nil ?_
  refine hK1 _ _ ?_
  refine T_seq fun K2 hK2 => ?_
  refine T_seq fun K3 hK3 => ?_
  refine T_region ?_
  refine L_y (y_move rfl) rfl ?_
  refine L_y (y_len Try.underlying22 rfl) rfl ?_
  refine L_y (y_lss rfl rfl) rfl ?_
  refine L_nil ?_
  refine hK3 _ _ ?_
  refine T_cond rfl (fun h15 => ?_) (fun h15 => ?_)
  ·
    refine T_seq fun K4 hK4 => ?_
    refine T_region ?_
    refine L_y (y_assign rfl) rfl ?_
    refine L_y (y_assign rfl) rfl ?_
    refine L_nil ?_
    refine hK4 _ _ ?_
    refine T_ret ?_
    refine ur ?_
    refine ret2 rfl rfl rfl ?_
    first | exact ⟨_, rfl, S0.like0, by unfold bst; rw [if_pos (by omega)]; rfl⟩ | exact ⟨_, rfl, S0.like0, by unfold bst; rw [if_neg (by omega), hs, List.take_of_length_le (by omega)]⟩
  ·
    refine T_skip ?_
    refine hK2 _ _ ?_
    refine T_seq fun K5 hK5 => ?_
    refine T_region ?_
    refine L_y (y_assign rfl) rfl ?_
    refine L_y (y_assign rfl) rfl ?_
    refine L_nil ?_
    refine hK5 _ _ ?_
    refine T_seq fun K6 hK6 => ?_
    refine T_seq fun K7 hK7 => ?_
    refine T_region ?_
    refine L_y (y_move rfl) rfl ?_
    refine L_y (y_move rfl) rfl ?_
    refine L_y (y_sliceH Try.underlying22 sz5 rfl rfl (Nt.mk rfl : Nt _ 6) (by omega)) rfl ?_
    refine L_y (y_arrAt Try.underlying98 rfl (Nat.le_refl 6)) rfl ?_
    refine L_y (y_ldArr Try.underlying98 sz98 rfl (cut_six (S0.rd ht) (by omega)) (Nat.le_refl 6) (by omega)) rfl ?_
    obtain ⟨X, xn, xc, hg, hX⟩ := look_pes hpi ((six t 0).take 6) hf
    rw [six0] at hX
    have hxl : xn = (posF a (a.length - 5) (t.take 6)).length := by have := hX.len; rw [nL_len] at this; omega
    have hxc := hX.cap; have hxm := hX.max; have hpl := posF_len a (a.length - 5) (t.take 6)
    refine L_y ((show Y Try.prog _ _ _ (Value.slice X xn xc) from by rw [← hg]; exact y_lookB (S0.keepM hm hmd (fun _ _ h => h)) Try.underlying74 Try.underlying98 Try.underlying5 sz5 zz99 rfl rfl (by rw [six0, List.length_take]; omega))) rfl ?_
    refine L_y (y_len Try.underlying99 rfl) rfl ?_
    refine L_y (y_move rfl) rfl ?_
    refine L_nil ?_
    refine hK7 _ _ ?_
    refine T_block ?_
    refine T_loop2 [(0, _), (2, _), (21, _), (22, _)] (fun (q : Nat) (s : Nat × Nat) => [(23, .int .i64 (q : Int)), (8, .int .i64 (s.1 : Int)), (9, .int .i64 (s.2 : Int))]) (fun (q : Nat) (s : Nat × Nat) => xn - q) (fun (q : Nat) (s : Nat × Nat) (w : World) => (q ≤ xn ∧ s = ((posF a (a.length - 5) (t.take 6)).take q).foldl (stepB a t) (0, 0)) ∧ St w0 noM [] w) 0 (0, 0) (Sub.cons rfl (by first | rfl | exact congrArg (Value.int _) (by omega)) (Sub.cons rfl (by first | rfl | exact congrArg (Value.int _) (by omega)) (Sub.cons rfl (by first | rfl | exact congrArg (Value.int _) (by omega)) (Sub.nil _)))) (Sub.cons rfl rfl (Sub.cons rfl rfl (Sub.cons rfl rfl (Sub.cons rfl rfl (Sub.nil _))))) ?_ ?_
    ·
      exact ⟨⟨Nat.zero_le _, rfl⟩, S0⟩
    ·
      intro q s w1 hrel
      obtain ⟨⟨hq, hs⟩, S1⟩ := hrel
      refine T_seq fun K8 hK8 => ?_
      refine T_region ?_
      refine L_y (y_lss rfl rfl) rfl ?_
      refine L_nil ?_
      refine hK8 _ _ ?_
      refine T_seq fun K9 hK9 => ?_
      refine T_cond rfl (fun h24 => ?_) (fun h24 => ?_)
      ·
        obtain ⟨v, hv⟩ : ∃ v, (posF a (a.length - 5) (t.take 6))[q]? = some v := ⟨_, List.getElem?_eq_getElem (by omega)⟩
        have hvl := posF_lt (List.mem_of_getElem? hv)
        refine T_skip ?_
        refine hK9 _ _ ?_
        refine T_seq fun K10 hK10 => ?_
        refine T_block ?_
        refine T_seq fun K11 hK11 => ?_
        refine T_region ?_
        refine L_y (y_idx Try.underlying99 sz3 rfl rfl (S1.rd hX) (Nt.mk (by omega) : Nt _ (q)) (by omega)) rfl ?_
        refine L_y (y_ldr Try.underlying3 rfl rfl (S1.rd hX) (nL_get hv)) rfl ?_
        refine L_y (y_assign rfl) rfl ?_
        refine L_nil ?_
        refine hK11 _ _ ?_
        refine T_seq fun K12 hK12 => ?_
        refine T_region ?_
        refine L_y (y_move rfl) rfl ?_
        refine L_y (y_move rfl) rfl ?_
        refine L_y (y_sliceL Try.underlying22 sz5 rfl rfl (Nt.mk (by omega) : Nt _ (v)) (by omega)) rfl ?_
        refine L_y (y_move rfl) rfl ?_
        refine L_o (o_call Try.func53 rfl rfl (palike (cutA A c v 1) B (n - v) (c - v) m d (a.drop v) t w1 (cut_tail (S1.rd ha) (by omega)) (S1.rd ht)) rfl rfl ?_)
        rintro e2 w2 ⟨v2, rfl, l2, rfl⟩
        refine ⟨_, rfl, ?_⟩
        have S2 := S1.like l2
        refine L_y (y_assign rfl) rfl ?_
        refine L_nil ?_
        refine hK12 _ _ ?_
        refine T_seq fun K13 hK13 => ?_
        refine T_region ?_
        refine L_y (y_move rfl) rfl ?_
        refine L_y (y_move rfl) rfl ?_
        refine L_y (y_gtr rfl rfl) rfl ?_
        refine L_nil ?_
        refine hK13 _ _ ?_
        refine T_cond rfl (fun h34 => ?_) (fun h34 => ?_)
        ·
          refine T_region ?_
          refine L_y (y_move rfl) rfl ?_
          refine L_y (y_move rfl) rfl ?_
          refine L_y (y_assign rfl) rfl ?_
          refine L_y (y_assign rfl) rfl ?_
          refine L_nil ?_
          refine hK10 _ _ ?_
          refine T_region ?_
          refine L_y (y_add rfl rfl (i64w (by omega))) rfl ?_
          refine L_y (y_move rfl) rfl ?_
          refine L_nil ?_
          refine ⟨q + 1, stepB a t s v, by omega, ⟨⟨by omega, by rw [take1 hv, List.foldl_append, ← hs]; rfl⟩, S2⟩, ?_⟩
          exact (Sub.cons rfl (by first | rfl | exact congrArg (Value.int _) (by omega)) (Sub.cons rfl (by first | rfl | (unfold stepB; rw [if_pos (by omega)]) | (unfold stepB; rw [if_neg (by omega)])) (Sub.cons rfl (by first | rfl | (unfold stepB; rw [if_pos (by omega)]) | (unfold stepB; rw [if_neg (by omega)])) (Sub.cons rfl rfl (Sub.cons rfl rfl (Sub.cons rfl rfl (Sub.cons rfl rfl (Sub.nil _))))))))
        ·
          refine T_skip ?_
          refine hK10 _ _ ?_
          refine T_region ?_
          refine L_y (y_add rfl rfl (i64w (by omega))) rfl ?_
          refine L_y (y_move rfl) rfl ?_
          refine L_nil ?_
          refine ⟨q + 1, stepB a t s v, by omega, ⟨⟨by omega, by rw [take1 hv, List.foldl_append, ← hs]; rfl⟩, S2⟩, ?_⟩
          exact (Sub.cons rfl (by first | rfl | exact congrArg (Value.int _) (by omega)) (Sub.cons rfl (by first | rfl | (unfold stepB; rw [if_pos (by omega)]) | (unfold stepB; rw [if_neg (by omega)])) (Sub.cons rfl (by first | rfl | (unfold stepB; rw [if_pos (by omega)]) | (unfold stepB; rw [if_neg (by omega)])) (Sub.cons rfl rfl (Sub.cons rfl rfl (Sub.cons rfl rfl (Sub.cons rfl rfl (Sub.nil _))))))))
      ·
        refine T_exit ?_
        refine hK6 _ _ ?_
        refine T_seq fun K14 hK14 => ?_
        refine T_region ?_
        refine L_y (y_move rfl) rfl ?_
        refine L_y (y_move rfl) rfl ?_
        refine L_y (y_assign rfl) rfl ?_
        refine L_y (y_assign rfl) rfl ?_
        refine L_nil ?_
        refine hK14 _ _ ?_
        refine T_ret ?_
        refine ur ?_
        refine ret2 rfl rfl rfl ?_
        first | exact ⟨_, rfl, S1.like0, by unfold bst; rw [if_pos (by omega)]; rfl⟩ | exact ⟨_, rfl, S1.like0, by unfold bst; rw [if_neg (by omega), hs, List.take_of_length_le (by omega)]⟩
end Go.Proofs.Ytpcgldkllnkaeaa


/-
  Make: flush.
-/
namespace Go.Proofs.Ytpcgldkllnkaeaa
open Go.RowKit Zk Zx
set_option linter.unusedVariables false
set_option linter.unusedSimpArgs false

theorem Zx.St.rdBM {w0 w : World} {M : Nat → Prop} {rs : List Res} (S : St w0 M rs w) {g t : Nat} {cs : Array Value} (h : Blk w0 g t cs) (hM : ¬ M g) : Blk w g t cs := (S.old g h.lt hM).trans h
/-- A script that is being made: its block, its ops, their bytes. -/
def scr (b : Nat) (x y : Int) (A : Option Addr) (n c : Nat) (ops : List OP) (ps : List Part) : Res := sep (blk b 25 (scA x y A n c)) (sep (row 57 4 A n c (ops.flatMap opf)) (fam (ps.map partR)))
def InP (ops : List OP) (ps : List Part) : Prop := ∀ o ∈ ops, o.p = p0 ∨ o.p ∈ ps
theorem scA_set (x y : Int) (A : Option Addr) (n c : Nat) (A' : Option Addr) (n' c' : Nat) : (scA x y A n c).setIfInBounds 2 (.slice A' n' c') = scA x y A' n' c' := by simp [scA]
/-- New bytes, if there are any. -/
def fl (t : List UInt8) (s e : Nat) : List OV := if s < e then [⟨false, 0, 0, (t.drop s).take (e - s)⟩] else []
theorem InP.add {ops : List OP} {ps : List Part} (h : InP ops ps) {o : OP} : InP (ops ++ [o]) (ps ++ [o.p]) := fun q hq => by
  rcases List.mem_append.1 hq with hq | hq
  · rcases h q hq with h1 | h1
    · exact .inl h1
    · exact .inr (List.mem_append_left _ h1)
  · obtain rfl := List.mem_singleton.1 hq
    exact .inr (List.mem_append_right _ (List.mem_singleton.2 rfl))
theorem InP.add0 {ops : List OP} {ps : List Part} (h : InP ops ps) {o : OP} (ho : o.p = p0) : InP (ops ++ [o]) ps := fun q hq => by
  rcases List.mem_append.1 hq with hq | hq
  · exact h q hq
  · obtain rfl := List.mem_singleton.1 hq
    exact .inl ho
theorem famAdd {w0 w : World} {M : Nat → Prop} {rs : List Res} {ps : List Part} {p : Part} (S : St w0 M (rs ++ [partR p]) w) (k : Nat) (hk : rs[k]? = some (fam (ps.map partR))) : St w0 M (rs.set k (fam ((ps ++ [p]).map partR))) w := by
  have h := St.famInAt (L1 := ps.map partR) (L2 := []) S k (by rw [List.append_nil]; exact hk)
  rw [List.map_append]
  exact h


theorem fin_scr {w0 w : World} {r : Res} {b : Nat} {x y : Int} {A : Option Addr} {n' c : Nat} {xs : List Value} {ops : List OP} {ps : List Part} (S : St w0 r.dom [blk b 25 (scA x y A n' c), row 57 4 A n' c xs, fam (ps.map partR)] w) (hn : n' = ops.length) (hx : xs = ops.flatMap opf) : Turned w0 w r (scr b x y A ops.length c ops ps) := by
  subst hn; subst hx
  have S1 := St.sepj (rs := [blk b 25 (scA x y A ops.length c)]) S
  have S2 := St.sepj (rs := []) S1
  exact S2.turned1 0 rfl
theorem open_scr {w : World} {b : Nat} {x y : Int} {A : Option Addr} {n c : Nat} {ops : List OP} {ps : List Part} (h : (scr b x y A n c ops ps).holds w) (hd : ∀ i, (scr b x y A n c ops ps).dom i → i < w.heap.size) : St w (scr b x y A n c ops ps).dom [blk b 25 (scA x y A n c), row 57 4 A n c (ops.flatMap opf), fam (ps.map partR)] w :=
  St.seps (rs := [blk b 25 (scA x y A n c)]) (St.seps (rs := []) (St.borrow1 _ h hd))


set_option maxRecDepth 100000 in
theorem flush (e0 s0 b8 b6 b3 : Nat) (x y : Int) (A B : Option Addr) (c m d : Nat) (ops : List OP) (ps : List Part) (t : List UInt8) (w0 : World) (hw : (scr b6 x y A ops.length c ops ps).holds w0) (hd : ∀ i, (scr b6 x y A ops.length c ops ps).dom i → i < w0.heap.size) (h8 : Blk w0 b8 3 #[.int .i64 (s0 : Int)]) (h8M : ¬ (scr b6 x y A ops.length c ops ps).dom b8) (h3 : Blk w0 b3 22 #[.slice B m d]) (h3M : ¬ (scr b6 x y A ops.length c ops ps).dom b3) (ht : Rs w0 1 B m d (bL t)) (htM : ∀ ad, 0 < m → B = some ad → ¬ (scr b6 x y A ops.length c ops ps).dom ad.block) (hmt : m ≤ 4000) (he : e0 ≤ m) (hin : InP ops ps) (hol : ops.length ≤ 100000) :
    Calls Try.prog 40 #[.int .i64 (e0 : Int), .pointer (some ⟨b8, 0, none⟩), .pointer (some ⟨b6, 0, none⟩), .pointer (some ⟨b3, 0, none⟩)] w0 fun e w' => ∃ u, e = .returned u ∧ ∃ A' c' ops' ps', ops'.map OP.v = ops.map OP.v ++ fl t s0 e0 ∧ ops'.length ≤ ops.length + 1 ∧ InP ops' ps' ∧ Turned w0 w' (scr b6 x y A ops.length c ops ps) (scr b6 x y A' ops'.length c' ops' ps') := by
  refine enter1 (env := [(0, .int .i64 (e0 : Int)), (1, .pointer (some ⟨b8, 0, none⟩)), (2, .pointer (some ⟨b6, 0, none⟩)), (3, .pointer (some ⟨b3, 0, none⟩))]) [.int .i64 (e0 : Int), .pointer (some ⟨b8, 0, none⟩), .pointer (some ⟨b6, 0, none⟩), .pointer (some ⟨b3, 0, none⟩)] Try.func40 rfl Try.ntmps40 rfl rfl ?_
  have hmn := ht.lenb; have hcap2 := ht.cap; have hmax2 := ht.max; have S0 := open_scr hw hd; have hrc := (S0.row 1 rfl).cap; have hrm := (S0.row 1 rfl).max
  refine T_seq fun K1 hK1 => ?_
  refine T_region ?_
  refine L_y (y_move rfl) rfl ?_
  refine L_y (y_ldc Try.underlying3 rfl rfl (((S0.rdBM h8 h8M).cell _).trans (by rfl))) rfl ?_
  refine L_y (y_gtr rfl rfl) rfl ?_
  refine L_nil ?_
  refine hK1 _ _ ?_
  refine T_cond rfl (fun h7 => ?_) (fun h7 => ?_)
  ·
    refine T_zed [0, 1, 2, 3, 4, 5, 6, 7, 8] 9 [(0, 1), (1, 1), (2, 1), (3, 1), (4, 1), (5, 1), (6, 2), (7, 1), (8, 2), (9, 3), (10, 3), (11, 3)] hmix (by kernel_rfl) fun w1 l1 => ?_
    have S1 := S0.like l1
    refine ZA_B (Like w1) (Like.refl _) ?_
    refine ZB_y rfl (y_fieldA 2 Try.underlying25 rfl sz23 rfl rfl rfl) rfl ?_
    refine ZB_y rfl (y_ldc Try.underlying23 rfl rfl (((S1.blk 0 rfl).cell _).trans (by rfl))) rfl ?_
    refine ZB_y rfl (y_ldc Try.underlying22 rfl rfl (((S1.rdBM h3 h3M).cell _).trans (by rfl))) rfl ?_
    refine ZB_y rfl (y_ldc Try.underlying3 rfl rfl (((S1.rdBM h8 h8M).cell _).trans (by rfl))) rfl ?_
    refine ZB_y rfl (y_move rfl) rfl ?_
    refine ZB_y rfl (y_slice Try.underlying22 sz5 rfl rfl rfl (Nt.mk (by omega) : Nt _ (s0)) (Nt.mk (by omega) : Nt _ (e0)) (by omega) (by omega)) rfl ?_
    refine ZB_o rfl (o_call Try.func41 rfl rfl (bclone (cutA B d s0 1) (e0 - s0) (d - s0) ((t.drop s0).take (e0 - s0)) w1 (cut_mid (S1.rdM ht htM) (by omega) (by omega)) (by omega)) rfl rfl ?_)
    rintro e2 w2 ⟨v2, rfl, l2, A14, c14, rfl, O2⟩
    refine ⟨_, rfl, l2, ?_⟩
    have S2 := S1.adopt l2 O2
    have q2 := l2
    refine ZB_y rfl (y_build rfl (show _ = some #[Value.bool false, Value.int .i64 0, Value.int .i64 0, Value.slice A14 (e0 - s0) c14] by kernel_rfl)) rfl ?_
    refine ZB_o rfl (o_bslL [_, _, _, _] te23 zz57 S2 rfl rfl rfl rfl rfl rfl rfl rfl fun b3 w3 l3 S3 => ?_)
    have q3 := Like.trans q2 l3
    refine ⟨q3, ?_⟩
    refine ZB_c rfl (o_app te23 S3 1 rfl rfl rfl (by first | exact S3.row 1 rfl | exact S3.fix 2 rfl | exact S3.row 3 rfl | exact S3.row 4 rfl) (fun u hu => opf_one ⟨false, 0, 0, ⟨A14, e0 - s0, c14, []⟩⟩ u hu) rfl (by omega) (by omega) fun A4 c4 w4 S4 => ?_)
    have S4d := S4.drop (rs' := [_, _, _, _]) (.cons_cons _ (.cons_cons _ (.cons_cons _ (.cons_cons _ (.cons _ (.refl _))))))
    refine ZA_oy rfl (y_fieldA 2 Try.underlying25 rfl sz23 rfl rfl rfl) rfl ?_
    refine ZA_o rfl (o_st1 S4d 0 rfl rfl rfl rfl sz23 (by show 2 < 3; decide) fun w5 S5 => ?_)
    refine ZA_nil ?_
    first | refine end0 (fn := Try.f40) rfl ?_ | (simp only [thenQ, inB, if_true]; refine end0 (fn := Try.f40) rfl ?_)
    have S90 := S5.blkc 0 rfl (scA_set x y A ops.length c A4 (ops.length + 1) c4)
    have S91 := S90.still 3 rfl
    have S92 := famAdd (rs := [_, _, fam (ps.map partR)]) (ps := ps) (p := ⟨A14, e0 - s0, c14, (t.drop s0).take (e0 - s0)⟩) (S91.sel [0, 1, 2, 3] (by decide)) 2 rfl
    exact ⟨_, rfl, _, _, ops ++ [⟨false, 0, 0, ⟨A14, e0 - s0, c14, (t.drop s0).take (e0 - s0)⟩⟩], _, by rw [List.map_append]; unfold fl; rw [if_pos (by omega)]; rfl, by rw [List.length_append]; exact Nat.le_refl _, hin.add (o := ⟨false, 0, 0, ⟨A14, e0 - s0, c14, (t.drop s0).take (e0 - s0)⟩⟩), fin_scr (A := A4) (n' := ops.length + 1) (c := c4) (xs := ops.flatMap opf ++ opf ⟨false, 0, 0, ⟨A14, e0 - s0, c14, []⟩⟩) (ps := ps ++ [(⟨A14, e0 - s0, c14, (t.drop s0).take (e0 - s0)⟩ : Part)]) S92 (by rw [List.length_append]; rfl) (by rw [List.flatMap_append]; rfl)⟩
  ·
    refine T_skip ?_
    first | refine end0 (fn := Try.f40) rfl ?_ | (simp only [thenQ, inB, if_true]; refine end0 (fn := Try.f40) rfl ?_)
    exact ⟨_, rfl, A, c, ops, ps, by unfold fl; rw [if_neg (by omega), List.append_nil], Nat.le_succ _, hin, fin_scr S0 rfl rfl⟩
end Go.Proofs.Ytpcgldkllnkaeaa


/-
  Make.
-/
namespace Go.Proofs.Ytpcgldkllnkaeaa
open Go.RowKit Zk Zx
set_option linter.unusedVariables false
set_option linter.unusedSimpArgs false

/-- What a callee made. -/
theorem Zx.St.adoptS {w0 w w' : World} {M : Nat → Prop} {rs qs : List Res} (S : St w0 M rs w) (T : St w noM qs w') : St w0 M (rs ++ qs) w' := by
  refine ⟨T.os.trans S.os, T.tape.trans S.tape, T.output.trans S.output, Nat.le_trans S.size T.size, fun i hi hM => (T.old i (Nat.lt_of_lt_of_le hi S.size) (fun h => h)).trans (S.old i hi hM), fun r hr => ?_, ?_⟩
  · rcases List.mem_append.1 hr with hr | hr
    · obtain ⟨h1, h2⟩ := S.res r hr
      exact ⟨r.stable w w' (fun i hi => T.old i (h2 i hi).1 (fun h => h)) h1, fun i hi => ⟨Nat.lt_of_lt_of_le (h2 i hi).1 T.size, (h2 i hi).2⟩⟩
    · obtain ⟨h1, h2⟩ := T.res r hr
      exact ⟨h1, fun i hi => ⟨(h2 i hi).1, .inl (by
        rcases (h2 i hi).2 with h | h
        · exact Nat.le_trans S.size h
        · exact h.elim)⟩⟩
  · rw [List.pairwise_append]
    refine ⟨S.apart, T.apart, fun a ha b hb i hi hbi => ?_⟩
    have h1 := ((S.res a ha).2 i hi).1
    rcases ((T.res b hb).2 i hbi).2 with h | h
    · omega
    · exact h
section
variable {w0 w w' : World} {M : Nat → Prop} {rs : List Res} {b : Nat} {x y : Int} {A A' : Option Addr} {n n' c c' : Nat} {ops ops' : List OP} {ps ps' : List Part}
theorem packScr (S : St w0 M (rs ++ [blk b 25 (scA x y A n c), row 57 4 A n c (ops.flatMap opf), fam (ps.map partR)]) w) : St w0 M (rs ++ [scr b x y A n c ops ps]) w := by
  have S1 := St.sepj (rs := rs ++ [blk b 25 (scA x y A n c)]) (r := row 57 4 A n c (ops.flatMap opf)) (s := fam (ps.map partR)) (by simpa using S)
  exact St.sepj (rs := rs) (by simpa using S1)
theorem unpackScr (S : St w0 M (rs ++ [scr b x y A n c ops ps]) w) : St w0 M (rs ++ [blk b 25 (scA x y A n c), row 57 4 A n c (ops.flatMap opf), fam (ps.map partR)]) w := by
  have S1 := St.seps (rs := rs) S
  have S2 := St.seps (rs := rs ++ [blk b 25 (scA x y A n c)]) (r := row 57 4 A n c (ops.flatMap opf)) (s := fam (ps.map partR)) (by simpa using S1)
  simpa using S2
theorem flushScr (S : St w0 M (rs ++ [blk b 25 (scA x y A n c), row 57 4 A n c (ops.flatMap opf), fam (ps.map partR)]) w) (T : Turned w w' (scr b x y A n c ops ps) (scr b x y A' n' c' ops' ps')) :
    St w0 M (rs ++ [blk b 25 (scA x y A' n' c'), row 57 4 A' n' c' (ops'.flatMap opf), fam (ps'.map partR)]) w' := by
  have S1 := (packScr S).turn rs.length (by simp) T
  refine unpackScr ?_
  simpa using S1
theorem holdScr (S : St w0 M (rs ++ [blk b 25 (scA x y A n c), row 57 4 A n c (ops.flatMap opf), fam (ps.map partR)]) w) :
    (scr b x y A n c ops ps).holds w ∧ (∀ i, (scr b x y A n c ops ps).dom i → i < w.heap.size) ∧ (∀ r ∈ rs, ∀ i, r.dom i → ¬ (scr b x y A n c ops ps).dom i) ∧ (∀ i, i < w0.heap.size → ¬ M i → ¬ (scr b x y A n c ops ps).dom i) := by
  have S1 := packScr S
  obtain ⟨h1, h2⟩ := S1.res (scr b x y A n c ops ps) (by simp)
  have hap := S1.apart
  rw [List.pairwise_append] at hap
  refine ⟨h1, fun i hi => (h2 i hi).1, fun r hr i hi => hap.2.2 r hr _ (by simp) i hi, fun i hi hM hd => ?_⟩
  rcases (h2 i hd).2 with h | h
  · omega
  · exact hM h
end
theorem scA_one (x y : Int) (A : Option Addr) (n c : Nat) : ∀ u ∈ (scA x y A n c).toList, u.oneCell' = true := fun u hu => by
  have : u ∈ [Value.int .i64 x, .int .i64 y, .slice A n c] := hu
  simp only [List.mem_cons, List.not_mem_nil, or_false] at this
  rcases this with rfl | rfl | rfl <;> rfl
/-- The ops that are still to come. -/
def mkR (a t : List UInt8) : Nat → Nat → Nat → List OV
  | 0, _, since => fl t since t.length
  | f + 1, at_, since => if at_ < t.length then (if (bst a (t.drop at_)).2 = 0 then mkR a t f (at_ + 1) since else fl t since at_ ++ [⟨true, ((bst a (t.drop at_)).1 : Int), ((bst a (t.drop at_)).2 : Int), []⟩] ++ mkR a t f (at_ + (bst a (t.drop at_)).2) (at_ + (bst a (t.drop at_)).2)) else fl t since t.length
/-- The script that makes t of a. -/
def mkV (a t : List UInt8) : List OV := mkR a t t.length 0 0
theorem mkR_end {a t : List UInt8} {f k s : Nat} (h : t.length ≤ k) : mkR a t f k s = fl t s t.length := by
  cases f with
  | zero => rfl
  | succ f => unfold mkR; rw [if_neg (by omega)]
theorem mkR_zero {a t : List UInt8} {f k s : Nat} (h : k < t.length) (h0 : (bst a (t.drop k)).2 = 0) : mkR a t (f + 1) k s = mkR a t f (k + 1) s := by
  conv => lhs; unfold mkR
  rw [if_pos h, if_pos h0]
theorem mkR_copy {a t : List UInt8} {f k s : Nat} (h : k < t.length) (h0 : (bst a (t.drop k)).2 ≠ 0) : mkR a t (f + 1) k s = fl t s k ++ [⟨true, ((bst a (t.drop k)).1 : Int), ((bst a (t.drop k)).2 : Int), []⟩] ++ mkR a t f (k + (bst a (t.drop k)).2) (k + (bst a (t.drop k)).2) := by
  conv => lhs; unfold mkR
  rw [if_pos h, if_neg h0]
/-- So far made, with what is to come, is all. -/
def MKI (a t : List UInt8) (k s : Nat) (ops : List OP) : Prop := ∃ f, t.length - k ≤ f ∧ ops.map OP.v ++ mkR a t f k s = mkV a t
theorem MKI.start (a t : List UInt8) : MKI a t 0 0 [] := ⟨t.length, by omega, rfl⟩
theorem MKI.zero {a t : List UInt8} {k s : Nat} {ops : List OP} (h : MKI a t k s ops) (hk : k < t.length) (h0 : (bst a (t.drop k)).2 = 0) : MKI a t (k + 1) s ops := by
  obtain ⟨f, h1, h2⟩ := h
  obtain ⟨g, rfl⟩ : ∃ g, f = g + 1 := ⟨f - 1, by omega⟩
  rw [mkR_zero hk h0] at h2
  exact ⟨g, by omega, h2⟩
theorem MKI.copy {a t : List UInt8} {k s : Nat} {ops ops' : List OP} (h : MKI a t k s ops) (hk : k < t.length) (h0 : (bst a (t.drop k)).2 ≠ 0) (ho : ops'.map OP.v = ops.map OP.v ++ fl t s k ++ [⟨true, ((bst a (t.drop k)).1 : Int), ((bst a (t.drop k)).2 : Int), []⟩]) :
    MKI a t (k + (bst a (t.drop k)).2) (k + (bst a (t.drop k)).2) ops' := by
  obtain ⟨f, h1, h2⟩ := h
  obtain ⟨g, rfl⟩ : ∃ g, f = g + 1 := ⟨f - 1, by omega⟩
  rw [mkR_copy hk h0] at h2
  refine ⟨g, by omega, ?_⟩
  rw [ho, ← h2]
  simp only [List.append_assoc]
theorem MKI.done {a t : List UInt8} {k s : Nat} {ops ops' : List OP} (h : MKI a t k s ops) (hk : t.length ≤ k) (ho : ops'.map OP.v = ops.map OP.v ++ fl t s t.length) : ops'.map OP.v = mkV a t := by
  obtain ⟨f, h1, h2⟩ := h
  rw [mkR_end hk] at h2
  rw [ho, h2]
theorem okO_of {w : World} {ops : List OP} {ps : List Part} (h : InP ops ps) (hf : (fam (ps.map partR)).holds w) : OkO w ops := fun o ho => by
  rcases h o ho with h1 | h1
  · rw [h1]; exact Rs.nil w 1
  · exact hf.1 (partR o.p) (List.mem_map.2 ⟨_, h1, rfl⟩)


set_option maxRecDepth 100000 in
theorem pmake (A B : Option Addr) (n c m d : Nat) (a t : List UInt8) (w0 : World) (ha : Rs w0 1 A n c (bL a)) (ht : Rs w0 1 B m d (bL t)) (hmx : n ≤ 4000) (hmt : m ≤ 4000) :
    Calls Try.prog 22 #[.slice A n c, .slice B m d] w0 fun e w' => ∃ u, e = .returned u ∧ Like w0 w' ∧ ∃ A' c' ops, u = .tuple #[.agg (scA (n : Int) (m : Int) A' ops.length c'), .int .i64 0] ∧ Rs w' 4 A' ops.length c' (ops.flatMap opf) ∧ OkO w' ops ∧ ops.map OP.v = mkV a t := by
  refine enter1 (env := [(0, .slice A n c), (1, .slice B m d)]) [.slice A n c, .slice B m d] Try.func22 rfl Try.ntmps22 rfl rfl ?_
  have hn := ha.lenb; have hcap := ha.cap; have hmax := ha.max; have hmn := ht.lenb; have hcap2 := ht.cap; have hmax2 := ht.max; have S0 := St.start w0 noM
  refine T_seq fun K1 hK1 => ?_
  refine T_region ?_
  refine L_o (o_box1 rfl rfl S0 rfl fun b1 w1 hb1 S1 => ?_)
  refine L_o (o_alloc zz25 S1 rfl fun b2 w2 hb2 S2 => ?_)
  refine L_y (y_assign rfl) rfl ?_
  refine L_nil ?_
  refine hK1 _ _ ?_
  refine T_seq fun K2 hK2 => ?_
  refine T_seq fun K3 hK3 => ?_
  refine T_region ?_
  refine L_y (y_move rfl) rfl ?_
  refine L_y (y_len Try.underlying22 rfl) rfl ?_
  refine L_y (y_gtr rfl rfl) rfl ?_
  refine L_y (y_move rfl) rfl ?_
  refine L_split 16 rfl (fun h16 => ?_) (fun h16 => ?_)
  ·
    omega
  ·
    refine L_gyes rfl rfl ?_
    refine L_y (y_ldc Try.underlying22 rfl rfl (((S2.blk 0 rfl).cell _).trans (by rfl))) rfl ?_
    refine L_gyes rfl rfl ?_
    refine L_y (y_len Try.underlying22 rfl) rfl ?_
    refine L_gyes rfl rfl ?_
    refine L_y (y_gtr rfl rfl) rfl ?_
    refine L_y (y_pk rfl rfl) rfl ?_
    refine L_nil ?_
    refine hK3 _ _ ?_
    refine T_cond rfl (fun h20 => ?_) (fun h20 => ?_)
    ·
      omega
    ·
      refine T_skip ?_
      refine hK2 _ _ ?_
      refine T_seq fun K4 hK4 => ?_
      refine T_region ?_
      refine L_y (y_move rfl) rfl ?_
      refine L_y (y_len Try.underlying22 rfl) rfl ?_
      refine L_y (y_ldc Try.underlying22 rfl rfl (((S2.blk 0 rfl).cell _).trans (by rfl))) rfl ?_
      refine L_y (y_len Try.underlying22 rfl) rfl ?_
      refine L_y (y_build rfl (show _ = some (scA (n : Int) (m : Int) none 0 0) by kernel_rfl)) rfl ?_
      refine L_o (o_alloc zz25 S2 rfl fun b4 w4 hb4 S4 => ?_)
      refine L_o (o_stW S4 2 rfl rfl rfl sz25 rfl (scA_one _ _ _ _ _) fun w5 S5 => ?_)
      refine L_nil ?_
      refine hK4 _ _ ?_
      refine T_seq fun K5 hK5 => ?_
      refine T_region ?_
      refine L_y (y_move rfl) rfl ?_
      refine L_o (o_call Try.func39 rfl rfl (places A n c a w5 (S5.rd ha) hmx) rfl rfl ?_)
      rintro e6 w6 ⟨v6, rfl, l6, bm, pes, rfl, hpi, T6⟩
      refine ⟨_, rfl, ?_⟩
      have S6 := S5.adoptS T6
      refine L_y (y_assign rfl) rfl ?_
      refine L_nil ?_
      refine hK5 _ _ ?_
      refine T_seq fun K6 hK6 => ?_
      refine T_region ?_
      refine L_o (o_alloc zz3 S6 rfl fun b7 w7 hb7 S7 => ?_)
      refine L_o (o_st1 S7 5 rfl rfl rfl rfl sz3 (by first | (simp; done) | (show 0 < 1; decide)) fun w8 S8 => ?_)
      refine L_nil ?_
      refine hK6 _ _ ?_
      refine T_seq fun K7 hK7 => ?_
      refine T_region ?_
      refine L_y (y_makeFunc rfl rfl) rfl ?_
      refine L_y (y_assign rfl) rfl ?_
      refine L_nil ?_
      refine hK7 _ _ ?_
      refine T_seq fun K8 hK8 => ?_
      refine T_seq fun K9 hK9 => ?_
      refine T_region ?_
      refine L_y (y_assign rfl) rfl ?_
      refine L_nil ?_
      refine hK9 _ _ ?_
      refine T_block ?_
      refine T_loop6 [(0, _), (3, _), (4, _), (6, _), (7, _), (8, _), (9, _)] (fun (k : Nat) (s0 : Nat) (A1 : Option Addr) (c1 : Nat) (ops : List OP) (ps : List Part) => [(10, .int .i64 (k : Int))]) (fun (k : Nat) (s0 : Nat) (A1 : Option Addr) (c1 : Nat) (ops : List OP) (ps : List Part) => m - k) (fun (k : Nat) (s0 : Nat) (A1 : Option Addr) (c1 : Nat) (ops : List OP) (ps : List Part) (w : World) => (k ≤ m ∧ s0 ≤ k ∧ ops.length ≤ 2 * k ∧ InP ops ps ∧ MKI a t k s0 ops) ∧ St w0 noM ([blk b1 22 #[.slice B m d], blk b2 25 #[.int .i64 0, .int .i64 0, .slice none 0 0], mapB 6 bm (pes.map PE.ent), fam (pes.map PE.row), blk b7 3 #[.int .i64 (s0 : Int)]] ++ [blk b4 25 (scA (n : Int) (m : Int) A1 ops.length c1), row 57 4 A1 ops.length c1 (ops.flatMap opf), fam (ps.map partR)]) w) 0 0 none 0 [] [] (Sub.cons rfl (by first | rfl | exact congrArg (Value.int _) (by omega)) (Sub.nil _)) (Sub.cons rfl rfl (Sub.cons rfl rfl (Sub.cons rfl rfl (Sub.cons rfl rfl (Sub.cons rfl rfl (Sub.cons rfl rfl (Sub.cons rfl rfl (Sub.nil _)))))))) ?_ ?_
      ·
        have S9 := ((S8.nilrow 57 4).fam0).sel [0, 1, 3, 4, 5, 2, 6, 7] (by decide)
        exact ⟨⟨Nat.zero_le _, Nat.le_refl _, Nat.le_refl _, (fun o ho => (List.not_mem_nil ho).elim), MKI.start a t⟩, S9⟩
      ·
        intro k s0 A1 c1 ops ps w9 hrel
        obtain ⟨⟨hk, hsk, hol, hin, hmk⟩, S9⟩ := hrel
        refine T_seq fun K10 hK10 => ?_
        refine T_seq fun K11 hK11 => ?_
        refine T_region ?_
        refine L_y (y_move rfl) rfl ?_
        refine L_y (y_ldc Try.underlying22 rfl rfl (((S9.blk 0 rfl).cell _).trans (by rfl))) rfl ?_
        refine L_y (y_len Try.underlying22 rfl) rfl ?_
        refine L_y (y_lss rfl rfl) rfl ?_
        refine L_nil ?_
        refine hK11 _ _ ?_
        refine T_cond rfl (fun h33 => ?_) (fun h33 => ?_)
        ·
          have hbd := bst_bd a (t.drop k)
          rw [List.length_drop] at hbd
          refine T_skip ?_
          refine hK10 _ _ ?_
          refine T_block ?_
          refine T_seq fun K12 hK12 => ?_
          refine T_region ?_
          refine L_y (y_move rfl) rfl ?_
          refine L_y (y_move rfl) rfl ?_
          refine L_y (y_ldc Try.underlying22 rfl rfl (((S9.blk 0 rfl).cell _).trans (by rfl))) rfl ?_
          refine L_y (y_move rfl) rfl ?_
          refine L_y (y_sliceL Try.underlying22 sz5 rfl rfl (Nt.mk (by omega) : Nt _ (k)) (by omega)) rfl ?_
          refine L_o (o_call Try.func42 rfl rfl (longest A (cutA B d k 1) n c (m - k) (d - k) bm a (t.drop k) pes w9 (S9.rd ha) (cut_tail (S9.rd ht) (by omega)) hmx (by omega) (S9.get 2 rfl) (S9.lt 2 rfl) (S9.get 3 rfl) hpi) rfl rfl ?_)
          rintro e10 w10 ⟨v10, rfl, l10, rfl⟩
          refine ⟨_, rfl, ?_⟩
          have S10 := S9.like l10
          refine L_y (y_move rfl) rfl ?_
          refine L_y (y_extract rfl rfl) rfl ?_
          refine L_y (y_extract rfl rfl) rfl ?_
          refine L_y (y_assign rfl) rfl ?_
          refine L_y (y_assign rfl) rfl ?_
          refine L_nil ?_
          refine hK12 _ _ ?_
          refine T_seq fun K13 hK13 => ?_
          refine T_seq fun K14 hK14 => ?_
          refine T_region ?_
          refine L_y (y_move rfl) rfl ?_
          refine L_y (y_eql rfl rfl) rfl ?_
          refine L_nil ?_
          refine hK14 _ _ ?_
          refine T_cond rfl (fun h44 => ?_) (fun h44 => ?_)
          ·
            refine T_seq fun K15 hK15 => ?_
            refine T_region ?_
            refine L_y (y_move rfl) rfl ?_
            refine L_y (y_add rfl rfl (i64w (by omega))) rfl ?_
            refine L_y (y_assign rfl) rfl ?_
            refine L_nil ?_
            refine hK15 _ _ ?_
            refine T_exit ?_
            refine ⟨k + 1, s0, A1, c1, ops, ps, by omega, ⟨⟨by omega, by omega, by omega, hin, hmk.zero (by omega) (by omega)⟩, S10⟩, ?_⟩
            exact (Sub.cons rfl (by first | rfl | exact congrArg (Value.int _) (by omega)) (Sub.cons rfl rfl (Sub.cons rfl rfl (Sub.cons rfl rfl (Sub.cons rfl rfl (Sub.cons rfl rfl (Sub.cons rfl rfl (Sub.cons rfl rfl (Sub.nil _)))))))))
          ·
            refine T_skip ?_
            refine hK13 _ _ ?_
            refine T_seq fun K16 hK16 => ?_
            refine T_region ?_
            refine L_y (y_move rfl) rfl ?_
            refine L_y (y_move rfl) rfl ?_
            refine L_o (o_callv rfl Try.func40 rfl rfl (flush k s0 b7 b4 b1 (n : Int) (m : Int) A1 B c1 m d ops ps t w10 (holdScr S10).1 (holdScr S10).2.1 (S10.blk 4 rfl) ((holdScr S10).2.2.1 (blk b7 3 #[.int .i64 (s0 : Int)]) (by simp) b7 rfl) (S10.blk 0 rfl) ((holdScr S10).2.2.1 (blk b1 22 #[.slice B m d]) (by simp) b1 rfl) (S10.rd ht) (fun ad h1 h2 => (holdScr S10).2.2.2 ad.block (old_block ht h1 h2) (fun h => h)) hmt (by omega) hin (by omega)) rfl rfl (fun d' hd => by cases hd <;> rfl) ?_)
            rintro e11 w11 ⟨v11, rfl, A2, c2, ops2, ps2, hov, hol2, hin2, T11⟩
            refine ⟨_, rfl, ?_⟩
            have S11 := flushScr S10 T11
            have hrc2 := (S11.row 6 rfl).cap; have hrm2 := (S11.row 6 rfl).max
            refine L_nil ?_
            refine hK16 _ _ ?_
            refine T_seq fun K17 hK17 => ?_
            refine T_region ?_
            refine L_y (y_fieldA 2 Try.underlying25 rfl sz23 rfl rfl rfl) rfl ?_
            refine L_y (y_ldc Try.underlying23 rfl rfl (((S11.blk 5 rfl).cell _).trans (by rfl))) rfl ?_
            refine L_y (y_move rfl) rfl ?_
            refine L_y (y_move rfl) rfl ?_
            refine L_y (y_build rfl (show _ = some #[Value.bool true, Value.int .i64 ((bst a (t.drop k)).1 : Int), Value.int .i64 ((bst a (t.drop k)).2 : Int), Value.slice none 0 0] by kernel_rfl)) rfl ?_
            refine L_o (o_bsl [_, _, _, _] te23 zz57 S11 rfl rfl rfl rfl rfl rfl rfl rfl fun b12 w12 S12 => ?_)
            refine L_o (o_app te23 S12 6 rfl rfl rfl (by first | exact S12.row 6 rfl | exact S12.fix 7 rfl | exact S12.row 8 rfl) (fun u hu => opf_one ⟨true, _, _, p0⟩ u hu) rfl (by omega) (by omega) fun A13 c13 w13 S13 => ?_)
            have S13d := S13.drop (rs' := [_, _, _, _, _, _, _, _]) (.cons_cons _ (.cons_cons _ (.cons_cons _ (.cons_cons _ (.cons_cons _ (.cons_cons _ (.cons_cons _ (.cons_cons _ (.cons _ (.refl _))))))))))
            refine L_y (y_fieldA 2 Try.underlying25 rfl sz23 rfl rfl rfl) rfl ?_
            refine L_o (o_st1 S13d 5 rfl rfl rfl rfl sz23 (by show 2 < 3; decide) fun w14 S14 => ?_)
            refine L_nil ?_
            refine hK17 _ _ ?_
            refine T_seq fun K18 hK18 => ?_
            refine T_region ?_
            refine L_y (y_move rfl) rfl ?_
            refine L_y (y_move rfl) rfl ?_
            refine L_y (y_add rfl rfl (i64w (by omega))) rfl ?_
            refine L_y (y_assign rfl) rfl ?_
            refine L_nil ?_
            refine hK18 _ _ ?_
            refine T_region ?_
            refine L_y (y_move rfl) rfl ?_
            refine L_o (o_st1 S14 4 rfl rfl rfl rfl sz3 (by first | (simp; done) | (show 0 < 1; decide)) fun w15 S15 => ?_)
            refine L_nil ?_
            have S91 := S15.blkc 5 rfl ((scA_set (n : Int) (m : Int) A2 ops2.length c2 A13 (ops2.length + 1) c13).trans (show _ = scA (n : Int) (m : Int) A13 (ops2 ++ [(⟨true, ((bst a (t.drop k)).1 : Int), ((bst a (t.drop k)).2 : Int), p0⟩ : OP)]).length c13 from by rw [List.length_append]; rfl))
            have S92 := S91.blkc 4 rfl (show _ = #[Value.int .i64 ((k + (bst a (t.drop k)).2 : Nat) : Int)] from by simp)
            have S93 := S92.rowc 6 rfl (n' := (ops2 ++ [(⟨true, ((bst a (t.drop k)).1 : Int), ((bst a (t.drop k)).2 : Int), p0⟩ : OP)]).length) (xs' := (ops2 ++ [(⟨true, ((bst a (t.drop k)).1 : Int), ((bst a (t.drop k)).2 : Int), p0⟩ : OP)]).flatMap opf) (by rw [List.length_append]; rfl) (by rw [List.flatMap_append]; rfl)
            refine ⟨k + (bst a (t.drop k)).2, k + (bst a (t.drop k)).2, A13, c13, ops2 ++ [(⟨true, ((bst a (t.drop k)).1 : Int), ((bst a (t.drop k)).2 : Int), p0⟩ : OP)], ps2, by omega, ⟨⟨by omega, Nat.le_refl _, by rw [List.length_append, List.length_singleton]; omega, hin2.add0 rfl, hmk.copy (by omega) (by omega) (by rw [List.map_append, hov]; rfl)⟩, S93⟩, ?_⟩
            exact (Sub.cons rfl (by first | rfl | exact congrArg (Value.int _) (by omega)) (Sub.cons rfl rfl (Sub.cons rfl rfl (Sub.cons rfl rfl (Sub.cons rfl rfl (Sub.cons rfl rfl (Sub.cons rfl rfl (Sub.cons rfl rfl (Sub.nil _)))))))))
        ·
          refine T_exit ?_
          refine hK8 _ _ ?_
          refine T_seq fun K19 hK19 => ?_
          refine T_region ?_
          refine L_y (y_move rfl) rfl ?_
          refine L_y (y_ldc Try.underlying22 rfl rfl (((S9.blk 0 rfl).cell _).trans (by rfl))) rfl ?_
          refine L_y (y_len Try.underlying22 rfl) rfl ?_
          refine L_o (o_callv rfl Try.func40 rfl rfl (flush m s0 b7 b4 b1 (n : Int) (m : Int) A1 B c1 m d ops ps t w9 (holdScr S9).1 (holdScr S9).2.1 (S9.blk 4 rfl) ((holdScr S9).2.2.1 (blk b7 3 #[.int .i64 (s0 : Int)]) (by simp) b7 rfl) (S9.blk 0 rfl) ((holdScr S9).2.2.1 (blk b1 22 #[.slice B m d]) (by simp) b1 rfl) (S9.rd ht) (fun ad h1 h2 => (holdScr S9).2.2.2 ad.block (old_block ht h1 h2) (fun h => h)) hmt (by omega) hin (by omega)) rfl rfl (fun d' hd => by cases hd <;> rfl) ?_)
          rintro e16 w16 ⟨v16, rfl, A2, c2, ops2, ps2, hov, hol2, hin2, T16⟩
          refine ⟨_, rfl, ?_⟩
          have S16 := flushScr S9 T16
          refine L_nil ?_
          refine hK19 _ _ ?_
          refine T_seq fun K20 hK20 => ?_
          refine T_region ?_
          refine L_y (y_ldW Try.underlying25 rfl sz25 rfl (S16.blk 5 rfl) (show _ = (scA (n : Int) (m : Int) A2 ops2.length c2).toList ∧ _ from ⟨rfl, rfl⟩)) rfl ?_
          refine L_o (o_stW S16 1 rfl rfl rfl sz25 rfl (scA_one _ _ _ _ _) fun w17 S17 => ?_)
          refine L_y (y_assign rfl) rfl ?_
          refine L_nil ?_
          refine hK20 _ _ ?_
          refine T_ret ?_
          refine ur ?_
          refine retct rfl rfl rfl (S17.blk 1 rfl) Try.underlying25 rfl (by exact sz25) ?_
          exact ⟨_, rfl, S17.like0, A2, c2, ops2, rfl, S17.row 6 rfl, okO_of hin2 (S17.get 7 rfl), hmk.done (by omega) (by rw [hmn]; exact hov)⟩
end Go.Proofs.Ytpcgldkllnkaeaa


/-
  works.
-/
namespace Go.Proofs.Ytpcgldkllnkaeaa
open Go.RowKit Zk Zx
set_option linter.unusedVariables false
set_option linter.unusedSimpArgs false

def wA : List UInt8 := [104, 101, 108, 108, 111, 44, 32, 119, 111, 114, 108, 100]
def wT : List UInt8 := [104, 101, 108, 108, 111, 44, 32, 116, 104, 101, 114, 101]
theorem wmk : mkV wA wT = [⟨true, 0, 7, []⟩, ⟨false, 0, 0, [116, 104, 101, 114, 101]⟩] := by decide +kernel
theorem two_of {α : Type} : ∀ {l : List α}, l.length = 2 → ∃ a b, l = [a, b]
  | [a, b], _ => ⟨a, b, rfl⟩
theorem w_ops {ops : List OP} (h : ops.map OP.v = mkV wA wT) : ∃ o1 o2, ops = [o1, o2] ∧ o1.cp = true ∧ o1.n = 7 ∧ o2.p.l = [116, 104, 101, 114, 101] := by
  rw [wmk] at h
  obtain ⟨o1, o2, rfl⟩ : ∃ o1 o2, ops = [o1, o2] := two_of (by simpa using congrArg List.length h)
  simp only [List.map_cons, List.map_nil, List.cons.injEq, and_true] at h
  obtain ⟨h1, h2⟩ := h
  exact ⟨o1, o2, rfl, congrArg OV.cp h1, congrArg OV.n h1, congrArg OV.l h2⟩


set_option maxRecDepth 100000 in
theorem works  (w0 : World)  :
    Calls Try.prog 9 #[] w0 fun e w' => ∃ u, e = .returned u ∧ Like w0 w' ∧ u = .bool true := by
  refine enter1 (env := []) [] Try.func9 rfl Try.ntmps9 rfl rfl ?_
  have S0 := St.start w0 noM
  refine T_seq fun K1 hK1 => ?_
  refine T_region ?_
  refine L_y (y_assign rfl) rfl ?_
  refine L_nil ?_
  refine hK1 _ _ ?_
  refine T_seq fun K2 hK2 => ?_
  refine T_region ?_
  refine L_o (o_bsl [_, _, _, _, _, _, _, _, _, _, _, _] te22 zz5 S0 rfl rfl rfl rfl rfl rfl rfl rfl fun b1 w1 S1 => ?_)
  refine L_o (o_bconst S1 0 rfl Try.underlying22 Try.underlying5 rfl (by omega) rfl fun w2 S2 => ?_)
  refine L_o (o_bsl [_, _, _, _, _, _, _, _, _, _, _, _] te22 zz5 S2 rfl rfl rfl rfl rfl rfl rfl rfl fun b3 w3 S3 => ?_)
  refine L_o (o_bconst S3 1 rfl Try.underlying22 Try.underlying5 rfl (by omega) rfl fun w4 S4 => ?_)
  refine L_o (o_call Try.func22 rfl rfl (pmake _ _ 12 _ 12 _ wA wT w4 (show Rs _ 1 _ 12 _ (bL wA) from S4.fix 0 rfl) (show Rs _ 1 _ 12 _ (bL wT) from S4.fix 1 rfl) (by omega) (by omega)) rfl rfl ?_)
  rintro e5 w5 ⟨v5, rfl, l5, A8, c8, ops8, rfl, hR, hok, hmv⟩
  refine ⟨_, rfl, ?_⟩
  have S5 := S4.like l5
  obtain ⟨o1, o2, rfl, hcp, hn7, hth⟩ := w_ops hmv
  have lk := S5.like0
  have S90 := St.start w5 noM
  refine L_y (y_move rfl) rfl ?_
  refine L_y (y_extract rfl rfl) rfl ?_
  refine L_y (y_extract rfl rfl) rfl ?_
  refine L_o (o_alloc zz25 S90 rfl fun b6 w6 hb6 S6 => ?_)
  refine L_o (o_stW S6 0 rfl rfl rfl sz25 rfl (scA_one _ _ _ _ _) fun w7 S7 => ?_)
  refine L_y (y_assign rfl) rfl ?_
  refine L_nil ?_
  refine hK2 _ _ ?_
  refine T_seq fun K3 hK3 => ?_
  refine T_region ?_
  refine L_y (y_move rfl) rfl ?_
  refine L_y (y_eql rfl rfl) rfl ?_
  refine L_y (y_move rfl) rfl ?_
  refine L_split 13 rfl (fun h13 => ?_) (fun h13 => ?_)
  ·
    refine L_gyes rfl rfl ?_
    refine L_y (y_fieldA 2 Try.underlying25 rfl sz23 rfl rfl rfl) rfl ?_
    refine L_gyes rfl rfl ?_
    refine L_y (y_ldc Try.underlying23 rfl rfl (((S7.blk 0 rfl).cell _).trans (by rfl))) rfl ?_
    refine L_gyes rfl rfl ?_
    refine L_y (y_len Try.underlying23 rfl) rfl ?_
    refine L_gyes rfl rfl ?_
    refine L_y (y_eql rfl rfl) rfl ?_
    refine L_y (y_pk rfl rfl) rfl ?_
    refine L_y (y_move rfl) rfl ?_
    refine L_split 19 rfl (fun h19 => ?_) (fun h19 => ?_)
    ·
      refine L_gyes rfl rfl ?_
      refine L_y (y_fieldA 2 Try.underlying25 rfl sz23 rfl rfl rfl) rfl ?_
      refine L_gyes rfl rfl ?_
      refine L_y (y_ldc Try.underlying23 rfl rfl (((S7.blk 0 rfl).cell _).trans (by rfl))) rfl ?_
      refine L_gyes rfl rfl ?_
      refine L_y (y_idx Try.underlying23 sz57 rfl rfl (S7.rd hR) (Nt.mk rfl : Nt _ (0)) (by omega)) rfl ?_
      refine L_gyes rfl rfl ?_
      refine L_y (y_fieldR 0 Try.underlying57 rfl sz4 rfl rfl (S7.rd hR) (by omega) rfl) rfl ?_
      refine L_gyes rfl rfl ?_
      refine L_y (y_ldf Try.underlying4 rfl rfl (S7.rd hR) (by omega) (show _ = some (Value.bool true) from by rw [← hcp]; rfl)) rfl ?_
      refine L_y (y_pk rfl rfl) rfl ?_
      refine L_y (y_move rfl) rfl ?_
      refine L_gyes rfl rfl ?_
      refine L_y (y_fieldA 2 Try.underlying25 rfl sz23 rfl rfl rfl) rfl ?_
      refine L_gyes rfl rfl ?_
      refine L_y (y_ldc Try.underlying23 rfl rfl (((S7.blk 0 rfl).cell _).trans (by rfl))) rfl ?_
      refine L_gyes rfl rfl ?_
      refine L_y (y_idx Try.underlying23 sz57 rfl rfl (S7.rd hR) (Nt.mk rfl : Nt _ (0)) (by omega)) rfl ?_
      refine L_gyes rfl rfl ?_
      refine L_y (y_fieldR 2 Try.underlying57 rfl sz3 rfl rfl (S7.rd hR) (by omega) rfl) rfl ?_
      refine L_gyes rfl rfl ?_
      refine L_y (y_ldf Try.underlying3 rfl rfl (S7.rd hR) (by omega) (show _ = some (Value.int .i64 7) from by rw [← hn7]; rfl)) rfl ?_
      refine L_gyes rfl rfl ?_
      refine L_y (y_eql rfl rfl) rfl ?_
      refine L_y (y_pk rfl rfl) rfl ?_
      refine L_y (y_move rfl) rfl ?_
      refine L_split 34 rfl (fun h34 => ?_) (fun h34 => ?_)
      ·
        refine L_gyes rfl rfl ?_
        refine L_y (y_fieldA 2 Try.underlying25 rfl sz23 rfl rfl rfl) rfl ?_
        refine L_gyes rfl rfl ?_
        refine L_y (y_ldc Try.underlying23 rfl rfl (((S7.blk 0 rfl).cell _).trans (by rfl))) rfl ?_
        refine L_gyes rfl rfl ?_
        refine L_y (y_idx Try.underlying23 sz57 rfl rfl (S7.rd hR) (Nt.mk rfl : Nt _ (1)) (by omega)) rfl ?_
        refine L_gyes rfl rfl ?_
        refine L_y (y_fieldR 3 Try.underlying57 rfl sz22 rfl rfl (S7.rd hR) (by omega) rfl) rfl ?_
        refine L_gyes rfl rfl ?_
        refine L_y (y_ldf Try.underlying22 rfl rfl (S7.rd hR) (by omega) (show _ = some (pv o2.p) from rfl)) rfl ?_
        refine L_gyes rfl rfl ?_
        refine L_y (y_bstr Try.underlying22 Try.underlying5 Try.underlying9 rfl (S7.rd (hok o2 (by simp)))) rfl ?_
        refine L_gyes rfl rfl ?_
        refine L_y (y_seql rfl rfl) rfl ?_
        refine L_y (y_pk rfl rfl) rfl ?_
        refine L_y (y_assign rfl) rfl ?_
        refine L_nil ?_
        refine hK3 _ _ ?_
        refine T_ret ?_
        refine ur ?_
        refine ret1 rfl rfl ?_
        exact ⟨_, rfl, Like.trans lk S7.like0, congrArg Value.bool (decide_eq_true (by rw [hth]))⟩
      ·
        exact absurd rfl h34
    ·
      exact absurd rfl h19
  ·
    exact absurd rfl h13
end Go.Proofs.Ytpcgldkllnkaeaa


/-
  plain, own.
-/
namespace Go.Proofs.Ytpcgldkllnkaeaa
open Go.RowKit Zk Zx
set_option linter.unusedVariables false
set_option linter.unusedSimpArgs false

theorem take_snoc {l : List OP} {k : Nat} {o : OP} (h : l[k]? = some o) : (l.take k).flatMap opf ++ opf o = (l.take (k + 1)).flatMap opf := by rw [take1 h, List.flatMap_append]; simp


set_option maxRecDepth 100000 in
theorem plain (A : Option Addr) (n c : Nat) (l : List OP) (b t : Int) (w0 : World) (hl : Rs w0 4 A n c (l.flatMap opf)) (hok : OkO w0 l) (h4 : n ≤ 5000) :
    Calls Try.prog 11 #[.agg (scA b t A n c)] w0 fun e w' => ∃ u, e = .returned u ∧ Like w0 w' ∧ ∃ A' c', u = .agg (scA b t A' n c') ∧ w'.ownsRow w0.heap.size 58 4 (.slice A' n c') n (l.flatMap opf) := by
  refine enter1 (env := [(0, .agg (scA b t A n c))]) [.agg (scA b t A n c)] Try.func11 rfl Try.ntmps11 rfl rfl ?_
  have hn := ops_n hl; have hcap := hl.cap; have hmax := hl.max; have S0 := St.start w0 noM
  refine T_seq fun K1 hK1 => ?_
  refine T_region ?_
  refine L_o (o_box rfl S0 rfl fun b1 w1 hb1 S1 => ?_)
  refine L_o (o_alloc zz30 S1 rfl fun b2 w2 hb2 S2 => ?_)
  refine L_nil ?_
  refine hK1 _ _ ?_
  refine T_seq fun K2 hK2 => ?_
  refine T_region ?_
  refine L_y (y_fieldA 0 Try.underlying25 rfl sz3 rfl rfl rfl) rfl ?_
  refine L_y (y_ldc Try.underlying3 rfl rfl (((S2.blk 0 rfl).cell _).trans (by rfl))) rfl ?_
  refine L_y (y_fieldA 1 Try.underlying25 rfl sz3 rfl rfl rfl) rfl ?_
  refine L_y (y_ldc Try.underlying3 rfl rfl (((S2.blk 0 rfl).cell _).trans (by rfl))) rfl ?_
  refine L_y (y_build rfl (show _ = some (scA b t none 0 0) by kernel_rfl)) rfl ?_
  refine L_o (o_alloc zz30 S2 rfl fun b3 w3 hb3 S3 => ?_)
  refine L_o (o_stW S3 2 rfl rfl rfl sz30 rfl (scA_one _ _ _ _ _) fun w4 S4 => ?_)
  refine L_nil ?_
  refine hK2 _ _ ?_
  refine T_seq fun K3 hK3 => ?_
  refine T_seq fun K4 hK4 => ?_
  refine T_region ?_
  refine L_y (y_assign rfl) rfl ?_
  refine L_nil ?_
  refine hK4 _ _ ?_
  refine T_block ?_
  refine T_loop3 [(1, _), (2, _), (3, _)] (fun (k : Nat) (A1 : Option Addr) (c1 : Nat) => [(4, .int .i64 (k : Int))]) (fun (k : Nat) (A1 : Option Addr) (c1 : Nat) => n - k) (fun (k : Nat) (A1 : Option Addr) (c1 : Nat) (w : World) => k ≤ n ∧ St w0 noM [blk b1 25 (scA b t A n c), blk b2 30 #[.int .i64 0, .int .i64 0, .slice none 0 0], blk b3 30 (scA b t A1 k c1), row 58 4 A1 k c1 ((l.take k).flatMap opf)] w) 0 none 0 (Sub.cons rfl (by first | rfl | exact congrArg (Value.int _) (by omega)) (Sub.nil _)) (Sub.cons rfl rfl (Sub.cons rfl rfl (Sub.cons rfl rfl (Sub.nil _)))) ?_ ?_
  ·
    have S9 := S4.nilrow 58 4
    exact ⟨Nat.zero_le _, S9⟩
  ·
    intro k A1 c1 w5 hrel
    obtain ⟨hk, S5⟩ := hrel
    refine T_seq fun K5 hK5 => ?_
    refine T_seq fun K6 hK6 => ?_
    refine T_region ?_
    refine L_y (y_move rfl) rfl ?_
    refine L_y (y_fieldA 2 Try.underlying25 rfl sz23 rfl rfl rfl) rfl ?_
    refine L_y (y_ldc Try.underlying23 rfl rfl (((S5.blk 0 rfl).cell _).trans (by rfl))) rfl ?_
    refine L_y (y_len Try.underlying23 rfl) rfl ?_
    refine L_y (y_lss rfl rfl) rfl ?_
    refine L_nil ?_
    refine hK6 _ _ ?_
    refine T_cond rfl (fun h15 => ?_) (fun h15 => ?_)
    ·
      obtain ⟨o, ho⟩ : ∃ o, l[k]? = some o := ⟨_, List.getElem?_eq_getElem (by omega)⟩
      refine T_skip ?_
      refine hK5 _ _ ?_
      refine T_seq fun K7 hK7 => ?_
      refine T_block ?_
      refine T_seq fun K8 hK8 => ?_
      refine T_region ?_
      refine L_y (y_fieldA 2 Try.underlying25 rfl sz23 rfl rfl rfl) rfl ?_
      refine L_y (y_ldc Try.underlying23 rfl rfl (((S5.blk 0 rfl).cell _).trans (by rfl))) rfl ?_
      refine L_y (y_move rfl) rfl ?_
      refine L_y (y_idx Try.underlying23 sz57 rfl rfl (S5.rd hl) (Nt.mk (by omega) : Nt _ (k)) (by omega)) rfl ?_
      refine L_y (y_ldp (f := opf) opf_len Try.underlying57 rfl sz57 rfl (S5.rd hl) (by omega) ho) rfl ?_
      refine L_o (o_alloc zz57 S5 rfl fun b6 w6 hb6 S6 => ?_)
      refine L_o (o_stW S6 4 rfl rfl rfl sz57 rfl (opf_one o) fun w7 S7 => ?_)
      refine L_nil ?_
      refine hK8 _ _ ?_
      refine T_region ?_
      refine L_y (y_fieldA 2 Try.underlying30 rfl sz28 rfl rfl rfl) rfl ?_
      refine L_y (y_ldc Try.underlying28 rfl rfl (((S7.blk 2 rfl).cell _).trans (by rfl))) rfl ?_
      refine L_y (y_fieldA 0 Try.underlying57 rfl sz4 rfl rfl rfl) rfl ?_
      refine L_y (y_ldc Try.underlying4 rfl rfl (((S7.blk 4 rfl).cell _).trans (by rfl))) rfl ?_
      refine L_y (y_fieldA 1 Try.underlying57 rfl sz3 rfl rfl rfl) rfl ?_
      refine L_y (y_ldc Try.underlying3 rfl rfl (((S7.blk 4 rfl).cell _).trans (by rfl))) rfl ?_
      refine L_y (y_fieldA 2 Try.underlying57 rfl sz3 rfl rfl rfl) rfl ?_
      refine L_y (y_ldc Try.underlying3 rfl rfl (((S7.blk 4 rfl).cell _).trans (by rfl))) rfl ?_
      refine L_y (y_fieldA 3 Try.underlying57 rfl sz22 rfl rfl rfl) rfl ?_
      refine L_y (y_ldc Try.underlying22 rfl rfl (((S7.blk 4 rfl).cell _).trans (by rfl))) rfl ?_
      refine L_y (y_build rfl (show _ = some (opf o).toArray by kernel_rfl)) rfl ?_
      refine L_o (o_bsl [_, _, _, _] te28 zz58 S7 rfl rfl rfl rfl rfl rfl rfl rfl fun b8 w8 S8 => ?_)
      refine L_o (o_app te28 S8 3 rfl rfl rfl (by first | exact S8.row 3 rfl | exact S8.row 5 rfl) (opf_one o) rfl (by omega) (by omega) fun A9 c9 w9 S9 => ?_)
      have S9d := S9.drop (rs' := [_, _, _, _, _]) (.cons_cons _ (.cons_cons _ (.cons_cons _ (.cons_cons _ (.cons_cons _ (.cons _ (.refl _)))))))
      refine L_y (y_fieldA 2 Try.underlying30 rfl sz28 rfl rfl rfl) rfl ?_
      refine L_o (o_st1 S9d 2 rfl rfl rfl rfl sz28 (by show 2 < 3; decide) fun w10 S10 => ?_)
      refine L_nil ?_
      refine hK7 _ _ ?_
      refine T_region ?_
      refine L_y (y_move rfl) rfl ?_
      refine L_y (y_add rfl rfl (i64w (by omega))) rfl ?_
      refine L_y (y_assign rfl) rfl ?_
      refine L_nil ?_
      have S91 := S10.blkc 2 rfl (scA_set b t A1 k c1 A9 (k + 1) c9)
      have S92 := S91.rowc 3 rfl (n' := k + 1) (xs' := (l.take (k + 1)).flatMap opf) rfl (take_snoc ho)
      have S93 := S92.sel [0, 1, 2, 3] (by decide)
      refine ⟨k + 1, A9, c9, by omega, ⟨by omega, S93⟩, ?_⟩
      exact (Sub.cons rfl (by first | rfl | exact congrArg (Value.int _) (by omega)) (Sub.cons rfl rfl (Sub.cons rfl rfl (Sub.cons rfl rfl (Sub.nil _)))))
    ·
      refine T_exit ?_
      refine hK3 _ _ ?_
      refine T_seq fun K9 hK9 => ?_
      refine T_region ?_
      refine L_y (y_ldW Try.underlying30 rfl sz30 rfl (S5.blk 2 rfl) (show _ = (scA b t A1 n c1).toList ∧ _ from ⟨by rw [show n = k by omega]; rfl, rfl⟩)) rfl ?_
      refine L_o (o_stW S5 1 rfl rfl rfl sz30 rfl (scA_one _ _ _ _ _) fun w11 S11 => ?_)
      refine L_nil ?_
      refine hK9 _ _ ?_
      refine T_ret ?_
      refine ur ?_
      refine retc rfl rfl (S11.blk 1 rfl) Try.underlying30 rfl (by exact sz30) ?_
      have hkn : k = n := by omega
      subst hkn
      exact ⟨_, rfl, S11.like0, A1, c1, rfl, by have h9 := S11.own 3 rfl; rwa [List.take_of_length_le (by omega)] at h9⟩


set_option maxRecDepth 100000 in
theorem pown (A : Option Addr) (n c : Nat) (l : List OP) (b t : Int) (w0 : World) (hl : Rs w0 4 A n c (l.flatMap opf)) (hok : OkO w0 l) (h4 : n ≤ 5000) (hbig : ∀ o ∈ l, o.p.n ≤ 140737488351232) :
    Calls Try.prog 10 #[.agg (scA b t A n c)] w0 fun e w' => ∃ u, e = .returned u ∧ Like w0 w' ∧ ∃ A' c' qs, u = .agg (scA b t A' n c') ∧ Rs w' 4 A' n c' (qs.flatMap opf) ∧ OkO w' qs ∧ qs.map OP.v = l.map OP.v := by
  refine enter1 (env := [(0, .agg (scA b t A n c))]) [.agg (scA b t A n c)] Try.func10 rfl Try.ntmps10 rfl rfl ?_
  have hn := ops_n hl; have hcap := hl.cap; have hmax := hl.max; have S0 := St.start w0 noM
  refine T_seq fun K1 hK1 => ?_
  refine T_region ?_
  refine L_o (o_box rfl S0 rfl fun b1 w1 hb1 S1 => ?_)
  refine L_o (o_alloc zz25 S1 rfl fun b2 w2 hb2 S2 => ?_)
  refine L_nil ?_
  refine hK1 _ _ ?_
  refine T_seq fun K2 hK2 => ?_
  refine T_region ?_
  refine L_y (y_fieldA 0 Try.underlying30 rfl sz3 rfl rfl rfl) rfl ?_
  refine L_y (y_ldc Try.underlying3 rfl rfl (((S2.blk 0 rfl).cell _).trans (by rfl))) rfl ?_
  refine L_y (y_fieldA 1 Try.underlying30 rfl sz3 rfl rfl rfl) rfl ?_
  refine L_y (y_ldc Try.underlying3 rfl rfl (((S2.blk 0 rfl).cell _).trans (by rfl))) rfl ?_
  refine L_y (y_build rfl (show _ = some (scA b t none 0 0) by kernel_rfl)) rfl ?_
  refine L_o (o_alloc zz25 S2 rfl fun b3 w3 hb3 S3 => ?_)
  refine L_o (o_stW S3 2 rfl rfl rfl sz25 rfl (scA_one _ _ _ _ _) fun w4 S4 => ?_)
  refine L_nil ?_
  refine hK2 _ _ ?_
  refine T_seq fun K3 hK3 => ?_
  refine T_seq fun K4 hK4 => ?_
  refine T_region ?_
  refine L_y (y_assign rfl) rfl ?_
  refine L_nil ?_
  refine hK4 _ _ ?_
  refine T_block ?_
  refine T_loop5 [(1, _), (2, _), (3, _)] (fun (k : Nat) (A1 : Option Addr) (c1 : Nat) (qs : List OP) (ps : List Part) => [(4, .int .i64 (k : Int))]) (fun (k : Nat) (A1 : Option Addr) (c1 : Nat) (qs : List OP) (ps : List Part) => n - k) (fun (k : Nat) (A1 : Option Addr) (c1 : Nat) (qs : List OP) (ps : List Part) (w : World) => (k ≤ n ∧ InP qs ps ∧ qs.map OP.v = (l.take k).map OP.v) ∧ St w0 noM [blk b1 30 (scA b t A n c), blk b2 25 #[.int .i64 0, .int .i64 0, .slice none 0 0], blk b3 25 (scA b t A1 k c1), row 57 4 A1 k c1 (qs.flatMap opf), fam (ps.map partR)] w) 0 none 0 [] [] (Sub.cons rfl (by first | rfl | exact congrArg (Value.int _) (by omega)) (Sub.nil _)) (Sub.cons rfl rfl (Sub.cons rfl rfl (Sub.cons rfl rfl (Sub.nil _)))) ?_ ?_
  ·
    have S9 := (S4.nilrow 57 4).fam0
    exact ⟨⟨Nat.zero_le _, (fun o ho => (List.not_mem_nil ho).elim), rfl⟩, S9⟩
  ·
    intro k A1 c1 qs ps w5 hrel
    obtain ⟨⟨hk, hin, hqv⟩, S5⟩ := hrel
    refine T_seq fun K5 hK5 => ?_
    refine T_seq fun K6 hK6 => ?_
    refine T_region ?_
    refine L_y (y_move rfl) rfl ?_
    refine L_y (y_fieldA 2 Try.underlying30 rfl sz28 rfl rfl rfl) rfl ?_
    refine L_y (y_ldc Try.underlying28 rfl rfl (((S5.blk 0 rfl).cell _).trans (by rfl))) rfl ?_
    refine L_y (y_len Try.underlying28 rfl) rfl ?_
    refine L_y (y_lss rfl rfl) rfl ?_
    refine L_nil ?_
    refine hK6 _ _ ?_
    refine T_cond rfl (fun h15 => ?_) (fun h15 => ?_)
    ·
      obtain ⟨o, ho⟩ : ∃ o, l[k]? = some o := ⟨_, List.getElem?_eq_getElem (by omega)⟩
      have hop := hok o (List.mem_of_getElem? ho)
      have hbo := hbig o (List.mem_of_getElem? ho)
      have hopc := hop.cap; have hopm := hop.max
      refine T_skip ?_
      refine hK5 _ _ ?_
      refine T_seq fun K7 hK7 => ?_
      refine T_block ?_
      refine T_seq fun K8 hK8 => ?_
      refine T_region ?_
      refine L_y (y_fieldA 2 Try.underlying30 rfl sz28 rfl rfl rfl) rfl ?_
      refine L_y (y_ldc Try.underlying28 rfl rfl (((S5.blk 0 rfl).cell _).trans (by rfl))) rfl ?_
      refine L_y (y_move rfl) rfl ?_
      refine L_y (y_idx Try.underlying28 sz58 rfl rfl (S5.rd hl) (Nt.mk (by omega) : Nt _ (k)) (by omega)) rfl ?_
      refine L_y (y_ldp (f := opf) opf_len Try.underlying58 rfl sz58 rfl (S5.rd hl) (by omega) ho) rfl ?_
      refine L_o (o_alloc zz58 S5 rfl fun b6 w6 hb6 S6 => ?_)
      refine L_o (o_stW S6 5 rfl rfl rfl sz58 rfl (opf_one o) fun w7 S7 => ?_)
      refine L_nil ?_
      refine hK8 _ _ ?_
      refine T_zed [0, 1, 2, 3, 4, 5, 6, 7, 9, 10, 8, 11, 12, 13, 14, 15] 16 [(0, 1), (1, 1), (2, 1), (3, 1), (4, 1), (5, 1), (6, 1), (7, 1), (9, 1), (10, 1), (8, 2), (11, 2), (12, 1), (13, 2), (14, 2), (15, 1), (16, 3)] hmix (by kernel_rfl) fun w8 l8 => ?_
      have S8 := S7.like l8
      refine ZA_B (fun w => Blk w b3 25 (scA b t A1 k c1) ∧ Blk w b6 58 (opf o).toArray) ⟨S8.blk 2 rfl, S8.blk 5 rfl⟩ ?_
      refine ZB_y rfl (y_fieldA 2 Try.underlying25 rfl sz23 rfl rfl rfl) rfl ?_
      refine ZB_y rfl (y_of fun w hw => y_ldc Try.underlying23 rfl rfl (((hw.1).cell _).trans (by rfl))) rfl ?_
      refine ZB_y rfl (y_fieldA 0 Try.underlying58 rfl sz4 rfl rfl rfl) rfl ?_
      refine ZB_y rfl (y_of fun w hw => y_ldc Try.underlying4 rfl rfl (((hw.2).cell _).trans (by rfl))) rfl ?_
      refine ZB_y rfl (y_fieldA 1 Try.underlying58 rfl sz3 rfl rfl rfl) rfl ?_
      refine ZB_y rfl (y_of fun w hw => y_ldc Try.underlying3 rfl rfl (((hw.2).cell _).trans (by rfl))) rfl ?_
      refine ZB_y rfl (y_fieldA 2 Try.underlying58 rfl sz3 rfl rfl rfl) rfl ?_
      refine ZB_y rfl (y_of fun w hw => y_ldc Try.underlying3 rfl rfl (((hw.2).cell _).trans (by rfl))) rfl ?_
      refine ZB_y rfl (y_fieldA 3 Try.underlying58 rfl sz22 rfl rfl rfl) rfl ?_
      refine ZB_y rfl (y_of fun w hw => y_ldc Try.underlying22 rfl rfl (((hw.2).cell _).trans (by rfl))) rfl ?_
      refine ZB_o rfl (o_bsl0 te22 S8 rfl fun b9 w9 l9 S9 => ?_)
      refine ⟨⟨S9.blk 2 rfl, S9.blk 5 rfl⟩, ?_⟩
      refine ZB_o rfl (o_app te22 S9 6 rfl rfl rfl (S9.rd hop) (bL_one _) rfl (by omega) (by omega) fun A10 c10 w10 S10 => ?_)
      refine ⟨⟨S10.blk 2 rfl, S10.blk 5 rfl⟩, ?_⟩
      refine ZB_y rfl (y_build rfl (show _ = some #[Value.bool o.cp, Value.int .i64 o.fr, Value.int .i64 o.n, Value.slice A10 (0 + o.p.n) c10] by kernel_rfl)) rfl ?_
      refine ZB_o rfl (o_bsl [_, _, _, _] te23 zz57 S10 rfl rfl rfl rfl rfl rfl rfl rfl fun b11 w11 S11 => ?_)
      refine ⟨⟨S11.blk 2 rfl, S11.blk 5 rfl⟩, ?_⟩
      refine ZB_o rfl (o_app te23 S11 3 rfl rfl rfl (by first | exact S11.row 3 rfl | exact S11.fix 4 rfl | exact S11.row 6 rfl | exact S11.row 7 rfl) (fun u hu => opf_one ⟨o.cp, o.fr, o.n, ⟨A10, 0 + o.p.n, c10, []⟩⟩ u hu) rfl (by omega) (by omega) fun A12 c12 w12 S12 => ?_)
      have S12d := S12.drop (rs' := [_, _, _, _, _, _, _]) (.cons_cons _ (.cons_cons _ (.cons_cons _ (.cons_cons _ (.cons_cons _ (.cons_cons _ (.cons_cons _ (.cons _ (.refl _)))))))))
      refine ⟨⟨S12d.blk 2 rfl, S12d.blk 5 rfl⟩, ?_⟩
      refine ZB_y rfl (y_fieldA 2 Try.underlying25 rfl sz23 rfl rfl rfl) rfl ?_
      refine ZB_c rfl (o_st1 S12d 2 rfl rfl rfl rfl sz23 (by show 2 < 3; decide) fun w13 S13 => ?_)
      refine ZA_nil ?_
      refine hK7 _ _ ?_
      refine T_region ?_
      refine L_y (y_move rfl) rfl ?_
      refine L_y (y_add rfl rfl (i64w (by omega))) rfl ?_
      refine L_y (y_assign rfl) rfl ?_
      refine L_nil ?_
      have S91 := S13.blkc 2 rfl (scA_set b t A1 k c1 A12 (k + 1) c12)
      have S92 := S91.rowc 3 rfl (n' := k + 1) (xs' := (qs ++ [(⟨o.cp, o.fr, o.n, (⟨A10, 0 + o.p.n, c10, o.p.l⟩ : Part)⟩ : OP)]).flatMap opf) rfl (by rw [List.flatMap_append]; rfl)
      have S93 := (S92.still 6 rfl).sel [0, 1, 2, 3, 4, 6] (by decide)
      have S94 := famAdd (rs := [_, _, _, _, fam (ps.map partR)]) (ps := ps) (p := (⟨A10, 0 + o.p.n, c10, o.p.l⟩ : Part)) S93 4 rfl
      refine ⟨k + 1, A12, c12, qs ++ [(⟨o.cp, o.fr, o.n, (⟨A10, 0 + o.p.n, c10, o.p.l⟩ : Part)⟩ : OP)], ps ++ [(⟨A10, 0 + o.p.n, c10, o.p.l⟩ : Part)], by omega, ⟨⟨by omega, hin.add (o := (⟨o.cp, o.fr, o.n, (⟨A10, 0 + o.p.n, c10, o.p.l⟩ : Part)⟩ : OP)), by rw [List.map_append, hqv, take1 ho, List.map_append]; rfl⟩, S94⟩, ?_⟩
      exact (Sub.cons rfl (by first | rfl | exact congrArg (Value.int _) (by omega)) (Sub.cons rfl rfl (Sub.cons rfl rfl (Sub.cons rfl rfl (Sub.nil _)))))
    ·
      refine T_exit ?_
      refine hK3 _ _ ?_
      refine T_seq fun K9 hK9 => ?_
      refine T_region ?_
      refine L_y (y_ldW Try.underlying25 rfl sz25 rfl (S5.blk 2 rfl) (show _ = (scA b t A1 n c1).toList ∧ _ from ⟨by rw [show n = k by omega]; rfl, rfl⟩)) rfl ?_
      refine L_o (o_stW S5 1 rfl rfl rfl sz25 rfl (scA_one _ _ _ _ _) fun w14 S14 => ?_)
      refine L_nil ?_
      refine hK9 _ _ ?_
      refine T_ret ?_
      refine ur ?_
      refine retc rfl rfl (S14.blk 1 rfl) Try.underlying25 rfl (by exact sz25) ?_
      have hkn : k = n := by omega
      subst hkn
      exact ⟨_, rfl, S14.like0, A1, c1, qs, rfl, S14.row 3 rfl, okO_of hin (S14.get 4 rfl), by rw [hqv, List.take_of_length_le (by omega)]⟩
end Go.Proofs.Ytpcgldkllnkaeaa
