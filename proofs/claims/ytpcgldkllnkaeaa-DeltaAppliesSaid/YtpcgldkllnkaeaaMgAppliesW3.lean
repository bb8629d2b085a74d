import Derived.Test.YtpcgldkllnkaeaaMgAppliesW2
import Derived.Test.YtpcgldkllnkaeaaMgAppliesW1
import Derived.Test.YtpcgldkllnkaeaaRows
import Derived.Deep.CondSized
import Derived.JoinedCond
import Derived.SizedLaws

/-
  same.
-/
namespace Go.Proofs.Ytpcgldkllnkaeaa
open Go.RowKit Zk Zx
set_option linter.unusedVariables false
set_option linter.unusedSimpArgs false

theorem y_bneq {P : Program} {S : World → Prop} {env : Env} {dst : Option Tmp} {ty : TypeId} {pos : String} {after : Array Edge} {g : Option (Nat × Bool)} {x y : Operand} {t u : TypeId} {a b : Bool} (ht : P.underlying t = some .bool) (hx : ev env x = some (.bool a)) (hy : ev env y = some (.bool b)) : Y P S env ⟨dst, .binOp .neq t x y u, ty, pos, after, g⟩ (.bool (!(a == b))) := fun N c w ha _ => by
  simp only [execOp, ha.eval hx, ha.eval hy, eqGuard, ne_eq, not_true_eq_false, Bool.not_true, Bool.false_eq_true, if_false, Sem.run_bind, Sem.run_pure, Result.andThen_ok, run_neq_bool w t a b ht]
theorem same_at {l k : List OP} {i : Nat} {x y : OP} (hx : l[i]? = some x) (hy : k[i]? = some y) (e : l.map OP.v = k.map OP.v) : x.v = y.v := by
  have h1 := map_at hx
  rw [e, map_at hy] at h1
  exact (Option.some.inj h1).symm
theorem same_end {l k : List OP} {i : Nat} (h : (l.take i).map OP.v = (k.take i).map OP.v) (h1 : l.length ≤ i) (h2 : k.length ≤ i) : l.map OP.v = k.map OP.v := by
  rwa [List.take_of_length_le h1, List.take_of_length_le h2] at h
theorem same_step {l k : List OP} {i : Nat} {x y : OP} (h : (l.take i).map OP.v = (k.take i).map OP.v) (hx : l[i]? = some x) (hy : k[i]? = some y) (e : x.v = y.v) : (l.take (i + 1)).map OP.v = (k.take (i + 1)).map OP.v := by
  rw [take1 hx, take1 hy, List.map_append, List.map_append, h, List.map_singleton, List.map_singleton, e]


set_option maxRecDepth 100000 in
theorem psame (A : Option Addr) (n c : Nat) (l : List OP) (b t : Int) (B : Option Addr) (m d : Nat) (k : List OP) (b' t' : Int) (w0 : World) (hl : Rs w0 4 A n c (l.flatMap opf)) (hok : OkO w0 l) (hk : Rs w0 4 B m d (k.flatMap opf)) (hok2 : OkO w0 k) :
    Calls Try.prog 15 #[.agg (scA b t A n c), .agg (scA b' t' B m d)] w0 fun e w' => ∃ u, e = .returned u ∧ Like w0 w' ∧ u = .bool (decide (b = b' ∧ t = t' ∧ l.map OP.v = k.map OP.v)) := by
  refine enter1 (env := [(0, .agg (scA b t A n c)), (1, .agg (scA b' t' B m d))]) [.agg (scA b t A n c), .agg (scA b' t' B m d)] Try.func15 rfl Try.ntmps15 rfl rfl ?_
  have hn := ops_n hl; have hcap := hl.cap; have hmax := hl.max; have S0 := St.start w0 noM; have hm := ops_n hk; have hcap2 := hk.cap; have hmax2 := hk.max
  refine T_seq fun K1 hK1 => ?_
  refine T_region ?_
  refine L_o (o_box rfl S0 rfl fun b1 w1 hb1 S1 => ?_)
  refine L_o (o_box rfl S1 rfl fun b2 w2 hb2 S2 => ?_)
  refine L_y (y_assign rfl) rfl ?_
  refine L_nil ?_
  refine hK1 _ _ ?_
  refine T_seq fun K2 hK2 => ?_
  refine T_seq fun K3 hK3 => ?_
  refine T_region ?_
  refine L_y (y_fieldA 0 Try.underlying25 rfl sz3 rfl rfl rfl) rfl ?_
  refine L_y (y_ldc Try.underlying3 rfl rfl (((S2.blk 0 rfl).cell _).trans (by rfl))) rfl ?_
  refine L_y (y_fieldA 0 Try.underlying30 rfl sz3 rfl rfl rfl) rfl ?_
  refine L_y (y_ldc Try.underlying3 rfl rfl (((S2.blk 1 rfl).cell _).trans (by rfl))) rfl ?_
  refine L_y (y_neq rfl rfl) rfl ?_
  refine L_y (y_move rfl) rfl ?_
  refine L_split 13 rfl (fun h13 => ?_) (fun h13 => ?_)
  ·
    refine L_gno rfl rfl rfl ?_
    refine L_gno rfl rfl rfl ?_
    refine L_gno rfl rfl rfl ?_
    refine L_gno rfl rfl rfl ?_
    refine L_gno rfl rfl rfl ?_
    refine L_y (y_pk rfl rfl) rfl ?_
    refine L_y (y_move rfl) rfl ?_
    refine L_gno rfl rfl rfl ?_
    refine L_gno rfl rfl rfl ?_
    refine L_gno rfl rfl rfl ?_
    refine L_gno rfl rfl rfl ?_
    refine L_gno rfl rfl rfl ?_
    refine L_gno rfl rfl rfl ?_
    refine L_gno rfl rfl rfl ?_
    refine L_y (y_pk rfl rfl) rfl ?_
    refine L_nil ?_
    refine hK3 _ _ ?_
    refine T_true rfl ?_
    refine T_seq fun K4 hK4 => ?_
    refine T_region ?_
    refine L_y (y_assign rfl) rfl ?_
    refine L_nil ?_
    refine hK4 _ _ ?_
    refine T_ret ?_
    refine ur ?_
    refine ret1 rfl rfl ?_
    first | exact ⟨_, rfl, S2.like0, congrArg Value.bool (decide_eq_false (fun ⟨e1, e2, e3⟩ => by have e4 := congrArg List.length e3; rw [List.length_map, List.length_map] at e4; omega)).symm⟩ | exact ⟨_, rfl, S2.like0, congrArg Value.bool (decide_eq_false (fun ⟨e1, e2, e3⟩ => by have e5 := same_at hx hy e3; have f1 := congrArg OV.cp e5; have f2 := congrArg OV.fr e5; have f3 := congrArg OV.n e5; have f4 := congrArg OV.l e5; simp_all [OP.v])).symm⟩ | exact ⟨_, rfl, S2.like0, congrArg Value.bool (decide_eq_true ⟨by omega, by omega, same_end heq (by omega) (by omega)⟩).symm⟩
  ·
    refine L_gyes rfl rfl ?_
    refine L_y (y_fieldA 1 Try.underlying25 rfl sz3 rfl rfl rfl) rfl ?_
    refine L_gyes rfl rfl ?_
    refine L_y (y_ldc Try.underlying3 rfl rfl (((S2.blk 0 rfl).cell _).trans (by rfl))) rfl ?_
    refine L_gyes rfl rfl ?_
    refine L_y (y_fieldA 1 Try.underlying30 rfl sz3 rfl rfl rfl) rfl ?_
    refine L_gyes rfl rfl ?_
    refine L_y (y_ldc Try.underlying3 rfl rfl (((S2.blk 1 rfl).cell _).trans (by rfl))) rfl ?_
    refine L_gyes rfl rfl ?_
    refine L_y (y_neq rfl rfl) rfl ?_
    refine L_y (y_pk rfl rfl) rfl ?_
    refine L_y (y_move rfl) rfl ?_
    refine L_split 20 rfl (fun h20 => ?_) (fun h20 => ?_)
    ·
      refine L_gno rfl rfl rfl ?_
      refine L_gno rfl rfl rfl ?_
      refine L_gno rfl rfl rfl ?_
      refine L_gno rfl rfl rfl ?_
      refine L_gno rfl rfl rfl ?_
      refine L_gno rfl rfl rfl ?_
      refine L_gno rfl rfl rfl ?_
      refine L_y (y_pk rfl rfl) rfl ?_
      refine L_nil ?_
      refine hK3 _ _ ?_
      refine T_true rfl ?_
      refine T_seq fun K5 hK5 => ?_
      refine T_region ?_
      refine L_y (y_assign rfl) rfl ?_
      refine L_nil ?_
      refine hK5 _ _ ?_
      refine T_ret ?_
      refine ur ?_
      refine ret1 rfl rfl ?_
      first | exact ⟨_, rfl, S2.like0, congrArg Value.bool (decide_eq_false (fun ⟨e1, e2, e3⟩ => by have e4 := congrArg List.length e3; rw [List.length_map, List.length_map] at e4; omega)).symm⟩ | exact ⟨_, rfl, S2.like0, congrArg Value.bool (decide_eq_false (fun ⟨e1, e2, e3⟩ => by have e5 := same_at hx hy e3; have f1 := congrArg OV.cp e5; have f2 := congrArg OV.fr e5; have f3 := congrArg OV.n e5; have f4 := congrArg OV.l e5; simp_all [OP.v])).symm⟩ | exact ⟨_, rfl, S2.like0, congrArg Value.bool (decide_eq_true ⟨by omega, by omega, same_end heq (by omega) (by omega)⟩).symm⟩
    ·
      refine L_gyes rfl rfl ?_
      refine L_y (y_fieldA 2 Try.underlying25 rfl sz23 rfl rfl rfl) rfl ?_
      refine L_gyes rfl rfl ?_
      refine L_y (y_ldc Try.underlying23 rfl rfl (((S2.blk 0 rfl).cell _).trans (by rfl))) rfl ?_
      refine L_gyes rfl rfl ?_
      refine L_y (y_len Try.underlying23 rfl) rfl ?_
      refine L_gyes rfl rfl ?_
      refine L_y (y_fieldA 2 Try.underlying30 rfl sz28 rfl rfl rfl) rfl ?_
      refine L_gyes rfl rfl ?_
      refine L_y (y_ldc Try.underlying28 rfl rfl (((S2.blk 1 rfl).cell _).trans (by rfl))) rfl ?_
      refine L_gyes rfl rfl ?_
      refine L_y (y_len Try.underlying28 rfl) rfl ?_
      refine L_gyes rfl rfl ?_
      refine L_y (y_neq rfl rfl) rfl ?_
      refine L_y (y_pk rfl rfl) rfl ?_
      refine L_nil ?_
      refine hK3 _ _ ?_
      refine T_cond rfl (fun h28 => ?_) (fun h28 => ?_)
      ·
        refine T_seq fun K6 hK6 => ?_
        refine T_region ?_
        refine L_y (y_assign rfl) rfl ?_
        refine L_nil ?_
        refine hK6 _ _ ?_
        refine T_ret ?_
        refine ur ?_
        refine ret1 rfl rfl ?_
        first | exact ⟨_, rfl, S2.like0, congrArg Value.bool (decide_eq_false (fun ⟨e1, e2, e3⟩ => by have e4 := congrArg List.length e3; rw [List.length_map, List.length_map] at e4; omega)).symm⟩ | exact ⟨_, rfl, S2.like0, congrArg Value.bool (decide_eq_false (fun ⟨e1, e2, e3⟩ => by have e5 := same_at hx hy e3; have f1 := congrArg OV.cp e5; have f2 := congrArg OV.fr e5; have f3 := congrArg OV.n e5; have f4 := congrArg OV.l e5; simp_all [OP.v])).symm⟩ | exact ⟨_, rfl, S2.like0, congrArg Value.bool (decide_eq_true ⟨by omega, by omega, same_end heq (by omega) (by omega)⟩).symm⟩
      ·
        refine T_skip ?_
        refine hK2 _ _ ?_
        refine T_seq fun K7 hK7 => ?_
        refine T_seq fun K8 hK8 => ?_
        refine T_region ?_
        refine L_y (y_assign rfl) rfl ?_
        refine L_nil ?_
        refine hK8 _ _ ?_
        refine T_block ?_
        refine T_loop1 [(2, _), (3, _)] (fun (i : Nat) => [(5, .int .i64 (i : Int))]) (fun (i : Nat) => n - i) (fun (i : Nat) (w : World) => (i ≤ n ∧ (l.take i).map OP.v = (k.take i).map OP.v) ∧ St w0 noM [blk b1 25 (scA b t A n c), blk b2 30 (scA b' t' B m d)] w) 0 (Sub.cons rfl (by first | rfl | exact congrArg (Value.int _) (by omega)) (Sub.nil _)) (Sub.cons rfl rfl (Sub.cons rfl rfl (Sub.nil _))) ?_ ?_
        ·
          exact ⟨⟨Nat.zero_le _, rfl⟩, S2⟩
        ·
          intro i w5 hrel
          obtain ⟨⟨hi, heq⟩, S5⟩ := hrel
          refine T_seq fun K9 hK9 => ?_
          refine T_seq fun K10 hK10 => ?_
          refine T_region ?_
          refine L_y (y_move rfl) rfl ?_
          refine L_y (y_fieldA 2 Try.underlying25 rfl sz23 rfl rfl rfl) rfl ?_
          refine L_y (y_ldc Try.underlying23 rfl rfl (((S5.blk 0 rfl).cell _).trans (by rfl))) rfl ?_
          refine L_y (y_len Try.underlying23 rfl) rfl ?_
          refine L_y (y_lss rfl rfl) rfl ?_
          refine L_nil ?_
          refine hK10 _ _ ?_
          refine T_cond rfl (fun h33 => ?_) (fun h33 => ?_)
          ·
            obtain ⟨x, hx⟩ : ∃ x, l[i]? = some x := ⟨_, List.getElem?_eq_getElem (by omega)⟩
            obtain ⟨y, hy⟩ : ∃ y, k[i]? = some y := ⟨_, List.getElem?_eq_getElem (by omega)⟩
            have hxo := hok x (List.mem_of_getElem? hx)
            have hyo := hok2 y (List.mem_of_getElem? hy)
            refine T_skip ?_
            refine hK9 _ _ ?_
            refine T_seq fun K11 hK11 => ?_
            refine T_block ?_
            refine T_seq fun K12 hK12 => ?_
            refine T_drawnX (fun w => Blk w b1 25 (scA b t A n c) ∧ Blk w b2 30 (scA b' t' B m d) ∧ Rs w 4 A n c (l.flatMap opf) ∧ Rs w 4 B m d (k.flatMap opf)) hmix (by kernel_rfl) (fun w l => ⟨(S5.like l).blk 0 rfl, (S5.like l).blk 1 rfl, (S5.like l).rd hl, (S5.like l).rd hk⟩) fun w6 l6 => ?_
            have S6 := S5.like l6
            refine DX_y 0 (by kernel_rfl) rfl (y_fieldA 2 Try.underlying25 rfl sz23 rfl rfl rfl) rfl ?_
            refine DX_y 1 (by kernel_rfl) rfl (y_of fun w hw => y_ldc Try.underlying23 rfl rfl (((hw.1).cell _).trans (by rfl))) rfl ?_
            refine DX_y 2 (by kernel_rfl) rfl (y_move rfl) rfl ?_
            refine DX_y 3 (by kernel_rfl) rfl (y_idx Try.underlying23 sz57 rfl rfl (S6.rd hl) (Nt.mk (by omega) : Nt _ (i)) (by omega)) rfl ?_
            refine DX_y 4 (by kernel_rfl) rfl (y_of fun w hw => y_ldp (f := opf) opf_len Try.underlying57 rfl sz57 rfl (hw.2.2.1) (by omega) hx) rfl ?_
            refine DX_y 5 (by kernel_rfl) rfl (y_fieldA 2 Try.underlying30 rfl sz28 rfl rfl rfl) rfl ?_
            refine DX_y 6 (by kernel_rfl) rfl (y_of fun w hw => y_ldc Try.underlying28 rfl rfl (((hw.2.1).cell _).trans (by rfl))) rfl ?_
            refine DX_y 7 (by kernel_rfl) rfl (y_move rfl) rfl ?_
            refine DX_y 8 (by kernel_rfl) rfl (y_idx Try.underlying28 sz58 rfl rfl (S6.rd hk) (Nt.mk (by omega) : Nt _ (i)) (by omega)) rfl ?_
            refine DX_y 9 (by kernel_rfl) rfl (y_of fun w hw => y_ldp (f := opf) opf_len Try.underlying58 rfl sz58 rfl (hw.2.2.2) (by omega) hy) rfl ?_
            refine DX_allocs 10 11 (by kernel_rfl) (by kernel_rfl) (by kernel_rfl) rfl rfl (by decide) (by decide) rfl rfl zz57 zz58 S6 rfl rfl (fun w S => ⟨S.blk 0 rfl, S.blk 1 rfl, S.rd hl, S.rd hk⟩) fun b7 b7' w7 hb7 hb7' S7 => ?_
            refine DX_DL [(12, false), (13, false)] (by kernel_rfl) ?_
            refine DL_o rfl (o_stW S7 2 rfl rfl rfl sz57 rfl (opf_one x) fun w8 S8 => ?_)
            refine ⟨⟨S8.blk 0 rfl, S8.blk 1 rfl, S8.rd hl, S8.rd hk⟩, ?_⟩
            refine DL_o rfl (o_stW S8 3 rfl rfl rfl sz58 rfl (opf_one y) fun w9 S9 => ?_)
            refine ⟨⟨S9.blk 0 rfl, S9.blk 1 rfl, S9.rd hl, S9.rd hk⟩, ?_⟩
            refine DL_nil ?_
            refine hK12 _ _ ?_
            refine T_seq fun K13 hK13 => ?_
            refine T_region ?_
            refine L_y (y_fieldA 0 Try.underlying57 rfl sz4 rfl rfl rfl) rfl ?_
            refine L_y (y_ldc Try.underlying4 rfl rfl (((S9.blk 2 rfl).cell _).trans (by rfl))) rfl ?_
            refine L_y (y_fieldA 0 Try.underlying58 rfl sz4 rfl rfl rfl) rfl ?_
            refine L_y (y_ldc Try.underlying4 rfl rfl (((S9.blk 3 rfl).cell _).trans (by rfl))) rfl ?_
            refine L_y (y_bneq Try.underlying4 rfl rfl) rfl ?_
            refine L_y (y_move rfl) rfl ?_
            refine L_splitB 51 rfl (fun h51 => ?_) (fun h51 => ?_)
            ·
              refine L_gno rfl rfl rfl ?_
              refine L_gno rfl rfl rfl ?_
              refine L_gno rfl rfl rfl ?_
              refine L_gno rfl rfl rfl ?_
              refine L_gno rfl rfl rfl ?_
              refine L_y (y_pk rfl rfl) rfl ?_
              refine L_y (y_move rfl) rfl ?_
              refine L_gno rfl rfl rfl ?_
              refine L_gno rfl rfl rfl ?_
              refine L_gno rfl rfl rfl ?_
              refine L_gno rfl rfl rfl ?_
              refine L_gno rfl rfl rfl ?_
              refine L_y (y_pk rfl rfl) rfl ?_
              refine L_y (y_move rfl) rfl ?_
              refine L_gno rfl rfl rfl ?_
              refine L_gno rfl rfl rfl ?_
              refine L_gno rfl rfl rfl ?_
              refine L_gno rfl rfl rfl ?_
              refine L_gno rfl rfl rfl ?_
              refine L_gno rfl rfl rfl ?_
              refine L_y (y_pk rfl rfl) rfl ?_
              refine L_nil ?_
              refine hK13 _ _ ?_
              refine T_true rfl ?_
              refine T_seq fun K14 hK14 => ?_
              refine T_region ?_
              refine L_y (y_assign rfl) rfl ?_
              refine L_nil ?_
              refine hK14 _ _ ?_
              refine T_ret ?_
              refine ur ?_
              refine ret1 rfl rfl ?_
              first | exact ⟨_, rfl, S9.like0, congrArg Value.bool (decide_eq_false (fun ⟨e1, e2, e3⟩ => by have e4 := congrArg List.length e3; rw [List.length_map, List.length_map] at e4; omega)).symm⟩ | exact ⟨_, rfl, S9.like0, congrArg Value.bool (decide_eq_false (fun ⟨e1, e2, e3⟩ => by have e5 := same_at hx hy e3; have f1 := congrArg OV.cp e5; have f2 := congrArg OV.fr e5; have f3 := congrArg OV.n e5; have f4 := congrArg OV.l e5; simp_all [OP.v])).symm⟩ | exact ⟨_, rfl, S9.like0, congrArg Value.bool (decide_eq_true ⟨by omega, by omega, same_end heq (by omega) (by omega)⟩).symm⟩
            ·
              refine L_gyes rfl rfl ?_
              refine L_y (y_fieldA 1 Try.underlying57 rfl sz3 rfl rfl rfl) rfl ?_
              refine L_gyes rfl rfl ?_
              refine L_y (y_ldc Try.underlying3 rfl rfl (((S9.blk 2 rfl).cell _).trans (by rfl))) rfl ?_
              refine L_gyes rfl rfl ?_
              refine L_y (y_fieldA 1 Try.underlying58 rfl sz3 rfl rfl rfl) rfl ?_
              refine L_gyes rfl rfl ?_
              refine L_y (y_ldc Try.underlying3 rfl rfl (((S9.blk 3 rfl).cell _).trans (by rfl))) rfl ?_
              refine L_gyes rfl rfl ?_
              refine L_y (y_neq rfl rfl) rfl ?_
              refine L_y (y_pk rfl rfl) rfl ?_
              refine L_y (y_move rfl) rfl ?_
              refine L_split 58 rfl (fun h58 => ?_) (fun h58 => ?_)
              ·
                refine L_gno rfl rfl rfl ?_
                refine L_gno rfl rfl rfl ?_
                refine L_gno rfl rfl rfl ?_
                refine L_gno rfl rfl rfl ?_
                refine L_gno rfl rfl rfl ?_
                refine L_y (y_pk rfl rfl) rfl ?_
                refine L_y (y_move rfl) rfl ?_
                refine L_gno rfl rfl rfl ?_
                refine L_gno rfl rfl rfl ?_
                refine L_gno rfl rfl rfl ?_
                refine L_gno rfl rfl rfl ?_
                refine L_gno rfl rfl rfl ?_
                refine L_gno rfl rfl rfl ?_
                refine L_y (y_pk rfl rfl) rfl ?_
                refine L_nil ?_
                refine hK13 _ _ ?_
                refine T_true rfl ?_
                refine T_seq fun K15 hK15 => ?_
                refine T_region ?_
                refine L_y (y_assign rfl) rfl ?_
                refine L_nil ?_
                refine hK15 _ _ ?_
                refine T_ret ?_
                refine ur ?_
                refine ret1 rfl rfl ?_
                first | exact ⟨_, rfl, S9.like0, congrArg Value.bool (decide_eq_false (fun ⟨e1, e2, e3⟩ => by have e4 := congrArg List.length e3; rw [List.length_map, List.length_map] at e4; omega)).symm⟩ | exact ⟨_, rfl, S9.like0, congrArg Value.bool (decide_eq_false (fun ⟨e1, e2, e3⟩ => by have e5 := same_at hx hy e3; have f1 := congrArg OV.cp e5; have f2 := congrArg OV.fr e5; have f3 := congrArg OV.n e5; have f4 := congrArg OV.l e5; simp_all [OP.v])).symm⟩ | exact ⟨_, rfl, S9.like0, congrArg Value.bool (decide_eq_true ⟨by omega, by omega, same_end heq (by omega) (by omega)⟩).symm⟩
              ·
                refine L_gyes rfl rfl ?_
                refine L_y (y_fieldA 2 Try.underlying57 rfl sz3 rfl rfl rfl) rfl ?_
                refine L_gyes rfl rfl ?_
                refine L_y (y_ldc Try.underlying3 rfl rfl (((S9.blk 2 rfl).cell _).trans (by rfl))) rfl ?_
                refine L_gyes rfl rfl ?_
                refine L_y (y_fieldA 2 Try.underlying58 rfl sz3 rfl rfl rfl) rfl ?_
                refine L_gyes rfl rfl ?_
                refine L_y (y_ldc Try.underlying3 rfl rfl (((S9.blk 3 rfl).cell _).trans (by rfl))) rfl ?_
                refine L_gyes rfl rfl ?_
                refine L_y (y_neq rfl rfl) rfl ?_
                refine L_y (y_pk rfl rfl) rfl ?_
                refine L_y (y_move rfl) rfl ?_
                refine L_split 65 rfl (fun h65 => ?_) (fun h65 => ?_)
                ·
                  refine L_gno rfl rfl rfl ?_
                  refine L_gno rfl rfl rfl ?_
                  refine L_gno rfl rfl rfl ?_
                  refine L_gno rfl rfl rfl ?_
                  refine L_gno rfl rfl rfl ?_
                  refine L_gno rfl rfl rfl ?_
                  refine L_y (y_pk rfl rfl) rfl ?_
                  refine L_nil ?_
                  refine hK13 _ _ ?_
                  refine T_true rfl ?_
                  refine T_seq fun K16 hK16 => ?_
                  refine T_region ?_
                  refine L_y (y_assign rfl) rfl ?_
                  refine L_nil ?_
                  refine hK16 _ _ ?_
                  refine T_ret ?_
                  refine ur ?_
                  refine ret1 rfl rfl ?_
                  first | exact ⟨_, rfl, S9.like0, congrArg Value.bool (decide_eq_false (fun ⟨e1, e2, e3⟩ => by have e4 := congrArg List.length e3; rw [List.length_map, List.length_map] at e4; omega)).symm⟩ | exact ⟨_, rfl, S9.like0, congrArg Value.bool (decide_eq_false (fun ⟨e1, e2, e3⟩ => by have e5 := same_at hx hy e3; have f1 := congrArg OV.cp e5; have f2 := congrArg OV.fr e5; have f3 := congrArg OV.n e5; have f4 := congrArg OV.l e5; simp_all [OP.v])).symm⟩ | exact ⟨_, rfl, S9.like0, congrArg Value.bool (decide_eq_true ⟨by omega, by omega, same_end heq (by omega) (by omega)⟩).symm⟩
                ·
                  refine L_gyes rfl rfl ?_
                  refine L_y (y_fieldA 3 Try.underlying57 rfl sz22 rfl rfl rfl) rfl ?_
                  refine L_gyes rfl rfl ?_
                  refine L_y (y_ldc Try.underlying22 rfl rfl (((S9.blk 2 rfl).cell _).trans (by rfl))) rfl ?_
                  refine L_gyes rfl rfl ?_
                  refine L_y (y_fieldA 3 Try.underlying58 rfl sz22 rfl rfl rfl) rfl ?_
                  refine L_gyes rfl rfl ?_
                  refine L_y (y_ldc Try.underlying22 rfl rfl (((S9.blk 3 rfl).cell _).trans (by rfl))) rfl ?_
                  refine L_gyes rfl rfl ?_
                  refine L_o (o_call Try.func14 rfl rfl (same1 x.p.A y.p.A x.p.n x.p.c y.p.n y.p.c x.p.l y.p.l w9 (S9.rd hxo) (S9.rd hyo)) rfl rfl ?_)
                  rintro e13 w13 ⟨v13, rfl, l13, rfl⟩
                  refine ⟨_, rfl, ?_⟩
                  have S13 := S9.like l13
                  refine L_gyes rfl rfl ?_
                  refine L_y ((by first | exact y_notD rfl | exact y_not rfl)) rfl ?_
                  refine L_y (y_pk rfl rfl) rfl ?_
                  refine L_nil ?_
                  refine hK13 _ _ ?_
                  refine T_condB rfl (fun h72 => ?_) (fun h72 => ?_)
                  ·
                    refine T_seq fun K17 hK17 => ?_
                    refine T_region ?_
                    refine L_y (y_assign rfl) rfl ?_
                    refine L_nil ?_
                    refine hK17 _ _ ?_
                    refine T_ret ?_
                    refine ur ?_
                    refine ret1 rfl rfl ?_
                    first | exact ⟨_, rfl, S13.like0, congrArg Value.bool (decide_eq_false (fun ⟨e1, e2, e3⟩ => by have e4 := congrArg List.length e3; rw [List.length_map, List.length_map] at e4; omega)).symm⟩ | exact ⟨_, rfl, S13.like0, congrArg Value.bool (decide_eq_false (fun ⟨e1, e2, e3⟩ => by have e5 := same_at hx hy e3; have f1 := congrArg OV.cp e5; have f2 := congrArg OV.fr e5; have f3 := congrArg OV.n e5; have f4 := congrArg OV.l e5; simp_all [OP.v])).symm⟩ | exact ⟨_, rfl, S13.like0, congrArg Value.bool (decide_eq_true ⟨by omega, by omega, same_end heq (by omega) (by omega)⟩).symm⟩
                  ·
                    refine T_skip ?_
                    refine hK11 _ _ ?_
                    refine T_region ?_
                    refine L_y (y_move rfl) rfl ?_
                    refine L_y (y_add rfl rfl (i64w (by omega))) rfl ?_
                    refine L_y (y_assign rfl) rfl ?_
                    refine L_nil ?_
                    have S91 := S13.sel [0, 1] (by decide)
                    refine ⟨i + 1, by omega, ⟨⟨by omega, same_step heq hx hy (by unfold OP.v; simp_all)⟩, S91⟩, ?_⟩
                    exact (Sub.cons rfl (by first | rfl | exact congrArg (Value.int _) (by omega)) (Sub.cons rfl rfl (Sub.cons rfl rfl (Sub.nil _))))
          ·
            refine T_exit ?_
            refine hK7 _ _ ?_
            refine T_seq fun K18 hK18 => ?_
            refine T_region ?_
            refine L_y (y_assign rfl) rfl ?_
            refine L_nil ?_
            refine hK18 _ _ ?_
            refine T_ret ?_
            refine ur ?_
            refine ret1 rfl rfl ?_
            first | exact ⟨_, rfl, S5.like0, congrArg Value.bool (decide_eq_false (fun ⟨e1, e2, e3⟩ => by have e4 := congrArg List.length e3; rw [List.length_map, List.length_map] at e4; omega)).symm⟩ | exact ⟨_, rfl, S5.like0, congrArg Value.bool (decide_eq_false (fun ⟨e1, e2, e3⟩ => by have e5 := same_at hx hy e3; have f1 := congrArg OV.cp e5; have f2 := congrArg OV.fr e5; have f3 := congrArg OV.n e5; have f4 := congrArg OV.l e5; simp_all [OP.v])).symm⟩ | exact ⟨_, rfl, S5.like0, congrArg Value.bool (decide_eq_true ⟨by omega, by omega, same_end heq (by omega) (by omega)⟩).symm⟩
end Go.Proofs.Ytpcgldkllnkaeaa


/-
  Apply.
-/
namespace Go.Proofs.Ytpcgldkllnkaeaa
open Go.RowKit Zk Zx
set_option linter.unusedVariables false
set_option linter.unusedSimpArgs false

/-- What an op lays. -/
def layV (a : List UInt8) (o : OV) : List UInt8 := if o.cp then (a.drop o.fr.toNat).take o.n.toNat else o.l
def aplV (a : List UInt8) (l : List OV) : List UInt8 := l.flatMap (layV a)
/-- What a script makes of a base, and the error. -/
def aplR (a : List UInt8) (b t : Int) (l : List OV) : List UInt8 × Int := if errV b t l ≠ 0 then ([], errV b t l) else if (a.length : Int) ≠ b then ([], 21) else (aplV a l, 0)
theorem aplR_err {a : List UInt8} {b t : Int} {l : List OV} (h : errV b t l ≠ 0) : aplR a b t l = ([], errV b t l) := by unfold aplR; rw [if_pos h]
theorem aplR_base {a : List UInt8} {b t : Int} {l : List OV} (h : errV b t l = 0) (h2 : (a.length : Int) ≠ b) : aplR a b t l = ([], 21) := by unfold aplR; rw [if_neg (fun h3 => h3 h), if_pos h2]
theorem aplR_ok {a : List UInt8} {b t : Int} {l : List OV} (h : errV b t l = 0) (h2 : (a.length : Int) = b) : aplR a b t l = (aplV a l, 0) := by unfold aplR; rw [if_neg (fun h3 => h3 h), if_neg (fun h3 => h3 h2)]
theorem errV_zero {b t : Int} {l : List OV} (h : errV b t l = 0) : (0 ≤ b ∧ b ≤ 4000 ∧ 0 ≤ t ∧ t ≤ 4000) ∧ chkL b t l = true := by
  unfold errV at h
  split at h
  · rename_i h1
    unfold chkV at h1
    rw [Bool.and_eq_true] at h1
    exact ⟨of_decide_eq_true h1.1, h1.2⟩
  · cases h
theorem chkL_next {b left : Int} {l : List OP} {k : Nat} {o : OP} (ho : l[k]? = some o) (h : chkL b left ((l.map OP.v).drop k) = true) : rtV b o.v = true ∧ szV o.v ≤ left ∧ chkL b (left - szV o.v) ((l.map OP.v).drop (k + 1)) = true := by
  rw [drop_at' (map_at ho)] at h
  unfold chkL at h
  rw [Bool.and_eq_true, Bool.and_eq_true] at h
  exact ⟨h.1.1, of_decide_eq_true h.1.2, h.2⟩
theorem rt_cp {b : Int} {o : OP} (h : rtV b o.v = true) (hc : o.cp = true) : 1 ≤ o.n ∧ o.n ≤ b ∧ 0 ≤ o.fr ∧ o.fr ≤ b - o.n ∧ szV o.v = o.n := by
  unfold rtV at h
  rw [if_pos (show o.v.cp = true from hc)] at h
  simp only [Bool.and_eq_true, decide_eq_true_eq] at h
  exact ⟨h.1.1.1.1, h.1.1.1.2, h.1.1.2, h.1.2, by unfold szV; rw [if_pos (show o.v.cp = true from hc)]; rfl⟩
theorem rt_new {b : Int} {o : OP} (h : rtV b o.v = true) (hc : o.cp = false) : 1 ≤ o.p.l.length ∧ szV o.v = (o.p.l.length : Int) := by
  unfold rtV at h
  rw [if_neg (show ¬ o.v.cp = true from by rw [show o.v.cp = o.cp from rfl, hc]; exact Bool.false_ne_true)] at h
  simp only [Bool.and_eq_true, decide_eq_true_eq] at h
  exact ⟨h.1.1, by unfold szV; rw [if_neg (show ¬ o.v.cp = true from by rw [show o.v.cp = o.cp from rfl, hc]; exact Bool.false_ne_true)]; rfl⟩
theorem aplV_step {a : List UInt8} {l : List OP} {k : Nat} {o : OP} (ho : l[k]? = some o) : aplV a ((l.take (k + 1)).map OP.v) = aplV a ((l.take k).map OP.v) ++ layV a o.v := by
  rw [take1 ho, List.map_append]
  unfold aplV
  rw [List.flatMap_append]
  simp
theorem lay_cp {a : List UInt8} {o : OP} (hc : o.cp = true) : layV a o.v = (a.drop o.fr.toNat).take (o.fr.toNat + o.n.toNat - o.fr.toNat) := by
  unfold layV
  rw [if_pos (show o.v.cp = true from hc), Nat.add_sub_cancel_left]
  rfl
theorem lay_new {a : List UInt8} {o : OP} (hc : o.cp = false) : layV a o.v = o.p.l := by
  unfold layV
  rw [if_neg (show ¬ o.v.cp = true from by rw [show o.v.cp = o.cp from rfl, hc]; exact Bool.false_ne_true)]
  rfl
theorem bL_app' (l m : List UInt8) : bL l ++ bL m = bL (l ++ m) := by simp [bL]


set_option maxRecDepth 100000 in
theorem papply (A : Option Addr) (n c : Nat) (a : List UInt8) (B : Option Addr) (m d : Nat) (l : List OP) (b t : Int) (w0 : World) (ha : Rs w0 1 A n c (bL a)) (hl : Rs w0 4 B m d (l.flatMap opf)) (hok : OkO w0 l) :
    Calls Try.prog 12 #[.slice A n c, .agg (scA b t B m d)] w0 fun e w' => ∃ u, e = .returned u ∧ Like w0 w' ∧ ∃ A' c', u = .tuple #[.slice A' (aplR a b t (l.map OP.v)).1.length c', .int .i64 (aplR a b t (l.map OP.v)).2] ∧ w'.ownsRow w0.heap.size 5 1 (.slice A' (aplR a b t (l.map OP.v)).1.length c') (aplR a b t (l.map OP.v)).1.length (bL (aplR a b t (l.map OP.v)).1) := by
  refine enter1 (env := [(0, .slice A n c), (1, .agg (scA b t B m d))]) [.slice A n c, .agg (scA b t B m d)] Try.func12 rfl Try.ntmps12 rfl rfl ?_
  have hm := ops_n hl; have hcapm := hl.cap; have hmaxm := hl.max; have hn := ha.lenb; have hcap := ha.cap; have hmax := ha.max; have S0 := St.start w0 noM
  refine T_seq fun K1 hK1 => ?_
  refine T_region ?_
  refine L_o (o_box rfl S0 rfl fun b1 w1 hb1 S1 => ?_)
  refine L_y (y_assign rfl) rfl ?_
  refine L_y (y_assign rfl) rfl ?_
  refine L_nil ?_
  refine hK1 _ _ ?_
  refine T_seq fun K2 hK2 => ?_
  refine T_seq fun K3 hK3 => ?_
  refine T_region ?_
  refine L_y (y_ldW Try.underlying25 rfl sz25 rfl (S1.blk 0 rfl) (show _ = (scA b t B m d).toList ∧ _ from ⟨rfl, rfl⟩)) rfl ?_
  refine L_o (o_call Try.func20 rfl rfl (pcheck B m d l b t w1 (S1.rd hl) (hok.like S1.like0)) rfl rfl ?_)
  rintro e2 w2 ⟨v2, rfl, l2, rfl⟩
  refine ⟨_, rfl, ?_⟩
  have S2 := S1.like l2
  refine L_y (y_assign rfl) rfl ?_
  refine L_nil ?_
  refine hK3 _ _ ?_
  refine T_seq fun K4 hK4 => ?_
  refine T_region ?_
  refine L_y (y_move rfl) rfl ?_
  refine L_y (y_neq rfl rfl) rfl ?_
  refine L_nil ?_
  refine hK4 _ _ ?_
  refine T_cond rfl (fun h13 => ?_) (fun h13 => ?_)
  ·
    refine T_seq fun K5 hK5 => ?_
    refine T_region ?_
    refine L_y (y_move rfl) rfl ?_
    refine L_y (y_assign rfl) rfl ?_
    refine L_y (y_assign rfl) rfl ?_
    refine L_nil ?_
    refine hK5 _ _ ?_
    refine T_ret ?_
    refine ur ?_
    refine ret2 rfl rfl rfl ?_
    first | exact ⟨_, rfl, S2.like0, none, 0, by rw [aplR_err h13]; rfl, by rw [aplR_err h13]; exact World.ownsRow_nil _ _ _ _⟩ | exact ⟨_, rfl, S2.like0, none, 0, by rw [aplR_base h130 (by omega)]; rfl, by rw [aplR_base h130 (by omega)]; exact World.ownsRow_nil _ _ _ _⟩ | (have hke : k = m := by omega); subst hke; rw [List.take_of_length_le (by omega)] at hout; exact ⟨_, rfl, S2.like0, A1, c1, by rw [aplR_ok h130 (by omega), ← hout], by rw [aplR_ok h130 (by omega), ← hout]; exact S2.own 1 rfl⟩
  ·
    have h130 := Decidable.byContradiction h13
    obtain ⟨hrg, hall⟩ := errV_zero h130
    refine T_skip ?_
    refine hK2 _ _ ?_
    refine T_seq fun K6 hK6 => ?_
    refine T_seq fun K7 hK7 => ?_
    refine T_region ?_
    refine L_y (y_move rfl) rfl ?_
    refine L_y (y_len Try.underlying22 rfl) rfl ?_
    refine L_y (y_fieldA 0 Try.underlying25 rfl sz3 rfl rfl rfl) rfl ?_
    refine L_y (y_ldc Try.underlying3 rfl rfl (((S2.blk 0 rfl).cell _).trans (by rfl))) rfl ?_
    refine L_y (y_neq rfl rfl) rfl ?_
    refine L_nil ?_
    refine hK7 _ _ ?_
    refine T_cond rfl (fun h19 => ?_) (fun h19 => ?_)
    ·
      refine T_seq fun K8 hK8 => ?_
      refine T_region ?_
      refine L_y (y_assign rfl) rfl ?_
      refine L_y (y_assign rfl) rfl ?_
      refine L_nil ?_
      refine hK8 _ _ ?_
      refine T_ret ?_
      refine ur ?_
      refine ret2 rfl rfl rfl ?_
      first | exact ⟨_, rfl, S2.like0, none, 0, by rw [aplR_err h13]; rfl, by rw [aplR_err h13]; exact World.ownsRow_nil _ _ _ _⟩ | exact ⟨_, rfl, S2.like0, none, 0, by rw [aplR_base h130 (by omega)]; rfl, by rw [aplR_base h130 (by omega)]; exact World.ownsRow_nil _ _ _ _⟩ | (have hke : k = m := by omega); subst hke; rw [List.take_of_length_le (by omega)] at hout; exact ⟨_, rfl, S2.like0, A1, c1, by rw [aplR_ok h130 (by omega), ← hout], by rw [aplR_ok h130 (by omega), ← hout]; exact S2.own 1 rfl⟩
    ·
      refine T_skip ?_
      refine hK6 _ _ ?_
      refine T_seq fun K9 hK9 => ?_
      refine T_region ?_
      refine L_y (y_fieldA 1 Try.underlying25 rfl sz3 rfl rfl rfl) rfl ?_
      refine L_y (y_ldc Try.underlying3 rfl rfl (((S2.blk 0 rfl).cell _).trans (by rfl))) rfl ?_
      refine L_o (o_make te22 rfl S2 rfl rfl inferInstance (Nt.mk (by omega) : Nt _ t.toNat) rfl (by omega) (by omega) (by omega) fun b3 w3 S3 => ?_)
      refine L_y (y_assign rfl) rfl ?_
      refine L_nil ?_
      refine hK9 _ _ ?_
      refine T_seq fun K10 hK10 => ?_
      refine T_seq fun K11 hK11 => ?_
      refine T_region ?_
      refine L_y (y_fieldA 2 Try.underlying25 rfl sz23 rfl rfl rfl) rfl ?_
      refine L_y (y_ldc Try.underlying23 rfl rfl (((S3.blk 0 rfl).cell _).trans (by rfl))) rfl ?_
      refine L_y (y_len Try.underlying23 rfl) rfl ?_
      refine L_y (y_move rfl) rfl ?_
      refine L_nil ?_
      refine hK11 _ _ ?_
      refine T_block ?_
      refine T_loop4 [(0, _), (24, _), (25, _)] (fun (k : Nat) (out : List UInt8) (A1 : Option Addr) (c1 : Nat) => [(26, .int .i64 (k : Int)), (7, .slice A1 out.length c1)]) (fun (k : Nat) (out : List UInt8) (A1 : Option Addr) (c1 : Nat) => m - k) (fun (k : Nat) (out : List UInt8) (A1 : Option Addr) (c1 : Nat) (w : World) => (k ≤ m ∧ out = aplV a ((l.take k).map OP.v) ∧ (out.length : Int) ≤ t ∧ chkL b (t - (out.length : Int)) ((l.map OP.v).drop k) = true) ∧ St w0 noM [blk b1 25 (scA b t B m d), row 5 1 A1 out.length c1 (bL out)] w) 0 [] (some ⟨b3, 0, none⟩) t.toNat (Sub.cons rfl (by first | rfl | exact congrArg (Value.int _) (by omega)) (Sub.cons rfl (by first | rfl | exact congrArg (Value.int _) (by omega)) (Sub.nil _))) (Sub.cons rfl rfl (Sub.cons rfl rfl (Sub.cons rfl rfl (Sub.nil _)))) ?_ ?_
      ·
        exact ⟨⟨Nat.zero_le _, rfl, by show (0 : Int) ≤ t; omega, by show chkL b (t - 0) _ = true; rw [Int.sub_zero]; exact hall⟩, S3⟩
      ·
        intro k out A1 c1 w4 hrel
        obtain ⟨⟨hk, hout, hol, hch⟩, S4⟩ := hrel
        refine T_seq fun K12 hK12 => ?_
        refine T_region ?_
        refine L_y (y_lss rfl rfl) rfl ?_
        refine L_nil ?_
        refine hK12 _ _ ?_
        refine T_seq fun K13 hK13 => ?_
        refine T_cond rfl (fun h27 => ?_) (fun h27 => ?_)
        ·
          obtain ⟨o, ho⟩ : ∃ o, l[k]? = some o := ⟨_, List.getElem?_eq_getElem (by omega)⟩
          have hop := hok o (List.mem_of_getElem? ho)
          have hopn := hop.lenb; have hopc := hop.cap; have hopm := hop.max
          obtain ⟨hrt, hsz, hrest⟩ := chkL_next ho hch
          refine T_skip ?_
          refine hK13 _ _ ?_
          refine T_seq fun K14 hK14 => ?_
          refine T_block ?_
          refine T_seq fun K15 hK15 => ?_
          refine T_region ?_
          refine L_y (y_idx Try.underlying23 sz57 rfl rfl (S4.rd hl) (Nt.mk (by omega) : Nt _ (k)) (by omega)) rfl ?_
          refine L_y (y_ldp (f := opf) opf_len Try.underlying57 rfl sz57 rfl (S4.rd hl) (by omega) ho) rfl ?_
          refine L_o (o_alloc zz57 S4 rfl fun b5 w5 hb5 S5 => ?_)
          refine L_o (o_stW S5 2 rfl rfl rfl sz57 rfl (opf_one o) fun w6 S6 => ?_)
          refine L_nil ?_
          refine hK15 _ _ ?_
          refine T_seq fun K16 hK16 => ?_
          refine T_region ?_
          refine L_y (y_fieldA 0 Try.underlying57 rfl sz4 rfl rfl rfl) rfl ?_
          refine L_y (y_ldc Try.underlying4 rfl rfl (((S6.blk 2 rfl).cell _).trans (by rfl))) rfl ?_
          refine L_nil ?_
          refine hK16 _ _ ?_
          refine T_condB rfl (fun h31 => ?_) (fun h31 => ?_)
          ·
            have hcp : o.cp = true := h31
            obtain ⟨g1, g2, g3, g4, g5⟩ := rt_cp hrt hcp
            refine T_region ?_
            refine L_y (y_move rfl) rfl ?_
            refine L_y (y_move rfl) rfl ?_
            refine L_y (y_fieldA 1 Try.underlying57 rfl sz3 rfl rfl rfl) rfl ?_
            refine L_y (y_ldc Try.underlying3 rfl rfl (((S6.blk 2 rfl).cell _).trans (by rfl))) rfl ?_
            refine L_y (y_fieldA 1 Try.underlying57 rfl sz3 rfl rfl rfl) rfl ?_
            refine L_y (y_ldc Try.underlying3 rfl rfl (((S6.blk 2 rfl).cell _).trans (by rfl))) rfl ?_
            refine L_y (y_fieldA 2 Try.underlying57 rfl sz3 rfl rfl rfl) rfl ?_
            refine L_y (y_ldc Try.underlying3 rfl rfl (((S6.blk 2 rfl).cell _).trans (by rfl))) rfl ?_
            refine L_y (y_add rfl rfl (i64w (by omega))) rfl ?_
            refine L_y (y_slice Try.underlying22 sz5 rfl rfl rfl (Nt.mk (by omega) : Nt _ (o.fr.toNat)) (Nt.mk (by omega) : Nt _ (o.fr.toNat + o.n.toNat)) (by omega) (by omega)) rfl ?_
            refine L_o (o_app te22 S6 1 rfl rfl rfl (cut_mid (S6.rd ha) (k := o.fr.toNat) (u := o.fr.toNat + o.n.toNat) (by omega) (by omega)) (bL_one _) rfl (by omega) (by omega) fun A7 c7 w7 S7 => ?_)
            refine L_y (y_assign rfl) rfl ?_
            refine L_nil ?_
            refine hK14 _ _ ?_
            refine T_region ?_
            refine L_y (y_add rfl rfl (i64w (by omega))) rfl ?_
            refine L_y (y_move rfl) rfl ?_
            refine L_nil ?_
            have hpl : ((a.drop o.fr.toNat).take (o.fr.toNat + o.n.toNat - o.fr.toNat)).length = o.n.toNat := by rw [List.length_take, List.length_drop]; omega
            have S91 := S7.rowc 1 rfl (n' := (out ++ ((a.drop o.fr.toNat).take (o.fr.toNat + o.n.toNat - o.fr.toNat))).length) (xs' := bL (out ++ ((a.drop o.fr.toNat).take (o.fr.toNat + o.n.toNat - o.fr.toNat)))) (by rw [List.length_append]; omega) (bL_app' _ _)
            have S92 := S91.sel [0, 1] (by decide)
            refine ⟨k + 1, out ++ ((a.drop o.fr.toNat).take (o.fr.toNat + o.n.toNat - o.fr.toNat)), A7, c7, by omega, ⟨⟨by omega, by rw [hout, aplV_step ho, lay_cp hcp], by rw [List.length_append]; omega, by rw [List.length_append, show t - ((out.length + ((a.drop o.fr.toNat).take (o.fr.toNat + o.n.toNat - o.fr.toNat)).length : Nat) : Int) = t - (out.length : Int) - szV o.v by omega]; exact hrest⟩, S92⟩, ?_⟩
            exact (Sub.cons rfl (by first | rfl | exact congrArg (Value.int _) (by omega)) (Sub.cons rfl (by first | rfl | (rw [List.length_append]; congr 1; omega)) (Sub.cons rfl rfl (Sub.cons rfl rfl (Sub.cons rfl rfl (Sub.nil _))))))
          ·
            have hcp : o.cp = false := h31
            obtain ⟨g1, g2⟩ := rt_new hrt hcp
            refine T_region ?_
            refine L_y (y_move rfl) rfl ?_
            refine L_y (y_fieldA 3 Try.underlying57 rfl sz22 rfl rfl rfl) rfl ?_
            refine L_y (y_ldc Try.underlying22 rfl rfl (((S6.blk 2 rfl).cell _).trans (by rfl))) rfl ?_
            refine L_o (o_app te22 S6 1 rfl rfl rfl (S6.rd hop) (bL_one _) rfl (by omega) (by omega) fun A8 c8 w8 S8 => ?_)
            refine L_y (y_assign rfl) rfl ?_
            refine L_nil ?_
            refine hK14 _ _ ?_
            refine T_region ?_
            refine L_y (y_add rfl rfl (i64w (by omega))) rfl ?_
            refine L_y (y_move rfl) rfl ?_
            refine L_nil ?_
            have hpl : o.p.l.length = o.p.n := hop.lenb
            have S91 := S8.rowc 1 rfl (n' := (out ++ o.p.l).length) (xs' := bL (out ++ o.p.l)) (by rw [List.length_append]; omega) (bL_app' _ _)
            have S92 := S91.sel [0, 1] (by decide)
            refine ⟨k + 1, out ++ o.p.l, A8, c8, by omega, ⟨⟨by omega, by rw [hout, aplV_step ho, lay_new hcp], by rw [List.length_append]; omega, by rw [List.length_append, show t - ((out.length + o.p.l.length : Nat) : Int) = t - (out.length : Int) - szV o.v by omega]; exact hrest⟩, S92⟩, ?_⟩
            exact (Sub.cons rfl (by first | rfl | exact congrArg (Value.int _) (by omega)) (Sub.cons rfl (by first | rfl | (rw [List.length_append]; congr 1; omega)) (Sub.cons rfl rfl (Sub.cons rfl rfl (Sub.cons rfl rfl (Sub.nil _))))))
        ·
          refine T_exit ?_
          refine hK10 _ _ ?_
          refine T_seq fun K17 hK17 => ?_
          refine T_region ?_
          refine L_y (y_move rfl) rfl ?_
          refine L_y (y_assign rfl) rfl ?_
          refine L_y (y_assign rfl) rfl ?_
          refine L_nil ?_
          refine hK17 _ _ ?_
          refine T_ret ?_
          refine ur ?_
          refine ret2 rfl rfl rfl ?_
          first | exact ⟨_, rfl, S4.like0, none, 0, by rw [aplR_err h13]; rfl, by rw [aplR_err h13]; exact World.ownsRow_nil _ _ _ _⟩ | exact ⟨_, rfl, S4.like0, none, 0, by rw [aplR_base h130 (by omega)]; rfl, by rw [aplR_base h130 (by omega)]; exact World.ownsRow_nil _ _ _ _⟩ | (have hke : k = m := by omega); subst hke; rw [List.take_of_length_le (by omega)] at hout; exact ⟨_, rfl, S4.like0, A1, c1, by rw [aplR_ok h130 (by omega), ← hout], by rw [aplR_ok h130 (by omega), ← hout]; exact S4.own 1 rfl⟩


set_option maxRecDepth 100000 in
theorem rapply (A : Option Addr) (n c : Nat) (a : List UInt8) (B : Option Addr) (m d : Nat) (l : List OP) (b t : Int) (w0 : World) (ha : Rs w0 1 A n c (bL a)) (hl : Rs w0 4 B m d (l.flatMap opf)) (hok : OkO w0 l) :
    Calls Try.prog 13 #[.slice A n c, .agg (scA b t B m d)] w0 fun e w' => ∃ u, e = .returned u ∧ Like w0 w' ∧ ∃ A' c', u = .tuple #[.slice A' (aplR a b t (l.map OP.v)).1.length c', .int .i64 (aplR a b t (l.map OP.v)).2] ∧ w'.ownsRow w0.heap.size 5 1 (.slice A' (aplR a b t (l.map OP.v)).1.length c') (aplR a b t (l.map OP.v)).1.length (bL (aplR a b t (l.map OP.v)).1) := by
  refine enter1 (env := [(0, .slice A n c), (1, .agg (scA b t B m d))]) [.slice A n c, .agg (scA b t B m d)] Try.func13 rfl Try.ntmps13 rfl rfl ?_
  have hm := ops_n hl; have hcapm := hl.cap; have hmaxm := hl.max; have hn := ha.lenb; have hcap := ha.cap; have hmax := ha.max; have S0 := St.start w0 noM
  refine T_seq fun K1 hK1 => ?_
  refine T_region ?_
  refine L_o (o_box rfl S0 rfl fun b1 w1 hb1 S1 => ?_)
  refine L_y (y_assign rfl) rfl ?_
  refine L_y (y_assign rfl) rfl ?_
  refine L_nil ?_
  refine hK1 _ _ ?_
  refine T_seq fun K2 hK2 => ?_
  refine T_region ?_
  refine L_y (y_ldW Try.underlying30 rfl sz30 rfl (S1.blk 0 rfl) (show _ = (scA b t B m d).toList ∧ _ from ⟨rfl, rfl⟩)) rfl ?_
  refine L_o (o_call Try.func21 rfl rfl (rcheck B m d l b t w1 (S1.rd hl) (hok.like S1.like0)) rfl rfl ?_)
  rintro e2 w2 ⟨v2, rfl, l2, rfl⟩
  refine ⟨_, rfl, ?_⟩
  have S2 := S1.like l2
  refine L_y (y_assign rfl) rfl ?_
  refine L_nil ?_
  refine hK2 _ _ ?_
  refine T_seq fun K3 hK3 => ?_
  refine T_seq fun K4 hK4 => ?_
  refine T_region ?_
  refine L_y (y_move rfl) rfl ?_
  refine L_y (y_neq rfl rfl) rfl ?_
  refine L_nil ?_
  refine hK4 _ _ ?_
  refine T_cond rfl (fun h13 => ?_) (fun h13 => ?_)
  ·
    refine T_seq fun K5 hK5 => ?_
    refine T_region ?_
    refine L_y (y_move rfl) rfl ?_
    refine L_y (y_assign rfl) rfl ?_
    refine L_y (y_assign rfl) rfl ?_
    refine L_nil ?_
    refine hK5 _ _ ?_
    refine T_ret ?_
    refine ur ?_
    refine ret2 rfl rfl rfl ?_
    first | exact ⟨_, rfl, S2.like0, none, 0, by rw [aplR_err h13]; rfl, by rw [aplR_err h13]; exact World.ownsRow_nil _ _ _ _⟩ | exact ⟨_, rfl, S2.like0, none, 0, by rw [aplR_base h130 (by omega)]; rfl, by rw [aplR_base h130 (by omega)]; exact World.ownsRow_nil _ _ _ _⟩ | (have hke : k = m := by omega); subst hke; rw [List.take_of_length_le (by omega)] at hout; exact ⟨_, rfl, S2.like0, A1, c1, by rw [aplR_ok h130 (by omega), ← hout], by rw [aplR_ok h130 (by omega), ← hout]; exact S2.own 1 rfl⟩
  ·
    have h130 := Decidable.byContradiction h13
    obtain ⟨hrg, hall⟩ := errV_zero h130
    refine T_skip ?_
    refine hK3 _ _ ?_
    refine T_seq fun K6 hK6 => ?_
    refine T_seq fun K7 hK7 => ?_
    refine T_region ?_
    refine L_y (y_move rfl) rfl ?_
    refine L_y (y_len Try.underlying22 rfl) rfl ?_
    refine L_y (y_fieldA 0 Try.underlying30 rfl sz3 rfl rfl rfl) rfl ?_
    refine L_y (y_ldc Try.underlying3 rfl rfl (((S2.blk 0 rfl).cell _).trans (by rfl))) rfl ?_
    refine L_y (y_neq rfl rfl) rfl ?_
    refine L_nil ?_
    refine hK7 _ _ ?_
    refine T_cond rfl (fun h19 => ?_) (fun h19 => ?_)
    ·
      refine T_seq fun K8 hK8 => ?_
      refine T_region ?_
      refine L_y (y_assign rfl) rfl ?_
      refine L_y (y_assign rfl) rfl ?_
      refine L_nil ?_
      refine hK8 _ _ ?_
      refine T_ret ?_
      refine ur ?_
      refine ret2 rfl rfl rfl ?_
      first | exact ⟨_, rfl, S2.like0, none, 0, by rw [aplR_err h13]; rfl, by rw [aplR_err h13]; exact World.ownsRow_nil _ _ _ _⟩ | exact ⟨_, rfl, S2.like0, none, 0, by rw [aplR_base h130 (by omega)]; rfl, by rw [aplR_base h130 (by omega)]; exact World.ownsRow_nil _ _ _ _⟩ | (have hke : k = m := by omega); subst hke; rw [List.take_of_length_le (by omega)] at hout; exact ⟨_, rfl, S2.like0, A1, c1, by rw [aplR_ok h130 (by omega), ← hout], by rw [aplR_ok h130 (by omega), ← hout]; exact S2.own 1 rfl⟩
    ·
      refine T_skip ?_
      refine hK6 _ _ ?_
      refine T_seq fun K9 hK9 => ?_
      refine T_region ?_
      have S3 := S2.nilrow 5 1
      refine L_y (y_assign rfl) rfl ?_
      refine L_nil ?_
      refine hK9 _ _ ?_
      refine T_seq fun K10 hK10 => ?_
      refine T_seq fun K11 hK11 => ?_
      refine T_region ?_
      refine L_y (y_assign rfl) rfl ?_
      refine L_nil ?_
      refine hK11 _ _ ?_
      refine T_block ?_
      refine T_loop4 [(0, _), (3, _)] (fun (k : Nat) (out : List UInt8) (A1 : Option Addr) (c1 : Nat) => [(8, .int .i64 (k : Int)), (7, .slice A1 out.length c1)]) (fun (k : Nat) (out : List UInt8) (A1 : Option Addr) (c1 : Nat) => m - k) (fun (k : Nat) (out : List UInt8) (A1 : Option Addr) (c1 : Nat) (w : World) => (k ≤ m ∧ out = aplV a ((l.take k).map OP.v) ∧ (out.length : Int) ≤ t ∧ chkL b (t - (out.length : Int)) ((l.map OP.v).drop k) = true) ∧ St w0 noM [blk b1 30 (scA b t B m d), row 5 1 A1 out.length c1 (bL out)] w) 0 [] none 0 (Sub.cons rfl (by first | rfl | exact congrArg (Value.int _) (by omega)) (Sub.cons rfl (by first | rfl | exact congrArg (Value.int _) (by omega)) (Sub.nil _))) (Sub.cons rfl rfl (Sub.cons rfl rfl (Sub.nil _))) ?_ ?_
      ·
        exact ⟨⟨Nat.zero_le _, rfl, by show (0 : Int) ≤ t; omega, by show chkL b (t - 0) _ = true; rw [Int.sub_zero]; exact hall⟩, S3⟩
      ·
        intro k out A1 c1 w4 hrel
        obtain ⟨⟨hk, hout, hol, hch⟩, S4⟩ := hrel
        refine T_seq fun K12 hK12 => ?_
        refine T_seq fun K13 hK13 => ?_
        refine T_region ?_
        refine L_y (y_move rfl) rfl ?_
        refine L_y (y_fieldA 2 Try.underlying30 rfl sz28 rfl rfl rfl) rfl ?_
        refine L_y (y_ldc Try.underlying28 rfl rfl (((S4.blk 0 rfl).cell _).trans (by rfl))) rfl ?_
        refine L_y (y_len Try.underlying28 rfl) rfl ?_
        refine L_y (y_lss rfl rfl) rfl ?_
        refine L_nil ?_
        refine hK13 _ _ ?_
        refine T_cond rfl (fun h24 => ?_) (fun h24 => ?_)
        ·
          obtain ⟨o, ho⟩ : ∃ o, l[k]? = some o := ⟨_, List.getElem?_eq_getElem (by omega)⟩
          have hop := hok o (List.mem_of_getElem? ho)
          have hopn := hop.lenb; have hopc := hop.cap; have hopm := hop.max
          obtain ⟨hrt, hsz, hrest⟩ := chkL_next ho hch
          refine T_skip ?_
          refine hK12 _ _ ?_
          refine T_seq fun K14 hK14 => ?_
          refine T_block ?_
          refine T_seq fun K15 hK15 => ?_
          refine T_region ?_
          refine L_y (y_fieldA 2 Try.underlying30 rfl sz28 rfl rfl rfl) rfl ?_
          refine L_y (y_ldc Try.underlying28 rfl rfl (((S4.blk 0 rfl).cell _).trans (by rfl))) rfl ?_
          refine L_y (y_move rfl) rfl ?_
          refine L_y (y_idx Try.underlying28 sz58 rfl rfl (S4.rd hl) (Nt.mk (by omega) : Nt _ (k)) (by omega)) rfl ?_
          refine L_y (y_ldp (f := opf) opf_len Try.underlying58 rfl sz58 rfl (S4.rd hl) (by omega) ho) rfl ?_
          refine L_o (o_alloc zz58 S4 rfl fun b5 w5 hb5 S5 => ?_)
          refine L_o (o_stW S5 2 rfl rfl rfl sz58 rfl (opf_one o) fun w6 S6 => ?_)
          refine L_nil ?_
          refine hK15 _ _ ?_
          refine T_seq fun K16 hK16 => ?_
          refine T_region ?_
          refine L_y (y_fieldA 0 Try.underlying58 rfl sz4 rfl rfl rfl) rfl ?_
          refine L_y (y_ldc Try.underlying4 rfl rfl (((S6.blk 2 rfl).cell _).trans (by rfl))) rfl ?_
          refine L_nil ?_
          refine hK16 _ _ ?_
          refine T_condB rfl (fun h33 => ?_) (fun h33 => ?_)
          ·
            have hcp : o.cp = true := h33
            obtain ⟨g1, g2, g3, g4, g5⟩ := rt_cp hrt hcp
            refine T_region ?_
            refine L_y (y_move rfl) rfl ?_
            refine L_y (y_move rfl) rfl ?_
            refine L_y (y_fieldA 1 Try.underlying58 rfl sz3 rfl rfl rfl) rfl ?_
            refine L_y (y_ldc Try.underlying3 rfl rfl (((S6.blk 2 rfl).cell _).trans (by rfl))) rfl ?_
            refine L_y (y_fieldA 1 Try.underlying58 rfl sz3 rfl rfl rfl) rfl ?_
            refine L_y (y_ldc Try.underlying3 rfl rfl (((S6.blk 2 rfl).cell _).trans (by rfl))) rfl ?_
            refine L_y (y_fieldA 2 Try.underlying58 rfl sz3 rfl rfl rfl) rfl ?_
            refine L_y (y_ldc Try.underlying3 rfl rfl (((S6.blk 2 rfl).cell _).trans (by rfl))) rfl ?_
            refine L_y (y_add rfl rfl (i64w (by omega))) rfl ?_
            refine L_y (y_slice Try.underlying22 sz5 rfl rfl rfl (Nt.mk (by omega) : Nt _ (o.fr.toNat)) (Nt.mk (by omega) : Nt _ (o.fr.toNat + o.n.toNat)) (by omega) (by omega)) rfl ?_
            refine L_o (o_app te22 S6 1 rfl rfl rfl (cut_mid (S6.rd ha) (k := o.fr.toNat) (u := o.fr.toNat + o.n.toNat) (by omega) (by omega)) (bL_one _) rfl (by omega) (by omega) fun A7 c7 w7 S7 => ?_)
            refine L_y (y_assign rfl) rfl ?_
            refine L_nil ?_
            refine hK14 _ _ ?_
            refine T_region ?_
            refine L_y (y_move rfl) rfl ?_
            refine L_y (y_add rfl rfl (i64w (by omega))) rfl ?_
            refine L_y (y_assign rfl) rfl ?_
            refine L_nil ?_
            have hpl : ((a.drop o.fr.toNat).take (o.fr.toNat + o.n.toNat - o.fr.toNat)).length = o.n.toNat := by rw [List.length_take, List.length_drop]; omega
            have S91 := S7.rowc 1 rfl (n' := (out ++ ((a.drop o.fr.toNat).take (o.fr.toNat + o.n.toNat - o.fr.toNat))).length) (xs' := bL (out ++ ((a.drop o.fr.toNat).take (o.fr.toNat + o.n.toNat - o.fr.toNat)))) (by rw [List.length_append]; omega) (bL_app' _ _)
            have S92 := S91.sel [0, 1] (by decide)
            refine ⟨k + 1, out ++ ((a.drop o.fr.toNat).take (o.fr.toNat + o.n.toNat - o.fr.toNat)), A7, c7, by omega, ⟨⟨by omega, by rw [hout, aplV_step ho, lay_cp hcp], by rw [List.length_append]; omega, by rw [List.length_append, show t - ((out.length + ((a.drop o.fr.toNat).take (o.fr.toNat + o.n.toNat - o.fr.toNat)).length : Nat) : Int) = t - (out.length : Int) - szV o.v by omega]; exact hrest⟩, S92⟩, ?_⟩
            exact (Sub.cons rfl (by first | rfl | exact congrArg (Value.int _) (by omega)) (Sub.cons rfl (by first | rfl | (rw [List.length_append]; congr 1; omega)) (Sub.cons rfl rfl (Sub.cons rfl rfl (Sub.nil _)))))
          ·
            have hcp : o.cp = false := h33
            obtain ⟨g1, g2⟩ := rt_new hrt hcp
            refine T_region ?_
            refine L_y (y_move rfl) rfl ?_
            refine L_y (y_fieldA 3 Try.underlying58 rfl sz22 rfl rfl rfl) rfl ?_
            refine L_y (y_ldc Try.underlying22 rfl rfl (((S6.blk 2 rfl).cell _).trans (by rfl))) rfl ?_
            refine L_o (o_app te22 S6 1 rfl rfl rfl (S6.rd hop) (bL_one _) rfl (by omega) (by omega) fun A8 c8 w8 S8 => ?_)
            refine L_y (y_assign rfl) rfl ?_
            refine L_nil ?_
            refine hK14 _ _ ?_
            refine T_region ?_
            refine L_y (y_move rfl) rfl ?_
            refine L_y (y_add rfl rfl (i64w (by omega))) rfl ?_
            refine L_y (y_assign rfl) rfl ?_
            refine L_nil ?_
            have hpl : o.p.l.length = o.p.n := hop.lenb
            have S91 := S8.rowc 1 rfl (n' := (out ++ o.p.l).length) (xs' := bL (out ++ o.p.l)) (by rw [List.length_append]; omega) (bL_app' _ _)
            have S92 := S91.sel [0, 1] (by decide)
            refine ⟨k + 1, out ++ o.p.l, A8, c8, by omega, ⟨⟨by omega, by rw [hout, aplV_step ho, lay_new hcp], by rw [List.length_append]; omega, by rw [List.length_append, show t - ((out.length + o.p.l.length : Nat) : Int) = t - (out.length : Int) - szV o.v by omega]; exact hrest⟩, S92⟩, ?_⟩
            exact (Sub.cons rfl (by first | rfl | exact congrArg (Value.int _) (by omega)) (Sub.cons rfl (by first | rfl | (rw [List.length_append]; congr 1; omega)) (Sub.cons rfl rfl (Sub.cons rfl rfl (Sub.nil _)))))
        ·
          refine T_exit ?_
          refine hK10 _ _ ?_
          refine T_seq fun K17 hK17 => ?_
          refine T_region ?_
          refine L_y (y_move rfl) rfl ?_
          refine L_y (y_assign rfl) rfl ?_
          refine L_y (y_assign rfl) rfl ?_
          refine L_nil ?_
          refine hK17 _ _ ?_
          refine T_ret ?_
          refine ur ?_
          refine ret2 rfl rfl rfl ?_
          first | exact ⟨_, rfl, S4.like0, none, 0, by rw [aplR_err h13]; rfl, by rw [aplR_err h13]; exact World.ownsRow_nil _ _ _ _⟩ | exact ⟨_, rfl, S4.like0, none, 0, by rw [aplR_base h130 (by omega)]; rfl, by rw [aplR_base h130 (by omega)]; exact World.ownsRow_nil _ _ _ _⟩ | (have hke : k = m := by omega); subst hke; rw [List.take_of_length_le (by omega)] at hout; exact ⟨_, rfl, S4.like0, A1, c1, by rw [aplR_ok h130 (by omega), ← hout], by rw [aplR_ok h130 (by omega), ← hout]; exact S4.own 1 rfl⟩
end Go.Proofs.Ytpcgldkllnkaeaa


/-
  The law DeltaApplies.
-/
namespace Go.Proofs.Ytpcgldkllnkaeaa
open Go.RowKit Zk Zx
set_option linter.unusedVariables false
set_option linter.unusedSimpArgs false

theorem papplyL {L : List OV} (A : Option Addr) (n c : Nat) (a : List UInt8) (B : Option Addr) (m d : Nat) (l : List OP) (b t : Int) (w0 : World) (ha : Rs w0 1 A n c (bL a)) (hl : Rs w0 4 B m d (l.flatMap opf)) (hok : OkO w0 l) (hL : l.map OP.v = L) :
    Calls Try.prog 12 #[.slice A n c, .agg (scA b t B m d)] w0 fun e w' => ∃ u, e = .returned u ∧ Like w0 w' ∧ ∃ A' c', u = .tuple #[.slice A' (aplR a b t L).1.length c', .int .i64 (aplR a b t L).2] ∧ w'.ownsRow w0.heap.size 5 1 (.slice A' (aplR a b t L).1.length c') (aplR a b t L).1.length (bL (aplR a b t L).1) := by
  subst hL; exact papply A n c a B m d l b t w0 ha hl hok
theorem rapplyL {L : List OV} (A : Option Addr) (n c : Nat) (a : List UInt8) (B : Option Addr) (m d : Nat) (l : List OP) (b t : Int) (w0 : World) (ha : Rs w0 1 A n c (bL a)) (hl : Rs w0 4 B m d (l.flatMap opf)) (hok : OkO w0 l) (hL : l.map OP.v = L) :
    Calls Try.prog 13 #[.slice A n c, .agg (scA b t B m d)] w0 fun e w' => ∃ u, e = .returned u ∧ Like w0 w' ∧ ∃ A' c', u = .tuple #[.slice A' (aplR a b t L).1.length c', .int .i64 (aplR a b t L).2] ∧ w'.ownsRow w0.heap.size 5 1 (.slice A' (aplR a b t L).1.length c') (aplR a b t L).1.length (bL (aplR a b t L).1) := by
  subst hL; exact rapply A n c a B m d l b t w0 ha hl hok
theorem psameT (A : Option Addr) (n c : Nat) (l : List OP) (b t : Int) (B : Option Addr) (m d : Nat) (k : List OP) (w0 : World) (hl : Rs w0 4 A n c (l.flatMap opf)) (hok : OkO w0 l) (hk : Rs w0 4 B m d (k.flatMap opf)) (hok2 : OkO w0 k) (e : l.map OP.v = k.map OP.v) :
    Calls Try.prog 15 #[.agg (scA b t A n c), .agg (scA b t B m d)] w0 fun e w' => ∃ u, e = .returned u ∧ Like w0 w' ∧ u = .bool true :=
  (psame A n c l b t B m d k b t w0 hl hok hk hok2).mono fun e' w' ⟨u, h1, h2, h3⟩ => ⟨u, h1, h2, by rw [h3, decide_eq_true ⟨rfl, rfl, e⟩]⟩
theorem same1T (A B : Option Addr) (n c m d : Nat) (a : List UInt8) (w0 : World) (ha : Rs w0 1 A n c (bL a)) (hb : Rs w0 1 B m d (bL a)) :
    Calls Try.prog 14 #[.slice A n c, .slice B m d] w0 fun e w' => ∃ u, e = .returned u ∧ Like w0 w' ∧ u = .bool true :=
  (same1 A B n c m d a a w0 ha hb).mono fun e w' ⟨u, h1, h2, h3⟩ => ⟨u, h1, h2, by rw [h3, decide_eq_true rfl]⟩


set_option maxRecDepth 100000 in
theorem lapplies (A : Option Addr) (n c : Nat) (a : List UInt8) (B : Option Addr) (m d : Nat) (l : List OP) (b t : Int) (w0 : World) (ha : Rs w0 1 A n c (bL a)) (hl : Rs w0 4 B m d (l.flatMap opf)) (hok : OkO w0 l) (hbig : ∀ o ∈ l, o.p.n ≤ 140737488351232) :
    Calls Try.prog 3 #[.slice A n c, .agg (scA b t B m d)] w0 fun e w' => ∃ u, e = .returned u ∧ Like w0 w' ∧ u = .bool true := by
  refine enter1 (env := [(0, .slice A n c), (1, .agg (scA b t B m d))]) [.slice A n c, .agg (scA b t B m d)] Try.func3 rfl Try.ntmps3 rfl rfl ?_
  have hm := ops_n hl; have hcapm := hl.cap; have hmaxm := hl.max; have hn := ha.lenb; have hcap := ha.cap; have hmax := ha.max; have S0 := St.start w0 noM
  refine T_seq fun K1 hK1 => ?_
  refine T_region ?_
  refine L_o (o_box rfl S0 rfl fun b1 w1 hb1 S1 => ?_)
  refine L_y (y_assign rfl) rfl ?_
  refine L_nil ?_
  refine hK1 _ _ ?_
  refine T_seq fun K2 hK2 => ?_
  refine T_seq fun K3 hK3 => ?_
  refine T_region ?_
  refine L_y (y_fieldA 2 Try.underlying25 rfl sz23 rfl rfl rfl) rfl ?_
  refine L_y (y_ldc Try.underlying23 rfl rfl (((S1.blk 0 rfl).cell _).trans (by rfl))) rfl ?_
  refine L_y (y_len Try.underlying23 rfl) rfl ?_
  refine L_y (y_gtr rfl rfl) rfl ?_
  refine L_y (y_move rfl) rfl ?_
  refine L_split 17 rfl (fun h17 => ?_) (fun h17 => ?_)
  ·
    refine L_gno rfl rfl rfl ?_
    refine L_gno rfl rfl rfl ?_
    refine L_gno rfl rfl rfl ?_
    refine L_y (y_pk rfl rfl) rfl ?_
    refine L_nil ?_
    refine hK3 _ _ ?_
    refine T_true rfl ?_
    refine T_seq fun K4 hK4 => ?_
    refine T_region ?_
    refine L_o (o_call Try.func9 rfl rfl (works w1) rfl rfl ?_)
    rintro e3 w3 ⟨v3, rfl, l3, rfl⟩
    refine ⟨_, rfl, ?_⟩
    have S3 := S1.like l3
    refine L_y (y_assign rfl) rfl ?_
    refine L_nil ?_
    refine hK4 _ _ ?_
    refine T_ret ?_
    refine ur ?_
    refine ret1 rfl rfl ?_
    first | exact ⟨_, rfl, S3.like0, rfl⟩ | exact ⟨_, rfl, Like.trans lk S3.like0, rfl⟩
  ·
    refine L_gyes rfl rfl ?_
    refine L_y (y_move rfl) rfl ?_
    refine L_gyes rfl rfl ?_
    refine L_y (y_len Try.underlying22 rfl) rfl ?_
    refine L_gyes rfl rfl ?_
    refine L_y (y_gtr rfl rfl) rfl ?_
    refine L_y (y_pk rfl rfl) rfl ?_
    refine L_nil ?_
    refine hK3 _ _ ?_
    refine T_cond rfl (fun h21 => ?_) (fun h21 => ?_)
    ·
      refine T_seq fun K5 hK5 => ?_
      refine T_region ?_
      refine L_o (o_call Try.func9 rfl rfl (works w1) rfl rfl ?_)
      rintro e4 w4 ⟨v4, rfl, l4, rfl⟩
      refine ⟨_, rfl, ?_⟩
      have S4 := S1.like l4
      refine L_y (y_assign rfl) rfl ?_
      refine L_nil ?_
      refine hK5 _ _ ?_
      refine T_ret ?_
      refine ur ?_
      refine ret1 rfl rfl ?_
      first | exact ⟨_, rfl, S4.like0, rfl⟩ | exact ⟨_, rfl, Like.trans lk S4.like0, rfl⟩
    ·
      refine T_skip ?_
      refine hK2 _ _ ?_
      refine T_seq fun K6 hK6 => ?_
      refine T_region ?_
      refine L_y (y_ldW Try.underlying25 rfl sz25 rfl (S1.blk 0 rfl) (show _ = (scA b t B m d).toList ∧ _ from ⟨rfl, rfl⟩)) rfl ?_
      refine L_o (o_call Try.func11 rfl rfl (plain B m d l b t w1 (S1.rd hl) (hok.like S1.like0) (by omega)) rfl rfl ?_)
      rintro e5 w5 ⟨v5, rfl, l5, A24, c24, rfl, O5⟩
      refine ⟨_, rfl, ?_⟩
      have S5 := S1.adopt l5 O5
      refine L_o (o_call Try.func10 rfl rfl (pown A24 m c24 l b t w5 (S5.row 1 rfl) (hok.like S5.like0) (by omega) hbig) rfl rfl ?_)
      rintro e6 w6 ⟨v6, rfl, l6, A25, c25, qs, rfl, hQ, hokQ, hqv⟩
      refine ⟨_, rfl, ?_⟩
      have S6 := S5.like l6
      have lk := S6.like0
      have ha2 := ha.like lk
      have hl2 := hl.like lk
      have hok3 := hok.like lk
      have hbx := S6.blk 0 rfl
      have S90 := St.start w6 noM
      refine L_o (o_alloc zz25 S90 rfl fun b7 w7 hb7 S7 => ?_)
      refine L_o (o_stW S7 0 rfl rfl rfl sz25 rfl (scA_one _ _ _ _ _) fun w8 S8 => ?_)
      refine L_nil ?_
      refine hK6 _ _ ?_
      refine T_seq fun K7 hK7 => ?_
      refine T_region ?_
      refine L_y (y_move rfl) rfl ?_
      refine L_y (y_ldW Try.underlying25 rfl sz25 rfl (S8.blk 0 rfl) (show _ = (scA b t A25 m c25).toList ∧ _ from ⟨rfl, rfl⟩)) rfl ?_
      refine L_o (o_call Try.func12 rfl rfl (papplyL A n c a A25 m c25 qs b t w8 (S8.rd ha2) (S8.rd hQ) (hokQ.like S8.like0) hqv) rfl rfl ?_)
      rintro e9 w9 ⟨v9, rfl, l9, A29, c29, rfl, O9⟩
      refine ⟨_, rfl, ?_⟩
      have S9 := S8.adopt l9 O9
      have hxm := (S9.row 1 rfl).max; have hxc := (S9.row 1 rfl).cap
      refine L_y (y_move rfl) rfl ?_
      refine L_y (y_extract rfl rfl) rfl ?_
      refine L_y (y_extract rfl rfl) rfl ?_
      refine L_y (y_assign rfl) rfl ?_
      refine L_y (y_assign rfl) rfl ?_
      refine L_nil ?_
      refine hK7 _ _ ?_
      refine T_seq fun K8 hK8 => ?_
      refine T_region ?_
      refine L_y (y_move rfl) rfl ?_
      refine L_y (y_ldW Try.underlying25 rfl sz25 rfl (S9.rdB hbx) (show _ = (scA b t B m d).toList ∧ _ from ⟨rfl, rfl⟩)) rfl ?_
      refine L_o (o_call Try.func11 rfl rfl (plain B m d l b t w9 (S9.rd hl2) (hok3.like S9.like0) (by omega)) rfl rfl ?_)
      rintro e10 w10 ⟨v10, rfl, l10, A35, c35, rfl, O10⟩
      refine ⟨_, rfl, ?_⟩
      have S10 := S9.adopt l10 O10
      refine L_o (o_call Try.func13 rfl rfl (rapplyL A n c a A35 m c35 l b t w10 (S10.rd ha2) (S10.row 2 rfl) (hok3.like S10.like0) rfl) rfl rfl ?_)
      rintro e11 w11 ⟨v11, rfl, l11, A36, c36, rfl, O11⟩
      refine ⟨_, rfl, ?_⟩
      have S11 := S10.adopt l11 O11
      refine L_y (y_move rfl) rfl ?_
      refine L_y (y_extract rfl rfl) rfl ?_
      refine L_y (y_extract rfl rfl) rfl ?_
      refine L_y (y_assign rfl) rfl ?_
      refine L_y (y_assign rfl) rfl ?_
      refine L_nil ?_
      refine hK8 _ _ ?_
      refine T_seq fun K9 hK9 => ?_
      refine T_seq fun K10 hK10 => ?_
      refine T_drawnL [(0, true), (1, true), (2, false), (3, true), (4, true), (5, true), (6, true), (7, true), (8, true), (9, true), (10, true), (11, true), (12, false), (13, false), (14, true), (15, true)] hmix (by kernel_rfl) fun w12 l12 => ?_
      have S12 := S11.like l12
      refine DL_y rfl (y_move rfl) rfl ?_
      refine DL_y rfl (y_move rfl) rfl ?_
      refine DL_o rfl (o_call Try.func14 rfl rfl (same1T A29 A36 _ c29 _ c36 (aplR a b t (l.map OP.v)).1 w12 (S12.row 1 rfl) (S12.row 3 rfl)) rfl rfl ?_)
      rintro e13 w13 ⟨v13, rfl, l13, rfl⟩
      refine ⟨_, rfl, l13, ?_⟩
      have S13 := S12.like l13
      have q13 := l13
      refine DL_y rfl ((by first | exact y_notD rfl | exact y_not rfl)) rfl ?_
      refine DL_y rfl (y_move rfl) rfl ?_
      refine DL_splitB 43 rfl (fun h43 => ?_) (fun h43 => ?_)
      ·
        cases h43
      ·
        refine DL_gyes rfl rfl rfl (y_move rfl) rfl ?_
        refine DL_gyes rfl rfl rfl (y_move rfl) rfl ?_
        refine DL_gyes rfl rfl rfl (y_neq rfl rfl) rfl ?_
        refine DL_y rfl (y_pk rfl rfl) rfl ?_
        refine DL_y rfl (y_move rfl) rfl ?_
        refine DL_split 48 rfl (fun h48 => ?_) (fun h48 => ?_)
        ·
          exact absurd rfl h48
        ·
          refine DL_gyes rfl rfl rfl (y_ldW Try.underlying25 rfl sz25 rfl (S12.blk 0 rfl) (show _ = (scA b t A25 m c25).toList ∧ _ from ⟨rfl, rfl⟩)) rfl ?_
          refine DL_gyes rfl rfl rfl (y_ldW Try.underlying25 rfl sz25 rfl (S12.rdB hbx) (show _ = (scA b t B m d).toList ∧ _ from ⟨rfl, rfl⟩)) rfl ?_
          refine DL_ogyes rfl rfl rfl (o_call Try.func11 rfl rfl (plain B m d l b t w13 (S13.rd hl2) (hok3.like S13.like0) (by omega)) rfl rfl ?_)
          rintro e14 w14 ⟨v14, rfl, l14, A51, c51, rfl, O14⟩
          refine ⟨_, rfl, (Like.trans q13 l14), ?_⟩
          have S14 := S13.adopt l14 O14
          have q14 := (Like.trans q13 l14)
          refine DL_ogyes rfl rfl rfl (o_call Try.func15 rfl rfl (psameT A25 m c25 qs b t A51 m c51 l w14 (S14.rd hQ) (hokQ.like S14.like0) (S14.row 4 rfl) (hok3.like S14.like0) hqv) rfl rfl ?_)
          rintro e15 w15 ⟨v15, rfl, l15, rfl⟩
          refine ⟨_, rfl, (Like.trans q14 l15), ?_⟩
          have S15 := S14.like l15
          have q15 := (Like.trans q14 l15)
          refine DL_gyes rfl rfl rfl ((by first | exact y_notD rfl | exact y_not rfl)) rfl ?_
          refine DL_y rfl (y_pk rfl rfl) rfl ?_
          refine DL_nil ?_
          refine hK10 _ _ ?_
          refine T_condB rfl (fun h54 => ?_) (fun h54 => ?_)
          ·
            cases h54
          ·
            refine T_skip ?_
            refine hK9 _ _ ?_
            refine T_seq fun K11 hK11 => ?_
            refine T_seq fun K12 hK12 => ?_
            refine T_region ?_
            refine L_y (y_assign rfl) rfl ?_
            refine L_nil ?_
            refine hK12 _ _ ?_
            refine T_block ?_
            refine T_loop2 [(0, _), (3, _), (5, _), (6, _), (8, _)] (fun (k : Nat) (ys : List Value) => [(10, .int .i64 (k : Int))]) (fun (k : Nat) (ys : List Value) => (aplR a b t (l.map OP.v)).1.length - k) (fun (k : Nat) (ys : List Value) (w : World) => (k ≤ (aplR a b t (l.map OP.v)).1.length ∧ ys.length = (aplR a b t (l.map OP.v)).1.length ∧ ∀ j, k ≤ j → j < (aplR a b t (l.map OP.v)).1.length → ys[j]? = (bL (aplR a b t (l.map OP.v)).1)[j]?) ∧ St w6 noM [blk b7 25 (scA b t A25 m c25), row 5 1 A29 (aplR a b t (l.map OP.v)).1.length c29 ys, row 5 1 A36 (aplR a b t (l.map OP.v)).1.length c36 (bL (aplR a b t (l.map OP.v)).1)] w) 0 (bL (aplR a b t (l.map OP.v)).1) (Sub.cons rfl (by first | rfl | exact congrArg (Value.int _) (by omega)) (Sub.nil _)) (Sub.cons rfl rfl (Sub.cons rfl rfl (Sub.cons rfl rfl (Sub.cons rfl rfl (Sub.cons rfl rfl (Sub.nil _)))))) ?_ ?_
            ·
              have S9 := S15.sel [0, 1, 3] (by decide)
              exact ⟨⟨Nat.zero_le _, length_bL _, fun j h1 h2 => rfl⟩, S9⟩
            ·
              intro k ys w16 hrel
              obtain ⟨⟨hk, hyl, hys⟩, S16⟩ := hrel
              refine T_seq fun K13 hK13 => ?_
              refine T_seq fun K14 hK14 => ?_
              refine T_region ?_
              refine L_y (y_move rfl) rfl ?_
              refine L_y (y_move rfl) rfl ?_
              refine L_y (y_len Try.underlying22 rfl) rfl ?_
              refine L_y (y_lss rfl rfl) rfl ?_
              refine L_nil ?_
              refine hK14 _ _ ?_
              refine T_cond rfl (fun h58 => ?_) (fun h58 => ?_)
              ·
                have hyk : ys[k]? = some (.int .u8 (g8 (aplR a b t (l.map OP.v)).1 k)) := (hys k (Nat.le_refl _) (by omega)).trans (bL_g8 _ _ (by omega))
                refine T_skip ?_
                refine hK13 _ _ ?_
                refine T_seq fun K15 hK15 => ?_
                refine T_block ?_
                refine T_region ?_
                refine L_y (y_move rfl) rfl ?_
                refine L_y (y_move rfl) rfl ?_
                refine L_y (y_idx Try.underlying22 sz5 rfl rfl (S16.row 1 rfl) (Nt.mk (by omega) : Nt _ (k)) (by omega)) rfl ?_
                refine L_y (y_ldr Try.underlying5 rfl rfl (S16.row 1 rfl) hyk) rfl ?_
                refine L_y (y_bits rfl rfl rfl rfl) rfl ?_
                refine L_y (y_idx Try.underlying22 sz5 rfl rfl (S16.row 1 rfl) (Nt.mk (by omega) : Nt _ (k)) (by omega)) rfl ?_
                refine L_o (o_strow S16 1 rfl rfl rfl rfl sz5 (by omega) fun w17 S17 => ?_)
                refine L_nil ?_
                refine hK15 _ _ ?_
                refine T_region ?_
                refine L_y (y_move rfl) rfl ?_
                refine L_y (y_add rfl rfl (i64w (by omega))) rfl ?_
                refine L_y (y_assign rfl) rfl ?_
                refine L_nil ?_
                refine ⟨k + 1, _, by omega, ⟨⟨by omega, (List.length_set).trans hyl, fun j h1 h2 => by rw [List.getElem?_set_ne (by omega)]; exact hys j (by omega) h2⟩, S17⟩, ?_⟩
                exact (Sub.cons rfl (by first | rfl | exact congrArg (Value.int _) (by omega)) (Sub.cons rfl rfl (Sub.cons rfl rfl (Sub.cons rfl rfl (Sub.cons rfl rfl (Sub.cons rfl rfl (Sub.nil _)))))))
              ·
                refine T_exit ?_
                refine hK11 _ _ ?_
                refine T_seq fun K16 hK16 => ?_
                refine T_region ?_
                refine L_y (y_move rfl) rfl ?_
                refine L_y (y_ldW Try.underlying25 rfl sz25 rfl (S16.rdB hbx) (show _ = (scA b t B m d).toList ∧ _ from ⟨rfl, rfl⟩)) rfl ?_
                refine L_o (o_call Try.func11 rfl rfl (plain B m d l b t w16 (S16.rd hl2) (hok3.like S16.like0) (by omega)) rfl rfl ?_)
                rintro e18 w18 ⟨v18, rfl, l18, A70, c70, rfl, O18⟩
                refine ⟨_, rfl, ?_⟩
                have S18 := S16.adopt l18 O18
                refine L_o (o_call Try.func13 rfl rfl (rapplyL A n c a A70 m c70 l b t w18 (S18.rd ha2) (S18.row 3 rfl) (hok3.like S18.like0) rfl) rfl rfl ?_)
                rintro e19 w19 ⟨v19, rfl, l19, A71, c71, rfl, O19⟩
                refine ⟨_, rfl, ?_⟩
                have S19 := S18.adopt l19 O19
                refine L_y (y_move rfl) rfl ?_
                refine L_y (y_extract rfl rfl) rfl ?_
                refine L_y (y_extract rfl rfl) rfl ?_
                refine L_y (y_assign rfl) rfl ?_
                refine L_y (y_assign rfl) rfl ?_
                refine L_nil ?_
                refine hK16 _ _ ?_
                refine T_seq fun K17 hK17 => ?_
                refine T_drawnL [(0, true), (1, true), (2, false), (3, true), (4, true), (5, true), (6, false), (7, false), (8, true), (9, true), (10, false), (11, true), (12, true)] hmix (by kernel_rfl) fun w20 l20 => ?_
                have S20 := S19.like l20
                refine DL_y rfl (y_move rfl) rfl ?_
                refine DL_y rfl (y_move rfl) rfl ?_
                refine DL_o rfl (o_call Try.func14 rfl rfl (same1T A71 A36 _ c71 _ c36 (aplR a b t (l.map OP.v)).1 w20 (S20.row 4 rfl) (S20.row 2 rfl)) rfl rfl ?_)
                rintro e21 w21 ⟨v21, rfl, l21, rfl⟩
                refine ⟨_, rfl, l21, ?_⟩
                have S21 := S20.like l21
                have q21 := l21
                refine DL_y rfl (y_move rfl) rfl ?_
                refine DL_splitB 77 rfl (fun h77 => ?_) (fun h77 => ?_)
                ·
                  refine DL_gyes rfl rfl rfl (y_ldW Try.underlying25 rfl sz25 rfl (S20.blk 0 rfl) (show _ = (scA b t A25 m c25).toList ∧ _ from ⟨rfl, rfl⟩)) rfl ?_
                  refine DL_gyes rfl rfl rfl (y_ldW Try.underlying25 rfl sz25 rfl (S20.rdB hbx) (show _ = (scA b t B m d).toList ∧ _ from ⟨rfl, rfl⟩)) rfl ?_
                  refine DL_ogyes rfl rfl rfl (o_call Try.func11 rfl rfl (plain B m d l b t w21 (S21.rd hl2) (hok3.like S21.like0) (by omega)) rfl rfl ?_)
                  rintro e22 w22 ⟨v22, rfl, l22, A80, c80, rfl, O22⟩
                  refine ⟨_, rfl, (Like.trans q21 l22), ?_⟩
                  have S22 := S21.adopt l22 O22
                  have q22 := (Like.trans q21 l22)
                  refine DL_ogyes rfl rfl rfl (o_call Try.func15 rfl rfl (psameT A25 m c25 qs b t A80 m c80 l w22 (S22.rd hQ) (hokQ.like S22.like0) (S22.row 5 rfl) (hok3.like S22.like0) hqv) rfl rfl ?_)
                  rintro e23 w23 ⟨v23, rfl, l23, rfl⟩
                  refine ⟨_, rfl, (Like.trans q22 l23), ?_⟩
                  have S23 := S22.like l23
                  have q23 := (Like.trans q22 l23)
                  refine DL_y rfl (y_pk rfl rfl) rfl ?_
                  refine DL_y rfl (y_move rfl) rfl ?_
                  refine DL_splitB 83 rfl (fun h83 => ?_) (fun h83 => ?_)
                  ·
                    refine DL_ogyes rfl rfl rfl (o_call Try.func9 rfl rfl (works w23) rfl rfl ?_)
                    rintro e24 w24 ⟨v24, rfl, l24, rfl⟩
                    refine ⟨_, rfl, (Like.trans q23 l24), ?_⟩
                    have S24 := S23.like l24
                    have q24 := (Like.trans q23 l24)
                    refine DL_y rfl (y_pk rfl rfl) rfl ?_
                    refine DL_y rfl (y_assign rfl) rfl ?_
                    refine DL_nil ?_
                    refine hK17 _ _ ?_
                    refine T_ret ?_
                    refine ur ?_
                    refine ret1 rfl rfl ?_
                    first | exact ⟨_, rfl, S24.like0, rfl⟩ | exact ⟨_, rfl, Like.trans lk S24.like0, rfl⟩
                  ·
                    cases h83
                ·
                  cases h77
end Go.Proofs.Ytpcgldkllnkaeaa


/-
  The second form's bound: what it gives of a law's arguments. General; nothing here names a program.
-/
namespace Go.Proofs.Ytpcgldkllnkaeaa.Zx
open Go.ChangeShapes Go.WideShapes Go.ChangeAt Go.RowKit Go.Deep Zk
set_option linter.unusedVariables false
section
variable {H : Type} {enc : TypeId × Value → H} {P : Program} {w : World} {base : Nat} {spare : Nat → Bool} {held : Bool}
theorem flat_one {α : Type} (f : α → Value) : ∀ l : List α, l.flatMap (fun y => [f y]) = l.map f
  | [] => rfl
  | y :: l => by rw [List.flatMap_cons, flat_one f l]; rfl
/-- A struct of three cells. -/
theorem read_struct3 {e : TypeId} {f0 f1 f2 : Field} (he : P.underlying e = some (.struct #[f0, f1, f2])) (o0 : f0.offset = 0) (o1 : f1.offset = 1) (o2 : f2.offset = 2) (c0 : P.cellsOf f0.type = 1) (c1 : P.cellsOf f1.type = 1) (c2 : P.cellsOf f2.type = 1)
    {n : Nat} {cs : List Value} {x : DataW H × List MemPlace} (hl : cs.length = 3) (h : DataW.trod enc P w base spare held n e cs = some x) :
    ∃ v0 v1 v2 y0 y1 y2 k, cs = [v0, v1, v2] ∧ x.1 = .agg [y0.1, y1.1, y2.1] ∧ DataW.trod enc P w base spare held k f0.type [v0] = some y0 ∧ DataW.trod enc P w base spare held k f1.type [v1] = some y1 ∧ DataW.trod enc P w base spare held k f2.type [v2] = some y2 := by
  obtain ⟨xs, k, hk, rfl, _, hxl, hf⟩ := DataW.trod_struct he h
  match xs, hxl, cs, hl with
  | [y0, y1, y2], _, [v0, v1, v2], _ =>
    have g0 := hf 0 f0 rfl
    have g1 := hf 1 f1 rfl
    have g2 := hf 2 f2 rfl
    simp [o0, o1, o2, c0, c1, c2] at g0 g1 g2
    exact ⟨v0, v1, v2, y0, y1, y2, k, rfl, rfl, g0, g1, g2⟩
end
end Go.Proofs.Ytpcgldkllnkaeaa.Zx


/-
  A script as a law's argument, opened.
-/
namespace Go.Proofs.Ytpcgldkllnkaeaa
open Go.ChangeShapes Go.WideShapes Go.ChangeAt Go.RowKit Go.Deep Zk Zx
set_option linter.unusedVariables false
set_option maxRecDepth 100000
section
variable {H : Type} {enc : TypeId × Value → H} {w : World} {base : Nat} {spare : Nat → Bool} {held : Bool}
theorem applies_law (A : Option Addr) (n c : Nat) (a : List UInt8) (b t : Int) (B : Option Addr) (m d : Nat) (l : List OP) (w0 : World) (ha : Rs w0 1 A n c (bL a)) (hl : Rs w0 4 B m d (l.flatMap opf)) (hok : OkO w0 l) (hbig : ∀ o ∈ l, o.p.n ≤ 140737488351232) :
    Calls Try.prog 3 #[.slice A n c, .agg (scA b t B m d)] w0 fun e w' => e = .returned (.bool true) ∧ Below w0.heap.size w0 w' :=
  (lapplies A n c a B m d l b t w0 ha hl hok hbig).mono fun e w' ⟨u, h1, h2, h3⟩ => by subst h3; exact ⟨h1, h2⟩
end
end Go.Proofs.Ytpcgldkllnkaeaa


/-
  A slice of elements of many cells, each with what is known of its datum; the reach of the parts. General; nothing here names a program.
-/
namespace Go.Proofs.Ytpcgldkllnkaeaa.Zx
open Go.ChangeShapes Go.WideShapes Go.ChangeAt Go.RowKit Go.Deep Zk
set_option linter.unusedVariables false
section
variable {H : Type} {enc : TypeId × Value → H} {P : Program} {w : World} {base : Nat} {spare : Nat → Bool} {held : Bool}
theorem read_rowNP {α : Type} (f : α → List Value) (φ : α → DataW H → Prop) (size : Nat) {t e : TypeId} (ht : P.underlying t = some (.slice e)) (hc : P.cellsOf e = size) (hpos : 0 < size) (hlen : ∀ y, (f y).length = size)
    (hread : ∀ n cs x, cs.length = size → DataW.trod enc P w base spare held n e cs = some x → ∃ y, cs = f y ∧ φ y x.1)
    {fuel : Nat} {cs : List Value} {x : DataW H × List MemPlace} (h : DataW.trod enc P w base spare held fuel t cs = some x) :
    ∃ A n c, ∃ l : List α, cs = [.slice A n c] ∧ Rs w size A n c (l.flatMap f) ∧ l.length = n ∧ (∀ y ∈ l, ∃ d : DataW H, φ y d ∧ ∀ k ∈ d.weights P e, k ∈ x.1.weights P t) ∧ (n = 0 ∨ ∃ k, n ≤ k ∧ k * P.bytesOf e ∈ x.1.weights P t) := by
  rcases open_slice ht h with ⟨rfl, rfl⟩ | ⟨a, len, cap, k, n, D, Pl, rfl, _, hl, hm, hmm, rfl, hi⟩
  · exact ⟨none, 0, 0, [], rfl, Rs.nil w size, rfl, (fun y hy => by cases hy), .inl rfl⟩
  · have hle : len ≤ k := by rw [hmm]; split <;> omega
    rw [hc] at hi
    obtain ⟨l, hll, hp⟩ := list_of (fun i (y : α) => w.cells? base (a.add (i * size)) size = some (f y) ∧ φ y (D i)) len (fun i hil => by
      obtain ⟨cs', h1, h2⟩ := hi i (by omega)
      obtain ⟨y, h3, h4⟩ := hread n cs' _ (World.cells?_some h1).2.1 h2
      exact ⟨y, by rw [← h3]; exact h1, h4⟩)
    refine ⟨some a, len, cap, l, rfl, ⟨⟨by rw [flat_len f size hlen, hll], fun h0 => ⟨a, rfl, ?_, fun j u hu => ?_⟩⟩, hl, by unfold maxLen at hm; exact hm⟩, hll, fun y hy => ?_, .inr ⟨len + (k - len), by omega, by simp [DataW.weights, ht]⟩⟩
    · obtain ⟨cs', h1, h2⟩ := hi 0 (by omega)
      have h3 := (World.cells?_some h1).2.2 0 hpos
      rw [List.getElem?_eq_getElem (by rw [(World.cells?_some h1).2.1]; exact hpos)] at h3
      have := World.block_lt_of_cell? w _ h3
      rwa [block_of_add, block_of_add] at this
    · obtain ⟨i, y, h1, h2, h3⟩ := flat_get f size hlen l j u hu
      have h4 := (World.cells?_some (hp i y h1).1).2.2 (j - i * size) (by have := (List.getElem?_eq_some_iff.1 h3).1; rwa [hlen y] at this)
      rw [Go.Deep.add_add, show i * size + (j - i * size) = j by omega, h3] at h4
      exact h4
    · obtain ⟨i, hi2, rfl⟩ := List.getElem_of_mem hy
      refine ⟨D i, (hp i _ (List.getElem?_eq_getElem hi2)).2, fun q hq => ?_⟩
      have hin : ∀ (m : List (DataW H)) (d : DataW H), d ∈ m → ∀ q ∈ d.weights P e, q ∈ DataW.weightsAll P e m := by
        intro m
        induction m with
        | nil => intro d hd; cases hd
        | cons d0 m ih =>
          intro d hd q hq
          simp only [DataW.weightsAll, List.mem_append]
          rcases List.mem_cons.1 hd with rfl | hd
          · exact .inl hq
          · exact .inr (ih d hd q hq)
      simp only [DataW.weights, ht, List.mem_cons, List.mem_append]
      refine .inr (.inl (hin _ (D i) ?_ q hq))
      exact List.mem_map.2 ⟨i, by simp; omega, rfl⟩
/-- What is weighed of an argument is within the reach. -/
theorem reach_mem {ts : List TypeId} {ds : List (DataW H)} (hsz : (DataW.weightsEach P ts ds).all (· ≤ reachBytes) = true) {j : Nat} {t : TypeId} {d : DataW H} (ht : ts[j]? = some t) (hd : ds[j]? = some d) {n : Nat} (h : n ∈ d.weights P t) : n ≤ 140737488351232 :=
  of_decide_eq_true (List.all_eq_true.1 hsz _ (DataW.weights_mem_each ht hd _ h))
/-- A slice among the arguments is within the reach. -/
theorem reach_of {ts : List TypeId} {ds : List (DataW H)} (hsz : (DataW.weightsEach P ts ds).all (· ≤ reachBytes) = true) {j : Nat} {t e : TypeId} {d : DataW H} (ht : ts[j]? = some t) (hd : ds[j]? = some d) (hb : P.bytesOf e = 1) {n : Nat} (h : n = 0 ∨ ∃ k, n ≤ k ∧ k * P.bytesOf e ∈ d.weights P t) : n ≤ 140737488351232 := by
  rcases h with rfl | ⟨k, h1, h2⟩
  · omega
  · have := reach_mem hsz ht hd h2
    rw [hb, Nat.mul_one] at this
    omega
end
end Go.Proofs.Ytpcgldkllnkaeaa.Zx


/-
  The law DeltaApplies where the parts are as long as what is read may be.
-/
namespace Go.Proofs.Ytpcgldkllnkaeaa
open Go.RowKit Zk Zx
open Go.ChangeShapes Go.WideShapes Go.ChangeAt Go.Deep
set_option linter.unusedVariables false
set_option maxRecDepth 100000
section
variable {H : Type} {enc : TypeId × Value → H} {w : World} {base : Nat} {spare : Nat → Bool} {held : Bool}
/-- What is weighed of a list of bytes. -/
def Wgh (n : Nat) (ks : List Nat) : Prop := n = 0 ∨ ∃ k, n ≤ k ∧ k * Try.prog.bytesOf 5 ∈ ks
theorem read_bytesW {fuel : Nat} {cs : List Value} {x : DataW H × List MemPlace} (h : DataW.trod enc Try.prog w base spare held fuel 22 cs = some x) : ∃ p : Part, cs = [pv p] ∧ p.ok w ∧ Wgh p.n (x.1.weights Try.prog 22) := by
  obtain ⟨A, n, c, l, h1, h2, _, _, h5⟩ := read_rowNP (fun y => [bV y]) (fun _ _ => True) 1 Try.underlying22 (by kernel_rfl) (by decide) (fun _ => rfl) (fun k cs x hl hx => by
    obtain ⟨a, ha, _, hw⟩ := DataW.trod_int Try.underlying5 hx
    obtain ⟨c, rfl⟩ := u8_of a hw
    exact ⟨c, ha, trivial⟩) h
  exact ⟨⟨A, n, c, l⟩, h1, by rwa [flat_one] at h2, h5⟩
theorem Wgh.mono {n : Nat} {ks ms : List Nat} (h : Wgh n ks) (hs : ∀ k ∈ ks, k ∈ ms) : Wgh n ms := h.imp id fun ⟨k, h1, h2⟩ => ⟨k, h1, hs _ h2⟩
theorem read_opW {fuel : Nat} {cs : List Value} {x : DataW H × List MemPlace} (hlen : cs.length = 4) (h : DataW.trod enc Try.prog w base spare held fuel 57 cs = some x) : ∃ o : OP, cs = opf o ∧ o.p.ok w ∧ Wgh o.p.n (x.1.weights Try.prog 57) := by
  obtain ⟨xs, n, _, hx, hl, hlen2, hg⟩ := DataW.trod_struct Try.underlying57 h
  have e0 := hg 0 _ rfl
  have e1 := hg 1 _ rfl
  have e2 := hg 2 _ rfl
  have e3 := hg 3 _ rfl
  change DataW.trod enc Try.prog w base spare held n 4 ((cs.drop 0).take (Try.prog.cellsOf 4)) = _ at e0
  change DataW.trod enc Try.prog w base spare held n 3 ((cs.drop 1).take (Try.prog.cellsOf 3)) = _ at e1
  change DataW.trod enc Try.prog w base spare held n 3 ((cs.drop 2).take (Try.prog.cellsOf 3)) = _ at e2
  change DataW.trod enc Try.prog w base spare held n 22 ((cs.drop 3).take (Try.prog.cellsOf 22)) = _ at e3
  have c4 : Try.prog.cellsOf 4 = 1 := by kernel_rfl
  have c3 : Try.prog.cellsOf 3 = 1 := by kernel_rfl
  have c22 : Try.prog.cellsOf 22 = 1 := by kernel_rfl
  rw [c4] at e0
  rw [c3] at e1 e2
  rw [c22] at e3
  have hxl : xs.length = 4 := hlen2
  match cs, hlen, xs, hxl with
  | [v0, v1, v2, v3], _, [y0, y1, y2, y3], _ =>
    have e0 : DataW.trod enc Try.prog w base spare held n 4 [v0] = some y0 := e0
    have e1 : DataW.trod enc Try.prog w base spare held n 3 [v1] = some y1 := e1
    have e2 : DataW.trod enc Try.prog w base spare held n 3 [v2] = some y2 := e2
    have e3 : DataW.trod enc Try.prog w base spare held n 22 [v3] = some y3 := e3
    obtain ⟨b0, hb, _⟩ := DataW.trod_bool Try.underlying4 e0
    obtain ⟨i1, hi1, _, _⟩ := DataW.trod_int Try.underlying3 e1
    obtain ⟨i2, hi2, _, _⟩ := DataW.trod_int Try.underlying3 e2
    obtain ⟨p, hp, hok, hbk⟩ := read_bytesW e3
    cases hb
    cases hi1
    cases hi2
    cases hp
    refine ⟨⟨b0, i1, i2, p⟩, rfl, hok, hbk.mono fun k hk => ?_⟩
    rw [hx]
    simp only [DataW.weights, Try.underlying57, List.map_cons, List.map_nil, DataW.weightsEach, List.mem_append]
    exact .inr (.inr (.inr (.inl hk)))
theorem read_opsW {fuel : Nat} {cs : List Value} {x : DataW H × List MemPlace} (h : DataW.trod enc Try.prog w base spare held fuel 23 cs = some x) : ∃ A n c, ∃ l : List OP, cs = [.slice A n c] ∧ Rs w 4 A n c (l.flatMap opf) ∧ OkO w l ∧ ∀ o ∈ l, Wgh o.p.n (x.1.weights Try.prog 23) := by
  obtain ⟨A, n, c, l, h1, h2, h3, h4, _⟩ := read_rowNP opf (fun o d => o.p.ok w ∧ Wgh o.p.n (d.weights Try.prog 57)) 4 Try.underlying23 (by kernel_rfl) (by decide) opf_len (fun k cs x hl hx => by
    obtain ⟨o, ho, h6, h7⟩ := read_opW hl hx
    exact ⟨o, ho, h6, h7⟩) h
  exact ⟨A, n, c, l, h1, h2, fun o ho => (h4 o ho).choose_spec.1.1, fun o ho => (h4 o ho).choose_spec.1.2.mono (h4 o ho).choose_spec.2⟩
theorem open_scriptW {r : Reach} {b0 : Nat} {v : Value} {d : DataW H} {p : List MemPlace} (hv : Value.okWide Try.prog w r b0 25 v) (h : DataW.Trod enc Try.prog w base spare held 25 v d p) :
    ∃ (b t : Int), ∃ A n c, ∃ l : List OP, v = .agg (scA b t A n c) ∧ Rs w 4 A n c (l.flatMap opf) ∧ OkO w l ∧ ∀ o ∈ l, Wgh o.p.n (d.weights Try.prog 25) := by
  obtain ⟨cs, rfl, hsz⟩ := okWide_struct Try.underlying25 hv
  obtain ⟨fuel, hf⟩ := h
  have c25 : Try.prog.cellsOf 25 = 3 := by kernel_rfl
  obtain ⟨v0, v1, v2, y0, y1, y2, k, hcs, hx, e0, e1, e2⟩ := read_struct3 Try.underlying25 rfl rfl rfl (by kernel_rfl) (by kernel_rfl) (by kernel_rfl) (by show cs.toList.length = 3; rw [Array.length_toList]; omega) hf
  obtain ⟨i0, h0, _, _⟩ := DataW.trod_int Try.underlying3 e0
  obtain ⟨i1, h1, _, _⟩ := DataW.trod_int Try.underlying3 e1
  obtain ⟨A, n, c, l, h2, h3, h4, h5⟩ := read_opsW e2
  cases h0
  cases h1
  cases h2
  have hcs' : cs.toList = [.int .i64 i0, .int .i64 i1, .slice A n c] := hcs
  refine ⟨i0, i1, A, n, c, l, ?_, h3, h4, fun o ho => ?_⟩
  · rw [show cs = scA i0 i1 A n c by unfold scA; rw [← hcs']]
  · have hx' : d = .agg [y0.1, y1.1, y2.1] := hx
    rw [hx']
    refine (h5 o ho).mono fun k hk => ?_
    simp only [DataW.weights, Try.underlying25, List.map_cons, List.map_nil, DataW.weightsEach, List.mem_append]
    exact .inr (.inr (.inl hk))
end
end Go.Proofs.Ytpcgldkllnkaeaa
