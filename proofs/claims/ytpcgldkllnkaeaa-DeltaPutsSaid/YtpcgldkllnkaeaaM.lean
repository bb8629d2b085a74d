/-
  same.
-/
import Derived.Test.YtpcgldkllnkaeaaL
namespace Go.Proofs.Ytpcgldkllnkaeaa
open Go.RowKit Zk Zx
set_option linter.unusedVariables false
set_option linter.unusedSimpArgs false

theorem y_bneq {P : Program} {S : World → Prop} {env : Env} {dst : Option Tmp} {ty : TypeId} {pos : String} {after : Array Edge} {g : Option (Nat × Bool)} {x y : Operand} {t u : TypeId} {a b : Bool} (ht : P.underlying t = some .bool) (hx : ev env x = some (.bool a)) (hy : ev env y = some (.bool b)) : Y P S env ⟨dst, .binOp .neq t x y u, ty, pos, after, g⟩ (.bool (!(a == b))) := fun N c w ha _ => by
  simp only [execOp, ha.eval hx, ha.eval hy, eqGuard, ne_eq, not_true_eq_false, Bool.not_true, Bool.false_eq_true, if_false, Sem.run_bind, Sem.run_pure, Result.andThen_ok, run_neq_bool w t a b ht]
theorem same_at {l k : List OP} {i : Nat} {x y : OP} (hx : l[i]? = some x) (hy : k[i]? = some y) (e : l.map OP.v = k.map OP.v) : x.v = y.v := by
  have h1 := map_at hx
  rw [e, map_at hy] at h1
  exact (Option.some.inj h1).symm
theorem same_end {l k : List OP} {i : Nat} (h : (l.take i).map OP.v = (k.take i).map OP.v) (h1 : l.length ≤ i) (h2 : k.length ≤ i) : l.map OP.v = k.map OP.v := by
  rwa [List.take_of_length_le h1, List.take_of_length_le h2] at h
theorem same_step {l k : List OP} {i : Nat} {x y : OP} (h : (l.take i).map OP.v = (k.take i).map OP.v) (hx : l[i]? = some x) (hy : k[i]? = some y) (e : x.v = y.v) : (l.take (i + 1)).map OP.v = (k.take (i + 1)).map OP.v := by
  rw [take1 hx, take1 hy, List.map_append, List.map_append, h, List.map_singleton, List.map_singleton, e]


set_option maxRecDepth 100000 in
theorem psame (A : Option Addr) (n c : Nat) (l : List OP) (b t : Int) (B : Option Addr) (m d : Nat) (k : List OP) (b' t' : Int) (w0 : World) (hl : Rs w0 4 A n c (l.flatMap opf)) (hok : OkO w0 l) (hk : Rs w0 4 B m d (k.flatMap opf)) (hok2 : OkO w0 k) :
    Calls Try.prog 15 #[.agg (scA b t A n c), .agg (scA b' t' B m d)] w0 fun e w' => ∃ u, e = .returned u ∧ Like w0 w' ∧ u = .bool (decide (b = b' ∧ t = t' ∧ l.map OP.v = k.map OP.v)) := by
  refine enter1 (env := [(0, .agg (scA b t A n c)), (1, .agg (scA b' t' B m d))]) [.agg (scA b t A n c), .agg (scA b' t' B m d)] Try.func15 rfl Try.ntmps15 rfl rfl ?_
  have hn := ops_n hl; have hcap := hl.cap; have hmax := hl.max; have S0 := St.start w0 noM; have hm := ops_n hk; have hcap2 := hk.cap; have hmax2 := hk.max
  refine T_seq fun K1 hK1 => ?_
  refine T_region ?_
  refine L_o (o_box rfl S0 rfl fun b1 w1 hb1 S1 => ?_)
  refine L_o (o_box rfl S1 rfl fun b2 w2 hb2 S2 => ?_)
  refine L_y (y_assign rfl) rfl ?_
  refine L_nil ?_
  refine hK1 _ _ ?_
  refine T_seq fun K2 hK2 => ?_
  refine T_seq fun K3 hK3 => ?_
  refine T_region ?_
  refine L_y (y_fieldA 0 Try.underlying25 rfl sz3 rfl rfl rfl) rfl ?_
  refine L_y (y_ldc Try.underlying3 rfl rfl (((S2.blk 0 rfl).cell _).trans (by rfl))) rfl ?_
  refine L_y (y_fieldA 0 Try.underlying30 rfl sz3 rfl rfl rfl) rfl ?_
  refine L_y (y_ldc Try.underlying3 rfl rfl (((S2.blk 1 rfl).cell _).trans (by rfl))) rfl ?_
  refine L_y (y_neq rfl rfl) rfl ?_
  refine L_y (y_move rfl) rfl ?_
  refine L_split 13 rfl (fun h13 => ?_) (fun h13 => ?_)
  ·
    refine L_gno rfl rfl rfl ?_
    refine L_gno rfl rfl rfl ?_
    refine L_gno rfl rfl rfl ?_
    refine L_gno rfl rfl rfl ?_
    refine L_gno rfl rfl rfl ?_
    refine L_y ((by first | exact y_pickT rfl rfl | exact y_pickF rfl rfl)) rfl ?_
    refine L_y (y_move rfl) rfl ?_
    refine L_gno rfl rfl rfl ?_
    refine L_gno rfl rfl rfl ?_
    refine L_gno rfl rfl rfl ?_
    refine L_gno rfl rfl rfl ?_
    refine L_gno rfl rfl rfl ?_
    refine L_gno rfl rfl rfl ?_
    refine L_gno rfl rfl rfl ?_
    refine L_y ((by first | exact y_pickT rfl rfl | exact y_pickF rfl rfl)) rfl ?_
    refine L_nil ?_
    refine hK3 _ _ ?_
    refine T_true rfl ?_
    refine T_seq fun K4 hK4 => ?_
    refine T_region ?_
    refine L_y (y_assign rfl) rfl ?_
    refine L_nil ?_
    refine hK4 _ _ ?_
    refine T_ret ?_
    repeat (first | with_reducible refine up_then ?_ | with_reducible refine up_in ?_)
    refine ret1 rfl rfl ?_
    first | exact ⟨_, rfl, S2.like0, congrArg Value.bool (decide_eq_false (fun ⟨e1, e2, e3⟩ => by have e4 := congrArg List.length e3; rw [List.length_map, List.length_map] at e4; omega)).symm⟩ | exact ⟨_, rfl, S2.like0, congrArg Value.bool (decide_eq_false (fun ⟨e1, e2, e3⟩ => by have e5 := same_at hx hy e3; have f1 := congrArg OV.cp e5; have f2 := congrArg OV.fr e5; have f3 := congrArg OV.n e5; have f4 := congrArg OV.l e5; simp_all [OP.v])).symm⟩ | exact ⟨_, rfl, S2.like0, congrArg Value.bool (decide_eq_true ⟨by omega, by omega, same_end heq (by omega) (by omega)⟩).symm⟩
  ·
    refine L_gyes rfl rfl ?_
    refine L_y (y_fieldA 1 Try.underlying25 rfl sz3 rfl rfl rfl) rfl ?_
    refine L_gyes rfl rfl ?_
    refine L_y (y_ldc Try.underlying3 rfl rfl (((S2.blk 0 rfl).cell _).trans (by rfl))) rfl ?_
    refine L_gyes rfl rfl ?_
    refine L_y (y_fieldA 1 Try.underlying30 rfl sz3 rfl rfl rfl) rfl ?_
    refine L_gyes rfl rfl ?_
    refine L_y (y_ldc Try.underlying3 rfl rfl (((S2.blk 1 rfl).cell _).trans (by rfl))) rfl ?_
    refine L_gyes rfl rfl ?_
    refine L_y (y_neq rfl rfl) rfl ?_
    refine L_y ((by first | exact y_pickT rfl rfl | exact y_pickF rfl rfl)) rfl ?_
    refine L_y (y_move rfl) rfl ?_
    refine L_split 20 rfl (fun h20 => ?_) (fun h20 => ?_)
    ·
      refine L_gno rfl rfl rfl ?_
      refine L_gno rfl rfl rfl ?_
      refine L_gno rfl rfl rfl ?_
      refine L_gno rfl rfl rfl ?_
      refine L_gno rfl rfl rfl ?_
      refine L_gno rfl rfl rfl ?_
      refine L_gno rfl rfl rfl ?_
      refine L_y ((by first | exact y_pickT rfl rfl | exact y_pickF rfl rfl)) rfl ?_
      refine L_nil ?_
      refine hK3 _ _ ?_
      refine T_true rfl ?_
      refine T_seq fun K5 hK5 => ?_
      refine T_region ?_
      refine L_y (y_assign rfl) rfl ?_
      refine L_nil ?_
      refine hK5 _ _ ?_
      refine T_ret ?_
      repeat (first | with_reducible refine up_then ?_ | with_reducible refine up_in ?_)
      refine ret1 rfl rfl ?_
      first | exact ⟨_, rfl, S2.like0, congrArg Value.bool (decide_eq_false (fun ⟨e1, e2, e3⟩ => by have e4 := congrArg List.length e3; rw [List.length_map, List.length_map] at e4; omega)).symm⟩ | exact ⟨_, rfl, S2.like0, congrArg Value.bool (decide_eq_false (fun ⟨e1, e2, e3⟩ => by have e5 := same_at hx hy e3; have f1 := congrArg OV.cp e5; have f2 := congrArg OV.fr e5; have f3 := congrArg OV.n e5; have f4 := congrArg OV.l e5; simp_all [OP.v])).symm⟩ | exact ⟨_, rfl, S2.like0, congrArg Value.bool (decide_eq_true ⟨by omega, by omega, same_end heq (by omega) (by omega)⟩).symm⟩
    ·
      refine L_gyes rfl rfl ?_
      refine L_y (y_fieldA 2 Try.underlying25 rfl sz23 rfl rfl rfl) rfl ?_
      refine L_gyes rfl rfl ?_
      refine L_y (y_ldc Try.underlying23 rfl rfl (((S2.blk 0 rfl).cell _).trans (by rfl))) rfl ?_
      refine L_gyes rfl rfl ?_
      refine L_y (y_len Try.underlying23 rfl) rfl ?_
      refine L_gyes rfl rfl ?_
      refine L_y (y_fieldA 2 Try.underlying30 rfl sz28 rfl rfl rfl) rfl ?_
      refine L_gyes rfl rfl ?_
      refine L_y (y_ldc Try.underlying28 rfl rfl (((S2.blk 1 rfl).cell _).trans (by rfl))) rfl ?_
      refine L_gyes rfl rfl ?_
      refine L_y (y_len Try.underlying28 rfl) rfl ?_
      refine L_gyes rfl rfl ?_
      refine L_y (y_neq rfl rfl) rfl ?_
      refine L_y ((by first | exact y_pickT rfl rfl | exact y_pickF rfl rfl)) rfl ?_
      refine L_nil ?_
      refine hK3 _ _ ?_
      refine T_cond rfl (fun h28 => ?_) (fun h28 => ?_)
      ·
        refine T_seq fun K6 hK6 => ?_
        refine T_region ?_
        refine L_y (y_assign rfl) rfl ?_
        refine L_nil ?_
        refine hK6 _ _ ?_
        refine T_ret ?_
        repeat (first | with_reducible refine up_then ?_ | with_reducible refine up_in ?_)
        refine ret1 rfl rfl ?_
        first | exact ⟨_, rfl, S2.like0, congrArg Value.bool (decide_eq_false (fun ⟨e1, e2, e3⟩ => by have e4 := congrArg List.length e3; rw [List.length_map, List.length_map] at e4; omega)).symm⟩ | exact ⟨_, rfl, S2.like0, congrArg Value.bool (decide_eq_false (fun ⟨e1, e2, e3⟩ => by have e5 := same_at hx hy e3; have f1 := congrArg OV.cp e5; have f2 := congrArg OV.fr e5; have f3 := congrArg OV.n e5; have f4 := congrArg OV.l e5; simp_all [OP.v])).symm⟩ | exact ⟨_, rfl, S2.like0, congrArg Value.bool (decide_eq_true ⟨by omega, by omega, same_end heq (by omega) (by omega)⟩).symm⟩
      ·
        refine T_skip ?_
        refine hK2 _ _ ?_
        refine T_seq fun K7 hK7 => ?_
        refine T_seq fun K8 hK8 => ?_
        refine T_region ?_
        refine L_y (y_assign rfl) rfl ?_
        refine L_nil ?_
        refine hK8 _ _ ?_
        refine T_block ?_
        refine T_loop1 [(2, _), (3, _)] (fun (i : Nat) => [(5, .int .i64 (i : Int))]) (fun (i : Nat) => n - i) (fun (i : Nat) (w : World) => (i ≤ n ∧ (l.take i).map OP.v = (k.take i).map OP.v) ∧ St w0 noM [blk b1 25 (scA b t A n c), blk b2 30 (scA b' t' B m d)] w) 0 (Sub.cons rfl (by first | rfl | exact congrArg (Value.int _) (by omega)) (Sub.nil _)) (Sub.cons rfl rfl (Sub.cons rfl rfl (Sub.nil _))) ?_ ?_
        ·
          exact ⟨⟨Nat.zero_le _, rfl⟩, S2⟩
        ·
          intro i w5 hrel
          obtain ⟨⟨hi, heq⟩, S5⟩ := hrel
          refine T_seq fun K9 hK9 => ?_
          refine T_seq fun K10 hK10 => ?_
          refine T_region ?_
          refine L_y (y_move rfl) rfl ?_
          refine L_y (y_fieldA 2 Try.underlying25 rfl sz23 rfl rfl rfl) rfl ?_
          refine L_y (y_ldc Try.underlying23 rfl rfl (((S5.blk 0 rfl).cell _).trans (by rfl))) rfl ?_
          refine L_y (y_len Try.underlying23 rfl) rfl ?_
          refine L_y (y_lss rfl rfl) rfl ?_
          refine L_nil ?_
          refine hK10 _ _ ?_
          refine T_cond rfl (fun h33 => ?_) (fun h33 => ?_)
          ·
            obtain ⟨x, hx⟩ : ∃ x, l[i]? = some x := ⟨_, List.getElem?_eq_getElem (by omega)⟩
            obtain ⟨y, hy⟩ : ∃ y, k[i]? = some y := ⟨_, List.getElem?_eq_getElem (by omega)⟩
            have hxo := hok x (List.mem_of_getElem? hx)
            have hyo := hok2 y (List.mem_of_getElem? hy)
            refine T_skip ?_
            refine hK9 _ _ ?_
            refine T_seq fun K11 hK11 => ?_
            refine T_block ?_
            refine T_seq fun K12 hK12 => ?_
            refine T_drawnX (fun w => Blk w b1 25 (scA b t A n c) ∧ Blk w b2 30 (scA b' t' B m d) ∧ Rs w 4 A n c (l.flatMap opf) ∧ Rs w 4 B m d (k.flatMap opf)) hmix (by kernel_rfl) (fun w l => ⟨(S5.like l).blk 0 rfl, (S5.like l).blk 1 rfl, (S5.like l).rd hl, (S5.like l).rd hk⟩) fun w6 l6 => ?_
            have S6 := S5.like l6
            refine DX_y 0 (by kernel_rfl) rfl (y_fieldA 2 Try.underlying25 rfl sz23 rfl rfl rfl) rfl ?_
            refine DX_y 1 (by kernel_rfl) rfl (y_of fun w hw => y_ldc Try.underlying23 rfl rfl (((hw.1).cell _).trans (by rfl))) rfl ?_
            refine DX_y 2 (by kernel_rfl) rfl (y_move rfl) rfl ?_
            refine DX_y 3 (by kernel_rfl) rfl (y_idx Try.underlying23 sz57 rfl rfl (S6.rd hl) (Nt.mk (by omega) : Nt _ (i)) (by omega)) rfl ?_
            refine DX_y 4 (by kernel_rfl) rfl (y_of fun w hw => y_ldp (f := opf) opf_len Try.underlying57 rfl sz57 rfl (hw.2.2.1) (by omega) hx) rfl ?_
            refine DX_y 5 (by kernel_rfl) rfl (y_fieldA 2 Try.underlying30 rfl sz28 rfl rfl rfl) rfl ?_
            refine DX_y 6 (by kernel_rfl) rfl (y_of fun w hw => y_ldc Try.underlying28 rfl rfl (((hw.2.1).cell _).trans (by rfl))) rfl ?_
            refine DX_y 7 (by kernel_rfl) rfl (y_move rfl) rfl ?_
            refine DX_y 8 (by kernel_rfl) rfl (y_idx Try.underlying28 sz58 rfl rfl (S6.rd hk) (Nt.mk (by omega) : Nt _ (i)) (by omega)) rfl ?_
            refine DX_y 9 (by kernel_rfl) rfl (y_of fun w hw => y_ldp (f := opf) opf_len Try.underlying58 rfl sz58 rfl (hw.2.2.2) (by omega) hy) rfl ?_
            refine DX_allocs 10 11 (by kernel_rfl) (by kernel_rfl) (by kernel_rfl) rfl rfl (by decide) (by decide) rfl rfl zz57 zz58 S6 rfl rfl (fun w S => ⟨S.blk 0 rfl, S.blk 1 rfl, S.rd hl, S.rd hk⟩) fun b7 b7' w7 hb7 hb7' S7 => ?_
            refine DX_DL [(12, false), (13, false)] (by kernel_rfl) ?_
            refine DL_o rfl (o_stW S7 2 rfl rfl rfl sz57 rfl (opf_one x) fun w8 S8 => ?_)
            refine ⟨⟨S8.blk 0 rfl, S8.blk 1 rfl, S8.rd hl, S8.rd hk⟩, ?_⟩
            refine DL_o rfl (o_stW S8 3 rfl rfl rfl sz58 rfl (opf_one y) fun w9 S9 => ?_)
            refine ⟨⟨S9.blk 0 rfl, S9.blk 1 rfl, S9.rd hl, S9.rd hk⟩, ?_⟩
            refine DL_nil ?_
            refine hK12 _ _ ?_
            refine T_seq fun K13 hK13 => ?_
            refine T_region ?_
            refine L_y (y_fieldA 0 Try.underlying57 rfl sz4 rfl rfl rfl) rfl ?_
            refine L_y (y_ldc Try.underlying4 rfl rfl (((S9.blk 2 rfl).cell _).trans (by rfl))) rfl ?_
            refine L_y (y_fieldA 0 Try.underlying58 rfl sz4 rfl rfl rfl) rfl ?_
            refine L_y (y_ldc Try.underlying4 rfl rfl (((S9.blk 3 rfl).cell _).trans (by rfl))) rfl ?_
            refine L_y (y_bneq Try.underlying4 rfl rfl) rfl ?_
            refine L_y (y_move rfl) rfl ?_
            refine L_splitB 51 rfl (fun h51 => ?_) (fun h51 => ?_)
            ·
              refine L_gno rfl rfl rfl ?_
              refine L_gno rfl rfl rfl ?_
              refine L_gno rfl rfl rfl ?_
              refine L_gno rfl rfl rfl ?_
              refine L_gno rfl rfl rfl ?_
              refine L_y ((by first | exact y_pickT rfl rfl | exact y_pickF rfl rfl)) rfl ?_
              refine L_y (y_move rfl) rfl ?_
              refine L_gno rfl rfl rfl ?_
              refine L_gno rfl rfl rfl ?_
              refine L_gno rfl rfl rfl ?_
              refine L_gno rfl rfl rfl ?_
              refine L_gno rfl rfl rfl ?_
              refine L_y ((by first | exact y_pickT rfl rfl | exact y_pickF rfl rfl)) rfl ?_
              refine L_y (y_move rfl) rfl ?_
              refine L_gno rfl rfl rfl ?_
              refine L_gno rfl rfl rfl ?_
              refine L_gno rfl rfl rfl ?_
              refine L_gno rfl rfl rfl ?_
              refine L_gno rfl rfl rfl ?_
              refine L_gno rfl rfl rfl ?_
              refine L_y ((by first | exact y_pickT rfl rfl | exact y_pickF rfl rfl)) rfl ?_
              refine L_nil ?_
              refine hK13 _ _ ?_
              refine T_true rfl ?_
              refine T_seq fun K14 hK14 => ?_
              refine T_region ?_
              refine L_y (y_assign rfl) rfl ?_
              refine L_nil ?_
              refine hK14 _ _ ?_
              refine T_ret ?_
              repeat (first | with_reducible refine up_then ?_ | with_reducible refine up_in ?_)
              refine ret1 rfl rfl ?_
              first | exact ⟨_, rfl, S9.like0, congrArg Value.bool (decide_eq_false (fun ⟨e1, e2, e3⟩ => by have e4 := congrArg List.length e3; rw [List.length_map, List.length_map] at e4; omega)).symm⟩ | exact ⟨_, rfl, S9.like0, congrArg Value.bool (decide_eq_false (fun ⟨e1, e2, e3⟩ => by have e5 := same_at hx hy e3; have f1 := congrArg OV.cp e5; have f2 := congrArg OV.fr e5; have f3 := congrArg OV.n e5; have f4 := congrArg OV.l e5; simp_all [OP.v])).symm⟩ | exact ⟨_, rfl, S9.like0, congrArg Value.bool (decide_eq_true ⟨by omega, by omega, same_end heq (by omega) (by omega)⟩).symm⟩
            ·
              refine L_gyes rfl rfl ?_
              refine L_y (y_fieldA 1 Try.underlying57 rfl sz3 rfl rfl rfl) rfl ?_
              refine L_gyes rfl rfl ?_
              refine L_y (y_ldc Try.underlying3 rfl rfl (((S9.blk 2 rfl).cell _).trans (by rfl))) rfl ?_
              refine L_gyes rfl rfl ?_
              refine L_y (y_fieldA 1 Try.underlying58 rfl sz3 rfl rfl rfl) rfl ?_
              refine L_gyes rfl rfl ?_
              refine L_y (y_ldc Try.underlying3 rfl rfl (((S9.blk 3 rfl).cell _).trans (by rfl))) rfl ?_
              refine L_gyes rfl rfl ?_
              refine L_y (y_neq rfl rfl) rfl ?_
              refine L_y ((by first | exact y_pickT rfl rfl | exact y_pickF rfl rfl)) rfl ?_
              refine L_y (y_move rfl) rfl ?_
              refine L_split 58 rfl (fun h58 => ?_) (fun h58 => ?_)
              ·
                refine L_gno rfl rfl rfl ?_
                refine L_gno rfl rfl rfl ?_
                refine L_gno rfl rfl rfl ?_
                refine L_gno rfl rfl rfl ?_
                refine L_gno rfl rfl rfl ?_
                refine L_y ((by first | exact y_pickT rfl rfl | exact y_pickF rfl rfl)) rfl ?_
                refine L_y (y_move rfl) rfl ?_
                refine L_gno rfl rfl rfl ?_
                refine L_gno rfl rfl rfl ?_
                refine L_gno rfl rfl rfl ?_
                refine L_gno rfl rfl rfl ?_
                refine L_gno rfl rfl rfl ?_
                refine L_gno rfl rfl rfl ?_
                refine L_y ((by first | exact y_pickT rfl rfl | exact y_pickF rfl rfl)) rfl ?_
                refine L_nil ?_
                refine hK13 _ _ ?_
                refine T_true rfl ?_
                refine T_seq fun K15 hK15 => ?_
                refine T_region ?_
                refine L_y (y_assign rfl) rfl ?_
                refine L_nil ?_
                refine hK15 _ _ ?_
                refine T_ret ?_
                repeat (first | with_reducible refine up_then ?_ | with_reducible refine up_in ?_)
                refine ret1 rfl rfl ?_
                first | exact ⟨_, rfl, S9.like0, congrArg Value.bool (decide_eq_false (fun ⟨e1, e2, e3⟩ => by have e4 := congrArg List.length e3; rw [List.length_map, List.length_map] at e4; omega)).symm⟩ | exact ⟨_, rfl, S9.like0, congrArg Value.bool (decide_eq_false (fun ⟨e1, e2, e3⟩ => by have e5 := same_at hx hy e3; have f1 := congrArg OV.cp e5; have f2 := congrArg OV.fr e5; have f3 := congrArg OV.n e5; have f4 := congrArg OV.l e5; simp_all [OP.v])).symm⟩ | exact ⟨_, rfl, S9.like0, congrArg Value.bool (decide_eq_true ⟨by omega, by omega, same_end heq (by omega) (by omega)⟩).symm⟩
              ·
                refine L_gyes rfl rfl ?_
                refine L_y (y_fieldA 2 Try.underlying57 rfl sz3 rfl rfl rfl) rfl ?_
                refine L_gyes rfl rfl ?_
                refine L_y (y_ldc Try.underlying3 rfl rfl (((S9.blk 2 rfl).cell _).trans (by rfl))) rfl ?_
                refine L_gyes rfl rfl ?_
                refine L_y (y_fieldA 2 Try.underlying58 rfl sz3 rfl rfl rfl) rfl ?_
                refine L_gyes rfl rfl ?_
                refine L_y (y_ldc Try.underlying3 rfl rfl (((S9.blk 3 rfl).cell _).trans (by rfl))) rfl ?_
                refine L_gyes rfl rfl ?_
                refine L_y (y_neq rfl rfl) rfl ?_
                refine L_y ((by first | exact y_pickT rfl rfl | exact y_pickF rfl rfl)) rfl ?_
                refine L_y (y_move rfl) rfl ?_
                refine L_split 65 rfl (fun h65 => ?_) (fun h65 => ?_)
                ·
                  refine L_gno rfl rfl rfl ?_
                  refine L_gno rfl rfl rfl ?_
                  refine L_gno rfl rfl rfl ?_
                  refine L_gno rfl rfl rfl ?_
                  refine L_gno rfl rfl rfl ?_
                  refine L_gno rfl rfl rfl ?_
                  refine L_y ((by first | exact y_pickT rfl rfl | exact y_pickF rfl rfl)) rfl ?_
                  refine L_nil ?_
                  refine hK13 _ _ ?_
                  refine T_true rfl ?_
                  refine T_seq fun K16 hK16 => ?_
                  refine T_region ?_
                  refine L_y (y_assign rfl) rfl ?_
                  refine L_nil ?_
                  refine hK16 _ _ ?_
                  refine T_ret ?_
                  repeat (first | with_reducible refine up_then ?_ | with_reducible refine up_in ?_)
                  refine ret1 rfl rfl ?_
                  first | exact ⟨_, rfl, S9.like0, congrArg Value.bool (decide_eq_false (fun ⟨e1, e2, e3⟩ => by have e4 := congrArg List.length e3; rw [List.length_map, List.length_map] at e4; omega)).symm⟩ | exact ⟨_, rfl, S9.like0, congrArg Value.bool (decide_eq_false (fun ⟨e1, e2, e3⟩ => by have e5 := same_at hx hy e3; have f1 := congrArg OV.cp e5; have f2 := congrArg OV.fr e5; have f3 := congrArg OV.n e5; have f4 := congrArg OV.l e5; simp_all [OP.v])).symm⟩ | exact ⟨_, rfl, S9.like0, congrArg Value.bool (decide_eq_true ⟨by omega, by omega, same_end heq (by omega) (by omega)⟩).symm⟩
                ·
                  refine L_gyes rfl rfl ?_
                  refine L_y (y_fieldA 3 Try.underlying57 rfl sz22 rfl rfl rfl) rfl ?_
                  refine L_gyes rfl rfl ?_
                  refine L_y (y_ldc Try.underlying22 rfl rfl (((S9.blk 2 rfl).cell _).trans (by rfl))) rfl ?_
                  refine L_gyes rfl rfl ?_
                  refine L_y (y_fieldA 3 Try.underlying58 rfl sz22 rfl rfl rfl) rfl ?_
                  refine L_gyes rfl rfl ?_
                  refine L_y (y_ldc Try.underlying22 rfl rfl (((S9.blk 3 rfl).cell _).trans (by rfl))) rfl ?_
                  refine L_gyes rfl rfl ?_
                  refine L_o (o_call Try.func14 rfl rfl (same1 x.p.A y.p.A x.p.n x.p.c y.p.n y.p.c x.p.l y.p.l w9 (S9.rd hxo) (S9.rd hyo)) rfl rfl ?_)
                  rintro e13 w13 ⟨v13, rfl, l13, rfl⟩
                  refine ⟨_, rfl, ?_⟩
                  have S13 := S9.like l13
                  refine L_gyes rfl rfl ?_
                  refine L_y ((by first | exact y_notD rfl | exact y_not rfl)) rfl ?_
                  refine L_y ((by first | exact y_pickT rfl rfl | exact y_pickF rfl rfl)) rfl ?_
                  refine L_nil ?_
                  refine hK13 _ _ ?_
                  refine T_condB rfl (fun h72 => ?_) (fun h72 => ?_)
                  ·
                    refine T_seq fun K17 hK17 => ?_
                    refine T_region ?_
                    refine L_y (y_assign rfl) rfl ?_
                    refine L_nil ?_
                    refine hK17 _ _ ?_
                    refine T_ret ?_
                    repeat (first | with_reducible refine up_then ?_ | with_reducible refine up_in ?_)
                    refine ret1 rfl rfl ?_
                    first | exact ⟨_, rfl, S13.like0, congrArg Value.bool (decide_eq_false (fun ⟨e1, e2, e3⟩ => by have e4 := congrArg List.length e3; rw [List.length_map, List.length_map] at e4; omega)).symm⟩ | exact ⟨_, rfl, S13.like0, congrArg Value.bool (decide_eq_false (fun ⟨e1, e2, e3⟩ => by have e5 := same_at hx hy e3; have f1 := congrArg OV.cp e5; have f2 := congrArg OV.fr e5; have f3 := congrArg OV.n e5; have f4 := congrArg OV.l e5; simp_all [OP.v])).symm⟩ | exact ⟨_, rfl, S13.like0, congrArg Value.bool (decide_eq_true ⟨by omega, by omega, same_end heq (by omega) (by omega)⟩).symm⟩
                  ·
                    refine T_skip ?_
                    refine hK11 _ _ ?_
                    refine T_region ?_
                    refine L_y (y_move rfl) rfl ?_
                    refine L_y (y_add rfl rfl (i64w (by omega))) rfl ?_
                    refine L_y (y_assign rfl) rfl ?_
                    refine L_nil ?_
                    have S91 := S13.sel [0, 1] (by decide)
                    refine ⟨i + 1, by omega, ⟨⟨by omega, same_step heq hx hy (by unfold OP.v; simp_all)⟩, S91⟩, ?_⟩
                    exact (Sub.cons rfl (by first | rfl | exact congrArg (Value.int _) (by omega)) (Sub.cons rfl rfl (Sub.cons rfl rfl (Sub.nil _))))
          ·
            refine T_exit ?_
            refine hK7 _ _ ?_
            refine T_seq fun K18 hK18 => ?_
            refine T_region ?_
            refine L_y (y_assign rfl) rfl ?_
            refine L_nil ?_
            refine hK18 _ _ ?_
            refine T_ret ?_
            repeat (first | with_reducible refine up_then ?_ | with_reducible refine up_in ?_)
            refine ret1 rfl rfl ?_
            first | exact ⟨_, rfl, S5.like0, congrArg Value.bool (decide_eq_false (fun ⟨e1, e2, e3⟩ => by have e4 := congrArg List.length e3; rw [List.length_map, List.length_map] at e4; omega)).symm⟩ | exact ⟨_, rfl, S5.like0, congrArg Value.bool (decide_eq_false (fun ⟨e1, e2, e3⟩ => by have e5 := same_at hx hy e3; have f1 := congrArg OV.cp e5; have f2 := congrArg OV.fr e5; have f3 := congrArg OV.n e5; have f4 := congrArg OV.l e5; simp_all [OP.v])).symm⟩ | exact ⟨_, rfl, S5.like0, congrArg Value.bool (decide_eq_true ⟨by omega, by omega, same_end heq (by omega) (by omega)⟩).symm⟩
end Go.Proofs.Ytpcgldkllnkaeaa
