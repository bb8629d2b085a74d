/-
  Check.
-/
import Derived.Test.YtpcgldkllnkaeaaB
namespace Go.Proofs.Ytpcgldkllnkaeaa
open Go.RowKit Zk Zx
set_option linter.unusedVariables false
set_option linter.unusedSimpArgs false

def errV (b t : Int) (l : List OV) : Int := if chkV b t l then 0 else 2
theorem chk_no {b t : Int} {l : List OV} (h : ¬ (0 ≤ b ∧ b ≤ 4000 ∧ 0 ≤ t ∧ t ≤ 4000)) : errV b t l = 2 := by
  unfold errV chkV
  rw [decide_eq_false h]
  rfl
theorem chk_eq {b t : Int} {l : List OV} (h : 0 ≤ b ∧ b ≤ 4000 ∧ 0 ≤ t ∧ t ≤ 4000) : errV b t l = if chkL b t l then 0 else 2 := by
  unfold errV chkV
  rw [decide_eq_true h, Bool.true_and]
theorem drop_at' {α : Type} {l : List α} {k : Nat} {a : α} (h : l[k]? = some a) : l.drop k = a :: l.drop (k + 1) := by
  obtain ⟨h1, h2⟩ := List.getElem?_eq_some_iff.1 h
  rw [← h2, List.getElem_cons_drop]
theorem map_at {l : List OP} {k : Nat} {o : OP} (h : l[k]? = some o) : (l.map OP.v)[k]? = some o.v := by rw [List.getElem?_map, h]; rfl
theorem chkL_bad {b left : Int} {l : List OP} {k : Nat} {o : OP} (ho : l[k]? = some o) (h : rtV b o.v = false ∨ left < szV o.v) : chkL b left ((l.map OP.v).drop k) = false := by
  rw [drop_at' (map_at ho)]
  unfold chkL
  rcases h with h | h
  · rw [h]; rfl
  · rw [decide_eq_false (by omega : ¬ szV o.v ≤ left)]; simp
theorem chkL_ok {b left : Int} {l : List OP} {k : Nat} {o : OP} (ho : l[k]? = some o) (h1 : rtV b o.v = true) (h2 : szV o.v ≤ left) : chkL b left ((l.map OP.v).drop k) = chkL b (left - szV o.v) ((l.map OP.v).drop (k + 1)) := by
  rw [drop_at' (map_at ho)]
  conv => lhs; unfold chkL
  rw [h1, decide_eq_true h2]
  rfl
theorem chkL_end {b left : Int} {l : List OP} {k : Nat} (h : l.length ≤ k) : chkL b left ((l.map OP.v).drop k) = decide (left = 0) := by
  rw [List.drop_of_length_le (by rw [List.length_map]; exact h)]
  rfl


set_option maxRecDepth 100000 in
theorem pcheck (A : Option Addr) (n c : Nat) (l : List OP) (b t : Int) (w0 : World) (hl : Rs w0 4 A n c (l.flatMap opf)) (hok : OkO w0 l) :
    Calls Try.prog 20 #[.agg (scA b t A n c)] w0 fun e w' => ∃ u, e = .returned u ∧ Like w0 w' ∧ u = .int .i64 (errV b t (l.map OP.v)) := by
  refine enter1 (env := [(0, .agg (scA b t A n c))]) [.agg (scA b t A n c)] Try.func20 rfl Try.ntmps20 rfl rfl ?_
  have hn := ops_n hl; have hcap := hl.cap; have hmax := hl.max; have S0 := St.start w0 noM
  refine T_seq fun K1 hK1 => ?_
  refine T_region ?_
  refine L_o (o_box rfl S0 rfl fun b1 w1 hb1 S1 => ?_)
  refine L_y (y_assign rfl) rfl ?_
  refine L_nil ?_
  refine hK1 _ _ ?_
  refine T_seq fun K2 hK2 => ?_
  refine T_seq fun K3 hK3 => ?_
  refine T_region ?_
  refine L_y (y_fieldA 0 Try.underlying25 rfl sz3 rfl rfl rfl) rfl ?_
  refine L_y (y_ldc Try.underlying3 rfl rfl (((S1.blk 0 rfl).cell _).trans (by rfl))) rfl ?_
  refine L_y (y_lss rfl rfl) rfl ?_
  refine L_y (y_move rfl) rfl ?_
  refine L_split 9 rfl (fun h9 => ?_) (fun h9 => ?_)
  ·
    refine L_gno rfl rfl rfl ?_
    refine L_gno rfl rfl rfl ?_
    refine L_gno rfl rfl rfl ?_
    refine L_y ((by first | exact y_pickT rfl rfl | exact y_pickF rfl rfl)) rfl ?_
    refine L_y (y_move rfl) rfl ?_
    refine L_gno rfl rfl rfl ?_
    refine L_gno rfl rfl rfl ?_
    refine L_gno rfl rfl rfl ?_
    refine L_y ((by first | exact y_pickT rfl rfl | exact y_pickF rfl rfl)) rfl ?_
    refine L_y (y_move rfl) rfl ?_
    refine L_gno rfl rfl rfl ?_
    refine L_gno rfl rfl rfl ?_
    refine L_gno rfl rfl rfl ?_
    refine L_y ((by first | exact y_pickT rfl rfl | exact y_pickF rfl rfl)) rfl ?_
    refine L_nil ?_
    refine hK3 _ _ ?_
    refine T_true rfl ?_
    refine T_seq fun K4 hK4 => ?_
    refine T_region ?_
    refine L_y (y_assign rfl) rfl ?_
    refine L_nil ?_
    refine hK4 _ _ ?_
    refine T_ret ?_
    repeat (first | with_reducible refine up_then ?_ | with_reducible refine up_in ?_)
    refine ret1 rfl rfl ?_
    first | exact ⟨_, rfl, S1.like0, by rw [chk_no (by omega)]⟩ | exact ⟨_, rfl, S1.like0, by rw [chk_eq (by omega), hch, hbad]; rfl⟩ | exact ⟨_, rfl, S1.like0, by rw [chk_eq (by omega), hch, chkL_end (by omega), decide_eq_false (by omega)]; rfl⟩ | exact ⟨_, rfl, S1.like0, by rw [chk_eq (by omega), hch, chkL_end (by omega), decide_eq_true (by omega)]; rfl⟩
  ·
    refine L_gyes rfl rfl ?_
    refine L_y (y_fieldA 0 Try.underlying25 rfl sz3 rfl rfl rfl) rfl ?_
    refine L_gyes rfl rfl ?_
    refine L_y (y_ldc Try.underlying3 rfl rfl (((S1.blk 0 rfl).cell _).trans (by rfl))) rfl ?_
    refine L_gyes rfl rfl ?_
    refine L_y (y_gtr rfl rfl) rfl ?_
    refine L_y ((by first | exact y_pickT rfl rfl | exact y_pickF rfl rfl)) rfl ?_
    refine L_y (y_move rfl) rfl ?_
    refine L_split 14 rfl (fun h14 => ?_) (fun h14 => ?_)
    ·
      refine L_gno rfl rfl rfl ?_
      refine L_gno rfl rfl rfl ?_
      refine L_gno rfl rfl rfl ?_
      refine L_y ((by first | exact y_pickT rfl rfl | exact y_pickF rfl rfl)) rfl ?_
      refine L_y (y_move rfl) rfl ?_
      refine L_gno rfl rfl rfl ?_
      refine L_gno rfl rfl rfl ?_
      refine L_gno rfl rfl rfl ?_
      refine L_y ((by first | exact y_pickT rfl rfl | exact y_pickF rfl rfl)) rfl ?_
      refine L_nil ?_
      refine hK3 _ _ ?_
      refine T_true rfl ?_
      refine T_seq fun K5 hK5 => ?_
      refine T_region ?_
      refine L_y (y_assign rfl) rfl ?_
      refine L_nil ?_
      refine hK5 _ _ ?_
      refine T_ret ?_
      repeat (first | with_reducible refine up_then ?_ | with_reducible refine up_in ?_)
      refine ret1 rfl rfl ?_
      first | exact ⟨_, rfl, S1.like0, by rw [chk_no (by omega)]⟩ | exact ⟨_, rfl, S1.like0, by rw [chk_eq (by omega), hch, hbad]; rfl⟩ | exact ⟨_, rfl, S1.like0, by rw [chk_eq (by omega), hch, chkL_end (by omega), decide_eq_false (by omega)]; rfl⟩ | exact ⟨_, rfl, S1.like0, by rw [chk_eq (by omega), hch, chkL_end (by omega), decide_eq_true (by omega)]; rfl⟩
    ·
      refine L_gyes rfl rfl ?_
      refine L_y (y_fieldA 1 Try.underlying25 rfl sz3 rfl rfl rfl) rfl ?_
      refine L_gyes rfl rfl ?_
      refine L_y (y_ldc Try.underlying3 rfl rfl (((S1.blk 0 rfl).cell _).trans (by rfl))) rfl ?_
      refine L_gyes rfl rfl ?_
      refine L_y (y_lss rfl rfl) rfl ?_
      refine L_y ((by first | exact y_pickT rfl rfl | exact y_pickF rfl rfl)) rfl ?_
      refine L_y (y_move rfl) rfl ?_
      refine L_split 19 rfl (fun h19 => ?_) (fun h19 => ?_)
      ·
        refine L_gno rfl rfl rfl ?_
        refine L_gno rfl rfl rfl ?_
        refine L_gno rfl rfl rfl ?_
        refine L_y ((by first | exact y_pickT rfl rfl | exact y_pickF rfl rfl)) rfl ?_
        refine L_nil ?_
        refine hK3 _ _ ?_
        refine T_true rfl ?_
        refine T_seq fun K6 hK6 => ?_
        refine T_region ?_
        refine L_y (y_assign rfl) rfl ?_
        refine L_nil ?_
        refine hK6 _ _ ?_
        refine T_ret ?_
        repeat (first | with_reducible refine up_then ?_ | with_reducible refine up_in ?_)
        refine ret1 rfl rfl ?_
        first | exact ⟨_, rfl, S1.like0, by rw [chk_no (by omega)]⟩ | exact ⟨_, rfl, S1.like0, by rw [chk_eq (by omega), hch, hbad]; rfl⟩ | exact ⟨_, rfl, S1.like0, by rw [chk_eq (by omega), hch, chkL_end (by omega), decide_eq_false (by omega)]; rfl⟩ | exact ⟨_, rfl, S1.like0, by rw [chk_eq (by omega), hch, chkL_end (by omega), decide_eq_true (by omega)]; rfl⟩
      ·
        refine L_gyes rfl rfl ?_
        refine L_y (y_fieldA 1 Try.underlying25 rfl sz3 rfl rfl rfl) rfl ?_
        refine L_gyes rfl rfl ?_
        refine L_y (y_ldc Try.underlying3 rfl rfl (((S1.blk 0 rfl).cell _).trans (by rfl))) rfl ?_
        refine L_gyes rfl rfl ?_
        refine L_y (y_gtr rfl rfl) rfl ?_
        refine L_y ((by first | exact y_pickT rfl rfl | exact y_pickF rfl rfl)) rfl ?_
        refine L_nil ?_
        refine hK3 _ _ ?_
        refine T_cond rfl (fun h23 => ?_) (fun h23 => ?_)
        ·
          refine T_seq fun K7 hK7 => ?_
          refine T_region ?_
          refine L_y (y_assign rfl) rfl ?_
          refine L_nil ?_
          refine hK7 _ _ ?_
          refine T_ret ?_
          repeat (first | with_reducible refine up_then ?_ | with_reducible refine up_in ?_)
          refine ret1 rfl rfl ?_
          first | exact ⟨_, rfl, S1.like0, by rw [chk_no (by omega)]⟩ | exact ⟨_, rfl, S1.like0, by rw [chk_eq (by omega), hch, hbad]; rfl⟩ | exact ⟨_, rfl, S1.like0, by rw [chk_eq (by omega), hch, chkL_end (by omega), decide_eq_false (by omega)]; rfl⟩ | exact ⟨_, rfl, S1.like0, by rw [chk_eq (by omega), hch, chkL_end (by omega), decide_eq_true (by omega)]; rfl⟩
        ·
          refine T_skip ?_
          refine hK2 _ _ ?_
          refine T_seq fun K8 hK8 => ?_
          refine T_region ?_
          refine L_y (y_fieldA 1 Try.underlying25 rfl sz3 rfl rfl rfl) rfl ?_
          refine L_y (y_ldc Try.underlying3 rfl rfl (((S1.blk 0 rfl).cell _).trans (by rfl))) rfl ?_
          refine L_y (y_assign rfl) rfl ?_
          refine L_nil ?_
          refine hK8 _ _ ?_
          refine T_seq fun K9 hK9 => ?_
          refine T_seq fun K10 hK10 => ?_
          refine T_region ?_
          refine L_y (y_fieldA 2 Try.underlying25 rfl sz23 rfl rfl rfl) rfl ?_
          refine L_y (y_ldc Try.underlying23 rfl rfl (((S1.blk 0 rfl).cell _).trans (by rfl))) rfl ?_
          refine L_y (y_len Try.underlying23 rfl) rfl ?_
          refine L_y (y_move rfl) rfl ?_
          refine L_nil ?_
          refine hK10 _ _ ?_
          refine T_block ?_
          refine T_loop2 [(1, _), (27, _), (28, _)] (fun (k : Nat) (left : Int) => [(29, .int .i64 (k : Int)), (3, .int .i64 left)]) (fun (k : Nat) (left : Int) => n - k) (fun (k : Nat) (left : Int) (w : World) => (k ≤ n ∧ 0 ≤ left ∧ left ≤ 4000 ∧ chkL b t (l.map OP.v) = chkL b left ((l.map OP.v).drop k)) ∧ St w0 noM [blk b1 25 (scA b t A n c)] w) 0 t (Sub.cons rfl (by first | rfl | exact congrArg (Value.int _) (by omega)) (Sub.cons rfl (by first | rfl | exact congrArg (Value.int _) (by omega)) (Sub.nil _))) (Sub.cons rfl rfl (Sub.cons rfl rfl (Sub.cons rfl rfl (Sub.nil _)))) ?_ ?_
          ·
            exact ⟨⟨Nat.zero_le _, by omega, by omega, rfl⟩, S1⟩
          ·
            intro k left w5 hrel
            obtain ⟨⟨hk, hl0, hl1, hch⟩, S5⟩ := hrel
            refine T_seq fun K11 hK11 => ?_
            refine T_region ?_
            refine L_y (y_lss rfl rfl) rfl ?_
            refine L_nil ?_
            refine hK11 _ _ ?_
            refine T_seq fun K12 hK12 => ?_
            refine T_cond rfl (fun h30 => ?_) (fun h30 => ?_)
            ·
              obtain ⟨o, ho⟩ : ∃ o, l[k]? = some o := ⟨_, List.getElem?_eq_getElem (by omega)⟩
              refine T_skip ?_
              refine hK12 _ _ ?_
              refine T_seq fun K13 hK13 => ?_
              refine T_block ?_
              refine T_seq fun K14 hK14 => ?_
              refine T_region ?_
              refine L_y (y_idx Try.underlying23 sz57 rfl rfl (S5.rd hl) (Nt.mk (by omega) : Nt _ (k)) (by omega)) rfl ?_
              refine L_y (y_ldp (f := opf) opf_len Try.underlying57 rfl sz57 rfl (S5.rd hl) (by omega) ho) rfl ?_
              refine L_o (o_alloc zz57 S5 rfl fun b6 w6 hb6 S6 => ?_)
              refine L_o (o_stW S6 1 rfl rfl rfl sz57 rfl (opf_one o) fun w7 S7 => ?_)
              refine L_nil ?_
              refine hK14 _ _ ?_
              refine T_seq fun K15 hK15 => ?_
              refine T_seq fun K16 hK16 => ?_
              refine T_region ?_
              refine L_y (y_ldW Try.underlying57 rfl sz57 rfl (S7.blk 1 rfl) (show _ = opf o ∧ _ from ⟨rfl, rfl⟩)) rfl ?_
              refine L_y (y_fieldA 0 Try.underlying25 rfl sz3 rfl rfl rfl) rfl ?_
              refine L_y (y_ldc Try.underlying3 rfl rfl (((S7.blk 0 rfl).cell _).trans (by rfl))) rfl ?_
              refine L_o (o_call Try.func37 rfl rfl (oright o b w7 (hok.like S7.like0 o (List.mem_of_getElem? ho)) (by omega)) rfl rfl ?_)
              rintro e8 w8 ⟨v8, rfl, l8, rfl⟩
              refine ⟨_, rfl, ?_⟩
              have S8 := S7.like l8
              refine L_y ((by first | exact y_notD rfl | exact y_not rfl)) rfl ?_
              refine L_y (y_move rfl) rfl ?_
              refine L_splitB 38 rfl (fun h38 => ?_) (fun h38 => ?_)
              ·
                have hbad : chkL b left ((l.map OP.v).drop k) = false := chkL_bad ho (.inl (by simpa using h38))
                refine L_gno rfl rfl rfl ?_
                refine L_gno rfl rfl rfl ?_
                refine L_gno rfl rfl rfl ?_
                refine L_gno rfl rfl rfl ?_
                refine L_y ((by first | exact y_pickT rfl rfl | exact y_pickF rfl rfl)) rfl ?_
                refine L_nil ?_
                refine hK16 _ _ ?_
                refine T_true rfl ?_
                refine T_seq fun K17 hK17 => ?_
                refine T_region ?_
                refine L_y (y_assign rfl) rfl ?_
                refine L_nil ?_
                refine hK17 _ _ ?_
                refine T_ret ?_
                repeat (first | with_reducible refine up_then ?_ | with_reducible refine up_in ?_)
                refine ret1 rfl rfl ?_
                first | exact ⟨_, rfl, S8.like0, by rw [chk_no (by omega)]⟩ | exact ⟨_, rfl, S8.like0, by rw [chk_eq (by omega), hch, hbad]; rfl⟩ | exact ⟨_, rfl, S8.like0, by rw [chk_eq (by omega), hch, chkL_end (by omega), decide_eq_false (by omega)]; rfl⟩ | exact ⟨_, rfl, S8.like0, by rw [chk_eq (by omega), hch, chkL_end (by omega), decide_eq_true (by omega)]; rfl⟩
              ·
                have hgood : rtV b o.v = true := by simpa using h38
                have hszp := sz_nonneg hgood
                refine L_gyes rfl rfl ?_
                refine L_y (y_ldW Try.underlying57 rfl sz57 rfl (S8.blk 1 rfl) (show _ = opf o ∧ _ from ⟨rfl, rfl⟩)) rfl ?_
                refine L_gyes rfl rfl ?_
                refine L_o (o_call Try.func38 rfl rfl (osize o w8 (hok.like S8.like0 o (List.mem_of_getElem? ho))) rfl rfl ?_)
                rintro e10 w10 ⟨v10, rfl, l10, rfl⟩
                refine ⟨_, rfl, ?_⟩
                have S10 := S8.like l10
                refine L_gyes rfl rfl ?_
                refine L_y (y_move rfl) rfl ?_
                refine L_gyes rfl rfl ?_
                refine L_y (y_gtr rfl rfl) rfl ?_
                refine L_y ((by first | exact y_pickT rfl rfl | exact y_pickF rfl rfl)) rfl ?_
                refine L_nil ?_
                refine hK16 _ _ ?_
                refine T_cond rfl (fun h43 => ?_) (fun h43 => ?_)
                ·
                  first | have hbad : chkL b left ((l.map OP.v).drop k) = false := chkL_bad ho (.inr (by omega)) | skip
                  refine T_seq fun K18 hK18 => ?_
                  refine T_region ?_
                  refine L_y (y_assign rfl) rfl ?_
                  refine L_nil ?_
                  refine hK18 _ _ ?_
                  refine T_ret ?_
                  repeat (first | with_reducible refine up_then ?_ | with_reducible refine up_in ?_)
                  refine ret1 rfl rfl ?_
                  first | exact ⟨_, rfl, S10.like0, by rw [chk_no (by omega)]⟩ | exact ⟨_, rfl, S10.like0, by rw [chk_eq (by omega), hch, hbad]; rfl⟩ | exact ⟨_, rfl, S10.like0, by rw [chk_eq (by omega), hch, chkL_end (by omega), decide_eq_false (by omega)]; rfl⟩ | exact ⟨_, rfl, S10.like0, by rw [chk_eq (by omega), hch, chkL_end (by omega), decide_eq_true (by omega)]; rfl⟩
                ·
                  refine T_skip ?_
                  refine hK15 _ _ ?_
                  refine T_region ?_
                  refine L_y (y_move rfl) rfl ?_
                  refine L_y (y_ldW Try.underlying57 rfl sz57 rfl (S10.blk 1 rfl) (show _ = opf o ∧ _ from ⟨rfl, rfl⟩)) rfl ?_
                  refine L_o (o_call Try.func38 rfl rfl (osize o w10 (hok.like S10.like0 o (List.mem_of_getElem? ho))) rfl rfl ?_)
                  rintro e11 w11 ⟨v11, rfl, l11, rfl⟩
                  refine ⟨_, rfl, ?_⟩
                  have S11 := S10.like l11
                  refine L_y (y_sub rfl rfl (i64w (by omega))) rfl ?_
                  refine L_y (y_assign rfl) rfl ?_
                  refine L_nil ?_
                  refine hK13 _ _ ?_
                  refine T_region ?_
                  refine L_y (y_add rfl rfl (i64w (by omega))) rfl ?_
                  refine L_y (y_move rfl) rfl ?_
                  refine L_nil ?_
                  have S91 := S11.drop (rs' := [_]) (.cons_cons _ (.cons _ (.refl _)))
                  refine ⟨k + 1, left - szV o.v, by omega, ⟨⟨by omega, by omega, by omega, by rw [hch, chkL_ok ho hgood (by omega)]⟩, S91⟩, ?_⟩
                  exact (Sub.cons rfl (by first | rfl | exact congrArg (Value.int _) (by omega)) (Sub.cons rfl (by first | rfl | exact congrArg (Value.int _) (by omega)) (Sub.cons rfl rfl (Sub.cons rfl rfl (Sub.cons rfl rfl (Sub.nil _))))))
            ·
              refine T_exit ?_
              refine hK9 _ _ ?_
              refine T_seq fun K19 hK19 => ?_
              refine T_seq fun K20 hK20 => ?_
              refine T_region ?_
              refine L_y (y_move rfl) rfl ?_
              refine L_y (y_gtr rfl rfl) rfl ?_
              refine L_nil ?_
              refine hK20 _ _ ?_
              refine T_cond rfl (fun h50 => ?_) (fun h50 => ?_)
              ·
                refine T_seq fun K21 hK21 => ?_
                refine T_region ?_
                refine L_y (y_assign rfl) rfl ?_
                refine L_nil ?_
                refine hK21 _ _ ?_
                refine T_ret ?_
                repeat (first | with_reducible refine up_then ?_ | with_reducible refine up_in ?_)
                refine ret1 rfl rfl ?_
                first | exact ⟨_, rfl, S5.like0, by rw [chk_no (by omega)]⟩ | exact ⟨_, rfl, S5.like0, by rw [chk_eq (by omega), hch, hbad]; rfl⟩ | exact ⟨_, rfl, S5.like0, by rw [chk_eq (by omega), hch, chkL_end (by omega), decide_eq_false (by omega)]; rfl⟩ | exact ⟨_, rfl, S5.like0, by rw [chk_eq (by omega), hch, chkL_end (by omega), decide_eq_true (by omega)]; rfl⟩
              ·
                refine T_skip ?_
                refine hK19 _ _ ?_
                refine T_seq fun K22 hK22 => ?_
                refine T_region ?_
                refine L_y (y_assign rfl) rfl ?_
                refine L_nil ?_
                refine hK22 _ _ ?_
                refine T_ret ?_
                repeat (first | with_reducible refine up_then ?_ | with_reducible refine up_in ?_)
                refine ret1 rfl rfl ?_
                first | exact ⟨_, rfl, S5.like0, by rw [chk_no (by omega)]⟩ | exact ⟨_, rfl, S5.like0, by rw [chk_eq (by omega), hch, hbad]; rfl⟩ | exact ⟨_, rfl, S5.like0, by rw [chk_eq (by omega), hch, chkL_end (by omega), decide_eq_false (by omega)]; rfl⟩ | exact ⟨_, rfl, S5.like0, by rw [chk_eq (by omega), hch, chkL_end (by omega), decide_eq_true (by omega)]; rfl⟩
end Go.Proofs.Ytpcgldkllnkaeaa
