/-
  Apply.
-/
import Derived.Test.YtpcgldkllnkaeaaM
namespace Go.Proofs.Ytpcgldkllnkaeaa
open Go.RowKit Zk Zx
set_option linter.unusedVariables false
set_option linter.unusedSimpArgs false

/-- What an op lays. -/
def layV (a : List UInt8) (o : OV) : List UInt8 := if o.cp then (a.drop o.fr.toNat).take o.n.toNat else o.l
def aplV (a : List UInt8) (l : List OV) : List UInt8 := l.flatMap (layV a)
/-- What a script makes of a base, and the error. -/
def aplR (a : List UInt8) (b t : Int) (l : List OV) : List UInt8 × Int := if errV b t l ≠ 0 then ([], errV b t l) else if (a.length : Int) ≠ b then ([], 21) else (aplV a l, 0)
theorem aplR_err {a : List UInt8} {b t : Int} {l : List OV} (h : errV b t l ≠ 0) : aplR a b t l = ([], errV b t l) := by unfold aplR; rw [if_pos h]
theorem aplR_base {a : List UInt8} {b t : Int} {l : List OV} (h : errV b t l = 0) (h2 : (a.length : Int) ≠ b) : aplR a b t l = ([], 21) := by unfold aplR; rw [if_neg (fun h3 => h3 h), if_pos h2]
theorem aplR_ok {a : List UInt8} {b t : Int} {l : List OV} (h : errV b t l = 0) (h2 : (a.length : Int) = b) : aplR a b t l = (aplV a l, 0) := by unfold aplR; rw [if_neg (fun h3 => h3 h), if_neg (fun h3 => h3 h2)]
theorem errV_zero {b t : Int} {l : List OV} (h : errV b t l = 0) : (0 ≤ b ∧ b ≤ 4000 ∧ 0 ≤ t ∧ t ≤ 4000) ∧ chkL b t l = true := by
  unfold errV at h
  split at h
  · rename_i h1
    unfold chkV at h1
    rw [Bool.and_eq_true] at h1
    exact ⟨of_decide_eq_true h1.1, h1.2⟩
  · cases h
theorem chkL_next {b left : Int} {l : List OP} {k : Nat} {o : OP} (ho : l[k]? = some o) (h : chkL b left ((l.map OP.v).drop k) = true) : rtV b o.v = true ∧ szV o.v ≤ left ∧ chkL b (left - szV o.v) ((l.map OP.v).drop (k + 1)) = true := by
  rw [drop_at' (map_at ho)] at h
  unfold chkL at h
  rw [Bool.and_eq_true, Bool.and_eq_true] at h
  exact ⟨h.1.1, of_decide_eq_true h.1.2, h.2⟩
theorem rt_cp {b : Int} {o : OP} (h : rtV b o.v = true) (hc : o.cp = true) : 1 ≤ o.n ∧ o.n ≤ b ∧ 0 ≤ o.fr ∧ o.fr ≤ b - o.n ∧ szV o.v = o.n := by
  unfold rtV at h
  rw [if_pos (show o.v.cp = true from hc)] at h
  simp only [Bool.and_eq_true, decide_eq_true_eq] at h
  exact ⟨h.1.1.1.1, h.1.1.1.2, h.1.1.2, h.1.2, by unfold szV; rw [if_pos (show o.v.cp = true from hc)]; rfl⟩
theorem rt_new {b : Int} {o : OP} (h : rtV b o.v = true) (hc : o.cp = false) : 1 ≤ o.p.l.length ∧ szV o.v = (o.p.l.length : Int) := by
  unfold rtV at h
  rw [if_neg (show ¬ o.v.cp = true from by rw [show o.v.cp = o.cp from rfl, hc]; exact Bool.false_ne_true)] at h
  simp only [Bool.and_eq_true, decide_eq_true_eq] at h
  exact ⟨h.1.1, by unfold szV; rw [if_neg (show ¬ o.v.cp = true from by rw [show o.v.cp = o.cp from rfl, hc]; exact Bool.false_ne_true)]; rfl⟩
theorem aplV_step {a : List UInt8} {l : List OP} {k : Nat} {o : OP} (ho : l[k]? = some o) : aplV a ((l.take (k + 1)).map OP.v) = aplV a ((l.take k).map OP.v) ++ layV a o.v := by
  rw [take1 ho, List.map_append]
  unfold aplV
  rw [List.flatMap_append]
  simp
theorem lay_cp {a : List UInt8} {o : OP} (hc : o.cp = true) : layV a o.v = (a.drop o.fr.toNat).take (o.fr.toNat + o.n.toNat - o.fr.toNat) := by
  unfold layV
  rw [if_pos (show o.v.cp = true from hc), Nat.add_sub_cancel_left]
  rfl
theorem lay_new {a : List UInt8} {o : OP} (hc : o.cp = false) : layV a o.v = o.p.l := by
  unfold layV
  rw [if_neg (show ¬ o.v.cp = true from by rw [show o.v.cp = o.cp from rfl, hc]; exact Bool.false_ne_true)]
  rfl
theorem bL_app' (l m : List UInt8) : bL l ++ bL m = bL (l ++ m) := by simp [bL]


set_option maxRecDepth 100000 in
theorem papply (A : Option Addr) (n c : Nat) (a : List UInt8) (B : Option Addr) (m d : Nat) (l : List OP) (b t : Int) (w0 : World) (ha : Rs w0 1 A n c (bL a)) (hl : Rs w0 4 B m d (l.flatMap opf)) (hok : OkO w0 l) :
    Calls Try.prog 12 #[.slice A n c, .agg (scA b t B m d)] w0 fun e w' => ∃ u, e = .returned u ∧ Like w0 w' ∧ ∃ A' c', u = .tuple #[.slice A' (aplR a b t (l.map OP.v)).1.length c', .int .i64 (aplR a b t (l.map OP.v)).2] ∧ w'.ownsRow w0.heap.size 5 1 (.slice A' (aplR a b t (l.map OP.v)).1.length c') (aplR a b t (l.map OP.v)).1.length (bL (aplR a b t (l.map OP.v)).1) := by
  refine enter1 (env := [(0, .slice A n c), (1, .agg (scA b t B m d))]) [.slice A n c, .agg (scA b t B m d)] Try.func12 rfl Try.ntmps12 rfl rfl ?_
  have hm := ops_n hl; have hcapm := hl.cap; have hmaxm := hl.max; have hn := ha.lenb; have hcap := ha.cap; have hmax := ha.max; have S0 := St.start w0 noM
  refine T_seq fun K1 hK1 => ?_
  refine T_region ?_
  refine L_o (o_box rfl S0 rfl fun b1 w1 hb1 S1 => ?_)
  refine L_y (y_assign rfl) rfl ?_
  refine L_y (y_assign rfl) rfl ?_
  refine L_nil ?_
  refine hK1 _ _ ?_
  refine T_seq fun K2 hK2 => ?_
  refine T_seq fun K3 hK3 => ?_
  refine T_region ?_
  refine L_y (y_ldW Try.underlying25 rfl sz25 rfl (S1.blk 0 rfl) (show _ = (scA b t B m d).toList ∧ _ from ⟨rfl, rfl⟩)) rfl ?_
  refine L_o (o_call Try.func20 rfl rfl (pcheck B m d l b t w1 (S1.rd hl) (hok.like S1.like0)) rfl rfl ?_)
  rintro e2 w2 ⟨v2, rfl, l2, rfl⟩
  refine ⟨_, rfl, ?_⟩
  have S2 := S1.like l2
  refine L_y (y_assign rfl) rfl ?_
  refine L_nil ?_
  refine hK3 _ _ ?_
  refine T_seq fun K4 hK4 => ?_
  refine T_region ?_
  refine L_y (y_move rfl) rfl ?_
  refine L_y (y_neq rfl rfl) rfl ?_
  refine L_nil ?_
  refine hK4 _ _ ?_
  refine T_cond rfl (fun h13 => ?_) (fun h13 => ?_)
  ·
    refine T_seq fun K5 hK5 => ?_
    refine T_region ?_
    refine L_y (y_move rfl) rfl ?_
    refine L_y (y_assign rfl) rfl ?_
    refine L_y (y_assign rfl) rfl ?_
    refine L_nil ?_
    refine hK5 _ _ ?_
    refine T_ret ?_
    repeat (first | with_reducible refine up_then ?_ | with_reducible refine up_in ?_)
    refine ret2 rfl rfl rfl ?_
    first | exact ⟨_, rfl, S2.like0, none, 0, by rw [aplR_err h13]; rfl, by rw [aplR_err h13]; exact World.ownsRow_nil _ _ _ _⟩ | exact ⟨_, rfl, S2.like0, none, 0, by rw [aplR_base h130 (by omega)]; rfl, by rw [aplR_base h130 (by omega)]; exact World.ownsRow_nil _ _ _ _⟩ | (have hke : k = m := by omega); subst hke; rw [List.take_of_length_le (by omega)] at hout; exact ⟨_, rfl, S2.like0, A1, c1, by rw [aplR_ok h130 (by omega), ← hout], by rw [aplR_ok h130 (by omega), ← hout]; exact S2.own 1 rfl⟩
  ·
    have h130 := Decidable.byContradiction h13
    obtain ⟨hrg, hall⟩ := errV_zero h130
    refine T_skip ?_
    refine hK2 _ _ ?_
    refine T_seq fun K6 hK6 => ?_
    refine T_seq fun K7 hK7 => ?_
    refine T_region ?_
    refine L_y (y_move rfl) rfl ?_
    refine L_y (y_len Try.underlying22 rfl) rfl ?_
    refine L_y (y_fieldA 0 Try.underlying25 rfl sz3 rfl rfl rfl) rfl ?_
    refine L_y (y_ldc Try.underlying3 rfl rfl (((S2.blk 0 rfl).cell _).trans (by rfl))) rfl ?_
    refine L_y (y_neq rfl rfl) rfl ?_
    refine L_nil ?_
    refine hK7 _ _ ?_
    refine T_cond rfl (fun h19 => ?_) (fun h19 => ?_)
    ·
      refine T_seq fun K8 hK8 => ?_
      refine T_region ?_
      refine L_y (y_assign rfl) rfl ?_
      refine L_y (y_assign rfl) rfl ?_
      refine L_nil ?_
      refine hK8 _ _ ?_
      refine T_ret ?_
      repeat (first | with_reducible refine up_then ?_ | with_reducible refine up_in ?_)
      refine ret2 rfl rfl rfl ?_
      first | exact ⟨_, rfl, S2.like0, none, 0, by rw [aplR_err h13]; rfl, by rw [aplR_err h13]; exact World.ownsRow_nil _ _ _ _⟩ | exact ⟨_, rfl, S2.like0, none, 0, by rw [aplR_base h130 (by omega)]; rfl, by rw [aplR_base h130 (by omega)]; exact World.ownsRow_nil _ _ _ _⟩ | (have hke : k = m := by omega); subst hke; rw [List.take_of_length_le (by omega)] at hout; exact ⟨_, rfl, S2.like0, A1, c1, by rw [aplR_ok h130 (by omega), ← hout], by rw [aplR_ok h130 (by omega), ← hout]; exact S2.own 1 rfl⟩
    ·
      refine T_skip ?_
      refine hK6 _ _ ?_
      refine T_seq fun K9 hK9 => ?_
      refine T_region ?_
      refine L_y (y_fieldA 1 Try.underlying25 rfl sz3 rfl rfl rfl) rfl ?_
      refine L_y (y_ldc Try.underlying3 rfl rfl (((S2.blk 0 rfl).cell _).trans (by rfl))) rfl ?_
      refine L_o (o_make te22 rfl S2 rfl rfl inferInstance (Nt.mk (by omega) : Nt _ t.toNat) rfl (by omega) (by omega) (by omega) fun b3 w3 S3 => ?_)
      refine L_y (y_assign rfl) rfl ?_
      refine L_nil ?_
      refine hK9 _ _ ?_
      refine T_seq fun K10 hK10 => ?_
      refine T_seq fun K11 hK11 => ?_
      refine T_region ?_
      refine L_y (y_fieldA 2 Try.underlying25 rfl sz23 rfl rfl rfl) rfl ?_
      refine L_y (y_ldc Try.underlying23 rfl rfl (((S3.blk 0 rfl).cell _).trans (by rfl))) rfl ?_
      refine L_y (y_len Try.underlying23 rfl) rfl ?_
      refine L_y (y_move rfl) rfl ?_
      refine L_nil ?_
      refine hK11 _ _ ?_
      refine T_block ?_
      refine T_loop4 [(0, _), (24, _), (25, _)] (fun (k : Nat) (out : List UInt8) (A1 : Option Addr) (c1 : Nat) => [(26, .int .i64 (k : Int)), (7, .slice A1 out.length c1)]) (fun (k : Nat) (out : List UInt8) (A1 : Option Addr) (c1 : Nat) => m - k) (fun (k : Nat) (out : List UInt8) (A1 : Option Addr) (c1 : Nat) (w : World) => (k ≤ m ∧ out = aplV a ((l.take k).map OP.v) ∧ (out.length : Int) ≤ t ∧ chkL b (t - (out.length : Int)) ((l.map OP.v).drop k) = true) ∧ St w0 noM [blk b1 25 (scA b t B m d), row 5 1 A1 out.length c1 (bL out)] w) 0 [] (some ⟨b3, 0, none⟩) t.toNat (Sub.cons rfl (by first | rfl | exact congrArg (Value.int _) (by omega)) (Sub.cons rfl (by first | rfl | exact congrArg (Value.int _) (by omega)) (Sub.nil _))) (Sub.cons rfl rfl (Sub.cons rfl rfl (Sub.cons rfl rfl (Sub.nil _)))) ?_ ?_
      ·
        exact ⟨⟨Nat.zero_le _, rfl, by show (0 : Int) ≤ t; omega, by show chkL b (t - 0) _ = true; rw [Int.sub_zero]; exact hall⟩, S3⟩
      ·
        intro k out A1 c1 w4 hrel
        obtain ⟨⟨hk, hout, hol, hch⟩, S4⟩ := hrel
        refine T_seq fun K12 hK12 => ?_
        refine T_region ?_
        refine L_y (y_lss rfl rfl) rfl ?_
        refine L_nil ?_
        refine hK12 _ _ ?_
        refine T_seq fun K13 hK13 => ?_
        refine T_cond rfl (fun h27 => ?_) (fun h27 => ?_)
        ·
          obtain ⟨o, ho⟩ : ∃ o, l[k]? = some o := ⟨_, List.getElem?_eq_getElem (by omega)⟩
          have hop := hok o (List.mem_of_getElem? ho)
          have hopn := hop.lenb; have hopc := hop.cap; have hopm := hop.max
          obtain ⟨hrt, hsz, hrest⟩ := chkL_next ho hch
          refine T_skip ?_
          refine hK13 _ _ ?_
          refine T_seq fun K14 hK14 => ?_
          refine T_block ?_
          refine T_seq fun K15 hK15 => ?_
          refine T_region ?_
          refine L_y (y_idx Try.underlying23 sz57 rfl rfl (S4.rd hl) (Nt.mk (by omega) : Nt _ (k)) (by omega)) rfl ?_
          refine L_y (y_ldp (f := opf) opf_len Try.underlying57 rfl sz57 rfl (S4.rd hl) (by omega) ho) rfl ?_
          refine L_o (o_alloc zz57 S4 rfl fun b5 w5 hb5 S5 => ?_)
          refine L_o (o_stW S5 2 rfl rfl rfl sz57 rfl (opf_one o) fun w6 S6 => ?_)
          refine L_nil ?_
          refine hK15 _ _ ?_
          refine T_seq fun K16 hK16 => ?_
          refine T_region ?_
          refine L_y (y_fieldA 0 Try.underlying57 rfl sz4 rfl rfl rfl) rfl ?_
          refine L_y (y_ldc Try.underlying4 rfl rfl (((S6.blk 2 rfl).cell _).trans (by rfl))) rfl ?_
          refine L_nil ?_
          refine hK16 _ _ ?_
          refine T_condB rfl (fun h31 => ?_) (fun h31 => ?_)
          ·
            have hcp : o.cp = true := h31
            obtain ⟨g1, g2, g3, g4, g5⟩ := rt_cp hrt hcp
            refine T_region ?_
            refine L_y (y_move rfl) rfl ?_
            refine L_y (y_move rfl) rfl ?_
            refine L_y (y_fieldA 1 Try.underlying57 rfl sz3 rfl rfl rfl) rfl ?_
            refine L_y (y_ldc Try.underlying3 rfl rfl (((S6.blk 2 rfl).cell _).trans (by rfl))) rfl ?_
            refine L_y (y_fieldA 1 Try.underlying57 rfl sz3 rfl rfl rfl) rfl ?_
            refine L_y (y_ldc Try.underlying3 rfl rfl (((S6.blk 2 rfl).cell _).trans (by rfl))) rfl ?_
            refine L_y (y_fieldA 2 Try.underlying57 rfl sz3 rfl rfl rfl) rfl ?_
            refine L_y (y_ldc Try.underlying3 rfl rfl (((S6.blk 2 rfl).cell _).trans (by rfl))) rfl ?_
            refine L_y (y_add rfl rfl (i64w (by omega))) rfl ?_
            refine L_y (y_slice Try.underlying22 sz5 rfl rfl rfl (Nt.mk (by omega) : Nt _ (o.fr.toNat)) (Nt.mk (by omega) : Nt _ (o.fr.toNat + o.n.toNat)) (by omega) (by omega)) rfl ?_
            refine L_o (o_app te22 S6 1 rfl rfl rfl (cut_mid (S6.rd ha) (k := o.fr.toNat) (u := o.fr.toNat + o.n.toNat) (by omega) (by omega)) (bL_one _) rfl (by omega) (by omega) fun A7 c7 w7 S7 => ?_)
            refine L_y (y_assign rfl) rfl ?_
            refine L_nil ?_
            refine hK14 _ _ ?_
            refine T_region ?_
            refine L_y (y_add rfl rfl (i64w (by omega))) rfl ?_
            refine L_y (y_move rfl) rfl ?_
            refine L_nil ?_
            have hpl : ((a.drop o.fr.toNat).take (o.fr.toNat + o.n.toNat - o.fr.toNat)).length = o.n.toNat := by rw [List.length_take, List.length_drop]; omega
            have S91 := S7.rowc 1 rfl (n' := (out ++ ((a.drop o.fr.toNat).take (o.fr.toNat + o.n.toNat - o.fr.toNat))).length) (xs' := bL (out ++ ((a.drop o.fr.toNat).take (o.fr.toNat + o.n.toNat - o.fr.toNat)))) (by rw [List.length_append]; omega) (bL_app' _ _)
            have S92 := S91.sel [0, 1] (by decide)
            refine ⟨k + 1, out ++ ((a.drop o.fr.toNat).take (o.fr.toNat + o.n.toNat - o.fr.toNat)), A7, c7, by omega, ⟨⟨by omega, by rw [hout, aplV_step ho, lay_cp hcp], by rw [List.length_append]; omega, by rw [List.length_append, show t - ((out.length + ((a.drop o.fr.toNat).take (o.fr.toNat + o.n.toNat - o.fr.toNat)).length : Nat) : Int) = t - (out.length : Int) - szV o.v by omega]; exact hrest⟩, S92⟩, ?_⟩
            exact (Sub.cons rfl (by first | rfl | exact congrArg (Value.int _) (by omega)) (Sub.cons rfl (by first | rfl | (rw [List.length_append]; congr 1; omega)) (Sub.cons rfl rfl (Sub.cons rfl rfl (Sub.cons rfl rfl (Sub.nil _))))))
          ·
            have hcp : o.cp = false := h31
            obtain ⟨g1, g2⟩ := rt_new hrt hcp
            refine T_region ?_
            refine L_y (y_move rfl) rfl ?_
            refine L_y (y_fieldA 3 Try.underlying57 rfl sz22 rfl rfl rfl) rfl ?_
            refine L_y (y_ldc Try.underlying22 rfl rfl (((S6.blk 2 rfl).cell _).trans (by rfl))) rfl ?_
            refine L_o (o_app te22 S6 1 rfl rfl rfl (S6.rd hop) (bL_one _) rfl (by omega) (by omega) fun A8 c8 w8 S8 => ?_)
            refine L_y (y_assign rfl) rfl ?_
            refine L_nil ?_
            refine hK14 _ _ ?_
            refine T_region ?_
            refine L_y (y_add rfl rfl (i64w (by omega))) rfl ?_
            refine L_y (y_move rfl) rfl ?_
            refine L_nil ?_
            have hpl : o.p.l.length = o.p.n := hop.lenb
            have S91 := S8.rowc 1 rfl (n' := (out ++ o.p.l).length) (xs' := bL (out ++ o.p.l)) (by rw [List.length_append]; omega) (bL_app' _ _)
            have S92 := S91.sel [0, 1] (by decide)
            refine ⟨k + 1, out ++ o.p.l, A8, c8, by omega, ⟨⟨by omega, by rw [hout, aplV_step ho, lay_new hcp], by rw [List.length_append]; omega, by rw [List.length_append, show t - ((out.length + o.p.l.length : Nat) : Int) = t - (out.length : Int) - szV o.v by omega]; exact hrest⟩, S92⟩, ?_⟩
            exact (Sub.cons rfl (by first | rfl | exact congrArg (Value.int _) (by omega)) (Sub.cons rfl (by first | rfl | (rw [List.length_append]; congr 1; omega)) (Sub.cons rfl rfl (Sub.cons rfl rfl (Sub.cons rfl rfl (Sub.nil _))))))
        ·
          refine T_exit ?_
          refine hK10 _ _ ?_
          refine T_seq fun K17 hK17 => ?_
          refine T_region ?_
          refine L_y (y_move rfl) rfl ?_
          refine L_y (y_assign rfl) rfl ?_
          refine L_y (y_assign rfl) rfl ?_
          refine L_nil ?_
          refine hK17 _ _ ?_
          refine T_ret ?_
          repeat (first | with_reducible refine up_then ?_ | with_reducible refine up_in ?_)
          refine ret2 rfl rfl rfl ?_
          first | exact ⟨_, rfl, S4.like0, none, 0, by rw [aplR_err h13]; rfl, by rw [aplR_err h13]; exact World.ownsRow_nil _ _ _ _⟩ | exact ⟨_, rfl, S4.like0, none, 0, by rw [aplR_base h130 (by omega)]; rfl, by rw [aplR_base h130 (by omega)]; exact World.ownsRow_nil _ _ _ _⟩ | (have hke : k = m := by omega); subst hke; rw [List.take_of_length_le (by omega)] at hout; exact ⟨_, rfl, S4.like0, A1, c1, by rw [aplR_ok h130 (by omega), ← hout], by rw [aplR_ok h130 (by omega), ← hout]; exact S4.own 1 rfl⟩


set_option maxRecDepth 100000 in
theorem rapply (A : Option Addr) (n c : Nat) (a : List UInt8) (B : Option Addr) (m d : Nat) (l : List OP) (b t : Int) (w0 : World) (ha : Rs w0 1 A n c (bL a)) (hl : Rs w0 4 B m d (l.flatMap opf)) (hok : OkO w0 l) :
    Calls Try.prog 13 #[.slice A n c, .agg (scA b t B m d)] w0 fun e w' => ∃ u, e = .returned u ∧ Like w0 w' ∧ ∃ A' c', u = .tuple #[.slice A' (aplR a b t (l.map OP.v)).1.length c', .int .i64 (aplR a b t (l.map OP.v)).2] ∧ w'.ownsRow w0.heap.size 5 1 (.slice A' (aplR a b t (l.map OP.v)).1.length c') (aplR a b t (l.map OP.v)).1.length (bL (aplR a b t (l.map OP.v)).1) := by
  refine enter1 (env := [(0, .slice A n c), (1, .agg (scA b t B m d))]) [.slice A n c, .agg (scA b t B m d)] Try.func13 rfl Try.ntmps13 rfl rfl ?_
  have hm := ops_n hl; have hcapm := hl.cap; have hmaxm := hl.max; have hn := ha.lenb; have hcap := ha.cap; have hmax := ha.max; have S0 := St.start w0 noM
  refine T_seq fun K1 hK1 => ?_
  refine T_region ?_
  refine L_o (o_box rfl S0 rfl fun b1 w1 hb1 S1 => ?_)
  refine L_y (y_assign rfl) rfl ?_
  refine L_y (y_assign rfl) rfl ?_
  refine L_nil ?_
  refine hK1 _ _ ?_
  refine T_seq fun K2 hK2 => ?_
  refine T_region ?_
  refine L_y (y_ldW Try.underlying30 rfl sz30 rfl (S1.blk 0 rfl) (show _ = (scA b t B m d).toList ∧ _ from ⟨rfl, rfl⟩)) rfl ?_
  refine L_o (o_call Try.func21 rfl rfl (rcheck B m d l b t w1 (S1.rd hl) (hok.like S1.like0)) rfl rfl ?_)
  rintro e2 w2 ⟨v2, rfl, l2, rfl⟩
  refine ⟨_, rfl, ?_⟩
  have S2 := S1.like l2
  refine L_y (y_assign rfl) rfl ?_
  refine L_nil ?_
  refine hK2 _ _ ?_
  refine T_seq fun K3 hK3 => ?_
  refine T_seq fun K4 hK4 => ?_
  refine T_region ?_
  refine L_y (y_move rfl) rfl ?_
  refine L_y (y_neq rfl rfl) rfl ?_
  refine L_nil ?_
  refine hK4 _ _ ?_
  refine T_cond rfl (fun h13 => ?_) (fun h13 => ?_)
  ·
    refine T_seq fun K5 hK5 => ?_
    refine T_region ?_
    refine L_y (y_move rfl) rfl ?_
    refine L_y (y_assign rfl) rfl ?_
    refine L_y (y_assign rfl) rfl ?_
    refine L_nil ?_
    refine hK5 _ _ ?_
    refine T_ret ?_
    repeat (first | with_reducible refine up_then ?_ | with_reducible refine up_in ?_)
    refine ret2 rfl rfl rfl ?_
    first | exact ⟨_, rfl, S2.like0, none, 0, by rw [aplR_err h13]; rfl, by rw [aplR_err h13]; exact World.ownsRow_nil _ _ _ _⟩ | exact ⟨_, rfl, S2.like0, none, 0, by rw [aplR_base h130 (by omega)]; rfl, by rw [aplR_base h130 (by omega)]; exact World.ownsRow_nil _ _ _ _⟩ | (have hke : k = m := by omega); subst hke; rw [List.take_of_length_le (by omega)] at hout; exact ⟨_, rfl, S2.like0, A1, c1, by rw [aplR_ok h130 (by omega), ← hout], by rw [aplR_ok h130 (by omega), ← hout]; exact S2.own 1 rfl⟩
  ·
    have h130 := Decidable.byContradiction h13
    obtain ⟨hrg, hall⟩ := errV_zero h130
    refine T_skip ?_
    refine hK3 _ _ ?_
    refine T_seq fun K6 hK6 => ?_
    refine T_seq fun K7 hK7 => ?_
    refine T_region ?_
    refine L_y (y_move rfl) rfl ?_
    refine L_y (y_len Try.underlying22 rfl) rfl ?_
    refine L_y (y_fieldA 0 Try.underlying30 rfl sz3 rfl rfl rfl) rfl ?_
    refine L_y (y_ldc Try.underlying3 rfl rfl (((S2.blk 0 rfl).cell _).trans (by rfl))) rfl ?_
    refine L_y (y_neq rfl rfl) rfl ?_
    refine L_nil ?_
    refine hK7 _ _ ?_
    refine T_cond rfl (fun h19 => ?_) (fun h19 => ?_)
    ·
      refine T_seq fun K8 hK8 => ?_
      refine T_region ?_
      refine L_y (y_assign rfl) rfl ?_
      refine L_y (y_assign rfl) rfl ?_
      refine L_nil ?_
      refine hK8 _ _ ?_
      refine T_ret ?_
      repeat (first | with_reducible refine up_then ?_ | with_reducible refine up_in ?_)
      refine ret2 rfl rfl rfl ?_
      first | exact ⟨_, rfl, S2.like0, none, 0, by rw [aplR_err h13]; rfl, by rw [aplR_err h13]; exact World.ownsRow_nil _ _ _ _⟩ | exact ⟨_, rfl, S2.like0, none, 0, by rw [aplR_base h130 (by omega)]; rfl, by rw [aplR_base h130 (by omega)]; exact World.ownsRow_nil _ _ _ _⟩ | (have hke : k = m := by omega); subst hke; rw [List.take_of_length_le (by omega)] at hout; exact ⟨_, rfl, S2.like0, A1, c1, by rw [aplR_ok h130 (by omega), ← hout], by rw [aplR_ok h130 (by omega), ← hout]; exact S2.own 1 rfl⟩
    ·
      refine T_skip ?_
      refine hK6 _ _ ?_
      refine T_seq fun K9 hK9 => ?_
      refine T_region ?_
      have S3 := S2.nilrow 5 1
      refine L_y (y_assign rfl) rfl ?_
      refine L_nil ?_
      refine hK9 _ _ ?_
      refine T_seq fun K10 hK10 => ?_
      refine T_seq fun K11 hK11 => ?_
      refine T_region ?_
      refine L_y (y_assign rfl) rfl ?_
      refine L_nil ?_
      refine hK11 _ _ ?_
      refine T_block ?_
      refine T_loop4 [(0, _), (3, _)] (fun (k : Nat) (out : List UInt8) (A1 : Option Addr) (c1 : Nat) => [(8, .int .i64 (k : Int)), (7, .slice A1 out.length c1)]) (fun (k : Nat) (out : List UInt8) (A1 : Option Addr) (c1 : Nat) => m - k) (fun (k : Nat) (out : List UInt8) (A1 : Option Addr) (c1 : Nat) (w : World) => (k ≤ m ∧ out = aplV a ((l.take k).map OP.v) ∧ (out.length : Int) ≤ t ∧ chkL b (t - (out.length : Int)) ((l.map OP.v).drop k) = true) ∧ St w0 noM [blk b1 30 (scA b t B m d), row 5 1 A1 out.length c1 (bL out)] w) 0 [] none 0 (Sub.cons rfl (by first | rfl | exact congrArg (Value.int _) (by omega)) (Sub.cons rfl (by first | rfl | exact congrArg (Value.int _) (by omega)) (Sub.nil _))) (Sub.cons rfl rfl (Sub.cons rfl rfl (Sub.nil _))) ?_ ?_
      ·
        exact ⟨⟨Nat.zero_le _, rfl, by show (0 : Int) ≤ t; omega, by show chkL b (t - 0) _ = true; rw [Int.sub_zero]; exact hall⟩, S3⟩
      ·
        intro k out A1 c1 w4 hrel
        obtain ⟨⟨hk, hout, hol, hch⟩, S4⟩ := hrel
        refine T_seq fun K12 hK12 => ?_
        refine T_seq fun K13 hK13 => ?_
        refine T_region ?_
        refine L_y (y_move rfl) rfl ?_
        refine L_y (y_fieldA 2 Try.underlying30 rfl sz28 rfl rfl rfl) rfl ?_
        refine L_y (y_ldc Try.underlying28 rfl rfl (((S4.blk 0 rfl).cell _).trans (by rfl))) rfl ?_
        refine L_y (y_len Try.underlying28 rfl) rfl ?_
        refine L_y (y_lss rfl rfl) rfl ?_
        refine L_nil ?_
        refine hK13 _ _ ?_
        refine T_cond rfl (fun h24 => ?_) (fun h24 => ?_)
        ·
          obtain ⟨o, ho⟩ : ∃ o, l[k]? = some o := ⟨_, List.getElem?_eq_getElem (by omega)⟩
          have hop := hok o (List.mem_of_getElem? ho)
          have hopn := hop.lenb; have hopc := hop.cap; have hopm := hop.max
          obtain ⟨hrt, hsz, hrest⟩ := chkL_next ho hch
          refine T_skip ?_
          refine hK12 _ _ ?_
          refine T_seq fun K14 hK14 => ?_
          refine T_block ?_
          refine T_seq fun K15 hK15 => ?_
          refine T_region ?_
          refine L_y (y_fieldA 2 Try.underlying30 rfl sz28 rfl rfl rfl) rfl ?_
          refine L_y (y_ldc Try.underlying28 rfl rfl (((S4.blk 0 rfl).cell _).trans (by rfl))) rfl ?_
          refine L_y (y_move rfl) rfl ?_
          refine L_y (y_idx Try.underlying28 sz58 rfl rfl (S4.rd hl) (Nt.mk (by omega) : Nt _ (k)) (by omega)) rfl ?_
          refine L_y (y_ldp (f := opf) opf_len Try.underlying58 rfl sz58 rfl (S4.rd hl) (by omega) ho) rfl ?_
          refine L_o (o_alloc zz58 S4 rfl fun b5 w5 hb5 S5 => ?_)
          refine L_o (o_stW S5 2 rfl rfl rfl sz58 rfl (opf_one o) fun w6 S6 => ?_)
          refine L_nil ?_
          refine hK15 _ _ ?_
          refine T_seq fun K16 hK16 => ?_
          refine T_region ?_
          refine L_y (y_fieldA 0 Try.underlying58 rfl sz4 rfl rfl rfl) rfl ?_
          refine L_y (y_ldc Try.underlying4 rfl rfl (((S6.blk 2 rfl).cell _).trans (by rfl))) rfl ?_
          refine L_nil ?_
          refine hK16 _ _ ?_
          refine T_condB rfl (fun h33 => ?_) (fun h33 => ?_)
          ·
            have hcp : o.cp = true := h33
            obtain ⟨g1, g2, g3, g4, g5⟩ := rt_cp hrt hcp
            refine T_region ?_
            refine L_y (y_move rfl) rfl ?_
            refine L_y (y_move rfl) rfl ?_
            refine L_y (y_fieldA 1 Try.underlying58 rfl sz3 rfl rfl rfl) rfl ?_
            refine L_y (y_ldc Try.underlying3 rfl rfl (((S6.blk 2 rfl).cell _).trans (by rfl))) rfl ?_
            refine L_y (y_fieldA 1 Try.underlying58 rfl sz3 rfl rfl rfl) rfl ?_
            refine L_y (y_ldc Try.underlying3 rfl rfl (((S6.blk 2 rfl).cell _).trans (by rfl))) rfl ?_
            refine L_y (y_fieldA 2 Try.underlying58 rfl sz3 rfl rfl rfl) rfl ?_
            refine L_y (y_ldc Try.underlying3 rfl rfl (((S6.blk 2 rfl).cell _).trans (by rfl))) rfl ?_
            refine L_y (y_add rfl rfl (i64w (by omega))) rfl ?_
            refine L_y (y_slice Try.underlying22 sz5 rfl rfl rfl (Nt.mk (by omega) : Nt _ (o.fr.toNat)) (Nt.mk (by omega) : Nt _ (o.fr.toNat + o.n.toNat)) (by omega) (by omega)) rfl ?_
            refine L_o (o_app te22 S6 1 rfl rfl rfl (cut_mid (S6.rd ha) (k := o.fr.toNat) (u := o.fr.toNat + o.n.toNat) (by omega) (by omega)) (bL_one _) rfl (by omega) (by omega) fun A7 c7 w7 S7 => ?_)
            refine L_y (y_assign rfl) rfl ?_
            refine L_nil ?_
            refine hK14 _ _ ?_
            refine T_region ?_
            refine L_y (y_move rfl) rfl ?_
            refine L_y (y_add rfl rfl (i64w (by omega))) rfl ?_
            refine L_y (y_assign rfl) rfl ?_
            refine L_nil ?_
            have hpl : ((a.drop o.fr.toNat).take (o.fr.toNat + o.n.toNat - o.fr.toNat)).length = o.n.toNat := by rw [List.length_take, List.length_drop]; omega
            have S91 := S7.rowc 1 rfl (n' := (out ++ ((a.drop o.fr.toNat).take (o.fr.toNat + o.n.toNat - o.fr.toNat))).length) (xs' := bL (out ++ ((a.drop o.fr.toNat).take (o.fr.toNat + o.n.toNat - o.fr.toNat)))) (by rw [List.length_append]; omega) (bL_app' _ _)
            have S92 := S91.sel [0, 1] (by decide)
            refine ⟨k + 1, out ++ ((a.drop o.fr.toNat).take (o.fr.toNat + o.n.toNat - o.fr.toNat)), A7, c7, by omega, ⟨⟨by omega, by rw [hout, aplV_step ho, lay_cp hcp], by rw [List.length_append]; omega, by rw [List.length_append, show t - ((out.length + ((a.drop o.fr.toNat).take (o.fr.toNat + o.n.toNat - o.fr.toNat)).length : Nat) : Int) = t - (out.length : Int) - szV o.v by omega]; exact hrest⟩, S92⟩, ?_⟩
            exact (Sub.cons rfl (by first | rfl | exact congrArg (Value.int _) (by omega)) (Sub.cons rfl (by first | rfl | (rw [List.length_append]; congr 1; omega)) (Sub.cons rfl rfl (Sub.cons rfl rfl (Sub.nil _)))))
          ·
            have hcp : o.cp = false := h33
            obtain ⟨g1, g2⟩ := rt_new hrt hcp
            refine T_region ?_
            refine L_y (y_move rfl) rfl ?_
            refine L_y (y_fieldA 3 Try.underlying58 rfl sz22 rfl rfl rfl) rfl ?_
            refine L_y (y_ldc Try.underlying22 rfl rfl (((S6.blk 2 rfl).cell _).trans (by rfl))) rfl ?_
            refine L_o (o_app te22 S6 1 rfl rfl rfl (S6.rd hop) (bL_one _) rfl (by omega) (by omega) fun A8 c8 w8 S8 => ?_)
            refine L_y (y_assign rfl) rfl ?_
            refine L_nil ?_
            refine hK14 _ _ ?_
            refine T_region ?_
            refine L_y (y_move rfl) rfl ?_
            refine L_y (y_add rfl rfl (i64w (by omega))) rfl ?_
            refine L_y (y_assign rfl) rfl ?_
            refine L_nil ?_
            have hpl : o.p.l.length = o.p.n := hop.lenb
            have S91 := S8.rowc 1 rfl (n' := (out ++ o.p.l).length) (xs' := bL (out ++ o.p.l)) (by rw [List.length_append]; omega) (bL_app' _ _)
            have S92 := S91.sel [0, 1] (by decide)
            refine ⟨k + 1, out ++ o.p.l, A8, c8, by omega, ⟨⟨by omega, by rw [hout, aplV_step ho, lay_new hcp], by rw [List.length_append]; omega, by rw [List.length_append, show t - ((out.length + o.p.l.length : Nat) : Int) = t - (out.length : Int) - szV o.v by omega]; exact hrest⟩, S92⟩, ?_⟩
            exact (Sub.cons rfl (by first | rfl | exact congrArg (Value.int _) (by omega)) (Sub.cons rfl (by first | rfl | (rw [List.length_append]; congr 1; omega)) (Sub.cons rfl rfl (Sub.cons rfl rfl (Sub.nil _)))))
        ·
          refine T_exit ?_
          refine hK10 _ _ ?_
          refine T_seq fun K17 hK17 => ?_
          refine T_region ?_
          refine L_y (y_move rfl) rfl ?_
          refine L_y (y_assign rfl) rfl ?_
          refine L_y (y_assign rfl) rfl ?_
          refine L_nil ?_
          refine hK17 _ _ ?_
          refine T_ret ?_
          repeat (first | with_reducible refine up_then ?_ | with_reducible refine up_in ?_)
          refine ret2 rfl rfl rfl ?_
          first | exact ⟨_, rfl, S4.like0, none, 0, by rw [aplR_err h13]; rfl, by rw [aplR_err h13]; exact World.ownsRow_nil _ _ _ _⟩ | exact ⟨_, rfl, S4.like0, none, 0, by rw [aplR_base h130 (by omega)]; rfl, by rw [aplR_base h130 (by omega)]; exact World.ownsRow_nil _ _ _ _⟩ | (have hke : k = m := by omega); subst hke; rw [List.take_of_length_le (by omega)] at hout; exact ⟨_, rfl, S4.like0, A1, c1, by rw [aplR_ok h130 (by omega), ← hout], by rw [aplR_ok h130 (by omega), ← hout]; exact S4.own 1 rfl⟩
end Go.Proofs.Ytpcgldkllnkaeaa
