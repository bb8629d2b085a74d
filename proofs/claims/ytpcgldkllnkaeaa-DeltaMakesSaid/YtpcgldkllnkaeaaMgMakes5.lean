import Derived.Test.YtpcgldkllnkaeaaMgMakes4
/-
  op.
-/
namespace Go.Proofs.Ytpcgldkllnkaeaa
open Go.RowKit Zk Zx
set_option linter.unusedVariables false
set_option linter.unusedSimpArgs false

/-- What is read at a place: an op, where the reader stands then, what is wrong with it, and the error. -/
structure RO where
  o : OV
  p : Nat
  q : Nat
  e : Int
def zO : OV := ⟨false, 0, 0, []⟩
def zP : OP := ⟨false, 0, 0, p0⟩
/-- From the length on. -/
def rdN (d : List UInt8) (p q : Nat) (base f : Int) (cp : Bool) : RO :=
  if (vaN d p q 4000).2.2 ≠ 0 then ⟨zO, (vaN d p q 4000).2.1, (vaN d p q 4000).2.2, (vaN d p q 4000).2.2⟩
  else if (vaN d p q 4000).1 = 0 then ⟨zO, (vaN d p q 4000).2.1, 0, 12⟩
  else if cp then (if base - ((vaN d p q 4000).1 : Int) < f then ⟨zO, (vaN d p q 4000).2.1, 0, 21⟩ else ⟨⟨true, f, ((vaN d p q 4000).1 : Int), []⟩, (vaN d p q 4000).2.1, 0, 0⟩)
  else ⟨⟨false, 0, 0, rnL d (vaN d p q 4000).2.1 0 ((vaN d p q 4000).1 : Int)⟩, rnP d (vaN d p q 4000).2.1 0 ((vaN d p q 4000).1 : Int), rnE d (vaN d p q 4000).2.1 0 ((vaN d p q 4000).1 : Int), (rnE d (vaN d p q 4000).2.1 0 ((vaN d p q 4000).1 : Int) : Int)⟩
def rdO (d : List UInt8) (p : Nat) (x : UInt8) (base : Int) : RO :=
  if 1 < x.toNat then ⟨zO, p + 1, 0, 19⟩
  else if x.toNat = 1 then rdN d (vaN d (p + 1) 0 4000).2.1 (vaN d (p + 1) 0 4000).2.2 base ((vaN d (p + 1) 0 4000).1 : Int) true
  else rdN d (p + 1) 0 base 0 false
section
variable {d : List UInt8} {p q : Nat} {base f : Int} {x : UInt8} {cp : Bool}
theorem rdO_bad (h : 1 < x.toNat) : rdO d p x base = ⟨zO, p + 1, 0, 19⟩ := by unfold rdO; rw [if_pos h]
theorem rdO_cp (h : x.toNat = 1) : rdO d p x base = rdN d (vaN d (p + 1) 0 4000).2.1 (vaN d (p + 1) 0 4000).2.2 base ((vaN d (p + 1) 0 4000).1 : Int) true := by unfold rdO; rw [if_neg (by omega), if_pos h]
theorem rdO_new (h : ¬ 1 < x.toNat) (h2 : ¬ x.toNat = 1) : rdO d p x base = rdN d (p + 1) 0 base 0 false := by unfold rdO; rw [if_neg h, if_neg h2]
theorem rdN_err (h : (vaN d p q 4000).2.2 ≠ 0) : rdN d p q base f cp = ⟨zO, (vaN d p q 4000).2.1, (vaN d p q 4000).2.2, (vaN d p q 4000).2.2⟩ := by unfold rdN; rw [if_pos h]
theorem rdN_zero (h : (vaN d p q 4000).2.2 = 0) (h2 : (vaN d p q 4000).1 = 0) : rdN d p q base f cp = ⟨zO, (vaN d p q 4000).2.1, 0, 12⟩ := by unfold rdN; rw [if_neg (by omega), if_pos h2]
theorem rdN_far (h : (vaN d p q 4000).2.2 = 0) (h2 : ¬ (vaN d p q 4000).1 = 0) (h3 : base - ((vaN d p q 4000).1 : Int) < f) : rdN d p q base f true = ⟨zO, (vaN d p q 4000).2.1, 0, 21⟩ := by unfold rdN; rw [if_neg (by omega), if_neg h2, if_pos rfl, if_pos h3]
theorem rdN_cp (h : (vaN d p q 4000).2.2 = 0) (h2 : ¬ (vaN d p q 4000).1 = 0) (h3 : ¬ base - ((vaN d p q 4000).1 : Int) < f) : rdN d p q base f true = ⟨⟨true, f, ((vaN d p q 4000).1 : Int), []⟩, (vaN d p q 4000).2.1, 0, 0⟩ := by unfold rdN; rw [if_neg (by omega), if_neg h2, if_pos rfl, if_neg h3]
theorem rdN_new (h : (vaN d p q 4000).2.2 = 0) (h2 : ¬ (vaN d p q 4000).1 = 0) : rdN d p q base f false = ⟨⟨false, 0, 0, rnL d (vaN d p q 4000).2.1 0 ((vaN d p q 4000).1 : Int)⟩, rnP d (vaN d p q 4000).2.1 0 ((vaN d p q 4000).1 : Int), rnE d (vaN d p q 4000).2.1 0 ((vaN d p q 4000).1 : Int), (rnE d (vaN d p q 4000).2.1 0 ((vaN d p q 4000).1 : Int) : Int)⟩ := by unfold rdN; rw [if_neg (by omega), if_neg h2, if_neg Bool.false_ne_true]
theorem vaN_m (d : List UInt8) (p q m : Nat) : (vaN d p q m).1 ≤ m := by
  unfold vaN
  repeat' split
  all_goals simp only; omega
end
theorem rnP_le (l : List UInt8) (p q : Nat) (m : Int) (hp : p ≤ l.length) : rnP l p q m ≤ l.length := by
  unfold rnP rwP
  split
  · exact hp
  · split
    · exact tkP_le l p _ hp
    · exact hp
def rowP (p : Part) : Res := row 5 1 p.A p.n p.c (bL p.l)
theorem p0_holds (w : World) : (rowP p0).holds w := World.ownsRow_nil _ _ _ _
theorem p0_dom {i : Nat} {Q : Prop} (h : (rowP p0).dom i) : Q := by simp [rowP, p0, row, Value.ownBlock] at h
theorem rbyte1 (g : Nat) (A : Option Addr) (n c : Nat) (l : List UInt8) (p : Nat) (x : UInt8) (w0 : World) (hw : (rdr g A n c l p 0).holds w0) (hx : l[p]? = some x) (hn62 : n ≤ 4611686018427387904) :
    Calls Try.prog 57 #[.pointer (some ⟨g, 0, none⟩)] w0 fun e w' => ∃ u, e = .returned u ∧ u = .int .u8 (x.toNat : Int) ∧ Turned w0 w' (rdr g A n c l p 0) (rdr g A n c l (p + 1) 0) := by
  have hp := (List.getElem?_eq_some_iff.1 hx).1
  refine (rbyte g A n c l p 0 w0 hw (by omega) hn62).mono fun e w' ⟨u, h1, h2, h3⟩ => ⟨u, h1, ?_, ?_⟩
  · obtain ⟨y, hy, htk, _⟩ := tk_one (show 1 ≤ l.length - p by omega)
    rw [hx] at hy
    obtain rfl := Option.some.inj hy
    rw [h2, rwL, if_pos rfl, htk]
    simp [be]
  · exact Rdd.turned h3 (by rw [rwP, if_pos rfl, tkP, if_pos (by omega)]) (by rw [rwE, if_pos rfl, tkE_ok (by omega)])


set_option maxRecDepth 100000 in
theorem rop (g : Nat) (A : Option Addr) (n c : Nat) (l : List UInt8) (p : Nat) (x : UInt8) (base : Int) (w0 : World) (hw : (rdr g A n c l p 0).holds w0) (hx : l[p]? = some x) (hn5 : n ≤ 10000) (hb : 0 ≤ base ∧ base ≤ 4000) :
    Calls Try.prog 47 #[.pointer (some ⟨g, 0, none⟩), .int .i64 base] w0 fun e w' => ∃ u, e = .returned u ∧ Turned w0 w' (rdr g A n c l p 0) (rdr g A n c l (rdO l p x base).p (rdO l p x base).q) ∧ ∃ o : OP, u = .tuple #[.agg (opf o).toArray, .int .i64 (rdO l p x base).e] ∧ o.v = (rdO l p x base).o ∧ (rowP o.p).holds w' ∧ ∀ i, (rowP o.p).dom i → w0.heap.size ≤ i := by
  refine enter1 (env := [(0, .pointer (some ⟨g, 0, none⟩)), (1, .int .i64 base)]) [.pointer (some ⟨g, 0, none⟩), .int .i64 base] Try.func47 rfl Try.ntmps47 rfl rfl ?_
  have hnl := rdr_len hw; have hnc := ownsRow_cap hw.2; have hpl := (List.getElem?_eq_some_iff.1 hx).1; have hxl := x.toNat_lt; have S0 := St.borrow1 (rdr g A n c l p 0) hw (rdr_lt hw)
  refine T_seq fun K1 hK1 => ?_
  refine T_region ?_
  refine L_o (o_alloc zz57 S0 rfl fun b1 w1 hb1 S1 => ?_)
  refine L_y (y_assign rfl) rfl ?_
  refine L_nil ?_
  refine hK1 _ _ ?_
  refine T_seq fun K2 hK2 => ?_
  refine T_region ?_
  refine L_y (y_move rfl) rfl ?_
  refine L_o (o_call Try.func57 rfl rfl (rbyte1 g A n c l p x w1 (S1.get 0 rfl) hx (by omega)) rfl rfl ?_)
  rintro e2 w2 ⟨v2, rfl, rfl, T2⟩
  refine ⟨_, rfl, ?_⟩
  have S2 := S1.turn 0 rfl T2
  refine L_y (y_assign rfl) rfl ?_
  refine L_nil ?_
  refine hK2 _ _ ?_
  refine T_seq fun K3 hK3 => ?_
  refine T_seq fun K4 hK4 => ?_
  refine T_region ?_
  refine L_y (y_move rfl) rfl ?_
  refine L_y (y_gtr rfl rfl) rfl ?_
  refine L_nil ?_
  refine hK4 _ _ ?_
  refine T_cond rfl (fun h13 => ?_) (fun h13 => ?_)
  ·
    refine T_seq fun K5 hK5 => ?_
    refine T_region ?_
    refine L_y (y_build rfl (show _ = some #[Value.bool false, Value.int .i64 0, Value.int .i64 0, Value.slice none 0 0] by kernel_rfl)) rfl ?_
    refine L_o (o_stW S2 1 rfl rfl rfl sz57 rfl (by first | exact opf_one _ | (intro u hu; simp at hu; rcases hu with rfl | rfl | rfl | rfl <;> rfl)) fun w3 S3 => ?_)
    refine L_y (y_assign rfl) rfl ?_
    refine L_nil ?_
    refine hK5 _ _ ?_
    refine T_ret ?_
    repeat (first | with_reducible refine up_then ?_ | with_reducible refine up_in ?_)
    refine retct rfl rfl rfl (S3.blk 1 rfl) Try.underlying57 rfl (by exact sz57) ?_
    rw [rdO_bad (by omega)]
    exact ⟨_, rfl, S3.turned1 0 rfl, zP, rfl, rfl, p0_holds _, fun i hi => p0_dom hi⟩
  ·
    refine T_skip ?_
    refine hK3 _ _ ?_
    refine T_seq fun K6 hK6 => ?_
    refine T_region ?_
    refine L_y (y_move rfl) rfl ?_
    refine L_y (y_eql rfl rfl) rfl ?_
    refine L_y (y_build rfl (show _ = some #[Value.bool (decide ((x.toNat : Int) = 1)), Value.int .i64 0, Value.int .i64 0, Value.slice none 0 0] by kernel_rfl)) rfl ?_
    refine L_o (o_alloc zz57 S2 rfl fun b4 w4 hb4 S4 => ?_)
    refine L_o (o_stW S4 2 rfl rfl rfl sz57 rfl (by intro u hu; simp at hu; rcases hu with rfl | rfl | rfl | rfl <;> rfl) fun w5 S5 => ?_)
    refine L_nil ?_
    refine hK6 _ _ ?_
    refine T_seq fun K7 hK7 => ?_
    refine T_seq fun K8 hK8 => ?_
    refine T_region ?_
    refine L_y (y_fieldA 0 Try.underlying57 rfl sz4 rfl rfl rfl) rfl ?_
    refine L_y (y_ldc Try.underlying4 rfl rfl (((S5.blk 2 rfl).cell _).trans (by rfl))) rfl ?_
    refine L_nil ?_
    refine hK8 _ _ ?_
    refine T_cond rfl (fun h19 => ?_) (fun h19 => ?_)
    ·
      have hx1 : x.toNat = 1 := by omega
      rw [decide_eq_true (show ((x.toNat : Nat) : Int) = 1 by omega)] at S5
      refine T_region ?_
      refine L_y (y_move rfl) rfl ?_
      refine L_o (o_call Try.func44 rfl rfl (rvar g A n c l (p + 1) 0 4000 w5 (S5.get 0 rfl) (by omega) (by omega)) rfl rfl ?_)
      rintro e6 w6 ⟨v6, rfl, rfl, T6⟩
      refine ⟨_, rfl, ?_⟩
      have S6 := S5.turn 0 rfl T6
      have hF := vaN_le l (p + 1) 0 4000 (by omega)
      have hFm := vaN_m l (p + 1) 0 4000
      refine L_y (y_conv is65 Try.underlying3 rfl (i64w (by omega))) rfl ?_
      refine L_y (y_fieldA 1 Try.underlying57 rfl sz3 rfl rfl rfl) rfl ?_
      refine L_o (o_st1 S6 2 rfl rfl rfl rfl sz3 (by simp; done) fun w7 S7 => ?_)
      refine L_nil ?_
      refine hK7 _ _ ?_
      refine T_seq fun K9 hK9 => ?_
      refine T_region ?_
      refine L_y (y_move rfl) rfl ?_
      refine L_o (o_call Try.func44 rfl rfl (rvar g A n c l _ _ 4000 w7 (S7.get 0 rfl) (by omega) (by omega)) rfl rfl ?_)
      rintro e8 w8 ⟨v8, rfl, rfl, T8⟩
      refine ⟨_, rfl, ?_⟩
      have S8 := S7.turn 0 rfl T8
      have hG := vaN_le l (vaN l (p + 1) 0 4000).2.1 (vaN l (p + 1) 0 4000).2.2 4000 (by omega)
      have hGm := vaN_m l (vaN l (p + 1) 0 4000).2.1 (vaN l (p + 1) 0 4000).2.2 4000
      refine L_y (y_conv is65 Try.underlying3 rfl (i64w (by omega))) rfl ?_
      refine L_y (y_assign rfl) rfl ?_
      refine L_nil ?_
      refine hK9 _ _ ?_
      refine T_seq fun K10 hK10 => ?_
      refine T_seq fun K11 hK11 => ?_
      refine T_region ?_
      refine L_y (y_move rfl) rfl ?_
      refine L_o (o_call Try.func45 rfl rfl (rerr g A n c l _ _ w8 (S8.get 0 rfl) (by omega)) rfl rfl ?_)
      rintro e9 w9 ⟨v9, rfl, l9, rfl⟩
      refine ⟨_, rfl, ?_⟩
      have S9 := S8.like l9
      refine L_y (y_assign rfl) rfl ?_
      refine L_nil ?_
      refine hK11 _ _ ?_
      refine T_seq fun K12 hK12 => ?_
      refine T_region ?_
      refine L_y (y_move rfl) rfl ?_
      refine L_y (y_neq rfl rfl) rfl ?_
      refine L_nil ?_
      refine hK12 _ _ ?_
      refine T_cond rfl (fun h30 => ?_) (fun h30 => ?_)
      ·
        refine T_seq fun K13 hK13 => ?_
        refine T_region ?_
        refine L_y (y_build rfl (show _ = some #[Value.bool false, Value.int .i64 0, Value.int .i64 0, Value.slice none 0 0] by kernel_rfl)) rfl ?_
        refine L_y (y_move rfl) rfl ?_
        refine L_o (o_stW S9 1 rfl rfl rfl sz57 rfl (by first | exact opf_one _ | (intro u hu; simp at hu; rcases hu with rfl | rfl | rfl | rfl <;> rfl)) fun w10 S10 => ?_)
        refine L_y (y_assign rfl) rfl ?_
        refine L_nil ?_
        refine hK13 _ _ ?_
        refine T_ret ?_
        repeat (first | with_reducible refine up_then ?_ | with_reducible refine up_in ?_)
        refine retct rfl rfl rfl (S10.blk 1 rfl) Try.underlying57 rfl (by exact sz57) ?_
        rw [rdO_cp hx1, rdN_err (by omega)]
        exact ⟨_, rfl, S10.turned1 0 rfl, zP, rfl, rfl, p0_holds _, fun i hi => p0_dom hi⟩
      ·
        have hq0 : (vaN l (vaN l (p + 1) 0 4000).2.1 (vaN l (p + 1) 0 4000).2.2 4000).2.2 = 0 := by omega
        rw [hq0] at S9
        refine T_skip ?_
        refine hK10 _ _ ?_
        refine T_seq fun K14 hK14 => ?_
        refine T_seq fun K15 hK15 => ?_
        refine T_region ?_
        refine L_y (y_move rfl) rfl ?_
        refine L_y (y_eql rfl rfl) rfl ?_
        refine L_nil ?_
        refine hK15 _ _ ?_
        refine T_cond rfl (fun h34 => ?_) (fun h34 => ?_)
        ·
          refine T_seq fun K16 hK16 => ?_
          refine T_region ?_
          refine L_y (y_build rfl (show _ = some #[Value.bool false, Value.int .i64 0, Value.int .i64 0, Value.slice none 0 0] by kernel_rfl)) rfl ?_
          refine L_o (o_stW S9 1 rfl rfl rfl sz57 rfl (by first | exact opf_one _ | (intro u hu; simp at hu; rcases hu with rfl | rfl | rfl | rfl <;> rfl)) fun w11 S11 => ?_)
          refine L_y (y_assign rfl) rfl ?_
          refine L_nil ?_
          refine hK16 _ _ ?_
          refine T_ret ?_
          repeat (first | with_reducible refine up_then ?_ | with_reducible refine up_in ?_)
          refine retct rfl rfl rfl (S11.blk 1 rfl) Try.underlying57 rfl (by exact sz57) ?_
          rw [rdO_cp hx1, rdN_zero hq0 (by omega)]
          exact ⟨_, rfl, S11.turned1 0 rfl, zP, rfl, rfl, p0_holds _, fun i hi => p0_dom hi⟩
        ·
          refine T_skip ?_
          refine hK14 _ _ ?_
          refine T_seq fun K17 hK17 => ?_
          refine T_seq fun K18 hK18 => ?_
          refine T_region ?_
          refine L_y (y_fieldA 0 Try.underlying57 rfl sz4 rfl rfl rfl) rfl ?_
          refine L_y (y_ldc Try.underlying4 rfl rfl (((S9.blk 2 rfl).cell _).trans (by rfl))) rfl ?_
          refine L_y ((by first | exact y_notD rfl | exact y_not rfl)) rfl ?_
          refine L_nil ?_
          refine hK18 _ _ ?_
          refine T_false rfl ?_
          refine T_skip ?_
          refine hK17 _ _ ?_
          refine T_seq fun K19 hK19 => ?_
          refine T_region ?_
          refine L_y (y_move rfl) rfl ?_
          refine L_y (y_fieldA 2 Try.underlying57 rfl sz3 rfl rfl rfl) rfl ?_
          refine L_o (o_st1 S9 2 rfl rfl rfl rfl sz3 (by simp; done) fun w12 S12 => ?_)
          refine L_nil ?_
          refine hK19 _ _ ?_
          refine T_seq fun K20 hK20 => ?_
          refine T_seq fun K21 hK21 => ?_
          refine T_region ?_
          refine L_y (y_fieldA 1 Try.underlying57 rfl sz3 rfl rfl rfl) rfl ?_
          refine L_y (y_ldc Try.underlying3 rfl rfl (((S12.blk 2 rfl).cell _).trans (by rfl))) rfl ?_
          refine L_y (y_move rfl) rfl ?_
          refine L_y (y_move rfl) rfl ?_
          refine L_y (y_sub rfl rfl (i64w (by omega))) rfl ?_
          refine L_y (y_gtr rfl rfl) rfl ?_
          refine L_nil ?_
          refine hK21 _ _ ?_
          refine T_cond rfl (fun h53 => ?_) (fun h53 => ?_)
          ·
            refine T_seq fun K22 hK22 => ?_
            refine T_region ?_
            refine L_y (y_build rfl (show _ = some #[Value.bool false, Value.int .i64 0, Value.int .i64 0, Value.slice none 0 0] by kernel_rfl)) rfl ?_
            refine L_o (o_stW S12 1 rfl rfl rfl sz57 rfl (by first | exact opf_one _ | (intro u hu; simp at hu; rcases hu with rfl | rfl | rfl | rfl <;> rfl)) fun w13 S13 => ?_)
            refine L_y (y_assign rfl) rfl ?_
            refine L_nil ?_
            refine hK22 _ _ ?_
            refine T_ret ?_
            repeat (first | with_reducible refine up_then ?_ | with_reducible refine up_in ?_)
            refine retct rfl rfl rfl (S13.blk 1 rfl) Try.underlying57 rfl (by exact sz57) ?_
            rw [rdO_cp hx1, rdN_far hq0 (by omega) (by omega)]
            exact ⟨_, rfl, S13.turned1 0 rfl, zP, rfl, rfl, p0_holds _, fun i hi => p0_dom hi⟩
          ·
            refine T_skip ?_
            refine hK20 _ _ ?_
            refine T_seq fun K23 hK23 => ?_
            refine T_region ?_
            refine L_y (y_ldW Try.underlying57 rfl sz57 rfl (S12.blk 2 rfl) (show _ = (opf ⟨true, ((vaN l (p + 1) 0 4000).1 : Int), ((vaN l (vaN l (p + 1) 0 4000).2.1 (vaN l (p + 1) 0 4000).2.2 4000).1 : Int), p0⟩) ∧ _ from ⟨rfl, rfl⟩)) rfl ?_
            refine L_o (o_stW S12 1 rfl rfl rfl sz57 rfl (by first | exact opf_one _ | (intro u hu; simp at hu; rcases hu with rfl | rfl | rfl | rfl <;> rfl)) fun w14 S14 => ?_)
            refine L_y (y_assign rfl) rfl ?_
            refine L_nil ?_
            refine hK23 _ _ ?_
            refine T_ret ?_
            repeat (first | with_reducible refine up_then ?_ | with_reducible refine up_in ?_)
            refine retct rfl rfl rfl (S14.blk 1 rfl) Try.underlying57 rfl (by exact sz57) ?_
            rw [rdO_cp hx1, rdN_cp hq0 (by omega) (by omega)]
            exact ⟨_, rfl, S14.turned1 0 rfl, ⟨true, ((vaN l (p + 1) 0 4000).1 : Int), _, p0⟩, rfl, rfl, p0_holds _, fun i hi => p0_dom hi⟩
    ·
      have hx1 : ¬ x.toNat = 1 := by omega
      rw [decide_eq_false (show ¬ ((x.toNat : Nat) : Int) = 1 by omega)] at S5
      refine T_skip ?_
      refine hK7 _ _ ?_
      refine T_seq fun K24 hK24 => ?_
      refine T_region ?_
      refine L_y (y_move rfl) rfl ?_
      refine L_o (o_call Try.func44 rfl rfl (rvar g A n c l _ _ 4000 w5 (S5.get 0 rfl) (by omega) (by omega)) rfl rfl ?_)
      rintro e15 w15 ⟨v15, rfl, rfl, T15⟩
      refine ⟨_, rfl, ?_⟩
      have S15 := S5.turn 0 rfl T15
      have hG := vaN_le l (p + 1) 0 4000 (by omega)
      have hGm := vaN_m l (p + 1) 0 4000
      refine L_y (y_conv is65 Try.underlying3 rfl (i64w (by omega))) rfl ?_
      refine L_y (y_assign rfl) rfl ?_
      refine L_nil ?_
      refine hK24 _ _ ?_
      refine T_seq fun K25 hK25 => ?_
      refine T_seq fun K26 hK26 => ?_
      refine T_region ?_
      refine L_y (y_move rfl) rfl ?_
      refine L_o (o_call Try.func45 rfl rfl (rerr g A n c l _ _ w15 (S15.get 0 rfl) (by omega)) rfl rfl ?_)
      rintro e16 w16 ⟨v16, rfl, l16, rfl⟩
      refine ⟨_, rfl, ?_⟩
      have S16 := S15.like l16
      refine L_y (y_assign rfl) rfl ?_
      refine L_nil ?_
      refine hK26 _ _ ?_
      refine T_seq fun K27 hK27 => ?_
      refine T_region ?_
      refine L_y (y_move rfl) rfl ?_
      refine L_y (y_neq rfl rfl) rfl ?_
      refine L_nil ?_
      refine hK27 _ _ ?_
      refine T_cond rfl (fun h30 => ?_) (fun h30 => ?_)
      ·
        refine T_seq fun K28 hK28 => ?_
        refine T_region ?_
        refine L_y (y_build rfl (show _ = some #[Value.bool false, Value.int .i64 0, Value.int .i64 0, Value.slice none 0 0] by kernel_rfl)) rfl ?_
        refine L_y (y_move rfl) rfl ?_
        refine L_o (o_stW S16 1 rfl rfl rfl sz57 rfl (by first | exact opf_one _ | (intro u hu; simp at hu; rcases hu with rfl | rfl | rfl | rfl <;> rfl)) fun w17 S17 => ?_)
        refine L_y (y_assign rfl) rfl ?_
        refine L_nil ?_
        refine hK28 _ _ ?_
        refine T_ret ?_
        repeat (first | with_reducible refine up_then ?_ | with_reducible refine up_in ?_)
        refine retct rfl rfl rfl (S17.blk 1 rfl) Try.underlying57 rfl (by exact sz57) ?_
        rw [rdO_new (by omega) (by omega), rdN_err (by omega)]
        exact ⟨_, rfl, S17.turned1 0 rfl, zP, rfl, rfl, p0_holds _, fun i hi => p0_dom hi⟩
      ·
        have hq0 : (vaN l (p + 1) 0 4000).2.2 = 0 := by omega
        rw [hq0] at S16
        refine T_skip ?_
        refine hK25 _ _ ?_
        refine T_seq fun K29 hK29 => ?_
        refine T_seq fun K30 hK30 => ?_
        refine T_region ?_
        refine L_y (y_move rfl) rfl ?_
        refine L_y (y_eql rfl rfl) rfl ?_
        refine L_nil ?_
        refine hK30 _ _ ?_
        refine T_cond rfl (fun h34 => ?_) (fun h34 => ?_)
        ·
          refine T_seq fun K31 hK31 => ?_
          refine T_region ?_
          refine L_y (y_build rfl (show _ = some #[Value.bool false, Value.int .i64 0, Value.int .i64 0, Value.slice none 0 0] by kernel_rfl)) rfl ?_
          refine L_o (o_stW S16 1 rfl rfl rfl sz57 rfl (by first | exact opf_one _ | (intro u hu; simp at hu; rcases hu with rfl | rfl | rfl | rfl <;> rfl)) fun w18 S18 => ?_)
          refine L_y (y_assign rfl) rfl ?_
          refine L_nil ?_
          refine hK31 _ _ ?_
          refine T_ret ?_
          repeat (first | with_reducible refine up_then ?_ | with_reducible refine up_in ?_)
          refine retct rfl rfl rfl (S18.blk 1 rfl) Try.underlying57 rfl (by exact sz57) ?_
          rw [rdO_new (by omega) (by omega), rdN_zero hq0 (by omega)]
          exact ⟨_, rfl, S18.turned1 0 rfl, zP, rfl, rfl, p0_holds _, fun i hi => p0_dom hi⟩
        ·
          refine T_skip ?_
          refine hK29 _ _ ?_
          refine T_seq fun K32 hK32 => ?_
          refine T_seq fun K33 hK33 => ?_
          refine T_region ?_
          refine L_y (y_fieldA 0 Try.underlying57 rfl sz4 rfl rfl rfl) rfl ?_
          refine L_y (y_ldc Try.underlying4 rfl rfl (((S16.blk 2 rfl).cell _).trans (by rfl))) rfl ?_
          refine L_y ((by first | exact y_notD rfl | exact y_not rfl)) rfl ?_
          refine L_nil ?_
          refine hK33 _ _ ?_
          refine T_true rfl ?_
          refine T_seq fun K34 hK34 => ?_
          refine T_region ?_
          refine L_y (y_move rfl) rfl ?_
          refine L_y (y_move rfl) rfl ?_
          refine L_o (o_call Try.func58 rfl rfl (rraw g A n c l _ _ _ w16 (S16.get 0 rfl) (by omega) (by omega) (by omega)) rfl rfl ?_)
          rintro e19 w19 ⟨v19, rfl, T19, B7, d7, rfl, hr19, hd19⟩
          refine ⟨_, rfl, ?_⟩
          have S19 := S16.turn 0 rfl T19
          have S20 := St.newT S16 0 rfl T19 (fun i hi => hi) hr19 (fun i hi => ⟨hd19 i hi, (World.ownsRow.lt hr19 i hi).2⟩)
          have hdR := fun i hi => Nat.le_trans S16.size (hd19 i hi)
          have hRP := rnP_le l (vaN l (p + 1) 0 4000).2.1 0 ((vaN l (p + 1) 0 4000).1 : Int) (by omega)
          refine L_y (y_fieldA 3 Try.underlying57 rfl sz22 rfl rfl rfl) rfl ?_
          refine L_o (o_st1 S20 2 rfl rfl rfl rfl sz22 (by simp; done) fun w21 S21 => ?_)
          refine L_nil ?_
          refine hK34 _ _ ?_
          refine T_seq fun K35 hK35 => ?_
          refine T_zed [0, 1, 2] 3 [(0, 1), (1, 1), (2, 2), (3, 3), (4, 3)] hmix (by kernel_rfl) fun w22 l22 => ?_
          have S22 := S21.like l22
          refine ZA_B (Like w22) (Like.refl _) ?_
          refine ZB_y rfl (y_ldW Try.underlying57 rfl sz57 rfl (S22.blk 2 rfl) (show _ = (opf ⟨false, 0, 0, ⟨B7, (rnL l (vaN l (p + 1) 0 4000).2.1 0 ((vaN l (p + 1) 0 4000).1 : Int)).length, d7, rnL l (vaN l (p + 1) 0 4000).2.1 0 ((vaN l (p + 1) 0 4000).1 : Int)⟩⟩) ∧ _ from ⟨rfl, rfl⟩)) rfl ?_
          refine ZB_y rfl (y_move rfl) rfl ?_
          refine ZB_o rfl (o_call Try.func45 rfl rfl (rerr g A n c l _ _ w22 (S22.get 0 rfl) (by omega)) rfl rfl ?_)
          rintro e23 w23 ⟨v23, rfl, l23, rfl⟩
          refine ⟨_, rfl, l23, ?_⟩
          have S23 := S22.like l23
          have q23 := l23
          refine ZB_c rfl (o_stW S23 1 rfl rfl rfl sz57 rfl (by first | exact opf_one _ | (intro u hu; simp at hu; rcases hu with rfl | rfl | rfl | rfl <;> rfl)) fun w24 S24 => ?_)
          refine ZA_oy rfl (y_assign rfl) rfl ?_
          refine ZA_nil ?_
          refine hK35 _ _ ?_
          refine T_ret ?_
          repeat (first | with_reducible refine up_then ?_ | with_reducible refine up_in ?_)
          refine retct rfl rfl rfl (S24.blk 1 rfl) Try.underlying57 rfl (by exact sz57) ?_
          rw [rdO_new (by omega) (by omega), rdN_new hq0 (by omega)]
          exact ⟨_, rfl, S24.turned1 0 rfl, ⟨false, 0, 0, ⟨B7, _, d7, rnL l (vaN l (p + 1) 0 4000).2.1 0 ((vaN l (p + 1) 0 4000).1 : Int)⟩⟩, rfl, rfl, S24.get 3 rfl, fun i hi => hdR i hi⟩
end Go.Proofs.Ytpcgldkllnkaeaa

/-
  Read.
-/
namespace Go.Proofs.Ytpcgldkllnkaeaa
open Go.RowKit Zk Zx
set_option linter.unusedVariables false
set_option linter.unusedSimpArgs false

theorem vaN_ge (d : List UInt8) (p q m : Nat) : p ≤ (vaN d p q m).2.1 := by
  unfold vaN
  repeat' split
  all_goals simp only; omega
theorem rdN_ok {d : List UInt8} {p q : Nat} {base f : Int} {cp : Bool} (hp : p ≤ d.length) (h : (rdN d p q base f cp).e = 0) : (rdN d p q base f cp).q = 0 ∧ p ≤ (rdN d p q base f cp).p ∧ (rdN d p q base f cp).p ≤ d.length ∧ 1 ≤ szV (rdN d p q base f cp).o := by
  have hg := vaN_ge d p q 4000
  have hl := vaN_le d p q 4000 hp
  by_cases h1 : (vaN d p q 4000).2.2 = 0
  · by_cases h2 : (vaN d p q 4000).1 = 0
    · rw [rdN_zero h1 h2] at h
      exact absurd h (by show ¬ (12 : Int) = 0; decide)
    · cases cp with
      | true =>
        by_cases h3 : base - ((vaN d p q 4000).1 : Int) < f
        · rw [rdN_far h1 h2 h3] at h
          exact absurd h (by show ¬ (21 : Int) = 0; decide)
        · rw [rdN_cp h1 h2 h3]
          exact ⟨rfl, hg, hl, by show (1 : Int) ≤ ((vaN d p q 4000).1 : Int); omega⟩
      | false =>
        rw [rdN_new h1 h2] at h ⊢
        have h' : rnE d (vaN d p q 4000).2.1 0 ((vaN d p q 4000).1 : Int) = 0 := by
          have : (rnE d (vaN d p q 4000).2.1 0 ((vaN d p q 4000).1 : Int) : Int) = 0 := h
          omega
        by_cases h4 : (vaN d p q 4000).1 ≤ d.length - (vaN d p q 4000).2.1
        · obtain ⟨e1, e2, e3⟩ := rn_ok h4
          rw [e1, e2, e3]
          refine ⟨rfl, (by show p ≤ _ + _; omega), (by show _ + _ ≤ d.length; omega), ?_⟩
          show (1 : Int) ≤ ((((d.drop (vaN d p q 4000).2.1).take (vaN d p q 4000).1).length : Nat) : Int)
          rw [List.length_take, List.length_drop]
          omega
        · obtain ⟨e1, e2, e3⟩ := rn_no h4
          rw [e3] at h'
          exact absurd h' (by decide)
  · rw [rdN_err h1] at h
    have : ((vaN d p q 4000).2.2 : Int) = 0 := h
    omega
theorem rdO_ok {d : List UInt8} {p : Nat} {x : UInt8} {base : Int} (hx : d[p]? = some x) (h : (rdO d p x base).e = 0) : (rdO d p x base).q = 0 ∧ p < (rdO d p x base).p ∧ (rdO d p x base).p ≤ d.length ∧ 1 ≤ szV (rdO d p x base).o := by
  have hp := (List.getElem?_eq_some_iff.1 hx).1
  by_cases h1 : 1 < x.toNat
  · rw [rdO_bad h1] at h
    exact absurd h (by show ¬ (19 : Int) = 0; decide)
  · by_cases h2 : x.toNat = 1
    · rw [rdO_cp h2] at h ⊢
      have hg := vaN_ge d (p + 1) 0 4000
      obtain ⟨e1, e2, e3, e4⟩ := rdN_ok (vaN_le d (p + 1) 0 4000 (by omega)) h
      exact ⟨e1, by omega, e3, e4⟩
    · rw [rdO_new h1 h2] at h ⊢
      obtain ⟨e1, e2, e3, e4⟩ := rdN_ok (by omega) h
      exact ⟨e1, by omega, e3, e4⟩
/-- The ops from a place on, and the error. -/
def rdL (d : List UInt8) (base : Int) : Nat → Nat → Int → List OV × Int
  | 0, _, left => ([], if 0 < left then 10 else 0)
  | f + 1, p, left => match d[p]? with
    | none => ([], if 0 < left then 10 else 0)
    | some x => if (rdO d p x base).e ≠ 0 then ([], (rdO d p x base).e) else if left < szV (rdO d p x base).o then ([], 3)
      else ((rdO d p x base).o :: (rdL d base f (rdO d p x base).p (left - szV (rdO d p x base).o)).1, (rdL d base f (rdO d p x base).p (left - szV (rdO d p x base).o)).2)
theorem rdL_end {d : List UInt8} {base : Int} {f p : Nat} {left : Int} (h : d.length ≤ p) : rdL d base f p left = ([], if 0 < left then 10 else 0) := by
  cases f with
  | zero => rfl
  | succ f => unfold rdL; rw [List.getElem?_eq_none h]
theorem rdL_err {d : List UInt8} {base : Int} {f p : Nat} {left : Int} {x : UInt8} (hx : d[p]? = some x) (h : (rdO d p x base).e ≠ 0) : rdL d base (f + 1) p left = ([], (rdO d p x base).e) := by
  conv => lhs; unfold rdL
  rw [hx]
  exact if_pos h
theorem rdL_long {d : List UInt8} {base : Int} {f p : Nat} {left : Int} {x : UInt8} (hx : d[p]? = some x) (h : (rdO d p x base).e = 0) (h2 : left < szV (rdO d p x base).o) : rdL d base (f + 1) p left = ([], 3) := by
  conv => lhs; unfold rdL
  rw [hx]
  show (if _ then _ else _) = _
  rw [if_neg (fun h3 => h3 h), if_pos h2]
theorem rdL_next {d : List UInt8} {base : Int} {f p : Nat} {left : Int} {x : UInt8} (hx : d[p]? = some x) (h : (rdO d p x base).e = 0) (h2 : ¬ left < szV (rdO d p x base).o) : rdL d base (f + 1) p left = ((rdO d p x base).o :: (rdL d base f (rdO d p x base).p (left - szV (rdO d p x base).o)).1, (rdL d base f (rdO d p x base).p (left - szV (rdO d p x base).o)).2) := by
  conv => lhs; unfold rdL
  rw [hx]
  show (if _ then _ else _) = _
  rw [if_neg (fun h3 => h3 h), if_neg h2]
/-- So far read, with what is to come, is all. -/
def RDI (d : List UInt8) (base : Int) (p : Nat) (left : Int) (ops : List OV) (r : List OV × Int) : Prop := ∃ f, d.length - p ≤ f ∧ (ops ++ (rdL d base f p left).1, (rdL d base f p left).2) = r
section
variable {d : List UInt8} {base : Int} {p : Nat} {left : Int} {ops : List OV} {r : List OV × Int} {x : UInt8}
theorem RDI.start (d : List UInt8) (base : Int) (p : Nat) (left : Int) : RDI d base p left [] (rdL d base d.length p left) := ⟨d.length, by omega, rfl⟩
theorem RDI.stop (h : RDI d base p left ops r) (hp : d.length ≤ p) : r = (ops, if 0 < left then 10 else 0) := by
  obtain ⟨f, h1, h2⟩ := h
  rw [rdL_end hp, List.append_nil] at h2
  exact h2.symm
theorem RDI.err (h : RDI d base p left ops r) (hx : d[p]? = some x) (he : (rdO d p x base).e ≠ 0) : r = (ops, (rdO d p x base).e) := by
  have hp := (List.getElem?_eq_some_iff.1 hx).1
  obtain ⟨f, h1, h2⟩ := h
  obtain ⟨g, rfl⟩ : ∃ g, f = g + 1 := ⟨f - 1, by omega⟩
  rw [rdL_err hx he, List.append_nil] at h2
  exact h2.symm
theorem RDI.long (h : RDI d base p left ops r) (hx : d[p]? = some x) (he : (rdO d p x base).e = 0) (hs : left < szV (rdO d p x base).o) : r = (ops, 3) := by
  have hp := (List.getElem?_eq_some_iff.1 hx).1
  obtain ⟨f, h1, h2⟩ := h
  obtain ⟨g, rfl⟩ : ∃ g, f = g + 1 := ⟨f - 1, by omega⟩
  rw [rdL_long hx he hs, List.append_nil] at h2
  exact h2.symm
theorem RDI.next (h : RDI d base p left ops r) (hx : d[p]? = some x) (he : (rdO d p x base).e = 0) (hs : ¬ left < szV (rdO d p x base).o) : RDI d base (rdO d p x base).p (left - szV (rdO d p x base).o) (ops ++ [(rdO d p x base).o]) r := by
  have hp := (List.getElem?_eq_some_iff.1 hx).1
  have ho := rdO_ok hx he
  obtain ⟨f, h1, h2⟩ := h
  obtain ⟨g, rfl⟩ : ∃ g, f = g + 1 := ⟨f - 1, by omega⟩
  rw [rdL_next hx he hs] at h2
  exact ⟨g, by omega, by rw [← h2, List.append_assoc]; rfl⟩
end
/-- What reading gives. -/
def rdR (d : List UInt8) : List OV × Int := rdL d ((vaN d 0 0 4000).1 : Int) d.length (vaN d (vaN d 0 0 4000).2.1 (vaN d 0 0 4000).2.2 4000).2.1 ((vaN d (vaN d 0 0 4000).2.1 (vaN d 0 0 4000).2.2 4000).1 : Int)
def readV (d : List UInt8) : Int × Int × List OV × Int :=
  if (vaN d (vaN d 0 0 4000).2.1 (vaN d 0 0 4000).2.2 4000).2.2 ≠ 0 then (0, 0, [], (vaN d (vaN d 0 0 4000).2.1 (vaN d 0 0 4000).2.2 4000).2.2)
  else if (rdR d).2 ≠ 0 then (0, 0, [], (rdR d).2) else ((vaN d 0 0 4000).1, (vaN d (vaN d 0 0 4000).2.1 (vaN d 0 0 4000).2.2 4000).1, (rdR d).1, 0)
theorem read_e1 {d : List UInt8} (h : (vaN d (vaN d 0 0 4000).2.1 (vaN d 0 0 4000).2.2 4000).2.2 ≠ 0) : readV d = (0, 0, [], ((vaN d (vaN d 0 0 4000).2.1 (vaN d 0 0 4000).2.2 4000).2.2 : Int)) := by unfold readV; rw [if_pos h]
theorem read_e2 {d : List UInt8} (h : (vaN d (vaN d 0 0 4000).2.1 (vaN d 0 0 4000).2.2 4000).2.2 = 0) {ops : List OV} {e : Int} (h2 : rdR d = (ops, e)) (he : e ≠ 0) : readV d = (0, 0, [], e) := by unfold readV; rw [if_neg (by omega), h2, if_pos he]
theorem read_ok {d : List UInt8} (h : (vaN d (vaN d 0 0 4000).2.1 (vaN d 0 0 4000).2.2 4000).2.2 = 0) {ops : List OV} (h2 : rdR d = (ops, 0)) : readV d = (((vaN d 0 0 4000).1 : Int), ((vaN d (vaN d 0 0 4000).2.1 (vaN d 0 0 4000).2.2 4000).1 : Int), ops, 0) := by unfold readV; rw [if_neg (by omega), h2, if_neg (fun h3 => h3 rfl)]


set_option maxRecDepth 100000 in
theorem pread (B : Option Addr) (m d : Nat) (l : List UInt8) (w0 : World) (hb : Rs w0 1 B m d (bL l)) (hm5 : m ≤ 10000) :
    Calls Try.prog 23 #[.slice B m d] w0 fun e w' => ∃ u, e = .returned u ∧ Like w0 w' ∧ ∃ A' c' qs, u = .tuple #[.agg (scA (readV l).1 (readV l).2.1 A' qs.length c'), .int .i64 (readV l).2.2.2] ∧ Rs w' 4 A' qs.length c' (qs.flatMap opf) ∧ OkO w' qs ∧ qs.map OP.v = (readV l).2.2.1 := by
  refine enter1 (env := [(0, .slice B m d)]) [.slice B m d] Try.func23 rfl Try.ntmps23 rfl rfl ?_
  have hnl := hb.lenb; have hcap := hb.cap; have hmax := hb.max; have S0 := St.start w0 noM
  refine T_seq fun K1 hK1 => ?_
  refine T_region ?_
  refine L_o (o_alloc zz25 S0 rfl fun b1 w1 hb1 S1 => ?_)
  refine L_y (y_assign rfl) rfl ?_
  refine L_nil ?_
  refine hK1 _ _ ?_
  refine T_seq fun K2 hK2 => ?_
  refine T_region ?_
  refine L_y (y_move rfl) rfl ?_
  refine L_o (o_call Try.func43 rfl rfl (rnew B m d l w1 (S1.rd hb) (by omega)) rfl rfl ?_)
  rintro e2 w2 ⟨v2, rfl, l2, g, A, c, rfl, hh2, hd2⟩
  refine ⟨_, rfl, ?_⟩
  have S2 := S1.new l2 _ hh2 hd2
  refine L_y (y_assign rfl) rfl ?_
  refine L_nil ?_
  refine hK2 _ _ ?_
  refine T_seq fun K3 hK3 => ?_
  refine T_region ?_
  refine L_y (y_move rfl) rfl ?_
  refine L_o (o_call Try.func44 rfl rfl (rvar g A m c l 0 0 4000 w2 (S2.get 1 rfl) (by omega) (by omega)) rfl rfl ?_)
  rintro e3 w3 ⟨v3, rfl, rfl, T3⟩
  refine ⟨_, rfl, ?_⟩
  have S3 := S2.turn 1 rfl T3
  have hF := vaN_le l 0 0 4000 (by omega)
  have hFm := vaN_m l 0 0 4000
  refine L_y (y_conv is65 Try.underlying3 rfl (i64w (by omega))) rfl ?_
  refine L_y (y_move rfl) rfl ?_
  refine L_o (o_call Try.func44 rfl rfl (rvar g A m c l _ _ 4000 w3 (S3.get 1 rfl) (by omega) (by omega)) rfl rfl ?_)
  rintro e4 w4 ⟨v4, rfl, rfl, T4⟩
  refine ⟨_, rfl, ?_⟩
  have S4 := S3.turn 1 rfl T4
  have hG := vaN_le l (vaN l 0 0 4000).2.1 (vaN l 0 0 4000).2.2 4000 (by omega)
  have hGm := vaN_m l (vaN l 0 0 4000).2.1 (vaN l 0 0 4000).2.2 4000
  refine L_y (y_conv is65 Try.underlying3 rfl (i64w (by omega))) rfl ?_
  refine L_y (y_build rfl (show _ = some (scA ((vaN l 0 0 4000).1 : Int) ((vaN l (vaN l 0 0 4000).2.1 (vaN l 0 0 4000).2.2 4000).1 : Int) none 0 0) by kernel_rfl)) rfl ?_
  refine L_o (o_alloc zz25 S4 rfl fun b5 w5 hb5 S5 => ?_)
  refine L_o (o_stW S5 2 rfl rfl rfl sz25 rfl (scA_one _ _ _ _ _) fun w6 S6 => ?_)
  refine L_nil ?_
  refine hK3 _ _ ?_
  refine T_seq fun K4 hK4 => ?_
  refine T_seq fun K5 hK5 => ?_
  refine T_region ?_
  refine L_y (y_move rfl) rfl ?_
  refine L_o (o_call Try.func45 rfl rfl (rerr g A m c l _ _ w6 (S6.get 1 rfl) (by omega)) rfl rfl ?_)
  rintro e7 w7 ⟨v7, rfl, l7, rfl⟩
  refine ⟨_, rfl, ?_⟩
  have S7 := S6.like l7
  refine L_y (y_assign rfl) rfl ?_
  refine L_nil ?_
  refine hK5 _ _ ?_
  refine T_seq fun K6 hK6 => ?_
  refine T_region ?_
  refine L_y (y_move rfl) rfl ?_
  refine L_y (y_neq rfl rfl) rfl ?_
  refine L_nil ?_
  refine hK6 _ _ ?_
  refine T_cond rfl (fun h22 => ?_) (fun h22 => ?_)
  ·
    refine T_seq fun K7 hK7 => ?_
    refine T_region ?_
    refine L_y (y_build rfl (show _ = some (scA 0 0 none 0 0) by kernel_rfl)) rfl ?_
    refine L_y (y_move rfl) rfl ?_
    refine L_o (o_stW S7 0 rfl rfl rfl sz25 rfl (scA_one _ _ _ _ _) fun w8 S8 => ?_)
    refine L_y (y_assign rfl) rfl ?_
    refine L_nil ?_
    refine hK7 _ _ ?_
    refine T_ret ?_
    repeat (first | with_reducible refine up_then ?_ | with_reducible refine up_in ?_)
    refine retct rfl rfl rfl (S8.blk 0 rfl) Try.underlying25 rfl (by exact sz25) ?_
    exact ⟨_, rfl, S8.like0, none, 0, [], by rw [read_e1 (by omega)]; rfl, Rs.nil _ 4, (fun o ho => (List.not_mem_nil ho).elim), by rw [read_e1 (by omega)]; rfl⟩
  ·
    have hq0 : (vaN l (vaN l 0 0 4000).2.1 (vaN l 0 0 4000).2.2 4000).2.2 = 0 := by omega
    rw [hq0] at S7
    refine T_skip ?_
    refine hK4 _ _ ?_
    refine T_seq fun K8 hK8 => ?_
    refine T_region ?_
    refine L_y (y_fieldA 1 Try.underlying25 rfl sz3 rfl rfl rfl) rfl ?_
    refine L_y (y_ldc Try.underlying3 rfl rfl (((S7.blk 2 rfl).cell _).trans (by rfl))) rfl ?_
    refine L_y (y_assign rfl) rfl ?_
    refine L_nil ?_
    refine hK8 _ _ ?_
    refine T_seq fun K9 hK9 => ?_
    refine T_block ?_
    refine T_loop6 [(2, _), (4, _), (5, _)] (fun (p : Nat) (left : Int) (A1 : Option Addr) (c1 : Nat) (ops : List OP) (ps : List Part) => [(7, .int .i64 left)]) (fun (p : Nat) (left : Int) (A1 : Option Addr) (c1 : Nat) (ops : List OP) (ps : List Part) => m - p) (fun (p : Nat) (left : Int) (A1 : Option Addr) (c1 : Nat) (ops : List OP) (ps : List Part) (w : World) => (p ≤ m ∧ 0 ≤ left ∧ (ops.length : Int) + left ≤ 4000 ∧ InP ops ps ∧ RDI l ((vaN l 0 0 4000).1 : Int) p left (ops.map OP.v) (rdR l)) ∧ St w0 noM [blk b1 25 #[.int .i64 0, .int .i64 0, .slice none 0 0], rdr g A m c l p 0, blk b5 25 (scA ((vaN l 0 0 4000).1 : Int) ((vaN l (vaN l 0 0 4000).2.1 (vaN l 0 0 4000).2.2 4000).1 : Int) A1 ops.length c1), row 57 4 A1 ops.length c1 (ops.flatMap opf), fam (ps.map partR)] w) (vaN l (vaN l 0 0 4000).2.1 (vaN l 0 0 4000).2.2 4000).2.1 ((vaN l (vaN l 0 0 4000).2.1 (vaN l 0 0 4000).2.2 4000).1 : Int) none 0 [] [] (Sub.cons rfl (by first | rfl | exact congrArg (Value.int _) (by omega)) (Sub.nil _)) (Sub.cons rfl rfl (Sub.cons rfl rfl (Sub.cons rfl rfl (Sub.nil _)))) ?_ ?_
    ·
      have S9 := ((S7.nilrow 57 4).fam0)
      exact ⟨⟨by omega, by omega, by show (0 : Int) + _ ≤ 4000; omega, (fun o ho => (List.not_mem_nil ho).elim), RDI.start l ((vaN l 0 0 4000).1 : Int) (vaN l (vaN l 0 0 4000).2.1 (vaN l 0 0 4000).2.2 4000).2.1 ((vaN l (vaN l 0 0 4000).2.1 (vaN l 0 0 4000).2.2 4000).1 : Int)⟩, S9⟩
    ·
      intro p left A1 c1 ops ps w9 hrel
      obtain ⟨⟨hk, hl0, hol, hin, hrd⟩, S9⟩ := hrel
      refine T_seq fun K10 hK10 => ?_
      refine T_seq fun K11 hK11 => ?_
      refine T_region ?_
      refine L_y (y_move rfl) rfl ?_
      refine L_o (o_call Try.func46 rfl rfl (rleft g A m c l _ _ w9 (S9.get 1 rfl) (by omega)) rfl rfl ?_)
      rintro e10 w10 ⟨v10, rfl, l10, rfl⟩
      refine ⟨_, rfl, ?_⟩
      have S10 := S9.like l10
      refine L_y (y_gtr rfl rfl) rfl ?_
      refine L_nil ?_
      refine hK11 _ _ ?_
      refine T_cond rfl (fun h29 => ?_) (fun h29 => ?_)
      ·
        obtain ⟨x, hx⟩ : ∃ x, l[p]? = some x := ⟨_, List.getElem?_eq_getElem (by omega)⟩
        refine T_skip ?_
        refine hK10 _ _ ?_
        refine T_block ?_
        refine T_seq fun K12 hK12 => ?_
        refine T_region ?_
        refine L_y (y_move rfl) rfl ?_
        refine L_y (y_fieldA 0 Try.underlying25 rfl sz3 rfl rfl rfl) rfl ?_
        refine L_y (y_ldc Try.underlying3 rfl rfl (((S10.blk 2 rfl).cell _).trans (by rfl))) rfl ?_
        refine L_o (o_call Try.func47 rfl rfl (rop g A m c l p x ((vaN l 0 0 4000).1 : Int) w10 (S10.get 1 rfl) hx (by omega) (by omega)) rfl rfl ?_)
        rintro e11 w11 ⟨v11, rfl, T11, o, rfl, hov, hr11, hd11⟩
        refine ⟨_, rfl, ?_⟩
        have S11 := S10.turn 1 rfl T11
        have S12 := St.newT S10 1 rfl T11 (fun i hi => hi) hr11 (fun i hi => ⟨hd11 i hi, (World.ownsRow.lt hr11 i hi).2⟩)
        refine L_y (y_move rfl) rfl ?_
        refine L_y (y_extract rfl rfl) rfl ?_
        refine L_y (y_extract rfl rfl) rfl ?_
        refine L_o (o_alloc zz57 S12 rfl fun b13 w13 hb13 S13 => ?_)
        refine L_o (o_stW S13 6 rfl rfl rfl sz57 rfl (opf_one o) fun w14 S14 => ?_)
        refine L_y (y_assign rfl) rfl ?_
        refine L_nil ?_
        refine hK12 _ _ ?_
        refine T_seq fun K13 hK13 => ?_
        refine T_seq fun K14 hK14 => ?_
        refine T_region ?_
        refine L_y (y_move rfl) rfl ?_
        refine L_y (y_neq rfl rfl) rfl ?_
        refine L_nil ?_
        refine hK14 _ _ ?_
        refine T_cond rfl (fun h38 => ?_) (fun h38 => ?_)
        ·
          refine T_seq fun K15 hK15 => ?_
          refine T_region ?_
          refine L_y (y_build rfl (show _ = some (scA 0 0 none 0 0) by kernel_rfl)) rfl ?_
          refine L_y (y_move rfl) rfl ?_
          refine L_o (o_stW S14 0 rfl rfl rfl sz25 rfl (scA_one _ _ _ _ _) fun w15 S15 => ?_)
          refine L_y (y_assign rfl) rfl ?_
          refine L_nil ?_
          refine hK15 _ _ ?_
          refine T_ret ?_
          repeat (first | with_reducible refine up_then ?_ | with_reducible refine up_in ?_)
          refine retct rfl rfl rfl (S15.blk 0 rfl) Try.underlying25 rfl (by exact sz25) ?_
          exact ⟨_, rfl, S15.like0, none, 0, [], by rw [read_e2 hq0 (hrd.err hx (by omega)) (by omega)]; rfl, Rs.nil _ 4, (fun o ho => (List.not_mem_nil ho).elim), by rw [read_e2 hq0 (hrd.err hx (by omega)) (by omega)]; rfl⟩
        ·
          have h380 : (rdO l p x ((vaN l 0 0 4000).1 : Int)).e = 0 := by omega
          obtain ⟨hro1, hro2, hro3, hro4⟩ := rdO_ok hx h380
          rw [← hov] at hro4
          rw [hro1] at S14
          refine T_skip ?_
          refine hK13 _ _ ?_
          refine T_seq fun K16 hK16 => ?_
          refine T_seq fun K17 hK17 => ?_
          refine T_region ?_
          refine L_y (y_ldW Try.underlying57 rfl sz57 rfl (S14.blk 6 rfl) (show _ = opf o ∧ _ from ⟨rfl, rfl⟩)) rfl ?_
          refine L_o (o_call Try.func38 rfl rfl (osize o w14 (S14.row 5 rfl)) rfl rfl ?_)
          rintro e16 w16 ⟨v16, rfl, l16, rfl⟩
          refine ⟨_, rfl, ?_⟩
          have S16 := S14.like l16
          refine L_y (y_move rfl) rfl ?_
          refine L_y (y_gtr rfl rfl) rfl ?_
          refine L_nil ?_
          refine hK17 _ _ ?_
          refine T_cond rfl (fun h44 => ?_) (fun h44 => ?_)
          ·
            refine T_seq fun K18 hK18 => ?_
            refine T_region ?_
            refine L_y (y_build rfl (show _ = some (scA 0 0 none 0 0) by kernel_rfl)) rfl ?_
            refine L_o (o_stW S16 0 rfl rfl rfl sz25 rfl (scA_one _ _ _ _ _) fun w17 S17 => ?_)
            refine L_y (y_assign rfl) rfl ?_
            refine L_nil ?_
            refine hK18 _ _ ?_
            refine T_ret ?_
            repeat (first | with_reducible refine up_then ?_ | with_reducible refine up_in ?_)
            refine retct rfl rfl rfl (S17.blk 0 rfl) Try.underlying25 rfl (by exact sz25) ?_
            exact ⟨_, rfl, S17.like0, none, 0, [], by rw [read_e2 hq0 (hrd.long hx h380 (by rw [← hov]; omega)) (by decide)]; rfl, Rs.nil _ 4, (fun o ho => (List.not_mem_nil ho).elim), by rw [read_e2 hq0 (hrd.long hx h380 (by rw [← hov]; omega)) (by decide)]; rfl⟩
          ·
            refine T_skip ?_
            refine hK16 _ _ ?_
            refine T_seq fun K19 hK19 => ?_
            refine T_region ?_
            refine L_y (y_move rfl) rfl ?_
            refine L_y (y_ldW Try.underlying57 rfl sz57 rfl (S16.blk 6 rfl) (show _ = opf o ∧ _ from ⟨rfl, rfl⟩)) rfl ?_
            refine L_o (o_call Try.func38 rfl rfl (osize o w16 (S16.row 5 rfl)) rfl rfl ?_)
            rintro e18 w18 ⟨v18, rfl, l18, rfl⟩
            refine ⟨_, rfl, ?_⟩
            have S18 := S16.like l18
            refine L_y (y_sub rfl rfl (i64w (by omega))) rfl ?_
            refine L_y (y_assign rfl) rfl ?_
            refine L_nil ?_
            refine hK19 _ _ ?_
            refine T_region ?_
            refine L_y (y_fieldA 2 Try.underlying25 rfl sz23 rfl rfl rfl) rfl ?_
            refine L_y (y_ldc Try.underlying23 rfl rfl (((S18.blk 2 rfl).cell _).trans (by rfl))) rfl ?_
            refine L_y (y_ldW Try.underlying57 rfl sz57 rfl (S18.blk 6 rfl) (show _ = opf o ∧ _ from ⟨rfl, rfl⟩)) rfl ?_
            refine L_o (o_bsl (opf o) te23 zz57 S18 rfl rfl rfl rfl rfl rfl rfl rfl fun b19 w19 S19 => ?_)
            refine L_o (o_app te23 S19 3 rfl rfl rfl (by first | exact S19.row 3 rfl | exact S19.fix 4 rfl | exact S19.row 5 rfl | exact S19.row 7 rfl) (opf_one o) rfl (by omega) (by omega) fun A20 c20 w20 S20 => ?_)
            have S20d := S20.drop (rs' := [_, _, _, _, _, _, _]) (.cons_cons _ (.cons_cons _ (.cons_cons _ (.cons_cons _ (.cons_cons _ (.cons_cons _ (.cons_cons _ (.cons _ (.refl _)))))))))
            refine L_y (y_fieldA 2 Try.underlying25 rfl sz23 rfl rfl rfl) rfl ?_
            refine L_o (o_st1 S20d 2 rfl rfl rfl rfl sz23 (by show 2 < 3; decide) fun w21 S21 => ?_)
            refine L_nil ?_
            have S91 := S21.blkc 2 rfl ((scA_set ((vaN l 0 0 4000).1 : Int) ((vaN l (vaN l 0 0 4000).2.1 (vaN l 0 0 4000).2.2 4000).1 : Int) A1 ops.length c1 A20 (ops.length + 1) c20).trans (show _ = scA ((vaN l 0 0 4000).1 : Int) ((vaN l (vaN l 0 0 4000).2.1 (vaN l 0 0 4000).2.2 4000).1 : Int) A20 (ops ++ [o]).length c20 from by rw [List.length_append]; rfl))
            have S92 := S91.rowc 3 rfl (n' := (ops ++ [o]).length) (xs' := (ops ++ [o]).flatMap opf) (by rw [List.length_append]; rfl) (by rw [List.flatMap_append]; simp)
            have S93 := (S92.still 5 rfl).sel [0, 1, 2, 3, 4, 5] (by decide)
            have S94 := famAdd (rs := [_, _, _, _, fam (ps.map partR)]) (ps := ps) (p := o.p) S93 4 rfl
            refine ⟨(rdO l p x ((vaN l 0 0 4000).1 : Int)).p, left - szV o.v, A20, c20, ops ++ [o], ps ++ [o.p], by omega, ⟨⟨by omega, by omega, by rw [List.length_append, List.length_singleton]; omega, hin.add, by rw [List.map_append, List.map_singleton, hov]; exact hrd.next hx h380 (by rw [← hov]; omega)⟩, S94⟩, ?_⟩
            exact (Sub.cons rfl (by first | rfl | exact congrArg (Value.int _) (by omega)) (Sub.cons rfl rfl (Sub.cons rfl rfl (Sub.cons rfl rfl (Sub.nil _)))))
      ·
        refine T_exit ?_
        refine hK9 _ _ ?_
        refine T_seq fun K20 hK20 => ?_
        refine T_seq fun K21 hK21 => ?_
        refine T_region ?_
        refine L_y (y_move rfl) rfl ?_
        refine L_y (y_gtr rfl rfl) rfl ?_
        refine L_nil ?_
        refine hK21 _ _ ?_
        refine T_cond rfl (fun h57 => ?_) (fun h57 => ?_)
        ·
          refine T_seq fun K22 hK22 => ?_
          refine T_region ?_
          refine L_y (y_build rfl (show _ = some (scA 0 0 none 0 0) by kernel_rfl)) rfl ?_
          refine L_o (o_stW S10 0 rfl rfl rfl sz25 rfl (scA_one _ _ _ _ _) fun w22 S22 => ?_)
          refine L_y (y_assign rfl) rfl ?_
          refine L_nil ?_
          refine hK22 _ _ ?_
          refine T_ret ?_
          repeat (first | with_reducible refine up_then ?_ | with_reducible refine up_in ?_)
          refine retct rfl rfl rfl (S22.blk 0 rfl) Try.underlying25 rfl (by exact sz25) ?_
          have hst := hrd.stop (by omega)
          rw [if_pos (by omega)] at hst
          exact ⟨_, rfl, S22.like0, none, 0, [], by rw [read_e2 hq0 hst (by decide)]; rfl, Rs.nil _ 4, (fun o ho => (List.not_mem_nil ho).elim), by rw [read_e2 hq0 hst (by decide)]; rfl⟩
        ·
          refine T_skip ?_
          refine hK20 _ _ ?_
          refine T_seq fun K23 hK23 => ?_
          refine T_region ?_
          refine L_y (y_ldW Try.underlying25 rfl sz25 rfl (S10.blk 2 rfl) (show _ = (scA ((vaN l 0 0 4000).1 : Int) ((vaN l (vaN l 0 0 4000).2.1 (vaN l 0 0 4000).2.2 4000).1 : Int) A1 ops.length c1).toList ∧ _ from ⟨rfl, rfl⟩)) rfl ?_
          refine L_o (o_stW S10 0 rfl rfl rfl sz25 rfl (scA_one _ _ _ _ _) fun w23 S23 => ?_)
          refine L_y (y_assign rfl) rfl ?_
          refine L_nil ?_
          refine hK23 _ _ ?_
          refine T_ret ?_
          repeat (first | with_reducible refine up_then ?_ | with_reducible refine up_in ?_)
          refine retct rfl rfl rfl (S23.blk 0 rfl) Try.underlying25 rfl (by exact sz25) ?_
          have hst := hrd.stop (by omega)
          rw [if_neg (by omega)] at hst
          exact ⟨_, rfl, S23.like0, A1, c1, ops, by rw [read_ok hq0 hst], S23.row 3 rfl, okO_of hin (S23.get 4 rfl), by rw [read_ok hq0 hst]⟩
end Go.Proofs.Ytpcgldkllnkaeaa

/-
  The document: Read.
-/
namespace Go.Proofs.Ytpcgldkllnkaeaa
open Go.RowKit Zk Zx
set_option linter.unusedVariables false
set_option linter.unusedSimpArgs false

theorem xbig1 (g : Nat) (A : Option Addr) (n c : Nat) (l : List UInt8) (p : Nat) (x : UInt8) (w0 : World) (hw : (xr g A n c p 0).holds w0) (hb : Rs w0 1 A n c (bL l)) (hx : l[p]? = some x) (hn62 : n ≤ 70368744177664) (hbg : ∀ ad, 0 < n → A = some ad → ad.block ≠ g) :
    Calls Try.prog 49 #[.pointer (some ⟨g, 0, none⟩), .int .i64 1] w0 fun e w' => ∃ u, e = .returned u ∧ u = .int .u64 (x.toNat : Int) ∧ Turned w0 w' (xr g A n c p 0) (xr g A n c (p + 1) 0) := by
  have hp := (List.getElem?_eq_some_iff.1 hx).1
  refine (xbig g A n c l p 0 1 w0 hw hb (by omega) hn62 hbg (by omega)).mono fun e w' ⟨u, h1, h2, h3⟩ => ⟨u, h1, ?_, ?_⟩
  · obtain ⟨y, hy, htk, _⟩ := tk_one (show 1 ≤ l.length - p by omega)
    rw [hx] at hy
    obtain rfl := Option.some.inj hy
    rw [h2, rwL, if_pos rfl, htk]
    simp [be]
  · rw [show rwP l p 0 1 = p + 1 by rw [rwP, if_pos rfl, tkP, if_pos (by omega)], show rwE l p 0 1 = 0 by rw [rwE, if_pos rfl, tkE_ok (by omega)]] at h3
    exact h3


set_option maxRecDepth 100000 in
theorem rread (B : Option Addr) (m d : Nat) (l : List UInt8) (w0 : World) (hb : Rs w0 1 B m d (bL l)) (hm5 : m ≤ 10000) :
    Calls Try.prog 24 #[.slice B m d] w0 fun e w' => ∃ u, e = .returned u ∧ Like w0 w' ∧ ∃ A' c' qs, u = .tuple #[.agg (scA (readV l).1 (readV l).2.1 A' qs.length c'), .int .i64 (readV l).2.2.2] ∧ Rs w' 4 A' qs.length c' (qs.flatMap opf) ∧ OkO w' qs ∧ qs.map OP.v = (readV l).2.2.1 := by
  refine enter1 (env := [(0, .slice B m d)]) [.slice B m d] Try.func24 rfl Try.ntmps24 rfl rfl ?_
  have hnl := hb.lenb; have hcap := hb.cap; have hmax := hb.max; have S0 := St.start w0 noM
  refine T_seq fun K1 hK1 => ?_
  refine T_region ?_
  refine L_o (o_alloc zz30 S0 rfl fun b1 w1 hb1 S1 => ?_)
  refine L_y (y_assign rfl) rfl ?_
  refine L_nil ?_
  refine hK1 _ _ ?_
  refine T_seq fun K2 hK2 => ?_
  refine T_region ?_
  refine L_y (y_move rfl) rfl ?_
  refine L_y (y_build rfl (show _ = some #[Value.slice B m d, Value.int .i64 ((0 : Nat) : Int), Value.int .i64 ((0 : Nat) : Int)] by kernel_rfl)) rfl ?_
  refine L_o (o_box rfl S1 rfl fun b2 w2 hb2 S2 => ?_)
  have hbg : ∀ ad, 0 < m → B = some ad → ad.block ≠ b2 := fun ad h1 h2 => by have := old_block hb h1 h2; omega
  refine L_y (y_assign rfl) rfl ?_
  refine L_nil ?_
  refine hK2 _ _ ?_
  refine T_seq fun K3 hK3 => ?_
  refine T_region ?_
  refine L_y (y_move rfl) rfl ?_
  refine L_o (o_call Try.func48 rfl rfl (xvar b2 B m d l 0 0 4000 w2 (S2.get 1 rfl) (S2.rd hb) (by omega) (by omega) hbg) rfl rfl ?_)
  rintro e3 w3 ⟨v3, rfl, rfl, T3⟩
  refine ⟨_, rfl, ?_⟩
  have S3 := S2.turn 1 rfl T3
  have hF := vaN_le l 0 0 4000 (by omega)
  have hFm := vaN_m l 0 0 4000
  refine L_y (y_conv is65 Try.underlying3 rfl (i64w (by omega))) rfl ?_
  refine L_y (y_build rfl (show _ = some (scA ((vaN l 0 0 4000).1 : Int) 0 none 0 0) by kernel_rfl)) rfl ?_
  refine L_o (o_alloc zz30 S3 rfl fun b4 w4 hb4 S4 => ?_)
  refine L_o (o_stW S4 2 rfl rfl rfl sz30 rfl (scA_one _ _ _ _ _) fun w5 S5 => ?_)
  refine L_nil ?_
  refine hK3 _ _ ?_
  refine T_seq fun K4 hK4 => ?_
  refine T_region ?_
  refine L_y (y_move rfl) rfl ?_
  refine L_o (o_call Try.func48 rfl rfl (xvar b2 B m d l _ _ 4000 w5 (S5.get 1 rfl) (S5.rd hb) (by omega) (by omega) hbg) rfl rfl ?_)
  rintro e6 w6 ⟨v6, rfl, rfl, T6⟩
  refine ⟨_, rfl, ?_⟩
  have S6 := S5.turn 1 rfl T6
  have hG := vaN_le l (vaN l 0 0 4000).2.1 (vaN l 0 0 4000).2.2 4000 (by omega)
  have hGm := vaN_m l (vaN l 0 0 4000).2.1 (vaN l 0 0 4000).2.2 4000
  refine L_y (y_conv is65 Try.underlying3 rfl (i64w (by omega))) rfl ?_
  refine L_y (y_fieldA 1 Try.underlying30 rfl sz3 rfl rfl rfl) rfl ?_
  refine L_o (o_st1 S6 2 rfl rfl rfl rfl sz3 (by show 1 < 3; decide) fun w7 S7 => ?_)
  refine L_nil ?_
  refine hK4 _ _ ?_
  refine T_seq fun K5 hK5 => ?_
  refine T_seq fun K6 hK6 => ?_
  refine T_region ?_
  refine L_y (y_move rfl) rfl ?_
  refine L_y (y_nilp rfl) rfl ?_
  refine L_y (y_fieldA 2 Try.underlying88 rfl sz3 rfl rfl rfl) rfl ?_
  refine L_y (y_ldc Try.underlying3 rfl rfl (((S7.blk 1 rfl).cell _).trans (by rfl))) rfl ?_
  refine L_y (y_neq rfl rfl) rfl ?_
  refine L_nil ?_
  refine hK6 _ _ ?_
  refine T_cond rfl (fun h25 => ?_) (fun h25 => ?_)
  ·
    refine T_seq fun K7 hK7 => ?_
    refine T_drawnX (fun w => Blk w b2 88 #[Value.slice B m d, Value.int .i64 ((vaN l (vaN l 0 0 4000).2.1 (vaN l 0 0 4000).2.2 4000).2.1 : Int), Value.int .i64 ((vaN l (vaN l 0 0 4000).2.1 (vaN l 0 0 4000).2.2 4000).2.2 : Int)]) hmix (by kernel_rfl) (fun w l => (S7.like l).blk 1 rfl) fun w8 l8 => ?_
    have S8 := S7.like l8
    refine DX_y 0 (by kernel_rfl) rfl (y_build rfl (show _ = some (scA 0 0 none 0 0) by kernel_rfl)) rfl ?_
    refine DX_y 1 (by kernel_rfl) rfl (y_move rfl) rfl ?_
    refine DX_y 2 (by kernel_rfl) rfl (y_nilp rfl) rfl ?_
    refine DX_y 3 (by kernel_rfl) rfl (y_fieldA 2 Try.underlying88 rfl sz3 rfl rfl rfl) rfl ?_
    refine DX_y 4 (by kernel_rfl) rfl (y_of fun w hw => y_ldc Try.underlying3 rfl rfl (((hw).cell _).trans (by rfl))) rfl ?_
    refine DX_o1 5 (by kernel_rfl) rfl ?_
    refine o_stW S8 0 rfl rfl rfl sz30 rfl (scA_one _ _ _ _ _) fun w9 S9 => ?_
    refine ⟨S9.blk 1 rfl, ?_⟩
    refine DX_y 6 (by kernel_rfl) rfl (y_assign rfl) rfl ?_
    refine DX_nil (by kernel_rfl) ?_
    refine hK7 _ _ ?_
    refine T_ret ?_
    repeat (first | with_reducible refine up_then ?_ | with_reducible refine up_in ?_)
    refine retct rfl rfl rfl (S9.blk 0 rfl) Try.underlying30 rfl (by exact sz30) ?_
    exact ⟨_, rfl, S9.like0, none, 0, [], by rw [read_e1 (by omega)]; rfl, Rs.nil _ 4, (fun o ho => (List.not_mem_nil ho).elim), by rw [read_e1 (by omega)]; rfl⟩
  ·
    have hq0 : (vaN l (vaN l 0 0 4000).2.1 (vaN l 0 0 4000).2.2 4000).2.2 = 0 := by omega
    rw [hq0] at S7
    refine T_skip ?_
    refine hK5 _ _ ?_
    refine T_seq fun K8 hK8 => ?_
    refine T_region ?_
    refine L_y (y_assign rfl) rfl ?_
    refine L_nil ?_
    refine hK8 _ _ ?_
    refine T_seq fun K9 hK9 => ?_
    refine T_block ?_
    refine T_loop6 [(0, _), (2, _), (4, _), (5, _)] (fun (p : Nat) (left : Int) (A1 : Option Addr) (c1 : Nat) (ops : List OP) (ps : List Part) => [(6, .int .i64 (((vaN l (vaN l 0 0 4000).2.1 (vaN l 0 0 4000).2.2 4000).1 : Int) - left))]) (fun (p : Nat) (left : Int) (A1 : Option Addr) (c1 : Nat) (ops : List OP) (ps : List Part) => m - p) (fun (p : Nat) (left : Int) (A1 : Option Addr) (c1 : Nat) (ops : List OP) (ps : List Part) (w : World) => (p ≤ m ∧ 0 ≤ left ∧ (ops.length : Int) + left ≤ ((vaN l (vaN l 0 0 4000).2.1 (vaN l 0 0 4000).2.2 4000).1 : Int) ∧ InP ops ps ∧ RDI l ((vaN l 0 0 4000).1 : Int) p left (ops.map OP.v) (rdR l)) ∧ St w0 noM [blk b1 30 #[.int .i64 0, .int .i64 0, .slice none 0 0], xr b2 B m d p 0, blk b4 30 (scA ((vaN l 0 0 4000).1 : Int) ((vaN l (vaN l 0 0 4000).2.1 (vaN l 0 0 4000).2.2 4000).1 : Int) A1 ops.length c1), row 58 4 A1 ops.length c1 (ops.flatMap opf), fam (ps.map partR)] w) (vaN l (vaN l 0 0 4000).2.1 (vaN l 0 0 4000).2.2 4000).2.1 ((vaN l (vaN l 0 0 4000).2.1 (vaN l 0 0 4000).2.2 4000).1 : Int) none 0 [] [] (Sub.cons rfl (by first | rfl | exact congrArg (Value.int _) (by omega)) (Sub.nil _)) (Sub.cons rfl rfl (Sub.cons rfl rfl (Sub.cons rfl rfl (Sub.cons rfl rfl (Sub.nil _))))) ?_ ?_
    ·
      have S9 := ((S7.nilrow 58 4).fam0)
      exact ⟨⟨by omega, by omega, by show (0 : Int) + _ ≤ _; omega, (fun o ho => (List.not_mem_nil ho).elim), RDI.start l ((vaN l 0 0 4000).1 : Int) (vaN l (vaN l 0 0 4000).2.1 (vaN l 0 0 4000).2.2 4000).2.1 ((vaN l (vaN l 0 0 4000).2.1 (vaN l 0 0 4000).2.2 4000).1 : Int)⟩, S9⟩
    ·
      intro p left A1 c1 ops ps w10 hrel
      obtain ⟨⟨hk, hl0, hol, hin, hrd⟩, S10⟩ := hrel
      refine T_seq fun K10 hK10 => ?_
      refine T_seq fun K11 hK11 => ?_
      refine T_region ?_
      refine L_y (y_move rfl) rfl ?_
      refine L_y (y_nilp rfl) rfl ?_
      refine L_y (y_fieldA 1 Try.underlying88 rfl sz3 rfl rfl rfl) rfl ?_
      refine L_y (y_ldc Try.underlying3 rfl rfl (((S10.blk 1 rfl).cell _).trans (by rfl))) rfl ?_
      refine L_y (y_move rfl) rfl ?_
      refine L_y (y_len Try.underlying22 rfl) rfl ?_
      refine L_y (y_lss rfl rfl) rfl ?_
      refine L_nil ?_
      refine hK11 _ _ ?_
      refine T_cond rfl (fun h37 => ?_) (fun h37 => ?_)
      ·
        obtain ⟨x, hx⟩ : ∃ x, l[p]? = some x := ⟨_, List.getElem?_eq_getElem (by omega)⟩
        have hxl := x.toNat_lt
        refine T_skip ?_
        refine hK10 _ _ ?_
        refine T_block ?_
        refine T_seq fun K12 hK12 => ?_
        refine T_region ?_
        refine L_y (y_move rfl) rfl ?_
        refine L_o (o_call Try.func49 rfl rfl (xbig1 b2 B m d l p x w10 (S10.get 1 rfl) (S10.rd hb) hx (by omega) hbg) rfl rfl ?_)
        rintro e11 w11 ⟨v11, rfl, rfl, T11⟩
        refine ⟨_, rfl, ?_⟩
        have S11 := S10.turn 1 rfl T11
        refine L_y (y_conv is65 Try.underlying3 rfl (i64w (by omega))) rfl ?_
        refine L_y (y_assign rfl) rfl ?_
        refine L_nil ?_
        refine hK12 _ _ ?_
        refine T_seq fun K13 hK13 => ?_
        refine T_seq fun K14 hK14 => ?_
        refine T_region ?_
        refine L_y (y_move rfl) rfl ?_
        refine L_y (y_gtr rfl rfl) rfl ?_
        refine L_nil ?_
        refine hK14 _ _ ?_
        refine T_cond rfl (fun h42 => ?_) (fun h42 => ?_)
        ·
          refine T_seq fun K15 hK15 => ?_
          refine T_region ?_
          refine L_y (y_build rfl (show _ = some (scA 0 0 none 0 0) by kernel_rfl)) rfl ?_
          refine L_o (o_stW S11 0 rfl rfl rfl sz30 rfl (scA_one _ _ _ _ _) fun w12 S12 => ?_)
          refine L_y (y_assign rfl) rfl ?_
          refine L_nil ?_
          refine hK15 _ _ ?_
          refine T_ret ?_
          repeat (first | with_reducible refine up_then ?_ | with_reducible refine up_in ?_)
          refine retct rfl rfl rfl (S12.blk 0 rfl) Try.underlying30 rfl (by exact sz30) ?_
          have hR : (rdO l p x ((vaN l 0 0 4000).1 : Int)).e = 19 := by rw [rdO_bad (by omega)]
          have her := hrd.err hx (by rw [hR]; omega)
          rw [hR] at her
          exact ⟨_, rfl, S12.like0, none, 0, [], by rw [read_e2 hq0 her (by omega)]; rfl, Rs.nil _ 4, (fun o ho => (List.not_mem_nil ho).elim), by rw [read_e2 hq0 her (by omega)]; rfl⟩
        ·
          refine T_skip ?_
          refine hK13 _ _ ?_
          refine T_seq fun K16 hK16 => ?_
          refine T_region ?_
          refine L_y (y_move rfl) rfl ?_
          refine L_y (y_eql rfl rfl) rfl ?_
          refine L_y (y_build rfl (show _ = some #[Value.bool (decide ((x.toNat : Int) = 1)), Value.int .i64 0, Value.int .i64 0, Value.slice none 0 0] by kernel_rfl)) rfl ?_
          refine L_o (o_alloc zz58 S11 rfl fun b13 w13 hb13 S13 => ?_)
          refine L_o (o_stW S13 5 rfl rfl rfl sz58 rfl (by intro u hu; simp at hu; rcases hu with rfl | rfl | rfl | rfl <;> rfl) fun w14 S14 => ?_)
          refine L_nil ?_
          refine hK16 _ _ ?_
          refine T_seq fun K17 hK17 => ?_
          refine T_seq fun K18 hK18 => ?_
          refine T_region ?_
          refine L_y (y_fieldA 0 Try.underlying58 rfl sz4 rfl rfl rfl) rfl ?_
          refine L_y (y_ldc Try.underlying4 rfl rfl (((S14.blk 5 rfl).cell _).trans (by rfl))) rfl ?_
          refine L_nil ?_
          refine hK18 _ _ ?_
          refine T_cond rfl (fun h48 => ?_) (fun h48 => ?_)
          ·
            have hx1 : x.toNat = 1 := by omega
            rw [decide_eq_true (show ((x.toNat : Nat) : Int) = 1 by omega)] at S14
            refine T_region ?_
            refine L_y (y_move rfl) rfl ?_
            refine L_o (o_call Try.func48 rfl rfl (xvar b2 B m d l (p + 1) 0 4000 w14 (S14.get 1 rfl) (S14.rd hb) (by omega) (by omega) hbg) rfl rfl ?_)
            rintro e15 w15 ⟨v15, rfl, rfl, T15⟩
            refine ⟨_, rfl, ?_⟩
            have S15 := S14.turn 1 rfl T15
            have hF2 := vaN_le l (p + 1) 0 4000 (by omega)
            have hFm2 := vaN_m l (p + 1) 0 4000
            refine L_y (y_conv is65 Try.underlying3 rfl (i64w (by omega))) rfl ?_
            refine L_y (y_fieldA 1 Try.underlying58 rfl sz3 rfl rfl rfl) rfl ?_
            refine L_o (o_st1 S15 5 rfl rfl rfl rfl sz3 (by simp; done) fun w16 S16 => ?_)
            refine L_nil ?_
            refine hK17 _ _ ?_
            refine T_seq fun K19 hK19 => ?_
            refine T_region ?_
            refine L_y (y_move rfl) rfl ?_
            refine L_o (o_call Try.func48 rfl rfl (xvar b2 B m d l _ _ 4000 w16 (S16.get 1 rfl) (S16.rd hb) (by omega) (by omega) hbg) rfl rfl ?_)
            rintro e17 w17 ⟨v17, rfl, rfl, T17⟩
            refine ⟨_, rfl, ?_⟩
            have S17 := S16.turn 1 rfl T17
            have hG2 := vaN_le l (vaN l (p + 1) 0 4000).2.1 (vaN l (p + 1) 0 4000).2.2 4000 (by omega)
            have hGm2 := vaN_m l (vaN l (p + 1) 0 4000).2.1 (vaN l (p + 1) 0 4000).2.2 4000
            refine L_y (y_conv is65 Try.underlying3 rfl (i64w (by omega))) rfl ?_
            refine L_y (y_assign rfl) rfl ?_
            refine L_nil ?_
            refine hK19 _ _ ?_
            refine T_seq fun K20 hK20 => ?_
            refine T_seq fun K21 hK21 => ?_
            refine T_region ?_
            refine L_y (y_move rfl) rfl ?_
            refine L_y (y_nilp rfl) rfl ?_
            refine L_y (y_fieldA 2 Try.underlying88 rfl sz3 rfl rfl rfl) rfl ?_
            refine L_y (y_ldc Try.underlying3 rfl rfl (((S17.blk 1 rfl).cell _).trans (by rfl))) rfl ?_
            refine L_y (y_neq rfl rfl) rfl ?_
            refine L_nil ?_
            refine hK21 _ _ ?_
            refine T_cond rfl (fun h60 => ?_) (fun h60 => ?_)
            ·
              refine T_seq fun K22 hK22 => ?_
              refine T_drawnX (fun w => Blk w b2 88 #[Value.slice B m d, Value.int .i64 ((vaN l (vaN l (p + 1) 0 4000).2.1 (vaN l (p + 1) 0 4000).2.2 4000).2.1 : Int), Value.int .i64 ((vaN l (vaN l (p + 1) 0 4000).2.1 (vaN l (p + 1) 0 4000).2.2 4000).2.2 : Int)]) hmix (by kernel_rfl) (fun w l => (S17.like l).blk 1 rfl) fun w18 l18 => ?_
              have S18 := S17.like l18
              refine DX_y 0 (by kernel_rfl) rfl (y_build rfl (show _ = some (scA 0 0 none 0 0) by kernel_rfl)) rfl ?_
              refine DX_y 1 (by kernel_rfl) rfl (y_move rfl) rfl ?_
              refine DX_y 2 (by kernel_rfl) rfl (y_nilp rfl) rfl ?_
              refine DX_y 3 (by kernel_rfl) rfl (y_fieldA 2 Try.underlying88 rfl sz3 rfl rfl rfl) rfl ?_
              refine DX_y 4 (by kernel_rfl) rfl (y_of fun w hw => y_ldc Try.underlying3 rfl rfl (((hw).cell _).trans (by rfl))) rfl ?_
              refine DX_o1 5 (by kernel_rfl) rfl ?_
              refine o_stW S18 0 rfl rfl rfl sz30 rfl (scA_one _ _ _ _ _) fun w19 S19 => ?_
              refine ⟨S19.blk 1 rfl, ?_⟩
              refine DX_y 6 (by kernel_rfl) rfl (y_assign rfl) rfl ?_
              refine DX_nil (by kernel_rfl) ?_
              refine hK22 _ _ ?_
              refine T_ret ?_
              repeat (first | with_reducible refine up_then ?_ | with_reducible refine up_in ?_)
              refine retct rfl rfl rfl (S19.blk 0 rfl) Try.underlying30 rfl (by exact sz30) ?_
              have hR : (rdO l p x ((vaN l 0 0 4000).1 : Int)).e = ((vaN l (vaN l (p + 1) 0 4000).2.1 (vaN l (p + 1) 0 4000).2.2 4000).2.2 : Int) := by rw [rdO_cp hx1, rdN_err (by omega)]
              have her := hrd.err hx (by rw [hR]; omega)
              rw [hR] at her
              exact ⟨_, rfl, S19.like0, none, 0, [], by rw [read_e2 hq0 her (by omega)]; rfl, Rs.nil _ 4, (fun o ho => (List.not_mem_nil ho).elim), by rw [read_e2 hq0 her (by omega)]; rfl⟩
            ·
              have hq1 : (vaN l (vaN l (p + 1) 0 4000).2.1 (vaN l (p + 1) 0 4000).2.2 4000).2.2 = 0 := by omega
              rw [hq1] at S17
              refine T_skip ?_
              refine hK20 _ _ ?_
              refine T_seq fun K23 hK23 => ?_
              refine T_seq fun K24 hK24 => ?_
              refine T_region ?_
              refine L_y (y_move rfl) rfl ?_
              refine L_y (y_eql rfl rfl) rfl ?_
              refine L_nil ?_
              refine hK24 _ _ ?_
              refine T_cond rfl (fun h67 => ?_) (fun h67 => ?_)
              ·
                refine T_seq fun K25 hK25 => ?_
                refine T_region ?_
                refine L_y (y_build rfl (show _ = some (scA 0 0 none 0 0) by kernel_rfl)) rfl ?_
                refine L_o (o_stW S17 0 rfl rfl rfl sz30 rfl (scA_one _ _ _ _ _) fun w20 S20 => ?_)
                refine L_y (y_assign rfl) rfl ?_
                refine L_nil ?_
                refine hK25 _ _ ?_
                refine T_ret ?_
                repeat (first | with_reducible refine up_then ?_ | with_reducible refine up_in ?_)
                refine retct rfl rfl rfl (S20.blk 0 rfl) Try.underlying30 rfl (by exact sz30) ?_
                have hR : (rdO l p x ((vaN l 0 0 4000).1 : Int)).e = 12 := by rw [rdO_cp hx1, rdN_zero hq1 (by omega)]
                have her := hrd.err hx (by rw [hR]; omega)
                rw [hR] at her
                exact ⟨_, rfl, S20.like0, none, 0, [], by rw [read_e2 hq0 her (by omega)]; rfl, Rs.nil _ 4, (fun o ho => (List.not_mem_nil ho).elim), by rw [read_e2 hq0 her (by omega)]; rfl⟩
              ·
                refine T_skip ?_
                refine hK23 _ _ ?_
                refine T_seq fun K26 hK26 => ?_
                refine T_seq fun K27 hK27 => ?_
                refine T_region ?_
                refine L_y (y_fieldA 0 Try.underlying58 rfl sz4 rfl rfl rfl) rfl ?_
                refine L_y (y_ldc Try.underlying4 rfl rfl (((S17.blk 5 rfl).cell _).trans (by rfl))) rfl ?_
                refine L_nil ?_
                refine hK27 _ _ ?_
                refine T_true rfl ?_
                refine T_seq fun K28 hK28 => ?_
                refine T_region ?_
                refine L_y (y_move rfl) rfl ?_
                refine L_y (y_fieldA 2 Try.underlying58 rfl sz3 rfl rfl rfl) rfl ?_
                refine L_o (o_st1 S17 5 rfl rfl rfl rfl sz3 (by simp; done) fun w21 S21 => ?_)
                refine L_nil ?_
                refine hK28 _ _ ?_
                refine T_seq fun K29 hK29 => ?_
                refine T_region ?_
                refine L_y (y_fieldA 1 Try.underlying58 rfl sz3 rfl rfl rfl) rfl ?_
                refine L_y (y_ldc Try.underlying3 rfl rfl (((S21.blk 5 rfl).cell _).trans (by rfl))) rfl ?_
                refine L_y (y_move rfl) rfl ?_
                refine L_y (y_add rfl rfl (i64w (by omega))) rfl ?_
                refine L_y (y_fieldA 0 Try.underlying30 rfl sz3 rfl rfl rfl) rfl ?_
                refine L_y (y_ldc Try.underlying3 rfl rfl (((S21.blk 2 rfl).cell _).trans (by rfl))) rfl ?_
                refine L_y (y_gtr rfl rfl) rfl ?_
                refine L_nil ?_
                refine hK29 _ _ ?_
                refine T_cond rfl (fun h79 => ?_) (fun h79 => ?_)
                ·
                  refine T_seq fun K30 hK30 => ?_
                  refine T_region ?_
                  refine L_y (y_build rfl (show _ = some (scA 0 0 none 0 0) by kernel_rfl)) rfl ?_
                  refine L_o (o_stW S21 0 rfl rfl rfl sz30 rfl (scA_one _ _ _ _ _) fun w22 S22 => ?_)
                  refine L_y (y_assign rfl) rfl ?_
                  refine L_nil ?_
                  refine hK30 _ _ ?_
                  refine T_ret ?_
                  repeat (first | with_reducible refine up_then ?_ | with_reducible refine up_in ?_)
                  refine retct rfl rfl rfl (S22.blk 0 rfl) Try.underlying30 rfl (by exact sz30) ?_
                  have hR : (rdO l p x ((vaN l 0 0 4000).1 : Int)).e = 21 := by rw [rdO_cp hx1, rdN_far hq1 (by omega) (by omega)]
                  have her := hrd.err hx (by rw [hR]; omega)
                  rw [hR] at her
                  exact ⟨_, rfl, S22.like0, none, 0, [], by rw [read_e2 hq0 her (by omega)]; rfl, Rs.nil _ 4, (fun o ho => (List.not_mem_nil ho).elim), by rw [read_e2 hq0 her (by omega)]; rfl⟩
                ·
                  have hR : (rdO l p x ((vaN l 0 0 4000).1 : Int)) = ⟨(⟨true, ((vaN l (p + 1) 0 4000).1 : Int), ((vaN l (vaN l (p + 1) 0 4000).2.1 (vaN l (p + 1) 0 4000).2.2 4000).1 : Int), p0⟩ : OP).v, (vaN l (vaN l (p + 1) 0 4000).2.1 (vaN l (p + 1) 0 4000).2.2 4000).2.1, 0, 0⟩ := by rw [rdO_cp hx1, rdN_cp hq1 (by omega) (by omega)]; rfl
                  have hsz : szV (⟨true, ((vaN l (p + 1) 0 4000).1 : Int), ((vaN l (vaN l (p + 1) 0 4000).2.1 (vaN l (p + 1) 0 4000).2.2 4000).1 : Int), p0⟩ : OP).v = ((vaN l (vaN l (p + 1) 0 4000).2.1 (vaN l (p + 1) 0 4000).2.2 4000).1 : Int) := rfl
                  obtain ⟨hro1, hro2, hro3, hro4⟩ := rdO_ok (base := ((vaN l 0 0 4000).1 : Int)) hx (by rw [hR])
                  refine T_skip ?_
                  refine hK26 _ _ ?_
                  refine T_seq fun K31 hK31 => ?_
                  refine T_region ?_
                  refine L_y (y_move rfl) rfl ?_
                  refine L_y (y_move rfl) rfl ?_
                  refine L_y (y_add rfl rfl (i64w (by omega))) rfl ?_
                  refine L_y (y_assign rfl) rfl ?_
                  refine L_nil ?_
                  refine hK31 _ _ ?_
                  refine T_seq fun K32 hK32 => ?_
                  refine T_seq fun K33 hK33 => ?_
                  refine T_region ?_
                  refine L_y (y_move rfl) rfl ?_
                  refine L_y (y_fieldA 1 Try.underlying30 rfl sz3 rfl rfl rfl) rfl ?_
                  refine L_y (y_ldc Try.underlying3 rfl rfl (((S21.blk 2 rfl).cell _).trans (by rfl))) rfl ?_
                  refine L_y (y_gtr rfl rfl) rfl ?_
                  refine L_nil ?_
                  refine hK33 _ _ ?_
                  refine T_cond rfl (fun h101 => ?_) (fun h101 => ?_)
                  ·
                    refine T_seq fun K34 hK34 => ?_
                    refine T_region ?_
                    refine L_y (y_build rfl (show _ = some (scA 0 0 none 0 0) by kernel_rfl)) rfl ?_
                    refine L_o (o_stW S21 0 rfl rfl rfl sz30 rfl (scA_one _ _ _ _ _) fun w23 S23 => ?_)
                    refine L_y (y_assign rfl) rfl ?_
                    refine L_nil ?_
                    refine hK34 _ _ ?_
                    refine T_ret ?_
                    repeat (first | with_reducible refine up_then ?_ | with_reducible refine up_in ?_)
                    refine retct rfl rfl rfl (S23.blk 0 rfl) Try.underlying30 rfl (by exact sz30) ?_
                    have her := hrd.long hx (by rw [hR]) (by rw [hR]; show left < szV (⟨true, ((vaN l (p + 1) 0 4000).1 : Int), ((vaN l (vaN l (p + 1) 0 4000).2.1 (vaN l (p + 1) 0 4000).2.2 4000).1 : Int), p0⟩ : OP).v; rw [hsz]; omega)
                    exact ⟨_, rfl, S23.like0, none, 0, [], by rw [read_e2 hq0 her (by decide)]; rfl, Rs.nil _ 4, (fun o ho => (List.not_mem_nil ho).elim), by rw [read_e2 hq0 her (by decide)]; rfl⟩
                  ·
                    refine T_skip ?_
                    refine hK32 _ _ ?_
                    refine T_region ?_
                    refine L_y (y_fieldA 2 Try.underlying30 rfl sz28 rfl rfl rfl) rfl ?_
                    refine L_y (y_ldc Try.underlying28 rfl rfl (((S21.blk 2 rfl).cell _).trans (by rfl))) rfl ?_
                    refine L_y (y_ldW Try.underlying58 rfl sz58 rfl (S21.blk 5 rfl) (show _ = opf (⟨true, ((vaN l (p + 1) 0 4000).1 : Int), ((vaN l (vaN l (p + 1) 0 4000).2.1 (vaN l (p + 1) 0 4000).2.2 4000).1 : Int), p0⟩ : OP) ∧ _ from ⟨rfl, rfl⟩)) rfl ?_
                    refine L_o (o_bsl (opf (⟨true, ((vaN l (p + 1) 0 4000).1 : Int), ((vaN l (vaN l (p + 1) 0 4000).2.1 (vaN l (p + 1) 0 4000).2.2 4000).1 : Int), p0⟩ : OP)) te28 zz58 S21 rfl rfl rfl rfl rfl rfl rfl rfl fun b24 w24 S24 => ?_)
                    refine L_o (o_app te28 S24 3 rfl rfl rfl (by first | exact S24.row 3 rfl | exact S24.fix 4 rfl | exact S24.row 6 rfl) (opf_one _) rfl (by omega) (by omega) fun A25 c25 w25 S25 => ?_)
                    have S25d := S25.drop (rs' := [_, _, _, _, _, _]) (.cons_cons _ (.cons_cons _ (.cons_cons _ (.cons_cons _ (.cons_cons _ (.cons_cons _ (.cons _ (.refl _))))))))
                    refine L_y (y_fieldA 2 Try.underlying30 rfl sz28 rfl rfl rfl) rfl ?_
                    refine L_o (o_st1 S25d 2 rfl rfl rfl rfl sz28 (by show 2 < 3; decide) fun w26 S26 => ?_)
                    refine L_nil ?_
                    have S91 := S26.blkc 2 rfl ((scA_set ((vaN l 0 0 4000).1 : Int) ((vaN l (vaN l 0 0 4000).2.1 (vaN l 0 0 4000).2.2 4000).1 : Int) A1 ops.length c1 A25 (ops.length + 1) c25).trans (show _ = scA ((vaN l 0 0 4000).1 : Int) ((vaN l (vaN l 0 0 4000).2.1 (vaN l 0 0 4000).2.2 4000).1 : Int) A25 (ops ++ [(⟨true, ((vaN l (p + 1) 0 4000).1 : Int), ((vaN l (vaN l (p + 1) 0 4000).2.1 (vaN l (p + 1) 0 4000).2.2 4000).1 : Int), p0⟩ : OP)]).length c25 from by rw [List.length_append]; rfl))
                    have S92 := S91.rowc 3 rfl (n' := (ops ++ [(⟨true, ((vaN l (p + 1) 0 4000).1 : Int), ((vaN l (vaN l (p + 1) 0 4000).2.1 (vaN l (p + 1) 0 4000).2.2 4000).1 : Int), p0⟩ : OP)]).length) (xs' := (ops ++ [(⟨true, ((vaN l (p + 1) 0 4000).1 : Int), ((vaN l (vaN l (p + 1) 0 4000).2.1 (vaN l (p + 1) 0 4000).2.2 4000).1 : Int), p0⟩ : OP)]).flatMap opf) (by rw [List.length_append]; rfl) (by rw [List.flatMap_append]; simp)
                    have S94 := S92.sel [0, 1, 2, 3, 4] (by decide)
                    have hnx := hrd.next hx (by rw [hR]) (by rw [hR]; show ¬ left < szV (⟨true, ((vaN l (p + 1) 0 4000).1 : Int), ((vaN l (vaN l (p + 1) 0 4000).2.1 (vaN l (p + 1) 0 4000).2.2 4000).1 : Int), p0⟩ : OP).v; rw [hsz]; omega)
                    rw [show szV (rdO l p x ((vaN l 0 0 4000).1 : Int)).o = ((vaN l (vaN l (p + 1) 0 4000).2.1 (vaN l (p + 1) 0 4000).2.2 4000).1 : Int) from by rw [hR]; exact hsz, show (rdO l p x ((vaN l 0 0 4000).1 : Int)).o = (⟨true, ((vaN l (p + 1) 0 4000).1 : Int), ((vaN l (vaN l (p + 1) 0 4000).2.1 (vaN l (p + 1) 0 4000).2.2 4000).1 : Int), p0⟩ : OP).v from by rw [hR]] at hnx
                    rw [show ((vaN l (vaN l (p + 1) 0 4000).2.1 (vaN l (p + 1) 0 4000).2.2 4000) : Nat × Nat × Nat).2.1 = (rdO l p x ((vaN l 0 0 4000).1 : Int)).p from by rw [hR]] at S94
                    refine ⟨(rdO l p x ((vaN l 0 0 4000).1 : Int)).p, left - ((vaN l (vaN l (p + 1) 0 4000).2.1 (vaN l (p + 1) 0 4000).2.2 4000).1 : Int), A25, c25, ops ++ [(⟨true, ((vaN l (p + 1) 0 4000).1 : Int), ((vaN l (vaN l (p + 1) 0 4000).2.1 (vaN l (p + 1) 0 4000).2.2 4000).1 : Int), p0⟩ : OP)], ps, by omega, ⟨⟨by omega, by omega, by rw [List.length_append, List.length_singleton]; omega, hin.add0 rfl, by rw [List.map_append, List.map_singleton]; exact hnx⟩, S94⟩, ?_⟩
                    exact (Sub.cons rfl (congrArg (Value.int _) (by omega)) (Sub.cons rfl rfl (Sub.cons rfl rfl (Sub.cons rfl rfl (Sub.cons rfl rfl (Sub.nil _))))))
          ·
            have hx1 : ¬ x.toNat = 1 := by omega
            rw [decide_eq_false (show ¬ ((x.toNat : Nat) : Int) = 1 by omega)] at S14
            refine T_skip ?_
            refine hK17 _ _ ?_
            refine T_seq fun K35 hK35 => ?_
            refine T_region ?_
            refine L_y (y_move rfl) rfl ?_
            refine L_o (o_call Try.func48 rfl rfl (xvar b2 B m d l _ _ 4000 w14 (S14.get 1 rfl) (S14.rd hb) (by omega) (by omega) hbg) rfl rfl ?_)
            rintro e27 w27 ⟨v27, rfl, rfl, T27⟩
            refine ⟨_, rfl, ?_⟩
            have S27 := S14.turn 1 rfl T27
            have hG2 := vaN_le l (p + 1) 0 4000 (by omega)
            have hGm2 := vaN_m l (p + 1) 0 4000
            refine L_y (y_conv is65 Try.underlying3 rfl (i64w (by omega))) rfl ?_
            refine L_y (y_assign rfl) rfl ?_
            refine L_nil ?_
            refine hK35 _ _ ?_
            refine T_seq fun K36 hK36 => ?_
            refine T_seq fun K37 hK37 => ?_
            refine T_region ?_
            refine L_y (y_move rfl) rfl ?_
            refine L_y (y_nilp rfl) rfl ?_
            refine L_y (y_fieldA 2 Try.underlying88 rfl sz3 rfl rfl rfl) rfl ?_
            refine L_y (y_ldc Try.underlying3 rfl rfl (((S27.blk 1 rfl).cell _).trans (by rfl))) rfl ?_
            refine L_y (y_neq rfl rfl) rfl ?_
            refine L_nil ?_
            refine hK37 _ _ ?_
            refine T_cond rfl (fun h60 => ?_) (fun h60 => ?_)
            ·
              refine T_seq fun K38 hK38 => ?_
              refine T_drawnX (fun w => Blk w b2 88 #[Value.slice B m d, Value.int .i64 ((vaN l (p + 1) 0 4000).2.1 : Int), Value.int .i64 ((vaN l (p + 1) 0 4000).2.2 : Int)]) hmix (by kernel_rfl) (fun w l => (S27.like l).blk 1 rfl) fun w28 l28 => ?_
              have S28 := S27.like l28
              refine DX_y 0 (by kernel_rfl) rfl (y_build rfl (show _ = some (scA 0 0 none 0 0) by kernel_rfl)) rfl ?_
              refine DX_y 1 (by kernel_rfl) rfl (y_move rfl) rfl ?_
              refine DX_y 2 (by kernel_rfl) rfl (y_nilp rfl) rfl ?_
              refine DX_y 3 (by kernel_rfl) rfl (y_fieldA 2 Try.underlying88 rfl sz3 rfl rfl rfl) rfl ?_
              refine DX_y 4 (by kernel_rfl) rfl (y_of fun w hw => y_ldc Try.underlying3 rfl rfl (((hw).cell _).trans (by rfl))) rfl ?_
              refine DX_o1 5 (by kernel_rfl) rfl ?_
              refine o_stW S28 0 rfl rfl rfl sz30 rfl (scA_one _ _ _ _ _) fun w29 S29 => ?_
              refine ⟨S29.blk 1 rfl, ?_⟩
              refine DX_y 6 (by kernel_rfl) rfl (y_assign rfl) rfl ?_
              refine DX_nil (by kernel_rfl) ?_
              refine hK38 _ _ ?_
              refine T_ret ?_
              repeat (first | with_reducible refine up_then ?_ | with_reducible refine up_in ?_)
              refine retct rfl rfl rfl (S29.blk 0 rfl) Try.underlying30 rfl (by exact sz30) ?_
              have hR : (rdO l p x ((vaN l 0 0 4000).1 : Int)).e = ((vaN l (p + 1) 0 4000).2.2 : Int) := by rw [rdO_new (by omega) (by omega), rdN_err (by omega)]
              have her := hrd.err hx (by rw [hR]; omega)
              rw [hR] at her
              exact ⟨_, rfl, S29.like0, none, 0, [], by rw [read_e2 hq0 her (by omega)]; rfl, Rs.nil _ 4, (fun o ho => (List.not_mem_nil ho).elim), by rw [read_e2 hq0 her (by omega)]; rfl⟩
            ·
              have hq1 : (vaN l (p + 1) 0 4000).2.2 = 0 := by omega
              rw [hq1] at S27
              refine T_skip ?_
              refine hK36 _ _ ?_
              refine T_seq fun K39 hK39 => ?_
              refine T_seq fun K40 hK40 => ?_
              refine T_region ?_
              refine L_y (y_move rfl) rfl ?_
              refine L_y (y_eql rfl rfl) rfl ?_
              refine L_nil ?_
              refine hK40 _ _ ?_
              refine T_cond rfl (fun h67 => ?_) (fun h67 => ?_)
              ·
                refine T_seq fun K41 hK41 => ?_
                refine T_region ?_
                refine L_y (y_build rfl (show _ = some (scA 0 0 none 0 0) by kernel_rfl)) rfl ?_
                refine L_o (o_stW S27 0 rfl rfl rfl sz30 rfl (scA_one _ _ _ _ _) fun w30 S30 => ?_)
                refine L_y (y_assign rfl) rfl ?_
                refine L_nil ?_
                refine hK41 _ _ ?_
                refine T_ret ?_
                repeat (first | with_reducible refine up_then ?_ | with_reducible refine up_in ?_)
                refine retct rfl rfl rfl (S30.blk 0 rfl) Try.underlying30 rfl (by exact sz30) ?_
                have hR : (rdO l p x ((vaN l 0 0 4000).1 : Int)).e = 12 := by rw [rdO_new (by omega) (by omega), rdN_zero hq1 (by omega)]
                have her := hrd.err hx (by rw [hR]; omega)
                rw [hR] at her
                exact ⟨_, rfl, S30.like0, none, 0, [], by rw [read_e2 hq0 her (by omega)]; rfl, Rs.nil _ 4, (fun o ho => (List.not_mem_nil ho).elim), by rw [read_e2 hq0 her (by omega)]; rfl⟩
              ·
                refine T_skip ?_
                refine hK39 _ _ ?_
                refine T_seq fun K42 hK42 => ?_
                refine T_seq fun K43 hK43 => ?_
                refine T_region ?_
                refine L_y (y_fieldA 0 Try.underlying58 rfl sz4 rfl rfl rfl) rfl ?_
                refine L_y (y_ldc Try.underlying4 rfl rfl (((S27.blk 5 rfl).cell _).trans (by rfl))) rfl ?_
                refine L_nil ?_
                refine hK43 _ _ ?_
                refine T_false rfl ?_
                refine T_seq fun K44 hK44 => ?_
                refine T_region ?_
                refine L_y (y_move rfl) rfl ?_
                refine L_y (y_move rfl) rfl ?_
                refine L_o (o_call Try.func50 rfl rfl (xraw b2 B m d l _ _ _ w27 (S27.get 1 rfl) (S27.rd hb) (by omega) (by omega) hbg (by omega)) rfl rfl ?_)
                rintro e31 w31 ⟨v31, rfl, T31, B7, d7, rfl, hr31, hd31⟩
                refine ⟨_, rfl, ?_⟩
                have S31 := S27.turn 1 rfl T31
                have S32 := St.newT S27 1 rfl T31 (fun i hi => hi) hr31 (fun i hi => ⟨hd31 i hi, (World.ownsRow.lt hr31 i hi).2⟩)
                refine L_y (y_fieldA 3 Try.underlying58 rfl sz22 rfl rfl rfl) rfl ?_
                refine L_o (o_st1 S32 5 rfl rfl rfl rfl sz22 (by simp; done) fun w33 S33 => ?_)
                refine L_nil ?_
                refine hK44 _ _ ?_
                refine T_seq fun K45 hK45 => ?_
                refine T_region ?_
                refine L_y (y_move rfl) rfl ?_
                refine L_y (y_nilp rfl) rfl ?_
                refine L_y (y_fieldA 2 Try.underlying88 rfl sz3 rfl rfl rfl) rfl ?_
                refine L_y (y_ldc Try.underlying3 rfl rfl (((S33.blk 1 rfl).cell _).trans (by rfl))) rfl ?_
                refine L_y (y_neq rfl rfl) rfl ?_
                refine L_nil ?_
                refine hK45 _ _ ?_
                refine T_cond rfl (fun h89 => ?_) (fun h89 => ?_)
                ·
                  refine T_seq fun K46 hK46 => ?_
                  refine T_drawnX (fun w => Blk w b2 88 #[Value.slice B m d, Value.int .i64 ((rnP l (vaN l (p + 1) 0 4000).2.1 0 ((vaN l (p + 1) 0 4000).1 : Int)) : Int), Value.int .i64 ((rnE l (vaN l (p + 1) 0 4000).2.1 0 ((vaN l (p + 1) 0 4000).1 : Int)) : Int)]) hmix (by kernel_rfl) (fun w l => (S33.like l).blk 1 rfl) fun w34 l34 => ?_
                  have S34 := S33.like l34
                  refine DX_y 0 (by kernel_rfl) rfl (y_build rfl (show _ = some (scA 0 0 none 0 0) by kernel_rfl)) rfl ?_
                  refine DX_y 1 (by kernel_rfl) rfl (y_move rfl) rfl ?_
                  refine DX_y 2 (by kernel_rfl) rfl (y_nilp rfl) rfl ?_
                  refine DX_y 3 (by kernel_rfl) rfl (y_fieldA 2 Try.underlying88 rfl sz3 rfl rfl rfl) rfl ?_
                  refine DX_y 4 (by kernel_rfl) rfl (y_of fun w hw => y_ldc Try.underlying3 rfl rfl (((hw).cell _).trans (by rfl))) rfl ?_
                  refine DX_o1 5 (by kernel_rfl) rfl ?_
                  refine o_stW S34 0 rfl rfl rfl sz30 rfl (scA_one _ _ _ _ _) fun w35 S35 => ?_
                  refine ⟨S35.blk 1 rfl, ?_⟩
                  refine DX_y 6 (by kernel_rfl) rfl (y_assign rfl) rfl ?_
                  refine DX_nil (by kernel_rfl) ?_
                  refine hK46 _ _ ?_
                  refine T_ret ?_
                  repeat (first | with_reducible refine up_then ?_ | with_reducible refine up_in ?_)
                  refine retct rfl rfl rfl (S35.blk 0 rfl) Try.underlying30 rfl (by exact sz30) ?_
                  have hR : (rdO l p x ((vaN l 0 0 4000).1 : Int)).e = (rnE l (vaN l (p + 1) 0 4000).2.1 0 ((vaN l (p + 1) 0 4000).1 : Int) : Int) := by rw [rdO_new (by omega) (by omega), rdN_new hq1 (by omega)]
                  have her := hrd.err hx (by rw [hR]; omega)
                  rw [hR] at her
                  exact ⟨_, rfl, S35.like0, none, 0, [], by rw [read_e2 hq0 her (by omega)]; rfl, Rs.nil _ 4, (fun o ho => (List.not_mem_nil ho).elim), by rw [read_e2 hq0 her (by omega)]; rfl⟩
                ·
                  have hE0 : rnE l (vaN l (p + 1) 0 4000).2.1 0 ((vaN l (p + 1) 0 4000).1 : Int) = 0 := by omega
                  have hR : (rdO l p x ((vaN l 0 0 4000).1 : Int)) = ⟨(⟨false, 0, 0, ⟨B7, (rnL l (vaN l (p + 1) 0 4000).2.1 0 ((vaN l (p + 1) 0 4000).1 : Int)).length, d7, (rnL l (vaN l (p + 1) 0 4000).2.1 0 ((vaN l (p + 1) 0 4000).1 : Int))⟩⟩ : OP).v, rnP l (vaN l (p + 1) 0 4000).2.1 0 ((vaN l (p + 1) 0 4000).1 : Int), 0, 0⟩ := by rw [rdO_new (by omega) (by omega), rdN_new hq1 (by omega), hE0]; rfl
                  have hsz : szV (⟨false, 0, 0, ⟨B7, (rnL l (vaN l (p + 1) 0 4000).2.1 0 ((vaN l (p + 1) 0 4000).1 : Int)).length, d7, (rnL l (vaN l (p + 1) 0 4000).2.1 0 ((vaN l (p + 1) 0 4000).1 : Int))⟩⟩ : OP).v = ((vaN l (p + 1) 0 4000).1 : Int) := by by_cases h4 : (vaN l (p + 1) 0 4000).1 ≤ l.length - (vaN l (p + 1) 0 4000).2.1; (obtain ⟨e1, e2, e3⟩ := rn_ok h4; show (((rnL l (vaN l (p + 1) 0 4000).2.1 0 ((vaN l (p + 1) 0 4000).1 : Int)).length : Nat) : Int) = _; rw [e1, List.length_take, List.length_drop]; omega); (obtain ⟨e1, e2, e3⟩ := rn_no h4; omega)
                  obtain ⟨hro1, hro2, hro3, hro4⟩ := rdO_ok (base := ((vaN l 0 0 4000).1 : Int)) hx (by rw [hR])
                  refine T_skip ?_
                  refine hK42 _ _ ?_
                  refine T_seq fun K47 hK47 => ?_
                  refine T_region ?_
                  refine L_y (y_move rfl) rfl ?_
                  refine L_y (y_move rfl) rfl ?_
                  refine L_y (y_add rfl rfl (i64w (by omega))) rfl ?_
                  refine L_y (y_assign rfl) rfl ?_
                  refine L_nil ?_
                  refine hK47 _ _ ?_
                  refine T_seq fun K48 hK48 => ?_
                  refine T_seq fun K49 hK49 => ?_
                  refine T_region ?_
                  refine L_y (y_move rfl) rfl ?_
                  refine L_y (y_fieldA 1 Try.underlying30 rfl sz3 rfl rfl rfl) rfl ?_
                  refine L_y (y_ldc Try.underlying3 rfl rfl (((S33.blk 2 rfl).cell _).trans (by rfl))) rfl ?_
                  refine L_y (y_gtr rfl rfl) rfl ?_
                  refine L_nil ?_
                  refine hK49 _ _ ?_
                  refine T_cond rfl (fun h101 => ?_) (fun h101 => ?_)
                  ·
                    refine T_seq fun K50 hK50 => ?_
                    refine T_region ?_
                    refine L_y (y_build rfl (show _ = some (scA 0 0 none 0 0) by kernel_rfl)) rfl ?_
                    refine L_o (o_stW S33 0 rfl rfl rfl sz30 rfl (scA_one _ _ _ _ _) fun w36 S36 => ?_)
                    refine L_y (y_assign rfl) rfl ?_
                    refine L_nil ?_
                    refine hK50 _ _ ?_
                    refine T_ret ?_
                    repeat (first | with_reducible refine up_then ?_ | with_reducible refine up_in ?_)
                    refine retct rfl rfl rfl (S36.blk 0 rfl) Try.underlying30 rfl (by exact sz30) ?_
                    have her := hrd.long hx (by rw [hR]) (by rw [hR]; show left < szV (⟨false, 0, 0, ⟨B7, (rnL l (vaN l (p + 1) 0 4000).2.1 0 ((vaN l (p + 1) 0 4000).1 : Int)).length, d7, (rnL l (vaN l (p + 1) 0 4000).2.1 0 ((vaN l (p + 1) 0 4000).1 : Int))⟩⟩ : OP).v; rw [hsz]; omega)
                    exact ⟨_, rfl, S36.like0, none, 0, [], by rw [read_e2 hq0 her (by decide)]; rfl, Rs.nil _ 4, (fun o ho => (List.not_mem_nil ho).elim), by rw [read_e2 hq0 her (by decide)]; rfl⟩
                  ·
                    refine T_skip ?_
                    refine hK48 _ _ ?_
                    refine T_region ?_
                    refine L_y (y_fieldA 2 Try.underlying30 rfl sz28 rfl rfl rfl) rfl ?_
                    refine L_y (y_ldc Try.underlying28 rfl rfl (((S33.blk 2 rfl).cell _).trans (by rfl))) rfl ?_
                    refine L_y (y_ldW Try.underlying58 rfl sz58 rfl (S33.blk 5 rfl) (show _ = opf (⟨false, 0, 0, ⟨B7, (rnL l (vaN l (p + 1) 0 4000).2.1 0 ((vaN l (p + 1) 0 4000).1 : Int)).length, d7, (rnL l (vaN l (p + 1) 0 4000).2.1 0 ((vaN l (p + 1) 0 4000).1 : Int))⟩⟩ : OP) ∧ _ from ⟨rfl, rfl⟩)) rfl ?_
                    refine L_o (o_bsl (opf (⟨false, 0, 0, ⟨B7, (rnL l (vaN l (p + 1) 0 4000).2.1 0 ((vaN l (p + 1) 0 4000).1 : Int)).length, d7, (rnL l (vaN l (p + 1) 0 4000).2.1 0 ((vaN l (p + 1) 0 4000).1 : Int))⟩⟩ : OP)) te28 zz58 S33 rfl rfl rfl rfl rfl rfl rfl rfl fun b37 w37 S37 => ?_)
                    refine L_o (o_app te28 S37 3 rfl rfl rfl (by first | exact S37.row 3 rfl | exact S37.fix 4 rfl | exact S37.row 6 rfl | exact S37.row 7 rfl) (opf_one _) rfl (by omega) (by omega) fun A38 c38 w38 S38 => ?_)
                    have S38d := S38.drop (rs' := [_, _, _, _, _, _, _]) (.cons_cons _ (.cons_cons _ (.cons_cons _ (.cons_cons _ (.cons_cons _ (.cons_cons _ (.cons_cons _ (.cons _ (.refl _)))))))))
                    refine L_y (y_fieldA 2 Try.underlying30 rfl sz28 rfl rfl rfl) rfl ?_
                    refine L_o (o_st1 S38d 2 rfl rfl rfl rfl sz28 (by show 2 < 3; decide) fun w39 S39 => ?_)
                    refine L_nil ?_
                    have S91 := S39.blkc 2 rfl ((scA_set ((vaN l 0 0 4000).1 : Int) ((vaN l (vaN l 0 0 4000).2.1 (vaN l 0 0 4000).2.2 4000).1 : Int) A1 ops.length c1 A38 (ops.length + 1) c38).trans (show _ = scA ((vaN l 0 0 4000).1 : Int) ((vaN l (vaN l 0 0 4000).2.1 (vaN l 0 0 4000).2.2 4000).1 : Int) A38 (ops ++ [(⟨false, 0, 0, ⟨B7, (rnL l (vaN l (p + 1) 0 4000).2.1 0 ((vaN l (p + 1) 0 4000).1 : Int)).length, d7, (rnL l (vaN l (p + 1) 0 4000).2.1 0 ((vaN l (p + 1) 0 4000).1 : Int))⟩⟩ : OP)]).length c38 from by rw [List.length_append]; rfl))
                    have S92 := S91.rowc 3 rfl (n' := (ops ++ [(⟨false, 0, 0, ⟨B7, (rnL l (vaN l (p + 1) 0 4000).2.1 0 ((vaN l (p + 1) 0 4000).1 : Int)).length, d7, (rnL l (vaN l (p + 1) 0 4000).2.1 0 ((vaN l (p + 1) 0 4000).1 : Int))⟩⟩ : OP)]).length) (xs' := (ops ++ [(⟨false, 0, 0, ⟨B7, (rnL l (vaN l (p + 1) 0 4000).2.1 0 ((vaN l (p + 1) 0 4000).1 : Int)).length, d7, (rnL l (vaN l (p + 1) 0 4000).2.1 0 ((vaN l (p + 1) 0 4000).1 : Int))⟩⟩ : OP)]).flatMap opf) (by rw [List.length_append]; rfl) (by rw [List.flatMap_append]; simp)
                    have S93 := (S92.still 6 rfl).sel [0, 1, 2, 3, 4, 6] (by decide)
                    have S94 := famAdd (rs := [_, _, _, _, fam (ps.map partR)]) (ps := ps) (p := (⟨false, 0, 0, ⟨B7, (rnL l (vaN l (p + 1) 0 4000).2.1 0 ((vaN l (p + 1) 0 4000).1 : Int)).length, d7, (rnL l (vaN l (p + 1) 0 4000).2.1 0 ((vaN l (p + 1) 0 4000).1 : Int))⟩⟩ : OP).p) S93 4 rfl
                    have hnx := hrd.next hx (by rw [hR]) (by rw [hR]; show ¬ left < szV (⟨false, 0, 0, ⟨B7, (rnL l (vaN l (p + 1) 0 4000).2.1 0 ((vaN l (p + 1) 0 4000).1 : Int)).length, d7, (rnL l (vaN l (p + 1) 0 4000).2.1 0 ((vaN l (p + 1) 0 4000).1 : Int))⟩⟩ : OP).v; rw [hsz]; omega)
                    rw [show szV (rdO l p x ((vaN l 0 0 4000).1 : Int)).o = ((vaN l (p + 1) 0 4000).1 : Int) from by rw [hR]; exact hsz, show (rdO l p x ((vaN l 0 0 4000).1 : Int)).o = (⟨false, 0, 0, ⟨B7, (rnL l (vaN l (p + 1) 0 4000).2.1 0 ((vaN l (p + 1) 0 4000).1 : Int)).length, d7, (rnL l (vaN l (p + 1) 0 4000).2.1 0 ((vaN l (p + 1) 0 4000).1 : Int))⟩⟩ : OP).v from by rw [hR]] at hnx
                    rw [show rnP l (vaN l (p + 1) 0 4000).2.1 0 ((vaN l (p + 1) 0 4000).1 : Int) = (rdO l p x ((vaN l 0 0 4000).1 : Int)).p from by rw [hR], show rnE l (vaN l (p + 1) 0 4000).2.1 0 ((vaN l (p + 1) 0 4000).1 : Int) = 0 from hE0] at S94
                    refine ⟨(rdO l p x ((vaN l 0 0 4000).1 : Int)).p, left - ((vaN l (p + 1) 0 4000).1 : Int), A38, c38, ops ++ [(⟨false, 0, 0, ⟨B7, (rnL l (vaN l (p + 1) 0 4000).2.1 0 ((vaN l (p + 1) 0 4000).1 : Int)).length, d7, (rnL l (vaN l (p + 1) 0 4000).2.1 0 ((vaN l (p + 1) 0 4000).1 : Int))⟩⟩ : OP)], ps ++ [(⟨false, 0, 0, ⟨B7, (rnL l (vaN l (p + 1) 0 4000).2.1 0 ((vaN l (p + 1) 0 4000).1 : Int)).length, d7, (rnL l (vaN l (p + 1) 0 4000).2.1 0 ((vaN l (p + 1) 0 4000).1 : Int))⟩⟩ : OP).p], by omega, ⟨⟨by omega, by omega, by rw [List.length_append, List.length_singleton]; omega, hin.add, by rw [List.map_append, List.map_singleton]; exact hnx⟩, S94⟩, ?_⟩
                    exact (Sub.cons rfl (congrArg (Value.int _) (by omega)) (Sub.cons rfl rfl (Sub.cons rfl rfl (Sub.cons rfl rfl (Sub.cons rfl rfl (Sub.nil _))))))
      ·
        refine T_exit ?_
        refine hK9 _ _ ?_
        refine T_seq fun K51 hK51 => ?_
        refine T_seq fun K52 hK52 => ?_
        refine T_region ?_
        refine L_y (y_move rfl) rfl ?_
        refine L_y (y_fieldA 1 Try.underlying30 rfl sz3 rfl rfl rfl) rfl ?_
        refine L_y (y_ldc Try.underlying3 rfl rfl (((S10.blk 2 rfl).cell _).trans (by rfl))) rfl ?_
        refine L_y (y_lss rfl rfl) rfl ?_
        refine L_nil ?_
        refine hK52 _ _ ?_
        refine T_cond rfl (fun h112 => ?_) (fun h112 => ?_)
        ·
          refine T_seq fun K53 hK53 => ?_
          refine T_region ?_
          refine L_y (y_build rfl (show _ = some (scA 0 0 none 0 0) by kernel_rfl)) rfl ?_
          refine L_o (o_stW S10 0 rfl rfl rfl sz30 rfl (scA_one _ _ _ _ _) fun w40 S40 => ?_)
          refine L_y (y_assign rfl) rfl ?_
          refine L_nil ?_
          refine hK53 _ _ ?_
          refine T_ret ?_
          repeat (first | with_reducible refine up_then ?_ | with_reducible refine up_in ?_)
          refine retct rfl rfl rfl (S40.blk 0 rfl) Try.underlying30 rfl (by exact sz30) ?_
          have hst := hrd.stop (by omega)
          rw [if_pos (by omega)] at hst
          exact ⟨_, rfl, S40.like0, none, 0, [], by rw [read_e2 hq0 hst (by decide)]; rfl, Rs.nil _ 4, (fun o ho => (List.not_mem_nil ho).elim), by rw [read_e2 hq0 hst (by decide)]; rfl⟩
        ·
          refine T_skip ?_
          refine hK51 _ _ ?_
          refine T_seq fun K54 hK54 => ?_
          refine T_region ?_
          refine L_y (y_ldW Try.underlying30 rfl sz30 rfl (S10.blk 2 rfl) (show _ = (scA ((vaN l 0 0 4000).1 : Int) ((vaN l (vaN l 0 0 4000).2.1 (vaN l 0 0 4000).2.2 4000).1 : Int) A1 ops.length c1).toList ∧ _ from ⟨rfl, rfl⟩)) rfl ?_
          refine L_o (o_stW S10 0 rfl rfl rfl sz30 rfl (scA_one _ _ _ _ _) fun w41 S41 => ?_)
          refine L_y (y_assign rfl) rfl ?_
          refine L_nil ?_
          refine hK54 _ _ ?_
          refine T_ret ?_
          repeat (first | with_reducible refine up_then ?_ | with_reducible refine up_in ?_)
          refine retct rfl rfl rfl (S41.blk 0 rfl) Try.underlying30 rfl (by exact sz30) ?_
          have hst := hrd.stop (by omega)
          rw [if_neg (by omega)] at hst
          exact ⟨_, rfl, S41.like0, A1, c1, ops, by rw [read_ok hq0 hst], S41.row 3 rfl, okO_of hin (S41.get 4 rfl), by rw [read_ok hq0 hst]⟩
end Go.Proofs.Ytpcgldkllnkaeaa

/-
  What is read is what putting it makes, and what is put is read again.
-/
namespace Go.Proofs.Ytpcgldkllnkaeaa
open Go.RowKit Zk Zx
set_option linter.unusedVariables false
set_option linter.unusedSimpArgs false
theorem vaN_put {d : List UInt8} {p q M : Nat} (h : (vaN d p q M).2.2 = 0) : q = 0 ∧ d.drop p = vr (vaN d p q M).1 ++ d.drop (vaN d p q M).2.1 := by
  by_cases hq : q = 0
  · refine ⟨hq, ?_⟩
    unfold vaN at h ⊢
    rw [if_neg (by omega)] at h ⊢
    split at h
    · rename_i h1; exact absurd h h1
    · rename_i h1
      rw [if_neg h1]
      split at h
      · simp at h
      · rename_i h2
        rw [if_neg h2]
        obtain ⟨t, e1, e2, e3, e4, _⟩ := numF_vr (d.drop p) 0 0 (numF (d.drop p) 0 0).1 (numF (d.drop p) 0 0).2.1 (triple (by omega))
        have ht : (numF (d.drop p) 0 0).1 = t := by omega
        show d.drop p = vr (numF (d.drop p) 0 0).1 ++ d.drop (p + (numF (d.drop p) 0 0).2.1)
        rw [ht, e4, ← List.drop_drop, Nat.sub_zero, List.take_append_drop]
  · rw [show (vaN d p q M).2.2 = q from by unfold vaN; rw [if_pos hq]] at h
    exact absurd h hq
theorem vaN_back {d rest : List UInt8} {p v M : Nat} (h : d.drop p = vr v ++ rest) (hv : v ≤ M) (h64 : v ≤ 18446744073709551615) : vaN d p 0 M = (v, p + (vr v).length, 0) := by
  unfold vaN
  rw [if_neg (by omega), h, numF_of_vr rest v h64, if_neg (by show ¬ (0 : Nat) ≠ 0; omega), if_neg (by show ¬ M < v; omega)]
theorem byte_eq {x y : UInt8} (h : x.toNat = y.toNat) : x = y := UInt8.toNat_inj.1 h
theorem drop_hd {d : List UInt8} {p : Nat} {x : UInt8} (hx : d[p]? = some x) : d.drop p = x :: d.drop (p + 1) := by
  obtain ⟨h1, h2⟩ := List.getElem?_eq_some_iff.1 hx
  rw [← h2, List.getElem_cons_drop]
theorem rdO_put {d : List UInt8} {p : Nat} {x : UInt8} {base : Int} (hx : d[p]? = some x) (h : (rdO d p x base).e = 0) : rtV base (rdO d p x base).o = true ∧ d.drop p = encO (rdO d p x base).o ++ d.drop (rdO d p x base).p := by
  have hp := (List.getElem?_eq_some_iff.1 hx).1
  have hxl := x.toNat_lt
  by_cases h1 : 1 < x.toNat
  · rw [rdO_bad h1] at h
    exact absurd h (by show ¬ (19 : Int) = 0; decide)
  by_cases h2 : x.toNat = 1
  · rw [rdO_cp h2] at h ⊢
    by_cases g1 : (vaN d (vaN d (p + 1) 0 4000).2.1 (vaN d (p + 1) 0 4000).2.2 4000).2.2 = 0
    · by_cases g2 : (vaN d (vaN d (p + 1) 0 4000).2.1 (vaN d (p + 1) 0 4000).2.2 4000).1 = 0
      · rw [rdN_zero g1 g2] at h
        exact absurd h (by show ¬ (12 : Int) = 0; decide)
      · by_cases g3 : base - ((vaN d (vaN d (p + 1) 0 4000).2.1 (vaN d (p + 1) 0 4000).2.2 4000).1 : Int) < ((vaN d (p + 1) 0 4000).1 : Int)
        · rw [rdN_far g1 g2 g3] at h
          exact absurd h (by show ¬ (21 : Int) = 0; decide)
        · rw [rdN_cp g1 g2 g3]
          refine ⟨rtV_mk_cp (by omega) (by omega) (by omega), ?_⟩
          obtain ⟨e0, e1⟩ := vaN_put g1
          obtain ⟨_, e2⟩ := vaN_put e0
          rw [drop_hd hx, e2, e1, byte_eq (x := x) (y := 1) (by rw [h2]; rfl)]
          unfold encO
          rw [if_pos rfl]
          simp
    · rw [rdN_err g1] at h
      have : ((vaN d (vaN d (p + 1) 0 4000).2.1 (vaN d (p + 1) 0 4000).2.2 4000).2.2 : Int) = 0 := h
      omega
  · rw [rdO_new h1 h2] at h ⊢
    by_cases g1 : (vaN d (p + 1) 0 4000).2.2 = 0
    · by_cases g2 : (vaN d (p + 1) 0 4000).1 = 0
      · rw [rdN_zero g1 g2] at h
        exact absurd h (by show ¬ (12 : Int) = 0; decide)
      · rw [rdN_new g1 g2] at h ⊢
        have h' : rnE d (vaN d (p + 1) 0 4000).2.1 0 ((vaN d (p + 1) 0 4000).1 : Int) = 0 := by
          have : (rnE d (vaN d (p + 1) 0 4000).2.1 0 ((vaN d (p + 1) 0 4000).1 : Int) : Int) = 0 := h
          omega
        by_cases h4 : (vaN d (p + 1) 0 4000).1 ≤ d.length - (vaN d (p + 1) 0 4000).2.1
        · obtain ⟨e1, e2, e3⟩ := rn_ok h4
          rw [e1, e2]
          have hl : ((d.drop (vaN d (p + 1) 0 4000).2.1).take (vaN d (p + 1) 0 4000).1).length = (vaN d (p + 1) 0 4000).1 := by
            rw [List.length_take, List.length_drop]
            omega
          refine ⟨rtV_mk_new (by rw [hl]; omega), ?_⟩
          obtain ⟨_, e5⟩ := vaN_put g1
          rw [drop_hd hx, e5, byte_eq (x := x) (y := 0) (by show x.toNat = 0; omega)]
          unfold encO
          rw [if_neg Bool.false_ne_true]
          show _ = (0 :: (vr ((d.drop (vaN d (p + 1) 0 4000).2.1).take (vaN d (p + 1) 0 4000).1).length ++ (d.drop (vaN d (p + 1) 0 4000).2.1).take (vaN d (p + 1) 0 4000).1)) ++ d.drop ((vaN d (p + 1) 0 4000).2.1 + (vaN d (p + 1) 0 4000).1)
          rw [hl, List.cons_append, List.append_assoc, ← List.drop_drop, List.take_append_drop]
        · obtain ⟨e1, e2, e3⟩ := rn_no h4
          rw [e3] at h'
          exact absurd h' (by decide)
    · rw [rdN_err g1] at h
      have : ((vaN d (p + 1) 0 4000).2.2 : Int) = 0 := h
      omega
theorem rdL_put {d : List UInt8} {base : Int} : ∀ (f p : Nat) (left : Int) (ops : List OV), rdL d base f p left = (ops, 0) → 0 ≤ left → d.length - p ≤ f → chkL base left ops = true ∧ ops.flatMap encO = d.drop p := by
  have fin : ∀ (f p : Nat) (left : Int) (ops : List OV), rdL d base f p left = (ops, 0) → 0 ≤ left → d.length ≤ p → chkL base left ops = true ∧ ops.flatMap encO = d.drop p := fun f p left ops h h0 hp => by
    rw [rdL_end hp] at h
    have h1 := congrArg Prod.fst h
    have h2 : (if 0 < left then (10 : Int) else 0) = 0 := congrArg Prod.snd h
    have h3 : ops = [] := h1.symm
    subst h3
    have h4 : left = 0 := by
      by_cases q : 0 < left
      · rw [if_pos q] at h2; exact absurd h2 (by decide)
      · omega
    subst h4
    exact ⟨by unfold chkL; rfl, by rw [List.drop_of_length_le hp]; rfl⟩
  intro f
  induction f with
  | zero => exact fun p left ops h h0 hf => fin 0 p left ops h h0 (by omega)
  | succ f ih =>
    intro p left ops h h0 hf
    rcases Nat.lt_or_ge p d.length with q | q
    · obtain ⟨x, hx⟩ : ∃ x, d[p]? = some x := ⟨_, List.getElem?_eq_getElem q⟩
      by_cases he : (rdO d p x base).e = 0
      · by_cases hs : left < szV (rdO d p x base).o
        · rw [rdL_long hx he hs] at h
          have : (3 : Int) = 0 := congrArg Prod.snd h
          exact absurd this (by decide)
        · rw [rdL_next hx he hs] at h
          obtain ⟨e1, e2, e3, e4⟩ := rdO_ok hx he
          obtain ⟨e5, e6⟩ := rdO_put hx he
          have h1 := congrArg Prod.fst h
          have h2 := congrArg Prod.snd h
          obtain ⟨i1, i2⟩ := ih (rdO d p x base).p (left - szV (rdO d p x base).o) _ (Prod.ext rfl h2) (by omega) (by omega)
          have h3 : ops = (rdO d p x base).o :: (rdL d base f (rdO d p x base).p (left - szV (rdO d p x base).o)).1 := h1.symm
          rw [h3]
          refine ⟨?_, ?_⟩
          · unfold chkL
            rw [e5, decide_eq_true (by omega), i1]
            rfl
          · rw [List.flatMap_cons, i2, ← e6]
      · rw [rdL_err hx he] at h
        have : (rdO d p x base).e = 0 := congrArg Prod.snd h
        exact absurd this he
    · exact fin _ p left ops h h0 q
theorem read_put {d : List UInt8} (h : (readV d).2.2.2 = 0) : errV (readV d).1 (readV d).2.1 (readV d).2.2.1 = 0 ∧ encV (readV d).1 (readV d).2.1 (readV d).2.2.1 = d := by
  by_cases hq : (vaN d (vaN d 0 0 4000).2.1 (vaN d 0 0 4000).2.2 4000).2.2 = 0
  · by_cases h2 : (rdR d).2 = 0
    · have hr : rdR d = ((rdR d).1, 0) := Prod.ext rfl h2
      rw [read_ok hq hr]
      have hF := vaN_m d 0 0 4000
      have hG := vaN_m d (vaN d 0 0 4000).2.1 (vaN d 0 0 4000).2.2 4000
      have hle := vaN_le d (vaN d 0 0 4000).2.1 (vaN d 0 0 4000).2.2 4000 (vaN_le d 0 0 4000 (Nat.zero_le _))
      obtain ⟨i1, i2⟩ := rdL_put d.length _ _ _ hr (by omega) (by omega)
      obtain ⟨e0, e1⟩ := vaN_put hq
      obtain ⟨_, e2⟩ := vaN_put e0
      rw [List.drop_zero] at e2
      refine ⟨?_, ?_⟩
      · show errV ((vaN d 0 0 4000).1 : Int) ((vaN d (vaN d 0 0 4000).2.1 (vaN d 0 0 4000).2.2 4000).1 : Int) (rdR d).1 = 0
        rw [chk_eq (by omega), i1]
        rfl
      · show encV ((vaN d 0 0 4000).1 : Int) ((vaN d (vaN d 0 0 4000).2.1 (vaN d 0 0 4000).2.2 4000).1 : Int) (rdR d).1 = d
        unfold encV
        rw [i2, Int.toNat_natCast, Int.toNat_natCast, List.append_assoc, ← e1, ← e2]
    · rw [read_e2 hq (Prod.ext rfl rfl : rdR d = ((rdR d).1, (rdR d).2)) h2] at h
      exact absurd h h2
  · rw [read_e1 hq] at h
    have : ((vaN d (vaN d 0 0 4000).2.1 (vaN d 0 0 4000).2.2 4000).2.2 : Int) = 0 := h
    omega
theorem rdO_back {d rest : List UInt8} {p : Nat} {o : OV} {base : Int} (hr : rtV base o = true) (hs : szV o ≤ 4000) (hb : base ≤ 4000) (h : d.drop p = encO o ++ rest) : ∃ x, d[p]? = some x ∧ rdO d p x base = ⟨o, p + (encO o).length, 0, 0⟩ := by
  cases hc : o.cp with
  | true =>
    obtain ⟨h1, h2, h3, h4, h5⟩ := rtV_cp hr hc
    obtain ⟨cp, fr, n, l⟩ := o
    have hc' : cp = true := hc
    have h5' : l = [] := h5
    subst hc' h5'
    have h1' : 1 ≤ n := h1
    have h3' : 0 ≤ fr := h3
    have h4' : fr ≤ base - n := h4
    have he : encO ⟨true, fr, n, []⟩ = 1 :: (vr fr.toNat ++ vr n.toNat) := by unfold encO; rw [if_pos rfl]
    rw [he] at h ⊢
    have hx : d[p]? = some 1 := by
      have := congrArg (fun z => z[0]?) h
      simpa using this
    refine ⟨1, hx, ?_⟩
    have hd : d.drop (p + 1) = vr fr.toNat ++ (vr n.toNat ++ rest) := by
      have h9 := drop_hd hx
      rw [h] at h9
      have h8 := (List.cons.inj h9).2
      rw [← h8, List.append_eq, List.append_assoc]
    have v1 := vaN_back (M := 4000) hd (by omega) (by omega)
    have hd2 : d.drop (p + 1 + (vr fr.toNat).length) = vr n.toNat ++ rest := by
      rw [← List.drop_drop, hd, List.drop_left]
    have v2 := vaN_back (M := 4000) hd2 (by omega) (by omega)
    rw [rdO_cp rfl, v1]
    show rdN d (p + 1 + (vr fr.toNat).length) 0 base ((fr.toNat : Nat) : Int) true = _
    rw [rdN_cp (by rw [v2]) (by rw [v2]; show ¬ n.toNat = 0; omega) (by rw [v2]; show ¬ base - (n.toNat : Int) < (fr.toNat : Int); omega), v2]
    have e1 : ((fr.toNat : Nat) : Int) = fr := by omega
    have e2 : ((n.toNat : Nat) : Int) = n := by omega
    show RO.mk ⟨true, ((fr.toNat : Nat) : Int), ((n.toNat : Nat) : Int), []⟩ (p + 1 + (vr fr.toNat).length + (vr n.toNat).length) 0 0 = _
    rw [e1, e2]
    congr 1
    simp
    omega
  | false =>
    obtain ⟨h1, h2, h3⟩ := rtV_new hr hc
    obtain ⟨cp, fr, n, l⟩ := o
    have hc' : cp = false := hc
    have h2' : fr = 0 := h2
    have h3' : n = 0 := h3
    subst hc' h2' h3'
    have h1' : 1 ≤ l.length := h1
    have hs' : (l.length : Int) ≤ 4000 := hs
    have he : encO ⟨false, 0, 0, l⟩ = 0 :: (vr l.length ++ l) := by unfold encO; rw [if_neg Bool.false_ne_true]
    rw [he] at h ⊢
    have hx : d[p]? = some 0 := by
      have := congrArg (fun z => z[0]?) h
      simpa using this
    refine ⟨0, hx, ?_⟩
    have hd : d.drop (p + 1) = vr l.length ++ (l ++ rest) := by
      have h9 := drop_hd hx
      rw [h] at h9
      have h8 := (List.cons.inj h9).2
      rw [← h8, List.append_eq, List.append_assoc]
    have v1 := vaN_back (M := 4000) hd (by omega) (by omega)
    have hd2 : d.drop (p + 1 + (vr l.length).length) = l ++ rest := by
      rw [← List.drop_drop, hd, List.drop_left]
    have hlen : l.length ≤ d.length - (p + 1 + (vr l.length).length) := by
      have := congrArg List.length hd2
      rw [List.length_drop, List.length_append] at this
      omega
    obtain ⟨e1, e2, e3⟩ := rn_ok hlen
    rw [rdO_new (by decide) (by decide), rdN_new (by rw [v1]) (by rw [v1]; show ¬ l.length = 0; omega), v1]
    show RO.mk ⟨false, 0, 0, rnL d (p + 1 + (vr l.length).length) 0 (l.length : Int)⟩ (rnP d (p + 1 + (vr l.length).length) 0 (l.length : Int)) (rnE d (p + 1 + (vr l.length).length) 0 (l.length : Int)) (rnE d (p + 1 + (vr l.length).length) 0 (l.length : Int) : Int) = _
    rw [e1, e2, e3, hd2, List.take_left]
    congr 1
    simp
    omega
theorem enc_pos (o : OV) : 1 ≤ (encO o).length := by
  unfold encO
  split <;> simp
theorem rdL_back {d : List UInt8} {base : Int} (hb : base ≤ 4000) : ∀ (l : List OV) (f p : Nat) (left : Int), chkL base left l = true → left ≤ 4000 → d.drop p = l.flatMap encO → d.length - p ≤ f → rdL d base f p left = (l, 0)
  | [], f, p, left, hc, hl, hd, hf => by
    unfold chkL at hc
    have h0 := of_decide_eq_true hc
    rw [rdL_end (List.drop_eq_nil_iff.1 hd), if_neg (by omega)]
  | o :: r, f, p, left, hc, hl, hd, hf => by
    unfold chkL at hc
    rw [Bool.and_eq_true, Bool.and_eq_true] at hc
    have hs := of_decide_eq_true hc.1.2
    have hz := sz_nonneg hc.1.1
    rw [List.flatMap_cons] at hd
    obtain ⟨x, hx, he⟩ := rdO_back hc.1.1 (by omega) hb hd
    have hp := (List.getElem?_eq_some_iff.1 hx).1
    obtain ⟨g, rfl⟩ : ∃ g, f = g + 1 := ⟨f - 1, by omega⟩
    have hpos := enc_pos o
    rw [rdL_next hx (by rw [he]) (by rw [he]; show ¬ left < szV o; omega), he]
    have ih := rdL_back hb r g (p + (encO o).length) (left - szV o) hc.2 (by omega) (by rw [← List.drop_drop, hd, List.drop_left]) (by omega)
    show (o :: (rdL d base g (p + (encO o).length) (left - szV o)).1, (rdL d base g (p + (encO o).length) (left - szV o)).2) = _
    rw [ih]
theorem put_read {b t : Int} {l : List OV} (h : errV b t l = 0) : readV (encV b t l) = (b, t, l, 0) := by
  obtain ⟨hrg, hch⟩ := errV_zero h
  have e0 : (encV b t l).drop 0 = vr b.toNat ++ (vr t.toNat ++ l.flatMap encO) := by rw [List.drop_zero]; unfold encV; rw [List.append_assoc]
  have v1 := vaN_back (M := 4000) e0 (by omega) (by omega)
  rw [Nat.zero_add] at v1
  have e1 : (encV b t l).drop (vr b.toNat).length = vr t.toNat ++ l.flatMap encO := by
    have : (encV b t l).drop (0 + (vr b.toNat).length) = vr t.toNat ++ l.flatMap encO := by rw [← List.drop_drop, e0, List.drop_left]
    rwa [Nat.zero_add] at this
  have v2 := vaN_back (M := 4000) e1 (by omega) (by omega)
  have e2 : (encV b t l).drop ((vr b.toNat).length + (vr t.toNat).length) = l.flatMap encO := by rw [← List.drop_drop, e1, List.drop_left]
  have hb : ((b.toNat : Nat) : Int) = b := by omega
  have ht : ((t.toNat : Nat) : Int) = t := by omega
  have hr : rdR (encV b t l) = (l, 0) := by
    unfold rdR
    rw [v1]
    show rdL (encV b t l) ((b.toNat : Nat) : Int) _ (vaN (encV b t l) (vr b.toNat).length 0 4000).2.1 ((vaN (encV b t l) (vr b.toNat).length 0 4000).1 : Int) = _
    rw [v2]
    show rdL (encV b t l) ((b.toNat : Nat) : Int) _ ((vr b.toNat).length + (vr t.toNat).length) ((t.toNat : Nat) : Int) = _
    rw [hb, ht]
    exact rdL_back (by omega) l _ _ t hch (by omega) e2 (by omega)
  have hq : (vaN (encV b t l) (vaN (encV b t l) 0 0 4000).2.1 (vaN (encV b t l) 0 0 4000).2.2 4000).2.2 = 0 := by
    rw [v1]
    show (vaN (encV b t l) (vr b.toNat).length 0 4000).2.2 = 0
    rw [v2]
  rw [read_ok hq hr, v1]
  show (((b.toNat : Nat) : Int), ((vaN (encV b t l) (vr b.toNat).length 0 4000).1 : Int), l, 0) = _
  rw [v2]
  show (((b.toNat : Nat) : Int), ((t.toNat : Nat) : Int), l, 0) = _
  rw [hb, ht]
theorem chkL_cnt {b : Int} : ∀ (l : List OV) (left : Int), chkL b left l = true → (l.length : Int) ≤ left
  | [], left, h => by unfold chkL at h; have := of_decide_eq_true h; simp; omega
  | o :: r, left, h => by
    unfold chkL at h
    rw [Bool.and_eq_true, Bool.and_eq_true] at h
    have h1 := sz_nonneg h.1.1
    have h2 := chkL_cnt r _ h.2
    rw [List.length_cons]
    omega
theorem read_cnt (d : List UInt8) : (readV d).2.2.1.length ≤ 4000 := by
  by_cases h : (readV d).2.2.2 = 0
  · obtain ⟨h1, h2⟩ := errV_zero (read_put h).1
    have := chkL_cnt _ _ h2
    omega
  · have : (readV d).2.2.1 = [] := by
      unfold readV at h ⊢
      split
      · rfl
      · split
        · rfl
        · rename_i h1 h2
          rw [if_neg h1, if_neg h2] at h
          exact absurd rfl h
    rw [this]
    exact Nat.zero_le _
end Go.Proofs.Ytpcgldkllnkaeaa

/-
  The law DeltaReads.
-/
namespace Go.Proofs.Ytpcgldkllnkaeaa
open Go.RowKit Zk Zx
set_option linter.unusedVariables false
set_option linter.unusedSimpArgs false

set_option maxRecDepth 100000 in
theorem lreads (B : Option Addr) (m d : Nat) (l : List UInt8) (w0 : World) (hb : Rs w0 1 B m d (bL l)) :
    Calls Try.prog 7 #[.slice B m d] w0 fun e w' => ∃ u, e = .returned u ∧ Like w0 w' ∧ u = .bool true := by
  refine enter1 (env := [(0, .slice B m d)]) [.slice B m d] Try.func7 rfl Try.ntmps7 rfl rfl ?_
  have hnl := hb.lenb; have hcap := hb.cap; have hmax := hb.max; have S0 := St.start w0 noM
  refine T_seq fun K1 hK1 => ?_
  refine T_region ?_
  refine L_y (y_assign rfl) rfl ?_
  refine L_nil ?_
  refine hK1 _ _ ?_
  refine T_seq fun K2 hK2 => ?_
  refine T_seq fun K3 hK3 => ?_
  refine T_region ?_
  refine L_y (y_move rfl) rfl ?_
  refine L_y (y_len Try.underlying22 rfl) rfl ?_
  refine L_y (y_gtr rfl rfl) rfl ?_
  refine L_nil ?_
  refine hK3 _ _ ?_
  refine T_cond rfl (fun h11 => ?_) (fun h11 => ?_)
  ·
    refine T_seq fun K4 hK4 => ?_
    refine T_region ?_
    refine L_o (o_call Try.func9 rfl rfl (works w0) rfl rfl ?_)
    rintro e1 w1 ⟨v1, rfl, l1, rfl⟩
    refine ⟨_, rfl, ?_⟩
    have S1 := S0.like l1
    refine L_y (y_assign rfl) rfl ?_
    refine L_nil ?_
    refine hK4 _ _ ?_
    refine T_ret ?_
    repeat (first | with_reducible refine up_then ?_ | with_reducible refine up_in ?_)
    refine ret1 rfl rfl ?_
    first | exact ⟨_, rfl, S1.like0, rfl⟩ | exact ⟨_, rfl, Like.trans lw2 S1.like0, rfl⟩
  ·
    refine T_skip ?_
    refine hK2 _ _ ?_
    refine T_seq fun K5 hK5 => ?_
    refine T_region ?_
    refine L_y (y_move rfl) rfl ?_
    refine L_o (o_call Try.func23 rfl rfl (pread B m d l w0 (S0.rd hb) (by omega)) rfl rfl ?_)
    rintro e2 w2 ⟨v2, rfl, l2, A15, c15, qs, rfl, hQ_1, hk_1, hqv⟩
    refine ⟨_, rfl, ?_⟩
    have S2 := S0.like l2
    have lk1 := S2.like0
    have lw1 := lk1
    have hb1 := hb.like lw1
    have S91 := St.start w2 noM
    refine L_y (y_move rfl) rfl ?_
    refine L_y (y_extract rfl rfl) rfl ?_
    refine L_y (y_extract rfl rfl) rfl ?_
    refine L_o (o_alloc zz25 S91 rfl fun b3 w3 hb3 S3 => ?_)
    refine L_o (o_stW S3 0 rfl rfl rfl sz25 rfl (scA_one _ _ _ _ _) fun w4 S4 => ?_)
    refine L_y (y_assign rfl) rfl ?_
    refine L_nil ?_
    refine hK5 _ _ ?_
    refine T_seq fun K6 hK6 => ?_
    refine T_region ?_
    refine L_y (y_move rfl) rfl ?_
    refine L_o (o_call Try.func24 rfl rfl (rread B m d l w4 (S4.rd hb1) (by omega)) rfl rfl ?_)
    rintro e5 w5 ⟨v5, rfl, l5, A20, c20, ks, rfl, hR_2, hj_2, hkv⟩
    refine ⟨_, rfl, ?_⟩
    have S5 := S4.like l5
    have lk2 := S5.like0
    have lw2 := Like.trans lw1 lk2
    have hb2 := hb.like lw2
    have b3h_2 := S5.blk 0 rfl
    have hQ_2 := S5.rd hQ_1
    have hk_2 := hk_1.like lk2
    have S92 := St.start w5 noM
    refine L_y (y_move rfl) rfl ?_
    refine L_y (y_extract rfl rfl) rfl ?_
    refine L_y (y_extract rfl rfl) rfl ?_
    refine L_o (o_alloc zz30 S92 rfl fun b6 w6 hb6 S6 => ?_)
    refine L_o (o_stW S6 0 rfl rfl rfl sz30 rfl (scA_one _ _ _ _ _) fun w7 S7 => ?_)
    refine L_y (y_assign rfl) rfl ?_
    refine L_nil ?_
    refine hK6 _ _ ?_
    refine T_seq fun K7 hK7 => ?_
    refine T_seq fun K8 hK8 => ?_
    refine T_region ?_
    refine L_y (y_move rfl) rfl ?_
    refine L_y (y_move rfl) rfl ?_
    refine L_y (y_neq rfl rfl) rfl ?_
    refine L_y (y_move rfl) rfl ?_
    refine L_split 26 rfl (fun h26 => ?_) (fun h26 => ?_)
    ·
      exact absurd rfl h26
    ·
      refine L_gyes rfl rfl ?_
      refine L_y (y_ldW Try.underlying25 rfl sz25 rfl (S7.rdB b3h_2) (show _ = (scA (readV l).1 (readV l).2.1 A15 qs.length c15).toList ∧ _ from ⟨rfl, rfl⟩)) rfl ?_
      refine L_gyes rfl rfl ?_
      refine L_y (y_ldW Try.underlying30 rfl sz30 rfl (S7.blk 0 rfl) (show _ = (scA (readV l).1 (readV l).2.1 A20 ks.length c20).toList ∧ _ from ⟨rfl, rfl⟩)) rfl ?_
      refine L_gyes rfl rfl ?_
      refine L_o (o_call Try.func15 rfl rfl (psameT A15 qs.length c15 qs (readV l).1 (readV l).2.1 A20 ks.length c20 ks w7 (S7.rd hQ_2) (hk_2.like S7.like0) (S7.rd hR_2) (hj_2.like S7.like0) (hqv.trans hkv.symm)) rfl rfl ?_)
      rintro e9 w9 ⟨v9, rfl, l9, rfl⟩
      refine ⟨_, rfl, ?_⟩
      have S9 := S7.like l9
      refine L_gyes rfl rfl ?_
      refine L_y ((by first | exact y_notD rfl | exact y_not rfl)) rfl ?_
      refine L_y ((by first | exact y_pickT rfl rfl | exact y_pickF rfl rfl)) rfl ?_
      refine L_nil ?_
      refine hK8 _ _ ?_
      refine T_false rfl ?_
      refine T_skip ?_
      refine hK7 _ _ ?_
      refine T_seq fun K9 hK9 => ?_
      refine T_region ?_
      refine L_y (y_ldW Try.underlying25 rfl sz25 rfl (S9.rdB b3h_2) (show _ = (scA (readV l).1 (readV l).2.1 A15 qs.length c15).toList ∧ _ from ⟨rfl, rfl⟩)) rfl ?_
      refine L_o (o_call Try.func18 rfl rfl (pput A15 qs.length c15 qs (readV l).1 (readV l).2.1 w9 (S9.rd hQ_2) (hk_2.like S9.like0) (by have h9 := read_cnt l; rw [← hqv, List.length_map] at h9; exact h9)) rfl rfl ?_)
      rintro e10 w10 ⟨v10, rfl, l10, A34, c34, rfl, O10⟩
      refine ⟨_, rfl, ?_⟩
      have S10 := S9.adopt l10 O10
      refine L_y (y_move rfl) rfl ?_
      refine L_y (y_extract rfl rfl) rfl ?_
      refine L_y (y_extract rfl rfl) rfl ?_
      refine L_y (y_assign rfl) rfl ?_
      refine L_y (y_assign rfl) rfl ?_
      refine L_nil ?_
      refine hK9 _ _ ?_
      refine T_seq fun K10 hK10 => ?_
      refine T_region ?_
      refine L_y (y_move rfl) rfl ?_
      refine L_y (y_neq rfl rfl) rfl ?_
      refine L_y (y_move rfl) rfl ?_
      refine L_split 39 rfl (fun h39 => ?_) (fun h39 => ?_)
      ·
        refine L_gno rfl rfl rfl ?_
        refine L_gno rfl rfl rfl ?_
        refine L_gno rfl rfl rfl ?_
        refine L_gnu rfl rfl rfl ?_
        refine L_gnu rfl rfl rfl ?_
        refine L_gnu rfl rfl rfl ?_
        refine L_gno rfl rfl rfl ?_
        refine L_y ((by first | exact y_pickT rfl rfl | exact y_pickF rfl rfl)) rfl ?_
        refine L_y (y_move rfl) rfl ?_
        refine L_gyes rfl rfl ?_
        refine L_o (o_call Try.func9 rfl rfl (works w10) rfl rfl ?_)
        rintro e12 w12 ⟨v12, rfl, l12, rfl⟩
        refine ⟨_, rfl, ?_⟩
        have S12 := S10.like l12
        refine L_y ((by first | exact y_pickT rfl rfl | exact y_pickF rfl rfl)) rfl ?_
        refine L_y (y_assign rfl) rfl ?_
        refine L_nil ?_
        refine hK10 _ _ ?_
        refine T_ret ?_
        repeat (first | with_reducible refine up_then ?_ | with_reducible refine up_in ?_)
        refine ret1 rfl rfl ?_
        first | exact ⟨_, rfl, S12.like0, rfl⟩ | exact ⟨_, rfl, Like.trans lw2 S12.like0, rfl⟩
      ·
        have hpr := read_put (Decidable.byContradiction h39)
        have hpt : (putR (readV l).1 (readV l).2.1 (qs.map OP.v)) = (l, 0) := by rw [hqv, put_ok hpr.1, hpr.2]
        rw [hpt] at S10
        rw [hpt]
        refine L_gyes rfl rfl ?_
        refine L_y (y_move rfl) rfl ?_
        refine L_gyes rfl rfl ?_
        refine L_y (y_eql rfl rfl) rfl ?_
        refine L_gyes rfl rfl ?_
        refine L_y (y_move rfl) rfl ?_
        refine L_split 42 rfl (fun h42 => ?_) (fun h42 => ?_)
        ·
          refine L_gyes rfl rfl ?_
          refine L_y (y_move rfl) rfl ?_
          refine L_gyes rfl rfl ?_
          refine L_y (y_move rfl) rfl ?_
          refine L_gyes rfl rfl ?_
          refine L_o (o_call Try.func14 rfl rfl (same1T A34 B l.length c34 m d l w10 (S10.row 1 rfl) (S10.rd hb2)) rfl rfl ?_)
          rintro e14 w14 ⟨v14, rfl, l14, rfl⟩
          refine ⟨_, rfl, ?_⟩
          have S14 := S10.like l14
          refine L_gyes rfl rfl ?_
          refine L_y ((by first | exact y_pickT rfl rfl | exact y_pickF rfl rfl)) rfl ?_
          refine L_y ((by first | exact y_pickT rfl rfl | exact y_pickF rfl rfl)) rfl ?_
          refine L_y (y_move rfl) rfl ?_
          refine L_splitB 48 rfl (fun h48 => ?_) (fun h48 => ?_)
          ·
            refine L_gyes rfl rfl ?_
            refine L_o (o_call Try.func9 rfl rfl (works w14) rfl rfl ?_)
            rintro e16 w16 ⟨v16, rfl, l16, rfl⟩
            refine ⟨_, rfl, ?_⟩
            have S16 := S14.like l16
            refine L_y ((by first | exact y_pickT rfl rfl | exact y_pickF rfl rfl)) rfl ?_
            refine L_y (y_assign rfl) rfl ?_
            refine L_nil ?_
            refine hK10 _ _ ?_
            refine T_ret ?_
            repeat (first | with_reducible refine up_then ?_ | with_reducible refine up_in ?_)
            refine ret1 rfl rfl ?_
            first | exact ⟨_, rfl, S16.like0, rfl⟩ | exact ⟨_, rfl, Like.trans lw2 S16.like0, rfl⟩
          ·
            cases h48
        ·
          exact absurd rfl h42


theorem reads_law (B : Option Addr) (m d : Nat) (l : List UInt8) (w0 : World) (hb : Rs w0 1 B m d (bL l)) :
    Calls Try.prog 7 #[.slice B m d] w0 fun e w' => e = .returned (.bool true) ∧ Below w0.heap.size w0 w' :=
  (lreads B m d l w0 hb).mono fun e w' ⟨u, h1, h2, h3⟩ => by subst h3; exact ⟨h1, h2⟩
end Go.Proofs.Ytpcgldkllnkaeaa

/-
  The document: Make.
-/
namespace Go.Proofs.Ytpcgldkllnkaeaa
open Go.RowKit Zk Zx
set_option linter.unusedVariables false
set_option linter.unusedSimpArgs false

theorem fr_step {t : List UInt8} {s k : Nat} {x : UInt8} (hs : s ≤ k) (hx : t[k]? = some x) : (t.drop s).take (k + 1 - s) = (t.drop s).take (k - s) ++ [x] := by
  have h : (t.drop s)[k - s]? = some x := by rw [List.getElem?_drop, show s + (k - s) = k by omega]; exact hx
  rw [show k + 1 - s = k - s + 1 by omega, take1 h]
theorem relB_lo {a t : List UInt8} (h : (bstA a t a.length).2 < 6) : (bst a t).2 = 0 := by
  rcases bst_all a t with ⟨_, h2⟩ | ⟨h1, _⟩
  · rw [h2]
  · omega
theorem relB_hi {a t : List UInt8} (h : ¬ (bstA a t a.length).2 < 6) : bstA a t a.length = bst a t := by
  rcases bst_all a t with ⟨h1, _⟩ | ⟨_, h2⟩
  · exact absurd h1 h
  · exact h2.symm
theorem fl_pos {t : List UInt8} {s e : Nat} (h : s < e) : fl t s e = [⟨false, 0, 0, (t.drop s).take (e - s)⟩] := by unfold fl; rw [if_pos h]
theorem fl_neg {t : List UInt8} {s e : Nat} (h : ¬ s < e) : fl t s e = [] := by unfold fl; rw [if_neg h]
theorem fr_len {t : List UInt8} {s k : Nat} (hk : k ≤ t.length) : ((t.drop s).take (k - s)).length = k - s := by rw [List.length_take, List.length_drop]; omega


set_option maxRecDepth 100000 in
theorem rmake (A B : Option Addr) (n c m d : Nat) (a t : List UInt8) (w0 : World) (ha : Rs w0 1 A n c (bL a)) (ht : Rs w0 1 B m d (bL t)) (hmx : n ≤ 4000) (hmt : m ≤ 4000) :
    Calls Try.prog 25 #[.slice A n c, .slice B m d] w0 fun e w' => ∃ u, e = .returned u ∧ Like w0 w' ∧ ∃ A' c' ops, u = .tuple #[.agg (scA (n : Int) (m : Int) A' ops.length c'), .int .i64 0] ∧ Rs w' 4 A' ops.length c' (ops.flatMap opf) ∧ OkO w' ops ∧ ops.map OP.v = mkV a t := by
  refine enter1 (env := [(0, .slice A n c), (1, .slice B m d)]) [.slice A n c, .slice B m d] Try.func25 rfl Try.ntmps25 rfl rfl ?_
  have hn := ha.lenb; have hcap := ha.cap; have hmax := ha.max; have hmn := ht.lenb; have hcap2 := ht.cap; have hmax2 := ht.max; have S0 := St.start w0 noM
  refine T_seq fun K1 hK1 => ?_
  refine T_region ?_
  refine L_o (o_alloc zz30 S0 rfl fun b1 w1 hb1 S1 => ?_)
  refine L_y (y_assign rfl) rfl ?_
  refine L_nil ?_
  refine hK1 _ _ ?_
  refine T_seq fun K2 hK2 => ?_
  refine T_seq fun K3 hK3 => ?_
  refine T_region ?_
  refine L_y (y_move rfl) rfl ?_
  refine L_y (y_len Try.underlying22 rfl) rfl ?_
  refine L_y (y_gtr rfl rfl) rfl ?_
  refine L_y (y_move rfl) rfl ?_
  refine L_split 16 rfl (fun h16 => ?_) (fun h16 => ?_)
  ·
    omega
  ·
    refine L_gyes rfl rfl ?_
    refine L_y (y_move rfl) rfl ?_
    refine L_gyes rfl rfl ?_
    refine L_y (y_len Try.underlying22 rfl) rfl ?_
    refine L_gyes rfl rfl ?_
    refine L_y (y_gtr rfl rfl) rfl ?_
    refine L_y ((by first | exact y_pickT rfl rfl | exact y_pickF rfl rfl)) rfl ?_
    refine L_nil ?_
    refine hK3 _ _ ?_
    refine T_cond rfl (fun h20 => ?_) (fun h20 => ?_)
    ·
      omega
    ·
      refine T_skip ?_
      refine hK2 _ _ ?_
      refine T_seq fun K4 hK4 => ?_
      refine T_region ?_
      refine L_y (y_move rfl) rfl ?_
      refine L_y (y_len Try.underlying22 rfl) rfl ?_
      refine L_y (y_move rfl) rfl ?_
      refine L_y (y_len Try.underlying22 rfl) rfl ?_
      refine L_y (y_build rfl (show _ = some (scA (n : Int) (m : Int) none 0 0) by kernel_rfl)) rfl ?_
      refine L_o (o_alloc zz30 S1 rfl fun b3 w3 hb3 S3 => ?_)
      refine L_o (o_stW S3 1 rfl rfl rfl sz30 rfl (scA_one _ _ _ _ _) fun w4 S4 => ?_)
      refine L_nil ?_
      refine hK4 _ _ ?_
      refine T_seq fun K5 hK5 => ?_
      refine T_region ?_
      have S5 := S4.nilrow 5 1
      refine L_y (y_assign rfl) rfl ?_
      refine L_nil ?_
      refine hK5 _ _ ?_
      refine T_seq fun K6 hK6 => ?_
      refine T_region ?_
      refine L_y (y_assign rfl) rfl ?_
      refine L_nil ?_
      refine hK6 _ _ ?_
      refine T_seq fun K7 hK7 => ?_
      refine T_block ?_
      refine T_loop8 [(0, _), (1, _), (4, _), (6, _)] (fun (k : Nat) (s0 : Nat) (A1 : Option Addr) (c1 : Nat) (Af : Option Addr) (cf : Nat) (ops : List OP) (ps : List Part) => [(8, .int .i64 (k : Int)), (7, .slice Af (k - s0) cf)]) (fun (k : Nat) (s0 : Nat) (A1 : Option Addr) (c1 : Nat) (Af : Option Addr) (cf : Nat) (ops : List OP) (ps : List Part) => m - k) (fun (k : Nat) (s0 : Nat) (A1 : Option Addr) (c1 : Nat) (Af : Option Addr) (cf : Nat) (ops : List OP) (ps : List Part) (w : World) => (k ≤ m ∧ s0 ≤ k ∧ ops.length ≤ 2 * k ∧ InP ops ps ∧ MKI a t k s0 ops) ∧ St w0 noM [blk b1 30 #[.int .i64 0, .int .i64 0, .slice none 0 0], blk b3 30 (scA (n : Int) (m : Int) A1 ops.length c1), row 5 1 Af (k - s0) cf (bL ((t.drop s0).take (k - s0))), row 58 4 A1 ops.length c1 (ops.flatMap opf), fam (ps.map partR)] w) 0 0 none 0 none 0 [] [] (Sub.cons rfl (by first | rfl | exact congrArg (Value.int _) (by omega)) (Sub.cons rfl (by first | rfl | exact congrArg (Value.int _) (by omega)) (Sub.nil _))) (Sub.cons rfl rfl (Sub.cons rfl rfl (Sub.cons rfl rfl (Sub.cons rfl rfl (Sub.nil _))))) ?_ ?_
      ·
        have S9 := ((S5.nilrow 58 4).fam0)
        have S8 := S9.rowc 2 rfl (n' := 0 - 0) (xs' := bL ((t.drop 0).take (0 - 0))) rfl (by simp [bL])
        exact ⟨⟨Nat.zero_le _, Nat.le_refl _, Nat.le_refl _, (fun o ho => (List.not_mem_nil ho).elim), MKI.start a t⟩, S8⟩
      ·
        intro k s0 A1 c1 Af cf ops ps w6 hrel
        obtain ⟨⟨hk, hsk, hol, hin, hmk⟩, S6⟩ := hrel
        refine T_seq fun K8 hK8 => ?_
        refine T_seq fun K9 hK9 => ?_
        refine T_region ?_
        refine L_y (y_move rfl) rfl ?_
        refine L_y (y_move rfl) rfl ?_
        refine L_y (y_len Try.underlying22 rfl) rfl ?_
        refine L_y (y_lss rfl rfl) rfl ?_
        refine L_nil ?_
        refine hK9 _ _ ?_
        refine T_cond rfl (fun h30 => ?_) (fun h30 => ?_)
        ·
          refine T_skip ?_
          refine hK8 _ _ ?_
          refine T_block ?_
          refine T_seq fun K10 hK10 => ?_
          refine T_region ?_
          refine L_y (y_assign rfl) rfl ?_
          refine L_y (y_assign rfl) rfl ?_
          refine L_nil ?_
          refine hK10 _ _ ?_
          refine T_seq fun K11 hK11 => ?_
          refine T_seq fun K12 hK12 => ?_
          refine T_region ?_
          refine L_y (y_assign rfl) rfl ?_
          refine L_nil ?_
          refine hK12 _ _ ?_
          refine T_block ?_
          refine T_loop1 [(0, _), (1, _), (4, _), (6, _), (7, _), (8, _)] (fun (j : Nat) => [(11, .int .i64 (j : Int)), (9, .int .i64 ((bstA a (t.drop k) j).1 : Int)), (10, .int .i64 ((bstA a (t.drop k) j).2 : Int))]) (fun (j : Nat) => n - j) (fun (j : Nat) (w : World) => j ≤ n ∧ St w0 noM [blk b1 30 #[.int .i64 0, .int .i64 0, .slice none 0 0], blk b3 30 (scA (n : Int) (m : Int) A1 ops.length c1), row 5 1 Af (k - s0) cf (bL ((t.drop s0).take (k - s0))), row 58 4 A1 ops.length c1 (ops.flatMap opf), fam (ps.map partR)] w) 0 (Sub.cons rfl (by first | rfl | exact congrArg (Value.int _) (by omega)) (Sub.cons rfl (by first | rfl | exact congrArg (Value.int _) (by omega)) (Sub.cons rfl (by first | rfl | exact congrArg (Value.int _) (by omega)) (Sub.nil _)))) (Sub.cons rfl rfl (Sub.cons rfl rfl (Sub.cons rfl rfl (Sub.cons rfl rfl (Sub.cons rfl rfl (Sub.cons rfl rfl (Sub.nil _))))))) ?_ ?_
          ·
            exact ⟨Nat.zero_le _, S6⟩
          ·
            intro j w7 hrel
            obtain ⟨hj, S7⟩ := hrel
            refine T_seq fun K13 hK13 => ?_
            refine T_seq fun K14 hK14 => ?_
            refine T_region ?_
            refine L_y (y_move rfl) rfl ?_
            refine L_y (y_move rfl) rfl ?_
            refine L_y (y_len Try.underlying22 rfl) rfl ?_
            refine L_y (y_lss rfl rfl) rfl ?_
            refine L_nil ?_
            refine hK14 _ _ ?_
            refine T_cond rfl (fun h34 => ?_) (fun h34 => ?_)
            ·
              refine T_skip ?_
              refine hK13 _ _ ?_
              refine T_seq fun K15 hK15 => ?_
              refine T_block ?_
              refine T_seq fun K16 hK16 => ?_
              refine T_region ?_
              refine L_y (y_move rfl) rfl ?_
              refine L_y (y_move rfl) rfl ?_
              refine L_y (y_move rfl) rfl ?_
              refine L_y (y_move rfl) rfl ?_
              refine L_o (o_call Try.func51 rfl rfl (rbegins A B n c m d a t j k w7 (S7.rd ha) (S7.rd ht) (by omega) (by omega)) rfl rfl ?_)
              rintro e8 w8 ⟨v8, rfl, l8, rfl⟩
              refine ⟨_, rfl, ?_⟩
              have S8 := S7.like l8
              refine L_y (y_assign rfl) rfl ?_
              refine L_nil ?_
              refine hK16 _ _ ?_
              refine T_seq fun K17 hK17 => ?_
              refine T_region ?_
              refine L_y (y_move rfl) rfl ?_
              refine L_y (y_move rfl) rfl ?_
              refine L_y (y_gtr rfl rfl) rfl ?_
              refine L_nil ?_
              refine hK17 _ _ ?_
              refine T_cond rfl (fun h44 => ?_) (fun h44 => ?_)
              ·
                refine T_seq fun K18 hK18 => ?_
                refine T_region ?_
                refine L_y (y_move rfl) rfl ?_
                refine L_y (y_assign rfl) rfl ?_
                refine L_nil ?_
                refine hK18 _ _ ?_
                refine T_region ?_
                refine L_y (y_move rfl) rfl ?_
                refine L_y (y_assign rfl) rfl ?_
                refine L_nil ?_
                refine hK15 _ _ ?_
                refine T_region ?_
                refine L_y (y_move rfl) rfl ?_
                refine L_y (y_add rfl rfl (i64w (by omega))) rfl ?_
                refine L_y (y_assign rfl) rfl ?_
                refine L_nil ?_
                refine ⟨j + 1, by omega, ⟨by omega, S8⟩, ?_⟩
                exact (Sub.cons rfl (by first | rfl | exact congrArg (Value.int _) (by omega)) (Sub.cons rfl (by rw [bstA_succ]; unfold stepB; first | rw [if_pos (by omega)] | rw [if_neg (by omega)]) (Sub.cons rfl (by rw [bstA_succ]; unfold stepB; first | rw [if_pos (by omega)] | rw [if_neg (by omega)]) (Sub.cons rfl rfl (Sub.cons rfl rfl (Sub.cons rfl rfl (Sub.cons rfl rfl (Sub.cons rfl rfl (Sub.cons rfl rfl (Sub.nil _))))))))))
              ·
                refine T_skip ?_
                refine hK15 _ _ ?_
                refine T_region ?_
                refine L_y (y_move rfl) rfl ?_
                refine L_y (y_add rfl rfl (i64w (by omega))) rfl ?_
                refine L_y (y_assign rfl) rfl ?_
                refine L_nil ?_
                refine ⟨j + 1, by omega, ⟨by omega, S8⟩, ?_⟩
                exact (Sub.cons rfl (by first | rfl | exact congrArg (Value.int _) (by omega)) (Sub.cons rfl (by rw [bstA_succ]; unfold stepB; first | rw [if_pos (by omega)] | rw [if_neg (by omega)]) (Sub.cons rfl (by rw [bstA_succ]; unfold stepB; first | rw [if_pos (by omega)] | rw [if_neg (by omega)]) (Sub.cons rfl rfl (Sub.cons rfl rfl (Sub.cons rfl rfl (Sub.cons rfl rfl (Sub.cons rfl rfl (Sub.cons rfl rfl (Sub.nil _))))))))))
            ·
              have hjn : n = j := by omega
              subst hjn
              have hbd := bst_bd a (t.drop k)
              rw [List.length_drop] at hbd
              refine T_exit ?_
              refine hK11 _ _ ?_
              refine T_seq fun K19 hK19 => ?_
              refine T_seq fun K20 hK20 => ?_
              refine T_region ?_
              refine L_y (y_move rfl) rfl ?_
              refine L_y (y_lss rfl rfl) rfl ?_
              refine L_nil ?_
              refine hK20 _ _ ?_
              refine T_cond rfl (fun h48 => ?_) (fun h48 => ?_)
              ·
                have hlo : (bstA a (t.drop k) a.length).2 < 6 := by rw [hn]; omega
                obtain ⟨x, hx⟩ : ∃ x, t[k]? = some x := ⟨_, List.getElem?_eq_getElem (by omega)⟩
                refine T_seq fun K21 hK21 => ?_
                refine T_region ?_
                refine L_y (y_move rfl) rfl ?_
                refine L_y (y_move rfl) rfl ?_
                refine L_y (y_move rfl) rfl ?_
                refine L_y (y_idx Try.underlying22 sz5 rfl rfl (S7.rd ht) (Nt.mk (by omega) : Nt _ (k)) (by omega)) rfl ?_
                refine L_y (y_ldr Try.underlying5 rfl rfl (S7.rd ht) (bL_getX hx)) rfl ?_
                refine L_o (o_bsl [_] te22 zz5 S7 rfl rfl rfl rfl rfl rfl rfl rfl fun b9 w9 S9 => ?_)
                refine L_o (o_app te22 S9 2 rfl rfl rfl (by first | exact S9.row 2 rfl | exact S9.row 3 rfl | exact S9.fix 4 rfl | exact S9.row 5 rfl) (by first | exact bL_one _ | exact iL_one _ | (intro u hu; simp at hu; subst hu; rfl) | (simp; done) | (simp [Value.oneCell']; done)) rfl (by omega) (by omega) fun A10 c10 w10 S10 => ?_)
                have S10d := S10.drop (rs' := [_, _, _, _, _]) (.cons_cons _ (.cons_cons _ (.cons_cons _ (.cons_cons _ (.cons_cons _ (.cons _ (.refl _)))))))
                refine L_y (y_assign rfl) rfl ?_
                refine L_nil ?_
                refine hK21 _ _ ?_
                refine T_seq fun K22 hK22 => ?_
                refine T_region ?_
                refine L_y (y_move rfl) rfl ?_
                refine L_y (y_add rfl rfl (i64w (by omega))) rfl ?_
                refine L_y (y_assign rfl) rfl ?_
                refine L_nil ?_
                refine hK22 _ _ ?_
                refine T_exit ?_
                have S91 := S10d.rowc 2 rfl (n' := k + 1 - s0) (xs' := bL ((t.drop s0).take (k + 1 - s0))) (by omega) (by rw [fr_step (by omega) hx, ← bL_app']; rfl)
                have S92 := S91.sel [0, 1, 2, 3, 4] (by decide)
                refine ⟨k + 1, s0, A1, c1, A10, c10, ops, ps, by omega, ⟨⟨by omega, by omega, by omega, hin, hmk.zero (by omega) (relB_lo hlo)⟩, S92⟩, ?_⟩
                exact (Sub.cons rfl (by first | rfl | exact congrArg (Value.int _) (by omega)) (Sub.cons rfl (by first | rfl | (congr 1; omega)) (Sub.cons rfl rfl (Sub.cons rfl rfl (Sub.cons rfl rfl (Sub.cons rfl rfl (Sub.nil _)))))))
              ·
                have hbe : bstA a (t.drop k) n = bst a (t.drop k) := by rw [← hn]; exact relB_hi (by rw [hn]; omega)
                rw [hbe] at h48
                rw [hbe]
                refine T_skip ?_
                refine hK19 _ _ ?_
                refine T_seq fun K23 hK23 => ?_
                refine T_seq fun K24 hK24 => ?_
                refine T_region ?_
                refine L_y (y_move rfl) rfl ?_
                refine L_y (y_len Try.underlying22 rfl) rfl ?_
                refine L_y (y_gtr rfl rfl) rfl ?_
                refine L_nil ?_
                refine hK24 _ _ ?_
                refine T_cond rfl (fun h60 => ?_) (fun h60 => ?_)
                ·
                  refine T_seq fun K25 hK25 => ?_
                  refine T_region ?_
                  refine L_y (y_fieldA 2 Try.underlying30 rfl sz28 rfl rfl rfl) rfl ?_
                  refine L_y (y_ldc Try.underlying28 rfl rfl (((S7.blk 1 rfl).cell _).trans (by rfl))) rfl ?_
                  refine L_y (y_move rfl) rfl ?_
                  refine L_y (y_build rfl (show _ = some (opf (⟨false, 0, 0, ⟨Af, k - s0, cf, ((t.drop s0).take (k - s0))⟩⟩ : OP)).toArray by kernel_rfl)) rfl ?_
                  refine L_o (o_bsl (opf (⟨false, 0, 0, ⟨Af, k - s0, cf, ((t.drop s0).take (k - s0))⟩⟩ : OP)) te28 zz58 S7 rfl rfl rfl rfl rfl rfl rfl rfl fun b11 w11 S11 => ?_)
                  refine L_o (o_app te28 S11 3 rfl rfl rfl (by first | exact S11.row 2 rfl | exact S11.row 3 rfl | exact S11.fix 4 rfl | exact S11.row 5 rfl) (opf_one _) rfl (by omega) (by omega) fun A12 c12 w12 S12 => ?_)
                  have S12d := S12.drop (rs' := [_, _, _, _, _]) (.cons_cons _ (.cons_cons _ (.cons_cons _ (.cons_cons _ (.cons_cons _ (.cons _ (.refl _)))))))
                  refine L_y (y_fieldA 2 Try.underlying30 rfl sz28 rfl rfl rfl) rfl ?_
                  refine L_o (o_st1 S12d 1 rfl rfl rfl rfl sz28 (by show 2 < 3; decide) fun w13 S13 => ?_)
                  refine L_nil ?_
                  refine hK25 _ _ ?_
                  refine T_region ?_
                  have S14 := S13.nilrow 5 1
                  refine L_y (y_assign rfl) rfl ?_
                  refine L_nil ?_
                  refine hK23 _ _ ?_
                  refine T_seq fun K26 hK26 => ?_
                  refine T_region ?_
                  refine L_y (y_fieldA 2 Try.underlying30 rfl sz28 rfl rfl rfl) rfl ?_
                  refine L_y (y_ldc Try.underlying28 rfl rfl (((S14.blk 1 rfl).cell _).trans (by rfl))) rfl ?_
                  refine L_y (y_move rfl) rfl ?_
                  refine L_y (y_move rfl) rfl ?_
                  refine L_y (y_build rfl (show _ = some (opf (⟨true, ((bst a (t.drop k)).1 : Int), ((bst a (t.drop k)).2 : Int), p0⟩ : OP)).toArray by kernel_rfl)) rfl ?_
                  refine L_o (o_bsl (opf (⟨true, ((bst a (t.drop k)).1 : Int), ((bst a (t.drop k)).2 : Int), p0⟩ : OP)) te28 zz58 S14 rfl rfl rfl rfl rfl rfl rfl rfl fun b15 w15 S15 => ?_)
                  refine L_o (o_app te28 S15 3 rfl rfl rfl (by first | exact S15.row 3 rfl | exact S15.fix 4 rfl | exact S15.row 5 rfl | exact S15.row 6 rfl) (opf_one _) rfl (by omega) (by omega) fun A16 c16 w16 S16 => ?_)
                  have S16d := S16.drop (rs' := [_, _, _, _, _, _]) (.cons_cons _ (.cons_cons _ (.cons_cons _ (.cons_cons _ (.cons_cons _ (.cons_cons _ (.cons _ (.refl _))))))))
                  refine L_y (y_fieldA 2 Try.underlying30 rfl sz28 rfl rfl rfl) rfl ?_
                  refine L_o (o_st1 S16d 1 rfl rfl rfl rfl sz28 (by show 2 < 3; decide) fun w17 S17 => ?_)
                  refine L_nil ?_
                  refine hK26 _ _ ?_
                  refine T_region ?_
                  refine L_y (y_move rfl) rfl ?_
                  refine L_y (y_move rfl) rfl ?_
                  refine L_y (y_add rfl rfl (i64w (by omega))) rfl ?_
                  refine L_y (y_assign rfl) rfl ?_
                  refine L_nil ?_
                  have S91 := S17.blkc 1 rfl (show _ = scA (n : Int) (m : Int) A16 ((ops ++ [(⟨false, 0, 0, ⟨Af, k - s0, cf, ((t.drop s0).take (k - s0))⟩⟩ : OP)]) ++ [(⟨true, ((bst a (t.drop k)).1 : Int), ((bst a (t.drop k)).2 : Int), p0⟩ : OP)]).length c16 from by simp [scA, Nat.add_assoc])
                  have S92 := S91.rowc 3 rfl (n' := ((ops ++ [(⟨false, 0, 0, ⟨Af, k - s0, cf, ((t.drop s0).take (k - s0))⟩⟩ : OP)]) ++ [(⟨true, ((bst a (t.drop k)).1 : Int), ((bst a (t.drop k)).2 : Int), p0⟩ : OP)]).length) (xs' := ((ops ++ [(⟨false, 0, 0, ⟨Af, k - s0, cf, ((t.drop s0).take (k - s0))⟩⟩ : OP)]) ++ [(⟨true, ((bst a (t.drop k)).1 : Int), ((bst a (t.drop k)).2 : Int), p0⟩ : OP)]).flatMap opf) (by simp [Nat.add_assoc]) (by simp [List.flatMap_append])
                  have S93 := ((S92.still 2 rfl).sel [0, 1, 5, 3, 4, 2] (by decide))
                  have S96 := famAdd (rs := [_, _, _, _, fam (ps.map partR)]) (ps := ps) (p := (⟨false, 0, 0, ⟨Af, k - s0, cf, ((t.drop s0).take (k - s0))⟩⟩ : OP).p) S93 4 rfl
                  have S97 := S96.rowc 2 rfl (n' := (k + (bst a (t.drop k)).2) - (k + (bst a (t.drop k)).2)) (xs' := bL ((t.drop (k + (bst a (t.drop k)).2)).take ((k + (bst a (t.drop k)).2) - (k + (bst a (t.drop k)).2)))) (by omega) (by first | (simp [bL]; done) | (rw [show k - s0 = 0 by omega]; simp [bL]))
                  refine ⟨k + (bst a (t.drop k)).2, k + (bst a (t.drop k)).2, A16, c16, none, 0, (ops ++ [(⟨false, 0, 0, ⟨Af, k - s0, cf, ((t.drop s0).take (k - s0))⟩⟩ : OP)]) ++ [(⟨true, ((bst a (t.drop k)).1 : Int), ((bst a (t.drop k)).2 : Int), p0⟩ : OP)], (ps ++ [(⟨false, 0, 0, ⟨Af, k - s0, cf, ((t.drop s0).take (k - s0))⟩⟩ : OP).p]), by omega, ⟨⟨by omega, Nat.le_refl _, by simp; omega, hin.add.add0 rfl, hmk.copy (by omega) (by omega) (by rw [List.map_append, List.map_append, fl_pos (by omega)]; rfl)⟩, S97⟩, ?_⟩
                  exact (Sub.cons rfl (by first | rfl | exact congrArg (Value.int _) (by omega)) (Sub.cons rfl (by first | rfl | (congr 1; omega)) (Sub.cons rfl rfl (Sub.cons rfl rfl (Sub.cons rfl rfl (Sub.cons rfl rfl (Sub.nil _)))))))
                ·
                  refine T_skip ?_
                  refine hK23 _ _ ?_
                  refine T_seq fun K27 hK27 => ?_
                  refine T_region ?_
                  refine L_y (y_fieldA 2 Try.underlying30 rfl sz28 rfl rfl rfl) rfl ?_
                  refine L_y (y_ldc Try.underlying28 rfl rfl (((S7.blk 1 rfl).cell _).trans (by rfl))) rfl ?_
                  refine L_y (y_move rfl) rfl ?_
                  refine L_y (y_move rfl) rfl ?_
                  refine L_y (y_build rfl (show _ = some (opf (⟨true, ((bst a (t.drop k)).1 : Int), ((bst a (t.drop k)).2 : Int), p0⟩ : OP)).toArray by kernel_rfl)) rfl ?_
                  refine L_o (o_bsl (opf (⟨true, ((bst a (t.drop k)).1 : Int), ((bst a (t.drop k)).2 : Int), p0⟩ : OP)) te28 zz58 S7 rfl rfl rfl rfl rfl rfl rfl rfl fun b18 w18 S18 => ?_)
                  refine L_o (o_app te28 S18 3 rfl rfl rfl (by first | exact S18.row 2 rfl | exact S18.row 3 rfl | exact S18.fix 4 rfl | exact S18.row 5 rfl) (opf_one _) rfl (by omega) (by omega) fun A19 c19 w19 S19 => ?_)
                  have S19d := S19.drop (rs' := [_, _, _, _, _]) (.cons_cons _ (.cons_cons _ (.cons_cons _ (.cons_cons _ (.cons_cons _ (.cons _ (.refl _)))))))
                  refine L_y (y_fieldA 2 Try.underlying30 rfl sz28 rfl rfl rfl) rfl ?_
                  refine L_o (o_st1 S19d 1 rfl rfl rfl rfl sz28 (by show 2 < 3; decide) fun w20 S20 => ?_)
                  refine L_nil ?_
                  refine hK27 _ _ ?_
                  refine T_region ?_
                  refine L_y (y_move rfl) rfl ?_
                  refine L_y (y_move rfl) rfl ?_
                  refine L_y (y_add rfl rfl (i64w (by omega))) rfl ?_
                  refine L_y (y_assign rfl) rfl ?_
                  refine L_nil ?_
                  have S91 := S20.blkc 1 rfl (show _ = scA (n : Int) (m : Int) A19 (ops ++ [(⟨true, ((bst a (t.drop k)).1 : Int), ((bst a (t.drop k)).2 : Int), p0⟩ : OP)]).length c19 from by simp [scA, Nat.add_assoc])
                  have S92 := S91.rowc 3 rfl (n' := (ops ++ [(⟨true, ((bst a (t.drop k)).1 : Int), ((bst a (t.drop k)).2 : Int), p0⟩ : OP)]).length) (xs' := (ops ++ [(⟨true, ((bst a (t.drop k)).1 : Int), ((bst a (t.drop k)).2 : Int), p0⟩ : OP)]).flatMap opf) (by simp [Nat.add_assoc]) (by simp [List.flatMap_append])
                  have S96 := S92.sel [0, 1, 2, 3, 4] (by decide)
                  have S97 := S96.rowc 2 rfl (n' := (k + (bst a (t.drop k)).2) - (k + (bst a (t.drop k)).2)) (xs' := bL ((t.drop (k + (bst a (t.drop k)).2)).take ((k + (bst a (t.drop k)).2) - (k + (bst a (t.drop k)).2)))) (by omega) (by first | (simp [bL]; done) | (rw [show k - s0 = 0 by omega]; simp [bL]))
                  refine ⟨k + (bst a (t.drop k)).2, k + (bst a (t.drop k)).2, A19, c19, Af, cf, ops ++ [(⟨true, ((bst a (t.drop k)).1 : Int), ((bst a (t.drop k)).2 : Int), p0⟩ : OP)], ps, by omega, ⟨⟨by omega, Nat.le_refl _, by simp; omega, hin.add0 rfl, hmk.copy (by omega) (by omega) (by rw [List.map_append, fl_neg (by omega), List.append_nil]; rfl)⟩, S97⟩, ?_⟩
                  exact (Sub.cons rfl (by first | rfl | exact congrArg (Value.int _) (by omega)) (Sub.cons rfl (by first | rfl | (congr 1; omega)) (Sub.cons rfl rfl (Sub.cons rfl rfl (Sub.cons rfl rfl (Sub.cons rfl rfl (Sub.nil _)))))))
        ·
          refine T_exit ?_
          refine hK7 _ _ ?_
          refine T_seq fun K28 hK28 => ?_
          refine T_seq fun K29 hK29 => ?_
          refine T_region ?_
          refine L_y (y_move rfl) rfl ?_
          refine L_y (y_len Try.underlying22 rfl) rfl ?_
          refine L_y (y_gtr rfl rfl) rfl ?_
          refine L_nil ?_
          refine hK29 _ _ ?_
          refine T_cond rfl (fun h81 => ?_) (fun h81 => ?_)
          ·
            refine T_region ?_
            refine L_y (y_fieldA 2 Try.underlying30 rfl sz28 rfl rfl rfl) rfl ?_
            refine L_y (y_ldc Try.underlying28 rfl rfl (((S6.blk 1 rfl).cell _).trans (by rfl))) rfl ?_
            refine L_y (y_move rfl) rfl ?_
            refine L_y (y_build rfl (show _ = some (opf (⟨false, 0, 0, ⟨Af, k - s0, cf, ((t.drop s0).take (k - s0))⟩⟩ : OP)).toArray by kernel_rfl)) rfl ?_
            refine L_o (o_bsl (opf (⟨false, 0, 0, ⟨Af, k - s0, cf, ((t.drop s0).take (k - s0))⟩⟩ : OP)) te28 zz58 S6 rfl rfl rfl rfl rfl rfl rfl rfl fun b21 w21 S21 => ?_)
            refine L_o (o_app te28 S21 3 rfl rfl rfl (by first | exact S21.row 2 rfl | exact S21.row 3 rfl | exact S21.fix 4 rfl | exact S21.row 5 rfl) (opf_one _) rfl (by omega) (by omega) fun A22 c22 w22 S22 => ?_)
            have S22d := S22.drop (rs' := [_, _, _, _, _]) (.cons_cons _ (.cons_cons _ (.cons_cons _ (.cons_cons _ (.cons_cons _ (.cons _ (.refl _)))))))
            refine L_y (y_fieldA 2 Try.underlying30 rfl sz28 rfl rfl rfl) rfl ?_
            refine L_o (o_st1 S22d 1 rfl rfl rfl rfl sz28 (by show 2 < 3; decide) fun w23 S23 => ?_)
            refine L_nil ?_
            refine hK28 _ _ ?_
            refine T_seq fun K30 hK30 => ?_
            refine T_region ?_
            refine L_y (y_ldW Try.underlying30 rfl sz30 rfl (S23.blk 1 rfl) (show _ = (scA (n : Int) (m : Int) A22 (ops.length + 1) c22).toList ∧ _ from ⟨rfl, rfl⟩)) rfl ?_
            refine L_o (o_stW S23 0 rfl rfl rfl sz30 rfl (by first | exact scA_one _ _ _ _ _ | (intro u hu; simp [scA] at hu; rcases hu with rfl | rfl | rfl <;> rfl)) fun w24 S24 => ?_)
            refine L_y (y_assign rfl) rfl ?_
            refine L_nil ?_
            refine hK30 _ _ ?_
            refine T_ret ?_
            repeat (first | with_reducible refine up_then ?_ | with_reducible refine up_in ?_)
            refine retct rfl rfl rfl (S24.blk 0 rfl) Try.underlying30 rfl (by exact sz30) ?_
            have S91 := S24.rowc 3 rfl (n' := (ops ++ [(⟨false, 0, 0, ⟨Af, k - s0, cf, ((t.drop s0).take (k - s0))⟩⟩ : OP)]).length) (xs' := (ops ++ [(⟨false, 0, 0, ⟨Af, k - s0, cf, ((t.drop s0).take (k - s0))⟩⟩ : OP)]).flatMap opf) (by simp) (by simp [List.flatMap_append])
            have S93 := ((S91.still 2 rfl).sel [3, 4, 2] (by decide))
            have S94 := famAdd (rs := [_, fam (ps.map partR)]) (ps := ps) (p := (⟨false, 0, 0, ⟨Af, k - s0, cf, ((t.drop s0).take (k - s0))⟩⟩ : OP).p) S93 1 rfl
            exact ⟨_, rfl, S94.like0, A22, c22, ops ++ [(⟨false, 0, 0, ⟨Af, k - s0, cf, ((t.drop s0).take (k - s0))⟩⟩ : OP)], by rw [List.length_append]; rfl, S94.row 0 rfl, okO_of hin.add (S94.get 1 rfl), hmk.done (by omega) (by rw [List.map_append, fl_pos (by omega), show t.length = k by omega]; rfl)⟩
          ·
            refine T_skip ?_
            refine hK28 _ _ ?_
            refine T_seq fun K31 hK31 => ?_
            refine T_region ?_
            refine L_y (y_ldW Try.underlying30 rfl sz30 rfl (S6.blk 1 rfl) (show _ = (scA (n : Int) (m : Int) A1 ops.length c1).toList ∧ _ from ⟨rfl, rfl⟩)) rfl ?_
            refine L_o (o_stW S6 0 rfl rfl rfl sz30 rfl (by first | exact scA_one _ _ _ _ _ | (intro u hu; simp [scA] at hu; rcases hu with rfl | rfl | rfl <;> rfl)) fun w25 S25 => ?_)
            refine L_y (y_assign rfl) rfl ?_
            refine L_nil ?_
            refine hK31 _ _ ?_
            refine T_ret ?_
            repeat (first | with_reducible refine up_then ?_ | with_reducible refine up_in ?_)
            refine retct rfl rfl rfl (S25.blk 0 rfl) Try.underlying30 rfl (by exact sz30) ?_
            exact ⟨_, rfl, S25.like0, A1, c1, ops, rfl, S25.row 3 rfl, okO_of hin (S25.get 4 rfl), hmk.done (by omega) (by rw [fl_neg (by omega), List.append_nil])⟩
end Go.Proofs.Ytpcgldkllnkaeaa

/-
  The law DeltaMakes.
-/
namespace Go.Proofs.Ytpcgldkllnkaeaa
open Go.RowKit Zk Zx
set_option linter.unusedVariables false
set_option linter.unusedSimpArgs false

theorem make_apl {a t : List UInt8} (ha : a.length ≤ 4000) (ht : t.length ≤ 4000) : aplR a a.length t.length (mkV a t) = (t, 0) := by
  rw [aplR_ok (mkV_err ha ht) rfl, (mkV_all a t).2]
theorem papplyM {x y : List UInt8} (hx : x.length ≤ 400) (hy : y.length ≤ 400) (A : Option Addr) (n c : Nat) (B : Option Addr) (d m : Nat) (l : List OP) (w0 : World) (ha : Rs w0 1 A n c (bL x)) (hl : Rs w0 4 B l.length d (l.flatMap opf)) (hok : OkO w0 l) (h1 : l.map OP.v = mkV x y) (hn : n = x.length) (hm : m = y.length) :
    Calls Try.prog 12 #[.slice A n c, .agg (scA (n : Int) (m : Int) B l.length d)] w0 fun e w' => ∃ u, e = .returned u ∧ Like w0 w' ∧ ∃ A' c', u = .tuple #[.slice A' m c', .int .i64 0] ∧ w'.ownsRow w0.heap.size 5 1 (.slice A' m c') m (bL y) := by
  subst hn hm
  have h := papply A x.length c x B l.length d l (x.length : Int) (y.length : Int) w0 ha hl hok
  rw [h1, make_apl (by omega) (by omega)] at h
  exact h
theorem pputM {x y : List UInt8} (hx : x.length ≤ 400) (hy : y.length ≤ 400) (A : Option Addr) (c : Nat) (l : List OP) (n m : Nat) (w0 : World) (hl : Rs w0 4 A l.length c (l.flatMap opf)) (hok : OkO w0 l) (h1 : l.map OP.v = mkV x y) (hn : n = x.length) (hm : m = y.length) :
    Calls Try.prog 18 #[.agg (scA (n : Int) (m : Int) A l.length c)] w0 fun e w' => ∃ u, e = .returned u ∧ Like w0 w' ∧ ∃ A' c', u = .tuple #[.slice A' (encV x.length y.length (mkV x y)).length c', .int .i64 0] ∧ w'.ownsRow w0.heap.size 5 1 (.slice A' (encV x.length y.length (mkV x y)).length c') (encV x.length y.length (mkV x y)).length (bL (encV x.length y.length (mkV x y))) := by
  subst hn hm
  have e1 : l.length ≤ 4000 := by have := mkV_cnt (a := x) (t := y); rw [← h1, List.length_map] at this; omega
  have h := pput A l.length c l (x.length : Int) (y.length : Int) w0 hl hok e1
  rw [h1, put_ok (mkV_err (by omega) (by omega))] at h
  exact h
theorem encO_len {b : Int} {o : OV} (h : rtV b o = true) (hb : b ≤ 5000) (hs : szV o ≤ 5000) : ((encO o).length : Int) ≤ 5 + szV o := by
  unfold encO szV at *
  cases hc : o.cp with
  | true =>
    obtain ⟨h1, h2, h3, h4, h5⟩ := rtV_cp h hc
    have v1 := vr_len4 o.fr.toNat (by omega)
    have v2 := vr_len4 o.n.toNat (by omega)
    rw [if_pos rfl, if_pos rfl]
    simp
    omega
  | false =>
    obtain ⟨h1, h2, h3⟩ := rtV_new h hc
    rw [hc, if_neg Bool.false_ne_true] at hs
    have v1 := vr_len4 o.l.length (by omega)
    rw [if_neg Bool.false_ne_true, if_neg Bool.false_ne_true]
    simp
    omega
theorem flat_len5 {b : Int} (hb : b ≤ 5000) : ∀ (l : List OV) (left : Int), chkL b left l = true → left ≤ 5000 → ((l.flatMap encO).length : Int) ≤ 6 * left
  | [], left, h, hl => by unfold chkL at h; have := of_decide_eq_true h; simp; omega
  | o :: r, left, h, hl => by
    unfold chkL at h
    rw [Bool.and_eq_true, Bool.and_eq_true] at h
    have hz := sz_nonneg h.1.1
    have hs := of_decide_eq_true h.1.2
    have h1 := encO_len h.1.1 hb (by omega)
    have h2 := flat_len5 hb r _ h.2 (by omega)
    rw [List.flatMap_cons, List.length_append]
    omega
theorem enc_len {x y : List UInt8} (hx : x.length ≤ 400) (hy : y.length ≤ 400) : (encV x.length y.length (mkV x y)).length ≤ 10000 := by
  obtain ⟨hrg, hch⟩ := errV_zero (mkV_err (a := x) (t := y) (by omega) (by omega))
  have h1 := flat_len5 (by omega) _ _ hch (by omega)
  have v1 := vr_len4 x.length (by omega)
  have v2 := vr_len4 y.length (by omega)
  unfold encV
  rw [List.length_append, List.length_append, Int.toNat_natCast, Int.toNat_natCast]
  omega
theorem preadM {x y : List UInt8} (hx : x.length ≤ 400) (hy : y.length ≤ 400) (B : Option Addr) (d n m : Nat) (w0 : World) (hb : Rs w0 1 B (encV x.length y.length (mkV x y)).length d (bL (encV x.length y.length (mkV x y)))) (hn : n = x.length) (hm : m = y.length) :
    Calls Try.prog 23 #[.slice B (encV x.length y.length (mkV x y)).length d] w0 fun e w' => ∃ u, e = .returned u ∧ Like w0 w' ∧ ∃ A' c' qs, u = .tuple #[.agg (scA (n : Int) (m : Int) A' qs.length c'), .int .i64 0] ∧ Rs w' 4 A' qs.length c' (qs.flatMap opf) ∧ OkO w' qs ∧ qs.map OP.v = mkV x y := by
  subst hn hm
  have h := pread B _ d _ w0 hb (enc_len hx hy)
  rw [put_read (mkV_err (a := x) (t := y) (by omega) (by omega))] at h
  exact h


set_option maxRecDepth 100000 in
theorem lmakes (A B : Option Addr) (n c m d : Nat) (x y : List UInt8) (w0 : World) (ha : Rs w0 1 A n c (bL x)) (hb : Rs w0 1 B m d (bL y)) :
    Calls Try.prog 8 #[.slice A n c, .slice B m d] w0 fun e w' => ∃ u, e = .returned u ∧ Like w0 w' ∧ u = .bool true := by
  refine enter1 (env := [(0, .slice A n c), (1, .slice B m d)]) [.slice A n c, .slice B m d] Try.func8 rfl Try.ntmps8 rfl rfl ?_
  have hn := ha.lenb; have hcap := ha.cap; have hmax := ha.max; have hm := hb.lenb; have hcap2 := hb.cap; have hmax2 := hb.max; have S0 := St.start w0 noM
  refine T_seq fun K1 hK1 => ?_
  refine T_region ?_
  refine L_y (y_assign rfl) rfl ?_
  refine L_nil ?_
  refine hK1 _ _ ?_
  refine T_seq fun K2 hK2 => ?_
  refine T_seq fun K3 hK3 => ?_
  refine T_region ?_
  refine L_y (y_move rfl) rfl ?_
  refine L_y (y_len Try.underlying22 rfl) rfl ?_
  refine L_y (y_gtr rfl rfl) rfl ?_
  refine L_y (y_move rfl) rfl ?_
  refine L_split 18 rfl (fun h18 => ?_) (fun h18 => ?_)
  ·
    refine L_gno rfl rfl rfl ?_
    refine L_gno rfl rfl rfl ?_
    refine L_gno rfl rfl rfl ?_
    refine L_y ((by first | exact y_pickT rfl rfl | exact y_pickF rfl rfl)) rfl ?_
    refine L_nil ?_
    refine hK3 _ _ ?_
    refine T_true rfl ?_
    refine T_seq fun K4 hK4 => ?_
    refine T_region ?_
    refine L_o (o_call Try.func9 rfl rfl (works w0) rfl rfl ?_)
    rintro e2 w2 ⟨v2, rfl, l2, rfl⟩
    refine ⟨_, rfl, ?_⟩
    have S2 := S0.like l2
    refine L_y (y_assign rfl) rfl ?_
    refine L_nil ?_
    refine hK4 _ _ ?_
    refine T_ret ?_
    repeat (first | with_reducible refine up_then ?_ | with_reducible refine up_in ?_)
    refine ret1 rfl rfl ?_
    first | exact ⟨_, rfl, S2.like0, rfl⟩ | exact ⟨_, rfl, Like.trans lw3 S2.like0, rfl⟩
  ·
    refine L_gyes rfl rfl ?_
    refine L_y (y_move rfl) rfl ?_
    refine L_gyes rfl rfl ?_
    refine L_y (y_len Try.underlying22 rfl) rfl ?_
    refine L_gyes rfl rfl ?_
    refine L_y (y_gtr rfl rfl) rfl ?_
    refine L_y ((by first | exact y_pickT rfl rfl | exact y_pickF rfl rfl)) rfl ?_
    refine L_nil ?_
    refine hK3 _ _ ?_
    refine T_cond rfl (fun h22 => ?_) (fun h22 => ?_)
    ·
      refine T_seq fun K5 hK5 => ?_
      refine T_region ?_
      refine L_o (o_call Try.func9 rfl rfl (works w0) rfl rfl ?_)
      rintro e3 w3 ⟨v3, rfl, l3, rfl⟩
      refine ⟨_, rfl, ?_⟩
      have S3 := S0.like l3
      refine L_y (y_assign rfl) rfl ?_
      refine L_nil ?_
      refine hK5 _ _ ?_
      refine T_ret ?_
      repeat (first | with_reducible refine up_then ?_ | with_reducible refine up_in ?_)
      refine ret1 rfl rfl ?_
      first | exact ⟨_, rfl, S3.like0, rfl⟩ | exact ⟨_, rfl, Like.trans lw3 S3.like0, rfl⟩
    ·
      refine T_skip ?_
      refine hK2 _ _ ?_
      refine T_seq fun K6 hK6 => ?_
      refine T_region ?_
      refine L_y (y_move rfl) rfl ?_
      refine L_y (y_move rfl) rfl ?_
      refine L_o (o_call Try.func22 rfl rfl (pmake A B n c m d x y w0 (S0.rd ha) (S0.rd hb) (by omega) (by omega)) rfl rfl ?_)
      rintro e4 w4 ⟨v4, rfl, l4, A27, c27, o1, rfl, hQ_1, hk_1, hqv⟩
      refine ⟨_, rfl, ?_⟩
      have S4 := S0.like l4
      have lk1 := S4.like0
      have lw1 := lk1
      have ha1 := ha.like lw1
      have hb1 := hb.like lw1
      have S91 := St.start w4 noM
      refine L_y (y_move rfl) rfl ?_
      refine L_y (y_extract rfl rfl) rfl ?_
      refine L_y (y_extract rfl rfl) rfl ?_
      refine L_o (o_alloc zz25 S91 rfl fun b5 w5 hb5 S5 => ?_)
      refine L_o (o_stW S5 0 rfl rfl rfl sz25 rfl (scA_one _ _ _ _ _) fun w6 S6 => ?_)
      refine L_y (y_assign rfl) rfl ?_
      refine L_nil ?_
      refine hK6 _ _ ?_
      refine T_seq fun K7 hK7 => ?_
      refine T_region ?_
      refine L_y (y_move rfl) rfl ?_
      refine L_y (y_move rfl) rfl ?_
      refine L_o (o_call Try.func25 rfl rfl (rmake A B n c m d x y w6 (S6.rd ha1) (S6.rd hb1) (by omega) (by omega)) rfl rfl ?_)
      rintro e7 w7 ⟨v7, rfl, l7, A33, c33, o2, rfl, hR_2, hj_2, hrv⟩
      refine ⟨_, rfl, ?_⟩
      have S7 := S6.like l7
      have lk2 := S7.like0
      have lw2 := Like.trans lw1 lk2
      have ha2 := ha.like lw2
      have hb2 := hb.like lw2
      have b5h_2 := S7.blk 0 rfl
      have hQ_2 := S7.rd hQ_1
      have hk_2 := hk_1.like lk2
      have S92 := St.start w7 noM
      refine L_y (y_move rfl) rfl ?_
      refine L_y (y_extract rfl rfl) rfl ?_
      refine L_y (y_extract rfl rfl) rfl ?_
      refine L_o (o_alloc zz30 S92 rfl fun b8 w8 hb8 S8 => ?_)
      refine L_o (o_stW S8 0 rfl rfl rfl sz30 rfl (scA_one _ _ _ _ _) fun w9 S9 => ?_)
      refine L_y (y_assign rfl) rfl ?_
      refine L_nil ?_
      refine hK7 _ _ ?_
      refine T_seq fun K8 hK8 => ?_
      refine T_seq fun K9 hK9 => ?_
      refine T_region ?_
      refine L_y (y_move rfl) rfl ?_
      refine L_y (y_move rfl) rfl ?_
      refine L_y (y_neq rfl rfl) rfl ?_
      refine L_y (y_move rfl) rfl ?_
      refine L_split 39 rfl (fun h39 => ?_) (fun h39 => ?_)
      ·
        exact absurd rfl h39
      ·
        refine L_gyes rfl rfl ?_
        refine L_y (y_ldW Try.underlying25 rfl sz25 rfl (S9.rdB b5h_2) (show _ = (scA (n : Int) (m : Int) A27 o1.length c27).toList ∧ _ from ⟨rfl, rfl⟩)) rfl ?_
        refine L_gyes rfl rfl ?_
        refine L_y (y_ldW Try.underlying30 rfl sz30 rfl (S9.blk 0 rfl) (show _ = (scA (n : Int) (m : Int) A33 o2.length c33).toList ∧ _ from ⟨rfl, rfl⟩)) rfl ?_
        refine L_gyes rfl rfl ?_
        refine L_o (o_call Try.func15 rfl rfl (psameT A27 o1.length c27 o1 (n : Int) (m : Int) A33 o2.length c33 o2 w9 (S9.rd hQ_2) (hk_2.like S9.like0) (S9.rd hR_2) (hj_2.like S9.like0) (hqv.trans hrv.symm)) rfl rfl ?_)
        rintro e11 w11 ⟨v11, rfl, l11, rfl⟩
        refine ⟨_, rfl, ?_⟩
        have S11 := S9.like l11
        refine L_gyes rfl rfl ?_
        refine L_y ((by first | exact y_notD rfl | exact y_not rfl)) rfl ?_
        refine L_y ((by first | exact y_pickT rfl rfl | exact y_pickF rfl rfl)) rfl ?_
        refine L_nil ?_
        refine hK9 _ _ ?_
        refine T_false rfl ?_
        refine T_skip ?_
        refine hK8 _ _ ?_
        refine T_seq fun K10 hK10 => ?_
        refine T_region ?_
        refine L_y (y_move rfl) rfl ?_
        refine L_y (y_ldW Try.underlying25 rfl sz25 rfl (S11.rdB b5h_2) (show _ = (scA (n : Int) (m : Int) A27 o1.length c27).toList ∧ _ from ⟨rfl, rfl⟩)) rfl ?_
        refine L_o (o_call Try.func12 rfl rfl (papplyM (x := x) (y := y) (by omega) (by omega) A n c A27 c27 m o1 w11 (S11.rd ha2) (S11.rd hQ_2) (hk_2.like S11.like0) hqv (by omega) (by omega)) rfl rfl ?_)
        rintro e12 w12 ⟨v12, rfl, l12, A48, c48, rfl, O12⟩
        refine ⟨_, rfl, ?_⟩
        have S12 := S11.adopt l12 O12
        refine L_y (y_move rfl) rfl ?_
        refine L_y (y_extract rfl rfl) rfl ?_
        refine L_y (y_extract rfl rfl) rfl ?_
        refine L_y (y_assign rfl) rfl ?_
        refine L_y (y_assign rfl) rfl ?_
        refine L_nil ?_
        refine hK10 _ _ ?_
        refine T_seq fun K11 hK11 => ?_
        refine T_region ?_
        refine L_y (y_ldW Try.underlying25 rfl sz25 rfl (S12.rdB b5h_2) (show _ = (scA (n : Int) (m : Int) A27 o1.length c27).toList ∧ _ from ⟨rfl, rfl⟩)) rfl ?_
        refine L_o (o_call Try.func18 rfl rfl (pputM (x := x) (y := y) (by omega) (by omega) A27 c27 o1 n m w12 (S12.rd hQ_2) (hk_2.like S12.like0) hqv (by omega) (by omega)) rfl rfl ?_)
        rintro e13 w13 ⟨v13, rfl, l13, A53, c53, rfl, O13⟩
        refine ⟨_, rfl, ?_⟩
        have S13 := S12.adopt l13 O13
        refine L_y (y_move rfl) rfl ?_
        refine L_y (y_extract rfl rfl) rfl ?_
        refine L_y (y_extract rfl rfl) rfl ?_
        refine L_y (y_assign rfl) rfl ?_
        refine L_y (y_assign rfl) rfl ?_
        refine L_nil ?_
        refine hK11 _ _ ?_
        refine T_seq fun K12 hK12 => ?_
        refine T_region ?_
        refine L_y (y_move rfl) rfl ?_
        refine L_o (o_call Try.func23 rfl rfl (preadM (x := x) (y := y) (by omega) (by omega) A53 c53 n m w13 (S13.row 2 rfl) (by omega) (by omega)) rfl rfl ?_)
        rintro e14 w14 ⟨v14, rfl, l14, A58, c58, o3, rfl, hT_3, hl_3, htv⟩
        refine ⟨_, rfl, ?_⟩
        have S14 := S13.like l14
        have hap := S14.row 1 rfl
        have b7h_3 := S14.blk 0 rfl
        have lk3 := S14.like0
        have lw3 := Like.trans lw2 lk3
        have ha3 := ha.like lw3
        have hb3 := hb.like lw3
        have hQ_3 := S14.rd hQ_2
        have hR_3 := S14.rd hR_2
        have hk_3 := hk_2.like lk3
        have hj_3 := hj_2.like lk3
        have S93 := St.start w14 noM
        have b7h3 := b7h_3
        refine L_y (y_move rfl) rfl ?_
        refine L_y (y_extract rfl rfl) rfl ?_
        refine L_y (y_extract rfl rfl) rfl ?_
        refine L_o (o_alloc zz25 S93 rfl fun b15 w15 hb15 S15 => ?_)
        refine L_o (o_stW S15 0 rfl rfl rfl sz25 rfl (scA_one _ _ _ _ _) fun w16 S16 => ?_)
        refine L_y (y_assign rfl) rfl ?_
        refine L_nil ?_
        refine hK12 _ _ ?_
        refine T_seq fun K13 hK13 => ?_
        refine T_region ?_
        refine L_y (y_move rfl) rfl ?_
        refine L_y (y_eql rfl rfl) rfl ?_
        refine L_y (y_move rfl) rfl ?_
        refine L_split 63 rfl (fun h63 => ?_) (fun h63 => ?_)
        ·
          refine L_gyes rfl rfl ?_
          refine L_y (y_move rfl) rfl ?_
          refine L_gyes rfl rfl ?_
          refine L_y (y_eql rfl rfl) rfl ?_
          refine L_y ((by first | exact y_pickT rfl rfl | exact y_pickF rfl rfl)) rfl ?_
          refine L_y (y_move rfl) rfl ?_
          refine L_split 67 rfl (fun h67 => ?_) (fun h67 => ?_)
          ·
            refine L_gyes rfl rfl ?_
            refine L_y (y_move rfl) rfl ?_
            refine L_gyes rfl rfl ?_
            refine L_y (y_eql rfl rfl) rfl ?_
            refine L_y ((by first | exact y_pickT rfl rfl | exact y_pickF rfl rfl)) rfl ?_
            refine L_y (y_move rfl) rfl ?_
            refine L_split 71 rfl (fun h71 => ?_) (fun h71 => ?_)
            ·
              refine L_gyes rfl rfl ?_
              refine L_y (y_move rfl) rfl ?_
              refine L_gyes rfl rfl ?_
              refine L_y (y_move rfl) rfl ?_
              refine L_gyes rfl rfl ?_
              refine L_o (o_call Try.func14 rfl rfl (same1T A48 B m c48 m d y w16 (S16.rd hap) (S16.rd hb3)) rfl rfl ?_)
              rintro e20 w20 ⟨v20, rfl, l20, rfl⟩
              refine ⟨_, rfl, ?_⟩
              have S20 := S16.like l20
              refine L_y ((by first | exact y_pickT rfl rfl | exact y_pickF rfl rfl)) rfl ?_
              refine L_y (y_move rfl) rfl ?_
              refine L_splitB 76 rfl (fun h76 => ?_) (fun h76 => ?_)
              ·
                refine L_gyes rfl rfl ?_
                refine L_y (y_ldW Try.underlying25 rfl sz25 rfl (S20.blk 0 rfl) (show _ = (scA (n : Int) (m : Int) A58 o3.length c58).toList ∧ _ from ⟨rfl, rfl⟩)) rfl ?_
                refine L_gyes rfl rfl ?_
                refine L_y (y_ldW Try.underlying30 rfl sz30 rfl (S20.rdB b7h3) (show _ = (scA (n : Int) (m : Int) A33 o2.length c33).toList ∧ _ from ⟨rfl, rfl⟩)) rfl ?_
                refine L_gyes rfl rfl ?_
                refine L_o (o_call Try.func15 rfl rfl (psameT A58 o3.length c58 o3 (n : Int) (m : Int) A33 o2.length c33 o2 w20 (S20.rd hT_3) (hl_3.like S20.like0) (S20.rd hR_3) (hj_3.like S20.like0) (htv.trans hrv.symm)) rfl rfl ?_)
                rintro e22 w22 ⟨v22, rfl, l22, rfl⟩
                refine ⟨_, rfl, ?_⟩
                have S22 := S20.like l22
                refine L_y ((by first | exact y_pickT rfl rfl | exact y_pickF rfl rfl)) rfl ?_
                refine L_y (y_move rfl) rfl ?_
                refine L_splitB 81 rfl (fun h81 => ?_) (fun h81 => ?_)
                ·
                  refine L_gyes rfl rfl ?_
                  refine L_o (o_call Try.func9 rfl rfl (works w22) rfl rfl ?_)
                  rintro e24 w24 ⟨v24, rfl, l24, rfl⟩
                  refine ⟨_, rfl, ?_⟩
                  have S24 := S22.like l24
                  refine L_y ((by first | exact y_pickT rfl rfl | exact y_pickF rfl rfl)) rfl ?_
                  refine L_y (y_assign rfl) rfl ?_
                  refine L_nil ?_
                  refine hK13 _ _ ?_
                  refine T_ret ?_
                  repeat (first | with_reducible refine up_then ?_ | with_reducible refine up_in ?_)
                  refine ret1 rfl rfl ?_
                  first | exact ⟨_, rfl, S24.like0, rfl⟩ | exact ⟨_, rfl, Like.trans lw3 S24.like0, rfl⟩
                ·
                  cases h81
              ·
                cases h76
            ·
              exact absurd rfl h71
          ·
            exact absurd rfl h67
        ·
          exact absurd rfl h63


theorem makes_law (A B : Option Addr) (n c m d : Nat) (x y : List UInt8) (w0 : World) (ha : Rs w0 1 A n c (bL x)) (hb : Rs w0 1 B m d (bL y)) :
    Calls Try.prog 8 #[.slice A n c, .slice B m d] w0 fun e w' => e = .returned (.bool true) ∧ Below w0.heap.size w0 w' :=
  (lmakes A B n c m d x y w0 ha hb).mono fun e w' ⟨u, h1, h2, h3⟩ => by subst h3; exact ⟨h1, h2⟩
end Go.Proofs.Ytpcgldkllnkaeaa
