/-
  The law OidRanges.
-/
import Derived.Test.YtblbcmkhgjlpcaaU
import Derived.Test.YtblbcmkhgjlpcaaZv
namespace Go.Proofs.Ytblbcmkhgjlpcaa
open Go.RowKit Zk Zx
set_option linter.unusedVariables false
set_option linter.unusedSimpArgs false

theorem range_ex (l : List Id) (z : Id) (nn : Int) : ∃ a b : Nat, ∀ u, rangeOk l z nn u → u = .tuple #[.int .i64 (a : Int), .int .i64 (b : Int)] := by
  by_cases h : rightB z.l nn = true ∧ ris l = true
  · obtain ⟨h1, h2⟩ := h
    obtain ⟨f, hf⟩ := pos_ex h2 z
    obtain ⟨t, h3, h4, h5, h6⟩ := run_ex l (fit z nn) _ f rfl hf.1
    refine ⟨f, t, fun u hu => ?_⟩
    have h7 : ∀ i y, l[i]? = some y → fit z nn y = decide (f ≤ i ∧ i < t) := fun i y hy => run_ok h2 h1 hf h3 h4 h5 h6 hy
    rcases hu with ⟨h8, _⟩ | ⟨_, _, g, r, hg, g1, g2, g3, rfl⟩
    · rcases h8 with h8 | h8
      · rw [h1] at h8; cases h8
      · rw [h2] at h8; cases h8
    · have e := hf.uniq hg
      subst e
      have e2 : r = t := by
        rcases Nat.lt_trichotomy r t with q | q | q
        · have a1 := h7 r _ (List.getElem?_eq_getElem (by omega))
          have a2 := g3 r _ (List.getElem?_eq_getElem (show r < l.length by omega))
          rw [a1, decide_eq_true (p := f ≤ r ∧ r < t) ⟨by omega, q⟩, decide_eq_false (by omega)] at a2
          cases a2
        · exact q
        · have a1 := h7 t _ (List.getElem?_eq_getElem (by omega))
          have a2 := g3 t _ (List.getElem?_eq_getElem (show t < l.length by omega))
          rw [a1, decide_eq_true (p := f ≤ t ∧ t < r) ⟨by omega, q⟩, decide_eq_false (by omega)] at a2
          cases a2
      rw [e2]
  · refine ⟨0, 0, fun u hu => ?_⟩
    rcases hu with ⟨_, h2⟩ | ⟨h1, h2, _⟩
    · exact h2
    · exact (h ⟨h1, h2⟩).elim
theorem short_ex (l : List Id) (x : Id) (least : Int) : ∃ N : Nat, ∀ u, shortOk l x least u → u = .int .i64 (N : Int) := by
  by_cases h : ∃ N : Nat, shortOk l x least (.int .i64 (N : Int))
  · obtain ⟨N, hN⟩ := h
    exact ⟨N, fun u hu => hu.uniq hN⟩
  · refine ⟨0, fun u hu => (h ?_).elim⟩
    rcases id hu with ⟨_, h2⟩ | ⟨_, k, _, ⟨_, h2⟩ | ⟨_, N, _, h2⟩⟩
    · exact ⟨0, by rw [h2] at hu; exact hu⟩
    · exact ⟨0, by rw [h2] at hu; exact hu⟩
    · exact ⟨N, by rw [h2] at hu; exact hu⟩
theorem prangeE (A : Option Addr) (n c : Nat) (l : List Id) (z : Id) (nn : Int) (w0 : World) (hl : Rs w0 32 A n c (l.flatMap idf)) {a b : Nat} (he : ∀ u, rangeOk l z nn u → u = .tuple #[.int .i64 (a : Int), .int .i64 (b : Int)]) : Calls Try.prog 22 #[.slice A n c, .agg (pfA z.l nn)] w0 fun e w' => ∃ u, e = .returned u ∧ Like w0 w' ∧ u = .tuple #[.int .i64 (a : Int), .int .i64 (b : Int)] :=
  (prange A n c l z nn w0 hl).mono fun e w' ⟨u, h1, h2, h3⟩ => ⟨u, h1, h2, he u h3⟩
theorem rrangeE (A : Option Addr) (n c : Nat) (l : List Id) (z : Id) (nn : Int) (w0 : World) (hl : Rs w0 32 A n c (l.flatMap idf)) {a b : Nat} (he : ∀ u, rangeOk l z nn u → u = .tuple #[.int .i64 (a : Int), .int .i64 (b : Int)]) : Calls Try.prog 23 #[.slice A n c, .agg (bA z.l), .int .i64 nn] w0 fun e w' => ∃ u, e = .returned u ∧ Like w0 w' ∧ u = .tuple #[.int .i64 (a : Int), .int .i64 (b : Int)] :=
  (rrange A n c l z nn w0 hl).mono fun e w' ⟨u, h1, h2, h3⟩ => ⟨u, h1, h2, he u h3⟩
theorem pshortE (A : Option Addr) (n c : Nat) (l : List Id) (x : Id) (least : Int) (w0 : World) (hl : Rs w0 32 A n c (l.flatMap idf)) {N : Nat} (he : ∀ u, shortOk l x least u → u = .int .i64 (N : Int)) : Calls Try.prog 25 #[.slice A n c, .agg (bA x.l), .int .i64 least] w0 fun e w' => ∃ u, e = .returned u ∧ Like w0 w' ∧ u = .int .i64 (N : Int) := by
  cases hr : ris l with
  | false => exact (pshortN A n c l x least w0 hl hr).mono fun e w' ⟨u, h1, h2, h3⟩ => ⟨u, h1, h2, he u h3⟩
  | true =>
    obtain ⟨k, hk⟩ := pos_ex hr x
    exact (pshortY A n c l x least k w0 hl hr hk).mono fun e w' ⟨u, h1, h2, h3⟩ => ⟨u, h1, h2, he u h3⟩
theorem rshortE (A : Option Addr) (n c : Nat) (l : List Id) (x : Id) (least : Int) (w0 : World) (hl : Rs w0 32 A n c (l.flatMap idf)) {N : Nat} (he : ∀ u, shortOk l x least u → u = .int .i64 (N : Int)) : Calls Try.prog 26 #[.slice A n c, .agg (bA x.l), .int .i64 least] w0 fun e w' => ∃ u, e = .returned u ∧ Like w0 w' ∧ u = .int .i64 (N : Int) := by
  cases hr : ris l with
  | false => exact (rshortN A n c l x least w0 hl hr).mono fun e w' ⟨u, h1, h2, h3⟩ => ⟨u, h1, h2, he u h3⟩
  | true =>
    obtain ⟨k, hk⟩ := pos_ex hr x
    exact (rshortY A n c l x least k w0 hl hr hk).mono fun e w' ⟨u, h1, h2, h3⟩ => ⟨u, h1, h2, he u h3⟩
section
variable (A : Option Addr) (n c : Nat) (z : Id) (nn : Int) (x : Id) (least : Int)
theorem ask_z : ((askL A n c z nn x least).toArray.toList.drop 1).take 33 = bL z.l ++ [Value.int .i64 nn] ∧ (bL z.l ++ [Value.int .i64 nn]).length = 33 := by
  have h : (bL z.l ++ [Value.int .i64 nn]).length = 33 := by simp [z.h]
  refine ⟨?_, h⟩
  show ((askL A n c z nn x least).drop 1).take 33 = _
  unfold askL
  rw [List.append_assoc, List.append_assoc, List.drop_left' (by rfl), List.take_left' h]
theorem ask_x : ((askL A n c z nn x least).toArray.toList.drop 34).take 32 = bL x.l ∧ (bL x.l).length = 32 := by
  have h : (bL x.l).length = 32 := by simp [x.h]
  refine ⟨?_, h⟩
  show ((askL A n c z nn x least).drop 34).take 32 = _
  unfold askL
  rw [List.append_assoc, List.drop_left' (by simp [z.h]), List.take_left' h]
theorem ask_l : (askL A n c z nn x least).toArray[66]? = some (.int .i64 least) := by
  have h : ([Value.slice A n c] ++ (bL z.l ++ [Value.int .i64 nn]) ++ bL x.l).length = 66 := by simp [z.h, x.h]
  unfold askL
  rw [List.getElem?_toArray, List.getElem?_append_right (by omega), h]
  rfl
end
theorem bA_one (x : Id) : ∀ u ∈ (bA x.l).toList, u.oneCell' = true := fun u hu => bL_one x.l u hu
theorem pf_zero : (pfA (List.replicate 32 0) 0).size = 33 := by rfl


theorem bA_szV (x : Id) : (bL x.l).toArray.size = 32 := by simp [x.h]
theorem pfA_szV (x : Id) (n : Int) : (bL x.l ++ [Value.int .i64 n]).toArray.size = 33 := by simp [x.h]


set_option maxRecDepth 100000 in
theorem ranges (A : Option Addr) (n c : Nat) (l : List Id) (z : Id) (nn : Int) (x : Id) (least : Int) (w0 : World) (hl : Rs w0 32 A n c (l.flatMap idf)) :
    Calls Try.prog 6 #[.agg (askL A n c z nn x least).toArray] w0 fun e w' => ∃ u, e = .returned u ∧ Like w0 w' ∧ u = .bool true := by
  refine enter1 (env := [(0, .agg (askL A n c z nn x least).toArray)]) [.agg (askL A n c z nn x least).toArray] Try.func6 rfl Try.ntmps6 rfl rfl ?_
  have hn := ids_n hl; have hcap := hl.cap; have hmax := hl.max; have S0 := St.start w0 noM; obtain ⟨a, b, hrg⟩ := range_ex l z nn; obtain ⟨sh, hsh⟩ := short_ex l x least
  refine T_seq fun K1 hK1 => ?_
  refine T_region ?_
  refine L_o (o_box rfl S0 rfl fun b1 w1 hb1 S1 => ?_)
  refine L_y (y_assign rfl) rfl ?_
  refine L_nil ?_
  refine hK1 _ _ ?_
  refine T_seq fun K2 hK2 => ?_
  refine T_drawnX (fun w => Blk w b1 46 (askL A n c z nn x least).toArray) hmix (by kernel_rfl) (fun w l => (S1.like l).blk 0 rfl) fun w2 l2 => ?_
  have S2 := S1.like l2
  refine DX_y 0 (by kernel_rfl) rfl (y_fieldA 0 Try.underlying46 rfl sz44 rfl rfl rfl) rfl ?_
  refine DX_y 1 (by kernel_rfl) rfl (y_of fun w hw => y_ldc Try.underlying44 rfl rfl ((hw.cell _).trans (by rfl))) rfl ?_
  refine DX_y 2 (by kernel_rfl) rfl (y_fieldA 1 Try.underlying46 rfl sz30 rfl rfl rfl) rfl ?_
  refine DX_y 3 (by kernel_rfl) rfl (y_of fun w hw => y_ldW Try.underlying30 rfl sz30 rfl hw (ask_z A n c z nn x least)) rfl ?_
  refine DX_y 4 (by kernel_rfl) rfl (y_fieldA 34 Try.underlying46 rfl sz23 rfl rfl rfl) rfl ?_
  refine DX_y 5 (by kernel_rfl) rfl (y_of fun w hw => y_ldW Try.underlying23 rfl sz23 rfl hw (ask_x A n c z nn x least)) rfl ?_
  refine DX_y 6 (by kernel_rfl) rfl (y_fieldA 66 Try.underlying46 rfl sz3 rfl rfl rfl) rfl ?_
  refine DX_y 7 (by kernel_rfl) rfl (y_of fun w hw => y_ldc Try.underlying3 rfl rfl ((hw.cell _).trans (ask_l A n c z nn x least))) rfl ?_
  refine DX_allocs 8 9 (by kernel_rfl) (by kernel_rfl) (by kernel_rfl) rfl rfl (by decide) (by decide) rfl rfl zz30 zz23 S2 rfl rfl (fun w S => S.blk 0 rfl) fun b3 b3' w3 hb3 hb3' S3 => ?_
  refine DX_DL [(10, true), (11, false), (12, false), (13, true)] (by kernel_rfl) ?_
  refine DL_y rfl (y_assign rfl) rfl ?_
  refine DL_o rfl (o_stW S3 1 rfl rfl rfl (by rw [pfA_szV]; exact sz30) ((pfA_szV z nn).trans rfl) (pfA_one _ _) fun w4 S4 => ?_)
  refine ⟨S4.blk 0 rfl, ?_⟩
  refine DL_o rfl (o_stW S4 2 rfl rfl rfl (by rw [bA_szV]; exact sz23) ((bA_szV x).trans (by simp [Value.cells])) (bA_one _) fun w5 S5 => ?_)
  refine ⟨S5.blk 0 rfl, ?_⟩
  refine DL_y rfl (y_assign rfl) rfl ?_
  refine DL_nil ?_
  refine hK2 _ _ ?_
  refine T_seq fun K3 hK3 => ?_
  refine T_seq fun K4 hK4 => ?_
  refine T_region ?_
  refine L_y (y_move rfl) rfl ?_
  refine L_y (y_len Try.underlying44 rfl) rfl ?_
  refine L_y (y_gtr rfl rfl) rfl ?_
  refine L_nil ?_
  refine hK4 _ _ ?_
  refine T_cond rfl (fun h26 => ?_) (fun h26 => ?_)
  ·
    refine T_seq fun K5 hK5 => ?_
    refine T_region ?_
    refine L_o (o_call Try.func15 rfl rfl (cWorks w5) rfl rfl ?_)
    rintro e6 w6 ⟨v6, rfl, l6, rfl⟩
    refine ⟨_, rfl, ?_⟩
    have S6 := S5.like l6
    refine L_y (y_assign rfl) rfl ?_
    refine L_nil ?_
    refine hK5 _ _ ?_
    refine T_ret ?_
    repeat (first | with_reducible refine up_then ?_ | with_reducible refine up_in ?_)
    refine ret1 rfl rfl ?_
    exact ⟨_, rfl, S6.like0, rfl⟩
  ·
    refine T_skip ?_
    refine hK3 _ _ ?_
    refine T_seq fun K6 hK6 => ?_
    refine T_region ?_
    refine L_y (y_move rfl) rfl ?_
    refine L_y (y_ldW Try.underlying30 rfl sz30 rfl (S5.blk 1 rfl) (whole33 z nn)) rfl ?_
    refine L_o (o_call Try.func22 rfl rfl (prangeE A n c l z nn w5 (S5.rd hl) hrg) rfl rfl ?_)
    rintro e7 w7 ⟨v7, rfl, l7, rfl⟩
    refine ⟨_, rfl, ?_⟩
    have S7 := S5.like l7
    refine L_y (y_move rfl) rfl ?_
    refine L_y (y_extract rfl rfl) rfl ?_
    refine L_y (y_extract rfl rfl) rfl ?_
    refine L_y (y_assign rfl) rfl ?_
    refine L_y (y_assign rfl) rfl ?_
    refine L_nil ?_
    refine hK6 _ _ ?_
    refine T_seq fun K7 hK7 => ?_
    refine T_region ?_
    refine L_y (y_move rfl) rfl ?_
    refine L_y (y_fieldA 0 Try.underlying30 rfl sz23 rfl rfl rfl) rfl ?_
    refine L_y (y_ldW Try.underlying23 rfl sz23 rfl (S7.blk 1 rfl) (part33 z nn)) rfl ?_
    refine L_y (y_fieldA 32 Try.underlying30 rfl sz3 rfl rfl rfl) rfl ?_
    refine L_y (y_ldc Try.underlying3 rfl rfl (((S7.blk 1 rfl).cell _).trans (pfA_n z.l nn z.h))) rfl ?_
    refine L_o (o_call Try.func23 rfl rfl (rrangeE A n c l z nn w7 (S7.rd hl) hrg) rfl rfl ?_)
    rintro e8 w8 ⟨v8, rfl, l8, rfl⟩
    refine ⟨_, rfl, ?_⟩
    have S8 := S7.like l8
    refine L_y (y_move rfl) rfl ?_
    refine L_y (y_extract rfl rfl) rfl ?_
    refine L_y (y_extract rfl rfl) rfl ?_
    refine L_y (y_assign rfl) rfl ?_
    refine L_y (y_assign rfl) rfl ?_
    refine L_nil ?_
    refine hK7 _ _ ?_
    refine T_seq fun K8 hK8 => ?_
    refine T_region ?_
    refine L_y (y_move rfl) rfl ?_
    refine L_o (o_call Try.func24 rfl rfl (rsorted A n c l w8 (S8.rd hl) (by omega)) rfl rfl ?_)
    rintro e9 w9 ⟨v9, rfl, l9, AS, m, cS, s, rfl, O9, hr, hsl⟩
    refine ⟨_, rfl, ?_⟩
    have S9 := S8.adopt l9 O9
    have hms := ids_n (S9.row 3 rfl)
    obtain ⟨sa, sb, hrs⟩ := range_ex s z nn
    obtain ⟨sN, hss⟩ := short_ex s x least
    refine L_y (y_assign rfl) rfl ?_
    refine L_nil ?_
    refine hK8 _ _ ?_
    refine T_seq fun K9 hK9 => ?_
    refine T_region ?_
    refine L_y (y_move rfl) rfl ?_
    refine L_y (y_ldW Try.underlying30 rfl sz30 rfl (S9.blk 1 rfl) (whole33 z nn)) rfl ?_
    refine L_o (o_call Try.func22 rfl rfl (prangeE AS m cS s z nn w9 (S9.row 3 rfl) hrs) rfl rfl ?_)
    rintro e10 w10 ⟨v10, rfl, l10, rfl⟩
    refine ⟨_, rfl, ?_⟩
    have S10 := S9.like l10
    refine L_y (y_move rfl) rfl ?_
    refine L_y (y_extract rfl rfl) rfl ?_
    refine L_y (y_extract rfl rfl) rfl ?_
    refine L_y (y_assign rfl) rfl ?_
    refine L_y (y_assign rfl) rfl ?_
    refine L_nil ?_
    refine hK9 _ _ ?_
    refine T_seq fun K10 hK10 => ?_
    refine T_region ?_
    refine L_y (y_move rfl) rfl ?_
    refine L_y (y_fieldA 0 Try.underlying30 rfl sz23 rfl rfl rfl) rfl ?_
    refine L_y (y_ldW Try.underlying23 rfl sz23 rfl (S10.blk 1 rfl) (part33 z nn)) rfl ?_
    refine L_y (y_fieldA 32 Try.underlying30 rfl sz3 rfl rfl rfl) rfl ?_
    refine L_y (y_ldc Try.underlying3 rfl rfl (((S10.blk 1 rfl).cell _).trans (pfA_n z.l nn z.h))) rfl ?_
    refine L_o (o_call Try.func23 rfl rfl (rrangeE AS m cS s z nn w10 (S10.row 3 rfl) hrs) rfl rfl ?_)
    rintro e11 w11 ⟨v11, rfl, l11, rfl⟩
    refine ⟨_, rfl, ?_⟩
    have S11 := S10.like l11
    refine L_y (y_move rfl) rfl ?_
    refine L_y (y_extract rfl rfl) rfl ?_
    refine L_y (y_extract rfl rfl) rfl ?_
    refine L_y (y_assign rfl) rfl ?_
    refine L_y (y_assign rfl) rfl ?_
    refine L_nil ?_
    refine hK10 _ _ ?_
    refine T_seq fun K11 hK11 => ?_
    refine T_drawnL [(0, true), (1, true), (2, true), (3, true), (4, true), (5, true), (6, true), (7, true), (8, true), (9, true), (10, true), (11, true), (12, true), (13, true), (14, true), (15, true), (16, true), (17, true), (18, true), (19, true), (20, true), (21, true), (23, true), (24, true), (25, true), (22, false), (26, false), (27, true), (28, true), (29, true), (30, true), (31, true), (32, true), (34, true), (35, true), (36, true), (33, false), (37, false), (38, true), (39, true), (40, true), (41, false), (42, true), (43, true)] hmix (by kernel_rfl) fun w12 l12 => ?_
    have S12 := S11.like l12
    refine DL_y rfl (y_move rfl) rfl ?_
    refine DL_y rfl (y_move rfl) rfl ?_
    refine DL_y rfl (y_eql rfl rfl) rfl ?_
    refine DL_y rfl (y_move rfl) rfl ?_
    refine DL_split 63 rfl (fun h63 => ?_) (fun h63 => ?_)
    ·
      refine DL_gyes rfl rfl rfl (y_move rfl) rfl ?_
      refine DL_gyes rfl rfl rfl (y_move rfl) rfl ?_
      refine DL_gyes rfl rfl rfl (y_eql rfl rfl) rfl ?_
      refine DL_y rfl ((by first | exact y_pickT rfl rfl | exact y_pickF rfl rfl)) rfl ?_
      refine DL_y rfl (y_move rfl) rfl ?_
      refine DL_split 68 rfl (fun h68 => ?_) (fun h68 => ?_)
      ·
        refine DL_gyes rfl rfl rfl (y_move rfl) rfl ?_
        refine DL_gyes rfl rfl rfl (y_move rfl) rfl ?_
        refine DL_gyes rfl rfl rfl (y_eql rfl rfl) rfl ?_
        refine DL_y rfl ((by first | exact y_pickT rfl rfl | exact y_pickF rfl rfl)) rfl ?_
        refine DL_y rfl (y_move rfl) rfl ?_
        refine DL_split 73 rfl (fun h73 => ?_) (fun h73 => ?_)
        ·
          refine DL_gyes rfl rfl rfl (y_move rfl) rfl ?_
          refine DL_gyes rfl rfl rfl (y_move rfl) rfl ?_
          refine DL_gyes rfl rfl rfl (y_eql rfl rfl) rfl ?_
          refine DL_y rfl ((by first | exact y_pickT rfl rfl | exact y_pickF rfl rfl)) rfl ?_
          refine DL_y rfl (y_move rfl) rfl ?_
          refine DL_split 78 rfl (fun h78 => ?_) (fun h78 => ?_)
          ·
            refine DL_gyes rfl rfl rfl (y_move rfl) rfl ?_
            refine DL_gyes rfl rfl rfl (y_ldW Try.underlying23 rfl sz23 rfl (S12.blk 2 rfl) (whole32 x)) rfl ?_
            refine DL_gyes rfl rfl rfl (y_move rfl) rfl ?_
            refine DL_gyes rfl rfl rfl (y_move rfl) rfl ?_
            refine DL_gyes rfl rfl rfl (y_ldW Try.underlying23 rfl sz23 rfl (S12.blk 2 rfl) (whole32 x)) rfl ?_
            refine DL_gyes rfl rfl rfl (y_move rfl) rfl ?_
            refine DL_ogyes rfl rfl rfl (o_call Try.func25 rfl rfl (pshortE A n c l x least w12 (S12.rd hl) hsh) rfl rfl ?_)
            rintro e13 w13 ⟨v13, rfl, l13, rfl⟩
            refine ⟨_, rfl, l13, ?_⟩
            have S13 := S12.like l13
            have q13 := l13
            refine DL_ogyes rfl rfl rfl (o_call Try.func26 rfl rfl (rshortE A n c l x least w13 (S13.rd hl) hsh) rfl rfl ?_)
            rintro e14 w14 ⟨v14, rfl, l14, rfl⟩
            refine ⟨_, rfl, (Like.trans q13 l14), ?_⟩
            have S14 := S13.like l14
            have q14 := (Like.trans q13 l14)
            refine DL_gyes rfl rfl rfl (y_eql rfl rfl) rfl ?_
            refine DL_y rfl ((by first | exact y_pickT rfl rfl | exact y_pickF rfl rfl)) rfl ?_
            refine DL_y rfl (y_move rfl) rfl ?_
            refine DL_split 89 rfl (fun h89 => ?_) (fun h89 => ?_)
            ·
              refine DL_gyes rfl rfl rfl (y_move rfl) rfl ?_
              refine DL_gyes rfl rfl rfl (y_ldW Try.underlying23 rfl sz23 rfl (S12.blk 2 rfl) (whole32 x)) rfl ?_
              refine DL_gyes rfl rfl rfl (y_move rfl) rfl ?_
              refine DL_gyes rfl rfl rfl (y_move rfl) rfl ?_
              refine DL_gyes rfl rfl rfl (y_ldW Try.underlying23 rfl sz23 rfl (S12.blk 2 rfl) (whole32 x)) rfl ?_
              refine DL_gyes rfl rfl rfl (y_move rfl) rfl ?_
              refine DL_ogyes rfl rfl rfl (o_call Try.func25 rfl rfl (pshortE AS m cS s x least w14 (S14.row 3 rfl) hss) rfl rfl ?_)
              rintro e15 w15 ⟨v15, rfl, l15, rfl⟩
              refine ⟨_, rfl, (Like.trans q14 l15), ?_⟩
              have S15 := S14.like l15
              have q15 := (Like.trans q14 l15)
              refine DL_ogyes rfl rfl rfl (o_call Try.func26 rfl rfl (rshortE AS m cS s x least w15 (S15.row 3 rfl) hss) rfl rfl ?_)
              rintro e16 w16 ⟨v16, rfl, l16, rfl⟩
              refine ⟨_, rfl, (Like.trans q15 l16), ?_⟩
              have S16 := S15.like l16
              have q16 := (Like.trans q15 l16)
              refine DL_gyes rfl rfl rfl (y_eql rfl rfl) rfl ?_
              refine DL_y rfl ((by first | exact y_pickT rfl rfl | exact y_pickF rfl rfl)) rfl ?_
              refine DL_y rfl (y_move rfl) rfl ?_
              refine DL_split 100 rfl (fun h100 => ?_) (fun h100 => ?_)
              ·
                refine DL_ogyes rfl rfl rfl (o_call Try.func15 rfl rfl (cWorks w16) rfl rfl ?_)
                rintro e17 w17 ⟨v17, rfl, l17, rfl⟩
                refine ⟨_, rfl, (Like.trans q16 l17), ?_⟩
                have S17 := S16.like l17
                have q17 := (Like.trans q16 l17)
                refine DL_y rfl ((by first | exact y_pickT rfl rfl | exact y_pickF rfl rfl)) rfl ?_
                refine DL_y rfl (y_assign rfl) rfl ?_
                refine DL_nil ?_
                refine hK11 _ _ ?_
                refine T_ret ?_
                repeat (first | with_reducible refine up_then ?_ | with_reducible refine up_in ?_)
                refine ret1 rfl rfl ?_
                exact ⟨_, rfl, S17.like0, rfl⟩
              ·
                exact absurd rfl h100
            ·
              exact absurd rfl h89
          ·
            exact absurd rfl h78
        ·
          exact absurd rfl h73
      ·
        exact absurd rfl h68
    ·
      exact absurd rfl h63


theorem ranges_law (A : Option Addr) (n c : Nat) (l : List Id) (z : Id) (nn : Int) (x : Id) (least : Int) (w0 : World) (hl : Rs w0 32 A n c (l.flatMap idf)) :
    Calls Try.prog 6 #[.agg (askL A n c z nn x least).toArray] w0 fun e w' => e = .returned (.bool true) ∧ Below w0.heap.size w0 w' :=
  (ranges A n c l z nn x least w0 hl).mono fun e w' ⟨u, h1, h2, h3⟩ => by subst h3; exact ⟨h1, h2⟩
end Go.Proofs.Ytblbcmkhgjlpcaa
