/-
  The orders.
-/
import Derived.Test.YtmgimcdkeelnpaaD
import Derived.Test.YtmgimcdkeelnpaaZ2
import Derived.Shelf.Small.Strs
import Derived.Shelf.Strings.Search1
import Derived.Shelf.Bytes.SlIndexAt
namespace Go.Proofs.Ytmgimcdkeelnpaa
open Go.RowKit Zk Zx
set_option linter.unusedVariables false
set_option linter.unusedSimpArgs false
/-- Where the library's parts lie here. -/
def strCmp_ren : Go.Shelf.Ren := ⟨fun | 106 => 35 | 213 => 46 | 265 => 53 | n => n, fun | 9 => 9 | 3 => 3 | n => n, fun | n => n⟩
theorem strCmp : Go.Proofs.Lays.n106 Try.prog strCmp_ren := {
  mixed := by kernel_rfl,
  f106 := Try.func35.trans (congrArg some (by kernel_rfl)),
  f213 := Try.func46.trans (congrArg some (by kernel_rfl)),
  f265 := Try.func53.trans (congrArg some (by kernel_rfl)),
  t3 := Try.underlying3,
  a3 := Try.isAgg3,
  z3 := Try.sizeOf3,
  v3 := Try.zeroValue3,
  t9 := Try.underlying9,
  a9 := Try.isAgg9,
  z9 := Try.sizeOf9,
  v9 := Try.zeroValue9 }
def idxS_ren : Go.Shelf.Ren := ⟨fun | 217 => 61 | 266 => 66 | n => n, fun | 9 => 9 | 5 => 5 | 3 => 3 | n => n, fun | n => n⟩
theorem idxS : Go.Proofs.Lays.n217 Try.prog idxS_ren := {
  mixed := by kernel_rfl,
  f217 := Try.func61.trans (congrArg some (by kernel_rfl)),
  f266 := Try.func66.trans (congrArg some (by kernel_rfl)),
  t3 := Try.underlying3,
  a3 := Try.isAgg3,
  z3 := Try.sizeOf3,
  v3 := Try.zeroValue3,
  t5 := Try.underlying5,
  a5 := Try.isAgg5,
  z5 := Try.sizeOf5,
  v5 := Try.zeroValue5,
  t9 := Try.underlying9,
  a9 := Try.isAgg9,
  z9 := Try.sizeOf9,
  v9 := Try.zeroValue9 }
def idxB_ren : Go.Shelf.Ren := ⟨fun | 185 => 51 | 187 => 55 | 115 => 56 | 253 => 57 | 224 => 58 | 254 => 59 | 255 => 64 | 291 => 65 | n => n, fun | 37 => 30 | 3 => 3 | 4 => 4 | 0 => 0 | 5 => 5 | 46 => 81 | 9 => 9 | 146 => 86 | 51 => 85 | n => n, fun | 1 => 0 | n => n⟩
theorem idxB : Go.Proofs.Lays.n185 Try.prog idxB_ren := {
  mixed := by kernel_rfl,
  f115 := Try.func56.trans (congrArg some (by kernel_rfl)),
  f185 := Try.func51.trans (congrArg some (by kernel_rfl)),
  f187 := Try.func55.trans (congrArg some (by kernel_rfl)),
  f224 := Try.func58.trans (congrArg some (by kernel_rfl)),
  f253 := Try.func57.trans (congrArg some (by kernel_rfl)),
  f254 := Try.func59.trans (congrArg some (by kernel_rfl)),
  f255 := Try.func64.trans (congrArg some (by kernel_rfl)),
  f291 := Try.func65.trans (congrArg some (by kernel_rfl)),
  t0 := Try.underlying0,
  a0 := Try.isAgg0,
  z0 := Try.sizeOf0,
  v0 := Try.zeroValue0,
  t3 := Try.underlying3,
  a3 := Try.isAgg3,
  z3 := Try.sizeOf3,
  v3 := Try.zeroValue3,
  t4 := Try.underlying4,
  a4 := Try.isAgg4,
  z4 := Try.sizeOf4,
  v4 := Try.zeroValue4,
  t5 := Try.underlying5,
  a5 := Try.isAgg5,
  z5 := Try.sizeOf5,
  v5 := Try.zeroValue5,
  t9 := Try.underlying9,
  a9 := Try.isAgg9,
  z9 := Try.sizeOf9,
  v9 := Try.zeroValue9,
  t37 := Try.underlying30,
  a37 := Try.isAgg30,
  z37 := Try.sizeOf30,
  v37 := Try.zeroValue30,
  t46 := Try.underlying81,
  a46 := Try.isAgg81,
  z46 := Try.sizeOf81,
  v46 := Try.zeroValue81,
  t51 := Try.underlying85,
  a51 := Try.isAgg85,
  z51 := Try.sizeOf85,
  v51 := Try.zeroValue85,
  t146 := Try.underlying86,
  a146 := Try.isAgg86,
  z146 := Try.sizeOf86,
  v146 := Try.zeroValue86,
  g1 := by kernel_rfl }


theorem sLt_bl (a b : ByteArray) : sLt a b = bl a.data.toList b.data.toList := by
  have h := sLt_eq a.data.toList b.data.toList
  rw [Array.toArray_toList, Array.toArray_toList] at h
  exact h
def keyB (e : EV) : ByteArray := if e.md = 3 then e.nm ++ ⟨#[47]⟩ else e.nm
def ltK (x y : EV) : Bool := sLt (keyB x) (keyB y)
def ltN (x y : EV) : Bool := sLt x.nm y.nm
theorem ordK : Ord3 ltK := by
  have h := ordBl fun e : EV => (keyB e).data.toList
  have e : ltK = fun x y => bl (keyB x).data.toList (keyB y).data.toList := by funext x y; exact sLt_bl _ _
  rw [e]
  exact h
theorem ordN : Ord3 ltN := by
  have h := ordBl fun e : EV => e.nm.data.toList
  have e : ltN = fun x y => bl x.nm.data.toList y.nm.data.toList := by funext x y; exact sLt_bl _ _
  rw [e]
  exact h
theorem compar (a b : ByteArray) (w0 : World) : Calls Try.prog 35 #[.string a, .string b] w0 fun e w' => ∃ u, e = .returned u ∧ Like w0 w' ∧ ∃ v : Int, u = .int .i64 v ∧ (v < 0 ↔ sLt a b = true) :=
  (show Calls Try.prog 35 _ _ _ from Any.strings_Compare strCmp a b w0).mono fun e w' ⟨h1, h2⟩ => by
    subst h2
    refine ⟨_, h1, Like.refl _, _, rfl, ?_⟩
    rw [sLt_bl, ← cmp_bl]
    exact decide_eq_true_iff.symm


set_option maxRecDepth 100000 in
theorem key (x : EV) (w0 : World)  :
    Calls Try.prog 36 #[.agg (enf x).toArray] w0 fun e w' => ∃ u, e = .returned u ∧ Like w0 w' ∧ u = .string (keyB x) := by
  refine enter1 (env := [(0, .agg (enf x).toArray)]) [.agg (enf x).toArray] Try.func36 rfl Try.ntmps36 rfl rfl ?_
  have S0 := St.start w0 noM; have hsz := x.h.2; have h1z : (⟨#[47]⟩ : ByteArray).size = 1 := rfl
  refine T_seq fun K1 hK1 => ?_
  refine T_region ?_
  refine L_o (o_box rfl S0 rfl fun b1 w1 hb1 S1 => ?_)
  refine L_y (y_assign rfl) rfl ?_
  refine L_nil ?_
  refine hK1 _ _ ?_
  refine T_seq fun K2 hK2 => ?_
  refine T_seq fun K3 hK3 => ?_
  refine T_region ?_
  refine L_y (y_fieldA 1 Try.underlying39 rfl sz3 rfl rfl rfl) rfl ?_
  refine L_y (y_ldc Try.underlying3 rfl rfl (((S1.blk 0 rfl).cell _).trans (by rfl))) rfl ?_
  refine L_y (y_eql rfl rfl) rfl ?_
  refine L_nil ?_
  refine hK3 _ _ ?_
  refine T_cond rfl (fun h5 => ?_) (fun h5 => ?_)
  ·
    refine T_seq fun K4 hK4 => ?_
    refine T_region ?_
    refine L_y (y_fieldA 0 Try.underlying39 rfl sz9 rfl rfl rfl) rfl ?_
    refine L_y (y_ldc Try.underlying9 rfl rfl (((S1.blk 0 rfl).cell _).trans (by rfl))) rfl ?_
    refine L_y (y_cat rfl rfl (by omega)) rfl ?_
    refine L_y (y_assign rfl) rfl ?_
    refine L_nil ?_
    refine hK4 _ _ ?_
    refine T_ret ?_
    repeat (first | with_reducible refine up_then ?_ | with_reducible refine up_in ?_)
    refine ret1 rfl rfl ?_
    first | exact ⟨_, rfl, S1.like0, by unfold keyB; rw [if_pos (by omega)]⟩ | exact ⟨_, rfl, S1.like0, by unfold keyB; rw [if_neg (by omega)]; rfl⟩
  ·
    refine T_skip ?_
    refine hK2 _ _ ?_
    refine T_seq fun K5 hK5 => ?_
    refine T_region ?_
    refine L_y (y_fieldA 0 Try.underlying39 rfl sz9 rfl rfl rfl) rfl ?_
    refine L_y (y_ldc Try.underlying9 rfl rfl (((S1.blk 0 rfl).cell _).trans (by rfl))) rfl ?_
    refine L_y (y_assign rfl) rfl ?_
    refine L_nil ?_
    refine hK5 _ _ ?_
    refine T_ret ?_
    repeat (first | with_reducible refine up_then ?_ | with_reducible refine up_in ?_)
    refine ret1 rfl rfl ?_
    first | exact ⟨_, rfl, S1.like0, by unfold keyB; rw [if_pos (by omega)]⟩ | exact ⟨_, rfl, S1.like0, by unfold keyB; rw [if_neg (by omega)]; rfl⟩


set_option maxRecDepth 100000 in
theorem rkey (x : EV) (w0 : World)  :
    Calls Try.prog 29 #[.agg (enf x).toArray] w0 fun e w' => ∃ u, e = .returned u ∧ Like w0 w' ∧ u = .string (keyB x) := by
  refine enter1 (env := [(0, .agg (enf x).toArray)]) [.agg (enf x).toArray] Try.func29 rfl Try.ntmps29 rfl rfl ?_
  have S0 := St.start w0 noM; have hsz := x.h.2; have h1z : (⟨#[47]⟩ : ByteArray).size = 1 := rfl
  refine T_seq fun K1 hK1 => ?_
  refine T_region ?_
  refine L_o (o_box rfl S0 rfl fun b1 w1 hb1 S1 => ?_)
  refine L_y (y_assign rfl) rfl ?_
  refine L_nil ?_
  refine hK1 _ _ ?_
  refine T_seq fun K2 hK2 => ?_
  refine T_seq fun K3 hK3 => ?_
  refine T_region ?_
  refine L_y (y_fieldA 1 Try.underlying39 rfl sz3 rfl rfl rfl) rfl ?_
  refine L_y (y_ldc Try.underlying3 rfl rfl (((S1.blk 0 rfl).cell _).trans (by rfl))) rfl ?_
  refine L_y (y_eql rfl rfl) rfl ?_
  refine L_nil ?_
  refine hK3 _ _ ?_
  refine T_cond rfl (fun h5 => ?_) (fun h5 => ?_)
  ·
    refine T_seq fun K4 hK4 => ?_
    refine T_region ?_
    refine L_y (y_fieldA 0 Try.underlying39 rfl sz9 rfl rfl rfl) rfl ?_
    refine L_y (y_ldc Try.underlying9 rfl rfl (((S1.blk 0 rfl).cell _).trans (by rfl))) rfl ?_
    refine L_y (y_cat rfl rfl (by omega)) rfl ?_
    refine L_y (y_assign rfl) rfl ?_
    refine L_nil ?_
    refine hK4 _ _ ?_
    refine T_ret ?_
    repeat (first | with_reducible refine up_then ?_ | with_reducible refine up_in ?_)
    refine ret1 rfl rfl ?_
    first | exact ⟨_, rfl, S1.like0, by unfold keyB; rw [if_pos (by omega)]⟩ | exact ⟨_, rfl, S1.like0, by unfold keyB; rw [if_neg (by omega)]; rfl⟩
  ·
    refine T_skip ?_
    refine hK2 _ _ ?_
    refine T_seq fun K5 hK5 => ?_
    refine T_region ?_
    refine L_y (y_fieldA 0 Try.underlying39 rfl sz9 rfl rfl rfl) rfl ?_
    refine L_y (y_ldc Try.underlying9 rfl rfl (((S1.blk 0 rfl).cell _).trans (by rfl))) rfl ?_
    refine L_y (y_assign rfl) rfl ?_
    refine L_nil ?_
    refine hK5 _ _ ?_
    refine T_ret ?_
    repeat (first | with_reducible refine up_then ?_ | with_reducible refine up_in ?_)
    refine ret1 rfl rfl ?_
    first | exact ⟨_, rfl, S1.like0, by unfold keyB; rw [if_pos (by omega)]⟩ | exact ⟨_, rfl, S1.like0, by unfold keyB; rw [if_neg (by omega)]; rfl⟩


set_option maxRecDepth 100000 in
theorem order (x y : EV) (w0 : World)  :
    Calls Try.prog 25 #[.agg (enf x).toArray, .agg (enf y).toArray] w0 fun e w' => ∃ u, e = .returned u ∧ Like w0 w' ∧ ∃ v : Int, u = .int .i64 v ∧ (v < 0 ↔ ltK x y = true) := by
  refine enter1 (env := [(0, .agg (enf x).toArray), (1, .agg (enf y).toArray)]) [.agg (enf x).toArray, .agg (enf y).toArray] Try.func25 rfl Try.ntmps25 rfl rfl ?_
  have S0 := St.start w0 noM
  refine T_seq fun K1 hK1 => ?_
  refine T_region ?_
  refine L_o (o_box rfl S0 rfl fun b1 w1 hb1 S1 => ?_)
  refine L_o (o_box rfl S1 rfl fun b2 w2 hb2 S2 => ?_)
  refine L_y (y_assign rfl) rfl ?_
  refine L_nil ?_
  refine hK1 _ _ ?_
  refine T_seq fun K2 hK2 => ?_
  refine T_drawnX (fun w => Blk w b1 39 (enf x).toArray ∧ Blk w b2 39 (enf y).toArray) hmix (by kernel_rfl) (fun w l => ⟨(S2.like l).blk 0 rfl, (S2.like l).blk 1 rfl⟩) fun w3 l3 => ?_
  have S3 := S2.like l3
  refine DX_y 0 (by kernel_rfl) rfl (y_of fun w hw => y_ldW Try.underlying39 rfl sz39 rfl (hw.1) (show _ = enf x ∧ _ from ⟨take_enf x, enf_len x⟩)) rfl ?_
  refine DX_y 2 (by kernel_rfl) rfl (y_of fun w hw => y_ldW Try.underlying39 rfl sz39 rfl (hw.2) (show _ = enf y ∧ _ from ⟨take_enf y, enf_len y⟩)) rfl ?_
  refine DX_o1 1 (by kernel_rfl) rfl ?_
  refine o_call Try.func36 rfl rfl (key x w3) rfl rfl ?_
  rintro e4 w4 ⟨v4, rfl, l4, rfl⟩
  refine ⟨_, rfl, ?_⟩
  have S4 := S3.like l4
  refine ⟨⟨S4.blk 0 rfl, S4.blk 1 rfl⟩, ?_⟩
  refine DX_o1 3 (by kernel_rfl) rfl ?_
  refine o_call Try.func36 rfl rfl (key y w4) rfl rfl ?_
  rintro e5 w5 ⟨v5, rfl, l5, rfl⟩
  refine ⟨_, rfl, ?_⟩
  have S5 := S4.like l5
  refine ⟨⟨S5.blk 0 rfl, S5.blk 1 rfl⟩, ?_⟩
  refine DX_o1 4 (by kernel_rfl) rfl ?_
  refine o_call Try.func35 rfl rfl (compar _ _ w5) rfl rfl ?_
  rintro e6 w6 ⟨v6, rfl, l6, v9, rfl, hv9⟩
  refine ⟨_, rfl, ?_⟩
  have S6 := S5.like l6
  refine ⟨⟨S6.blk 0 rfl, S6.blk 1 rfl⟩, ?_⟩
  refine DX_y 5 (by kernel_rfl) rfl (y_assign rfl) rfl ?_
  refine DX_nil (by kernel_rfl) ?_
  refine hK2 _ _ ?_
  refine T_ret ?_
  repeat (first | with_reducible refine up_then ?_ | with_reducible refine up_in ?_)
  refine ret1 rfl rfl ?_
  exact ⟨_, rfl, S6.like0, v9, rfl, hv9⟩


set_option maxRecDepth 100000 in
theorem bynam (x y : EV) (w0 : World)  :
    Calls Try.prog 48 #[.agg (enf x).toArray, .agg (enf y).toArray] w0 fun e w' => ∃ u, e = .returned u ∧ Like w0 w' ∧ ∃ v : Int, u = .int .i64 v ∧ (v < 0 ↔ ltN x y = true) := by
  refine enter1 (env := [(0, .agg (enf x).toArray), (1, .agg (enf y).toArray)]) [.agg (enf x).toArray, .agg (enf y).toArray] Try.func48 rfl Try.ntmps48 rfl rfl ?_
  have S0 := St.start w0 noM
  refine T_seq fun K1 hK1 => ?_
  refine T_region ?_
  refine L_o (o_box rfl S0 rfl fun b1 w1 hb1 S1 => ?_)
  refine L_o (o_box rfl S1 rfl fun b2 w2 hb2 S2 => ?_)
  refine L_y (y_assign rfl) rfl ?_
  refine L_nil ?_
  refine hK1 _ _ ?_
  refine T_seq fun K2 hK2 => ?_
  refine T_region ?_
  refine L_y (y_fieldA 0 Try.underlying39 rfl sz9 rfl rfl rfl) rfl ?_
  refine L_y (y_ldc Try.underlying9 rfl rfl (((S2.blk 0 rfl).cell _).trans (by rfl))) rfl ?_
  refine L_y (y_fieldA 0 Try.underlying39 rfl sz9 rfl rfl rfl) rfl ?_
  refine L_y (y_ldc Try.underlying9 rfl rfl (((S2.blk 1 rfl).cell _).trans (by rfl))) rfl ?_
  refine L_o (o_call Try.func35 rfl rfl (compar _ _ w2) rfl rfl ?_)
  rintro e3 w3 ⟨v3, rfl, l3, v9, rfl, hv9⟩
  refine ⟨_, rfl, ?_⟩
  have S3 := S2.like l3
  refine L_y (y_assign rfl) rfl ?_
  refine L_nil ?_
  refine hK2 _ _ ?_
  refine T_ret ?_
  repeat (first | with_reducible refine up_then ?_ | with_reducible refine up_in ?_)
  refine ret1 rfl rfl ?_
  exact ⟨_, rfl, S3.like0, v9, rfl, hv9⟩


theorem cmpK : CMP 25 ltK := ⟨ordK, ⟨_, Try.func25, by kernel_rfl, by kernel_rfl⟩, fun x y w => order x y w⟩
theorem cmpN : CMP 48 ltN := ⟨ordN, ⟨_, Try.func48, by kernel_rfl, by kernel_rfl⟩, fun x y w => bynam x y w⟩
end Go.Proofs.Ytmgimcdkeelnpaa
