import Derived.Test.YtgaklngnfecdaaaMgIOpens6
import Derived.Test.YtgaklngnfecdaaaMgIOpens4

/-
  The law IndexOpens.
-/
namespace Go.Proofs.Ytgaklngnfecdaaa.Idx
open Go.RowKit Zk Zx
open Oid (idf idf_len cmpL)
set_option linter.unusedVariables false
set_option linter.unusedSimpArgs false

theorem pl_xid (x : Row) : (plf x).toArray.extract 0 (0 + 32) = bA x.id.l := by
  apply Array.ext'
  rw [Array.toList_extract]
  simp only [plf, bA]
  rw [List.extract_eq_take_drop]
  show List.take 32 (bL x.id.l ++ _) = bL x.id.l
  rw [List.take_append_of_le_length (by rw [length_bL, x.id.h]; exact Nat.le_refl _)]
  exact List.take_of_length_le (by rw [length_bL, x.id.h]; exact Nat.le_refl _)
def peq (x y : Row) : Bool := decide (x.id.l = y.id.l) && (decide (x.at_ = y.at_) && (decide (x.sm = y.sm) && true))
theorem peq_refl (x : Row) : peq x x = true := by simp [peq]
theorem pl_eq (x y : Row) {fs : Array Field} (hfs : Try.prog.underlying 62 = some (.struct fs)) : EqFs Try.prog 9999 (plf x).toArray (plf y).toArray fs.toList (peq x y) := by
  have h2 := Try.underlying62
  rw [hfs] at h2
  injection h2 with h2
  injection h2 with h2
  subst h2
  unfold peq
  exact .cons (FE_bytes (by decide) Try.underlying23 Try.underlying5 sz5 Try.sizeOf23 x.id.h y.id.h (pl_xid x) (pl_xid y)) (.cons (FE_int (by decide) Try.underlying3 (pl32 x) (pl32 y)) (.cons (FE_int (by decide) Try.underlying60 (pl33 x) (pl33 y)) .nil))
theorem openBad (B : Option Addr) (m d : Nat) (b : List UInt8) (w0 : World) (hb : Rs w0 1 B m d (bL b)) (he : openE b ≠ 0) : Calls Try.prog 28 #[.slice B m d] w0 fun e w' => ∃ u, e = .returned u ∧ Like w0 w' ∧ u = .tuple #[.pointer none, .int .i64 (openE b)] :=
  (open_ B m d _ w0 hb).mono fun e w' ⟨u, h1, h2⟩ => by
    rcases h2 with ⟨_, l, h⟩ | ⟨h, _⟩
    · exact ⟨u, h1, l, h⟩
    · exact absurd h he
theorem openGood (B : Option Addr) (m d : Nat) (b : List UInt8) (w0 : World) (hb : Rs w0 1 B m d (bL b)) (he : openE b = 0) : Calls Try.prog 28 #[.slice B m d] w0 fun e w' => ∃ u, e = .returned u ∧ Like w0 w' ∧ ∃ g A, u = .tuple #[.pointer (some ⟨g, 0, none⟩), .int .i64 0] ∧ Zx.St w0 noM [Zx.row 119 34 A (rowsB b).length (rowsB b).length ((rowsB b).flatMap rowf), blk g 97 (idxf A (rowsB b).length (rowsB b).length (rowsB b) (ofB b)).toArray] w' :=
  (open_ B m d _ w0 hb).mono fun e w' ⟨u, h1, h2⟩ => by
    rcases h2 with ⟨h, _⟩ | ⟨_, g, A, h3, h4⟩
    · exact absurd he h
    · exact ⟨u, h1, h4.like0, g, A, h3, h4⟩
theorem ropenBad (B : Option Addr) (m d : Nat) (b : List UInt8) (w0 : World) (hb : Rs w0 1 B m d (bL b)) (hm9 : m ≤ 100000) (he : openE b ≠ 0) : Calls Try.prog 29 #[.slice B m d] w0 fun e w' => ∃ u, e = .returned u ∧ Like w0 w' ∧ u = .tuple #[.agg (rixf none 0 0 zI).toArray, .int .i64 (openE b)] :=
  (ropen B m d _ w0 hb hm9).mono fun e w' ⟨u, h1, l, h2⟩ => by
    rcases h2 with ⟨_, h⟩ | ⟨h, _⟩
    · exact ⟨u, h1, l, h⟩
    · exact absurd h he
theorem ropenGood (B : Option Addr) (m d : Nat) (b : List UInt8) (w0 : World) (hb : Rs w0 1 B m d (bL b)) (hm9 : m ≤ 100000) (he : openE b = 0) : Calls Try.prog 29 #[.slice B m d] w0 fun e w' => ∃ u, e = .returned u ∧ Like w0 w' ∧ ∃ A c, u = .tuple #[.agg (rixf A (rowsB b).length c (ofB b)).toArray, .int .i64 0] ∧ w'.ownsRow w0.heap.size 86 34 (.slice A (rowsB b).length c) (rowsB b).length ((rowsB b).flatMap plf) :=
  (ropen B m d _ w0 hb hm9).mono fun e w' ⟨u, h1, l, h2⟩ => by
    rcases h2 with ⟨h, _⟩ | ⟨_, A, c, h3, h4⟩
    · exact absurd he h
    · exact ⟨u, h1, l, A, c, h3, h4⟩
theorem e0 (x : Int) (h : x ≠ 0) : (!((!(none : Option Addr).isNone) == decide (x = 0))) = false := by simp [h]


set_option maxRecDepth 100000 in
theorem lenN  (w0 : World)  :
    Calls Try.prog 31 #[.pointer none] w0 fun e w' => ∃ u, e = .returned u ∧ Like w0 w' ∧ u = .int .i64 0 := by
  refine enter1 (env := [(0, .pointer none)]) [.pointer none] Try.func31 rfl Try.ntmps31 rfl rfl ?_
  have S0 := St.start w0 noM
  refine T_seq fun K1 hK1 => ?_
  refine T_region ?_
  refine L_y (y_assign rfl) rfl ?_
  refine L_nil ?_
  refine hK1 _ _ ?_
  refine T_seq fun K2 hK2 => ?_
  refine T_seq fun K3 hK3 => ?_
  refine T_region ?_
  refine L_y (y_move rfl) rfl ?_
  refine L_y (y_peqn Try.underlying49 rfl) rfl ?_
  refine L_nil ?_
  refine hK3 _ _ ?_
  refine T_true rfl ?_
  refine T_seq fun K4 hK4 => ?_
  refine T_region ?_
  refine L_y (y_assign rfl) rfl ?_
  refine L_nil ?_
  refine hK4 _ _ ?_
  refine T_ret ?_
  repeat (first | with_reducible refine up_then ?_ | with_reducible refine up_in ?_)
  refine ret1 rfl rfl ?_
  exact ⟨_, rfl, S0.like0, rfl⟩


set_option maxRecDepth 100000 in
theorem ofN  (w0 : World)  :
    Calls Try.prog 32 #[.pointer none] w0 fun e w' => ∃ u, e = .returned u ∧ Like w0 w' ∧ u = .agg (idf zI).toArray := by
  refine enter1 (env := [(0, .pointer none)]) [.pointer none] Try.func32 rfl Try.ntmps32 rfl rfl ?_
  have S0 := St.start w0 noM
  refine T_seq fun K1 hK1 => ?_
  refine T_region ?_
  refine L_o (o_alloc zz23 S0 rfl fun b1 w1 hb1 S1 => ?_)
  refine L_nil ?_
  refine hK1 _ _ ?_
  refine T_seq fun K2 hK2 => ?_
  refine T_seq fun K3 hK3 => ?_
  refine T_region ?_
  refine L_y (y_move rfl) rfl ?_
  refine L_y (y_peqn Try.underlying49 rfl) rfl ?_
  refine L_nil ?_
  refine hK3 _ _ ?_
  refine T_true rfl ?_
  refine T_seq fun K4 hK4 => ?_
  refine T_region ?_
  refine L_y (y_build rfl (show _ = some (idf zI).toArray by kernel_rfl)) rfl ?_
  refine L_o (o_stW S1 0 rfl rfl rfl (by rw [List.size_toArray, idf_len]; exact sz23) (by first | (rw [List.size_toArray, List.size_toArray, idf_len, idf_len]; done) | (rw [List.size_toArray, idf_len]; rfl) | (rw [List.size_toArray, idf_len])) (fun u hu => bL_one _ u (by rw [List.toList_toArray] at hu; exact hu)) fun w2 S2 => ?_)
  refine L_nil ?_
  refine hK4 _ _ ?_
  refine T_ret ?_
  repeat (first | with_reducible refine up_then ?_ | with_reducible refine up_in ?_)
  refine retc rfl rfl (S2.blk 0 rfl) Try.underlying23 rfl (by rw [List.size_toArray, idf_len]; exact sz23) ?_
  exact ⟨_, rfl, S2.like0, rfl⟩


set_option maxRecDepth 100000 in
theorem atN (k : Int) (w0 : World)  :
    Calls Try.prog 34 #[.pointer none, .int .i64 k] w0 fun e w' => ∃ u, e = .returned u ∧ Like w0 w' ∧ u = .agg (plf zR).toArray := by
  refine enter1 (env := [(0, .pointer none), (1, .int .i64 k)]) [.pointer none, .int .i64 k] Try.func34 rfl Try.ntmps34 rfl rfl ?_
  have S0 := St.start w0 noM
  refine T_seq fun K1 hK1 => ?_
  refine T_region ?_
  refine L_o (o_alloc zz62 S0 rfl fun b1 w1 hb1 S1 => ?_)
  refine L_nil ?_
  refine hK1 _ _ ?_
  refine T_seq fun K2 hK2 => ?_
  refine T_seq fun K3 hK3 => ?_
  refine T_region ?_
  refine L_y (y_move rfl) rfl ?_
  refine L_y (y_lss rfl rfl) rfl ?_
  refine L_y (y_move rfl) rfl ?_
  refine L_split 7 rfl (fun h7 => ?_) (fun h7 => ?_)
  ·
    refine L_gno rfl rfl rfl ?_
    refine L_gno rfl rfl rfl ?_
    refine L_gno rfl rfl rfl ?_
    refine L_gno rfl rfl rfl ?_
    refine L_y ((by first | exact y_pickT rfl rfl | exact y_pickF rfl rfl)) rfl ?_
    refine L_nil ?_
    refine hK3 _ _ ?_
    refine T_true rfl ?_
    refine T_seq fun K4 hK4 => ?_
    refine T_region ?_
    refine L_y (y_build rfl (show _ = some (plf zR).toArray by kernel_rfl)) rfl ?_
    refine L_o (o_stW S1 0 rfl rfl rfl (by rw [plf_sz]; exact sz62) (by first | (rw [plf_sz, plf_sz]; done) | (rw [plf_sz]; rfl)) (fun u hu => plf_one _ u (by rw [List.toList_toArray] at hu; exact hu)) fun w3 S3 => ?_)
    refine L_nil ?_
    refine hK4 _ _ ?_
    refine T_ret ?_
    repeat (first | with_reducible refine up_then ?_ | with_reducible refine up_in ?_)
    refine retc rfl rfl (S3.blk 0 rfl) Try.underlying62 rfl (by rw [plf_sz]; exact sz62) ?_
    exact ⟨_, rfl, S3.like0, rfl⟩
  ·
    refine L_gyes rfl rfl ?_
    refine L_y (y_move rfl) rfl ?_
    refine L_gyes rfl rfl ?_
    refine L_y (y_move rfl) rfl ?_
    refine L_gyes rfl rfl ?_
    refine L_o (o_call Try.func31 rfl rfl (lenN w1) rfl rfl ?_)
    rintro e4 w4 ⟨v4, rfl, l4, rfl⟩
    refine ⟨_, rfl, ?_⟩
    have S4 := S1.like l4
    refine L_gyes rfl rfl ?_
    refine L_y (y_geq rfl rfl) rfl ?_
    refine L_y ((by first | exact y_pickT rfl rfl | exact y_pickF rfl rfl)) rfl ?_
    refine L_nil ?_
    refine hK3 _ _ ?_
    refine T_cond rfl (fun h12 => ?_) (fun h12 => ?_)
    ·
      refine T_seq fun K5 hK5 => ?_
      refine T_region ?_
      refine L_y (y_build rfl (show _ = some (plf zR).toArray by kernel_rfl)) rfl ?_
      refine L_o (o_stW S4 0 rfl rfl rfl (by rw [plf_sz]; exact sz62) (by first | (rw [plf_sz, plf_sz]; done) | (rw [plf_sz]; rfl)) (fun u hu => plf_one _ u (by rw [List.toList_toArray] at hu; exact hu)) fun w5 S5 => ?_)
      refine L_nil ?_
      refine hK5 _ _ ?_
      refine T_ret ?_
      repeat (first | with_reducible refine up_then ?_ | with_reducible refine up_in ?_)
      refine retc rfl rfl (S5.blk 0 rfl) Try.underlying62 rfl (by rw [plf_sz]; exact sz62) ?_
      exact ⟨_, rfl, S5.like0, rfl⟩
    ·
      exact absurd (by omega) h12


set_option maxRecDepth 100000 in
theorem oneT (x : Row) (w0 : World)  :
    Calls Try.prog 46 #[.agg (plf x).toArray, .agg (plf x).toArray] w0 fun e w' => ∃ u, e = .returned u ∧ Like w0 w' ∧ u = .bool true := by
  refine enter1 (env := [(0, .agg (plf x).toArray), (1, .agg (plf x).toArray)]) [.agg (plf x).toArray, .agg (plf x).toArray] Try.func46 rfl Try.ntmps46 rfl rfl ?_
  have S0 := St.start w0 noM
  refine T_seq fun K1 hK1 => ?_
  refine T_region ?_
  refine L_o (o_box rfl S0 rfl fun b1 w1 hb1 S1 => ?_)
  refine L_o (o_box rfl S1 rfl fun b2 w2 hb2 S2 => ?_)
  refine L_y (y_assign rfl) rfl ?_
  refine L_nil ?_
  refine hK1 _ _ ?_
  refine T_seq fun K2 hK2 => ?_
  refine T_region ?_
  refine L_y (y_fieldA 0 Try.underlying62 rfl sz23 rfl rfl rfl) rfl ?_
  refine L_y (y_ldW Try.underlying23 rfl sz23 rfl (S2.blk 0 rfl) (pl_id x)) rfl ?_
  refine L_y (y_fieldA 0 Try.underlying86 rfl sz23 rfl rfl rfl) rfl ?_
  refine L_y (y_ldW Try.underlying23 rfl sz23 rfl (S2.blk 1 rfl) (pl_id x)) rfl ?_
  refine L_y (y_eqB Try.underlying23 Try.underlying5 sz5 (by kernel_rfl) rfl rfl (Oid.Id.h _) (Oid.Id.h _)) rfl ?_
  refine L_y (y_move rfl) rfl ?_
  refine L_split 10 rfl (fun h10 => ?_) (fun h10 => ?_)
  ·
    refine L_gyes rfl rfl ?_
    refine L_y (y_fieldA 32 Try.underlying62 rfl sz3 rfl rfl rfl) rfl ?_
    refine L_gyes rfl rfl ?_
    refine L_y (y_ldc Try.underlying3 rfl rfl (((S2.blk 0 rfl).cell _).trans (pl32 x))) rfl ?_
    refine L_gyes rfl rfl ?_
    refine L_y (y_fieldA 32 Try.underlying86 rfl sz3 rfl rfl rfl) rfl ?_
    refine L_gyes rfl rfl ?_
    refine L_y (y_ldc Try.underlying3 rfl rfl (((S2.blk 1 rfl).cell _).trans (pl32 x))) rfl ?_
    refine L_gyes rfl rfl ?_
    refine L_y (y_eql rfl rfl) rfl ?_
    refine L_y ((by first | exact y_pickT rfl rfl | exact y_pickF rfl rfl)) rfl ?_
    refine L_y (y_move rfl) rfl ?_
    refine L_split 17 rfl (fun h17 => ?_) (fun h17 => ?_)
    ·
      refine L_gyes rfl rfl ?_
      refine L_y (y_fieldA 33 Try.underlying62 rfl sz60 rfl rfl rfl) rfl ?_
      refine L_gyes rfl rfl ?_
      refine L_y (y_ldc Try.underlying60 rfl rfl (((S2.blk 0 rfl).cell _).trans (pl33 x))) rfl ?_
      refine L_gyes rfl rfl ?_
      refine L_y (y_fieldA 33 Try.underlying86 rfl sz60 rfl rfl rfl) rfl ?_
      refine L_gyes rfl rfl ?_
      refine L_y (y_ldc Try.underlying60 rfl rfl (((S2.blk 1 rfl).cell _).trans (pl33 x))) rfl ?_
      refine L_gyes rfl rfl ?_
      refine L_y (y_eql rfl rfl) rfl ?_
      refine L_y ((by first | exact y_pickT rfl rfl | exact y_pickF rfl rfl)) rfl ?_
      refine L_y (y_assign rfl) rfl ?_
      refine L_nil ?_
      refine hK2 _ _ ?_
      refine T_ret ?_
      repeat (first | with_reducible refine up_then ?_ | with_reducible refine up_in ?_)
      refine ret1 rfl rfl ?_
      exact ⟨_, rfl, S2.like0, by simp⟩
    ·
      exact absurd rfl h17
  ·
    exact absurd rfl h10


set_option maxRecDepth 100000 in
theorem likeT (g : Nat) (A : Option Addr) (n c : Nat) (l : List Row) (of : Oid.Id) (A2 : Option Addr) (c2 : Nat) (w0 : World) (hx0 : Blk w0 g 97 (idxf A n c l of).toArray) (hl : Rs w0 34 A n c (l.flatMap rowf)) (hne : ∀ ad, 0 < n → A = some ad → ad.block ≠ g) (hy : Rs w0 34 A2 l.length c2 (l.flatMap plf)) :
    Calls Try.prog 30 #[.pointer (some ⟨g, 0, none⟩), .agg (rixf A2 l.length c2 of).toArray] w0 fun e w' => ∃ u, e = .returned u ∧ Like w0 w' ∧ u = .bool true := by
  refine enter1 (env := [(0, .pointer (some ⟨g, 0, none⟩)), (1, .agg (rixf A2 l.length c2 of).toArray)]) [.pointer (some ⟨g, 0, none⟩), .agg (rixf A2 l.length c2 of).toArray] Try.func30 rfl Try.ntmps30 rfl rfl ?_
  have hn := rows_len hl; have hcap := hl.cap; have hmax := hl.max; have hcy := hy.cap; have hmy := hy.max
  have S0 := St.start w0 noM
  refine T_seq fun K1 hK1 => ?_
  refine T_region ?_
  refine L_o (o_box rfl S0 rfl fun b1 w1 hb1 S1 => ?_)
  refine L_y (y_assign rfl) rfl ?_
  refine L_nil ?_
  refine hK1 _ _ ?_
  refine T_seq fun K2 hK2 => ?_
  refine T_seq fun K3 hK3 => ?_
  refine T_drawnL [(0, true), (2, true), (3, true), (4, true), (1, false), (5, true), (6, true), (7, true), (9, true), (10, true), (8, false), (11, true), (12, true)] hmix (by kernel_rfl) fun w2 l2 => ?_
  have S2 := S1.like l2
  refine DL_y rfl (y_move rfl) rfl ?_
  refine DL_y rfl (y_fieldA 0 Try.underlying53 rfl sz46 rfl rfl rfl) rfl ?_
  refine DL_y rfl (y_ldc Try.underlying46 rfl rfl (((S2.blk 0 rfl).cell _).trans (rixf_row _ _ _ _))) rfl ?_
  refine DL_y rfl (y_len Try.underlying46 rfl) rfl ?_
  refine DL_o rfl (o_call Try.func31 rfl rfl (lenX g A n c l of w2 (S2.rdB hx0) (S2.rd hl)) rfl rfl ?_)
  rintro e3 w3 ⟨v3, rfl, l3, rfl⟩
  refine ⟨_, rfl, l3, ?_⟩
  have S3 := S2.like l3
  have q3 := l3
  refine DL_y rfl (y_neq rfl rfl) rfl ?_
  refine DL_y rfl (y_move rfl) rfl ?_
  refine DL_split 12 rfl (fun h12 => ?_) (fun h12 => ?_)
  ·
    exact absurd rfl h12
  ·
    refine DL_gyes rfl rfl rfl (y_move rfl) rfl ?_
    refine DL_gyes rfl rfl rfl (y_fieldA 1 Try.underlying53 rfl sz23 rfl rfl rfl) rfl ?_
    refine DL_gyes rfl rfl rfl (y_ldW Try.underlying23 rfl sz23 rfl (S2.blk 0 rfl) (rixf_of _ _ _ _)) rfl ?_
    refine DL_ogyes rfl rfl rfl (o_call Try.func32 rfl rfl (ofX g A n c l of w3 (S3.rdB hx0) (S3.rd hl)) rfl rfl ?_)
    rintro e4 w4 ⟨v4, rfl, l4, rfl⟩
    refine ⟨_, rfl, (Like.trans q3 l4), ?_⟩
    have S4 := S3.like l4
    have q4 := (Like.trans q3 l4)
    refine DL_gyes rfl rfl rfl (y_neB Try.underlying23 Try.underlying5 sz5 (by kernel_rfl) rfl rfl (Oid.Id.h _) (Oid.Id.h _)) rfl ?_
    refine DL_y rfl ((by first | exact y_pickT rfl rfl | exact y_pickF rfl rfl)) rfl ?_
    refine DL_nil ?_
    refine hK3 _ _ ?_
    refine T_cond rfl (fun h18 => ?_) (fun h18 => ?_)
    ·
      exact absurd rfl h18
    ·
      refine T_skip ?_
      refine hK2 _ _ ?_
      refine T_seq fun K4 hK4 => ?_
      refine T_seq fun K5 hK5 => ?_
      refine T_region ?_
      refine L_y (y_assign rfl) rfl ?_
      refine L_nil ?_
      refine hK5 _ _ ?_
      refine T_block ?_
      refine T_loop1 [(0, _), (3, _)] (fun (k : Nat) => [(5, .int .i64 (k : Int))]) (fun (k : Nat) => l.length - k) (fun (k : Nat) (w : World) => k ≤ l.length ∧ Zx.St w0 noM [blk b1 53 (rixf A2 l.length c2 of).toArray] w) 0 (Sub.cons rfl (by first | rfl | exact congrArg (Value.int _) (by omega)) (Sub.nil _)) (Sub.cons rfl rfl (Sub.cons rfl rfl (Sub.nil _))) ?_ ?_
      ·
        exact ⟨by omega, S4⟩
      ·
        intro k w5 hrel
        obtain ⟨hk, S5⟩ := hrel
        refine T_seq fun K6 hK6 => ?_
        refine T_seq fun K7 hK7 => ?_
        refine T_region ?_
        refine L_y (y_move rfl) rfl ?_
        refine L_y (y_fieldA 0 Try.underlying53 rfl sz46 rfl rfl rfl) rfl ?_
        refine L_y (y_ldc Try.underlying46 rfl rfl (((S5.blk 0 rfl).cell _).trans (rixf_row _ _ _ _))) rfl ?_
        refine L_y (y_len Try.underlying46 rfl) rfl ?_
        refine L_y (y_lss rfl rfl) rfl ?_
        refine L_nil ?_
        refine hK7 _ _ ?_
        refine T_cond rfl (fun h23 => ?_) (fun h23 => ?_)
        ·
          obtain ⟨x, hx⟩ : ∃ x, l[k]? = some x := ⟨_, List.getElem?_eq_getElem (by omega)⟩
          have hat : atR l (k : Int) = x := atR_yes (by omega) (by rw [Int.toNat_natCast]; exact hx)
          refine T_skip ?_
          refine hK6 _ _ ?_
          refine T_seq fun K8 hK8 => ?_
          refine T_block ?_
          refine T_seq fun K9 hK9 => ?_
          refine T_drawnL [(0, true), (1, true), (3, true), (4, true), (5, true), (6, true), (7, true), (2, false), (8, false), (9, true)] hmix (by kernel_rfl) fun w6 l6 => ?_
          have S6 := S5.like l6
          refine DL_y rfl (y_move rfl) rfl ?_
          refine DL_y rfl (y_move rfl) rfl ?_
          refine DL_y rfl (y_fieldA 0 Try.underlying53 rfl sz46 rfl rfl rfl) rfl ?_
          refine DL_y rfl (y_ldc Try.underlying46 rfl rfl (((S6.blk 0 rfl).cell _).trans (rixf_row _ _ _ _))) rfl ?_
          refine DL_y rfl (y_move rfl) rfl ?_
          refine DL_y rfl (y_idx Try.underlying46 sz86 rfl rfl (S6.rd hy) inferInstance (by omega)) rfl ?_
          refine DL_y rfl (y_ldp (f := plf) plf_len Try.underlying86 rfl sz86 rfl (S6.rd hy) (by omega) hx) rfl ?_
          refine DL_o rfl (o_call Try.func34 rfl rfl (atX g A n c l of (k : Int) w6 (S6.rdB hx0) (S6.rd hl) hne) rfl rfl ?_)
          rintro e7 w7 ⟨v7, rfl, l7, rfl⟩
          refine ⟨_, rfl, l7, ?_⟩
          have S7 := S6.like l7
          rw [hat]
          have q7 := l7
          refine DL_o rfl (o_call Try.func46 rfl rfl (oneT x w7) rfl rfl ?_)
          rintro e8 w8 ⟨v8, rfl, l8, rfl⟩
          refine ⟨_, rfl, (Like.trans q7 l8), ?_⟩
          have S8 := S7.like l8
          have q8 := (Like.trans q7 l8)
          refine DL_y rfl ((by first | exact y_notD rfl | exact y_not rfl)) rfl ?_
          refine DL_nil ?_
          refine hK9 _ _ ?_
          refine T_condB rfl (fun h35 => ?_) (fun h35 => ?_)
          ·
            cases h35
          ·
            refine T_skip ?_
            refine hK8 _ _ ?_
            refine T_region ?_
            refine L_y (y_move rfl) rfl ?_
            refine L_y (y_add rfl rfl (i64w (by omega))) rfl ?_
            refine L_y (y_assign rfl) rfl ?_
            refine L_nil ?_
            refine ⟨k + 1, by omega, ⟨by omega, S8⟩, ?_⟩
            exact (Sub.cons rfl (by first | rfl | exact congrArg (Value.int _) (by omega)) (Sub.cons rfl rfl (Sub.cons rfl rfl (Sub.nil _))))
        ·
          refine T_exit ?_
          refine hK4 _ _ ?_
          refine T_seq fun K10 hK10 => ?_
          refine T_region ?_
          refine L_y (y_move rfl) rfl ?_
          refine L_o (o_call Try.func34 rfl rfl (atX g A n c l of (-1) w5 (S5.rdB hx0) (S5.rd hl) hne) rfl rfl ?_)
          rintro e9 w9 ⟨v9, rfl, l9, rfl⟩
          refine ⟨_, rfl, ?_⟩
          have S9 := S5.like l9
          rw [show atR l (-1) = zR from atR_no (by omega)]
          refine L_y (y_build rfl (show _ = some (plf zR).toArray by kernel_rfl)) rfl ?_
          refine L_y (y_eqS Try.underlying62 (by kernel_rfl) (by kernel_rfl) (pl_eq zR zR Try.underlying62) rfl rfl) rfl ?_
          rw [peq_refl]
          refine L_y (y_move rfl) rfl ?_
          refine L_gyes rfl rfl ?_
          refine L_y (y_move rfl) rfl ?_
          refine L_gyes rfl rfl ?_
          refine L_y (y_fieldA 0 Try.underlying53 rfl sz46 rfl rfl rfl) rfl ?_
          refine L_gyes rfl rfl ?_
          refine L_y (y_ldc Try.underlying46 rfl rfl (((S9.blk 0 rfl).cell _).trans (rixf_row _ _ _ _))) rfl ?_
          refine L_gyes rfl rfl ?_
          refine L_y (y_len Try.underlying46 rfl) rfl ?_
          refine L_gyes rfl rfl ?_
          refine L_o (o_call Try.func34 rfl rfl (atX g A n c l of (l.length : Int) w9 (S9.rdB hx0) (S9.rd hl) hne) rfl rfl ?_)
          rintro e10 w10 ⟨v10, rfl, l10, rfl⟩
          refine ⟨_, rfl, ?_⟩
          have S10 := S9.like l10
          rw [show atR l (l.length : Int) = zR from atR_no (by omega)]
          refine L_gyes rfl rfl ?_
          refine L_y (y_build rfl (show _ = some (plf zR).toArray by kernel_rfl)) rfl ?_
          refine L_gyes rfl rfl ?_
          refine L_y (y_eqS Try.underlying62 (by kernel_rfl) (by kernel_rfl) (pl_eq zR zR Try.underlying62) rfl rfl) rfl ?_
          rw [peq_refl]
          refine L_y ((by first | exact y_pickT rfl rfl | exact y_pickF rfl rfl)) rfl ?_
          refine L_y (y_assign rfl) rfl ?_
          refine L_nil ?_
          refine hK10 _ _ ?_
          refine T_ret ?_
          repeat (first | with_reducible refine up_then ?_ | with_reducible refine up_in ?_)
          refine ret1 rfl rfl ?_
          exact ⟨_, rfl, S10.like0, rfl⟩


set_option maxRecDepth 100000 in
theorem likeN  (w0 : World)  :
    Calls Try.prog 30 #[.pointer none, .agg (rixf none 0 0 zI).toArray] w0 fun e w' => ∃ u, e = .returned u ∧ Like w0 w' ∧ u = .bool true := by
  refine enter1 (env := [(0, .pointer none), (1, .agg (rixf none 0 0 zI).toArray)]) [.pointer none, .agg (rixf none 0 0 zI).toArray] Try.func30 rfl Try.ntmps30 rfl rfl ?_
  have S0 := St.start w0 noM
  refine T_seq fun K1 hK1 => ?_
  refine T_region ?_
  refine L_o (o_box rfl S0 rfl fun b1 w1 hb1 S1 => ?_)
  refine L_y (y_assign rfl) rfl ?_
  refine L_nil ?_
  refine hK1 _ _ ?_
  refine T_seq fun K2 hK2 => ?_
  refine T_seq fun K3 hK3 => ?_
  refine T_drawnL [(0, true), (2, true), (3, true), (4, true), (1, false), (5, true), (6, true), (7, true), (9, true), (10, true), (8, false), (11, true), (12, true)] hmix (by kernel_rfl) fun w2 l2 => ?_
  have S2 := S1.like l2
  refine DL_y rfl (y_move rfl) rfl ?_
  refine DL_y rfl (y_fieldA 0 Try.underlying53 rfl sz46 rfl rfl rfl) rfl ?_
  refine DL_y rfl (y_ldc Try.underlying46 rfl rfl (((S2.blk 0 rfl).cell _).trans (rixf_row _ _ _ _))) rfl ?_
  refine DL_y rfl (y_len Try.underlying46 rfl) rfl ?_
  refine DL_o rfl (o_call Try.func31 rfl rfl (lenN w2) rfl rfl ?_)
  rintro e3 w3 ⟨v3, rfl, l3, rfl⟩
  refine ⟨_, rfl, l3, ?_⟩
  have S3 := S2.like l3
  have q3 := l3
  refine DL_y rfl (y_neq rfl rfl) rfl ?_
  refine DL_y rfl (y_move rfl) rfl ?_
  refine DL_split 12 rfl (fun h12 => ?_) (fun h12 => ?_)
  ·
    exact absurd rfl h12
  ·
    refine DL_gyes rfl rfl rfl (y_move rfl) rfl ?_
    refine DL_gyes rfl rfl rfl (y_fieldA 1 Try.underlying53 rfl sz23 rfl rfl rfl) rfl ?_
    refine DL_gyes rfl rfl rfl (y_ldW Try.underlying23 rfl sz23 rfl (S2.blk 0 rfl) (rixf_of _ _ _ _)) rfl ?_
    refine DL_ogyes rfl rfl rfl (o_call Try.func32 rfl rfl (ofN w3) rfl rfl ?_)
    rintro e4 w4 ⟨v4, rfl, l4, rfl⟩
    refine ⟨_, rfl, (Like.trans q3 l4), ?_⟩
    have S4 := S3.like l4
    have q4 := (Like.trans q3 l4)
    refine DL_gyes rfl rfl rfl (y_neB Try.underlying23 Try.underlying5 sz5 (by kernel_rfl) rfl rfl (Oid.Id.h _) (Oid.Id.h _)) rfl ?_
    refine DL_y rfl ((by first | exact y_pickT rfl rfl | exact y_pickF rfl rfl)) rfl ?_
    refine DL_nil ?_
    refine hK3 _ _ ?_
    refine T_cond rfl (fun h18 => ?_) (fun h18 => ?_)
    ·
      exact absurd rfl h18
    ·
      refine T_skip ?_
      refine hK2 _ _ ?_
      refine T_seq fun K4 hK4 => ?_
      refine T_seq fun K5 hK5 => ?_
      refine T_region ?_
      refine L_y (y_assign rfl) rfl ?_
      refine L_nil ?_
      refine hK5 _ _ ?_
      refine T_block ?_
      refine T_loop1 [(0, _), (3, _)] (fun (k : Nat) => [(5, .int .i64 (k : Int))]) (fun (k : Nat) => 1 - k) (fun (k : Nat) (w : World) => k = 0 ∧ Zx.St w0 noM [blk b1 53 (rixf none 0 0 zI).toArray] w) 0 (Sub.cons rfl (by first | rfl | exact congrArg (Value.int _) (by omega)) (Sub.nil _)) (Sub.cons rfl rfl (Sub.cons rfl rfl (Sub.nil _))) ?_ ?_
      ·
        exact ⟨rfl, S4⟩
      ·
        intro k w5 hrel
        obtain ⟨hk, S5⟩ := hrel
        refine T_seq fun K6 hK6 => ?_
        refine T_seq fun K7 hK7 => ?_
        refine T_region ?_
        refine L_y (y_move rfl) rfl ?_
        refine L_y (y_fieldA 0 Try.underlying53 rfl sz46 rfl rfl rfl) rfl ?_
        refine L_y (y_ldc Try.underlying46 rfl rfl (((S5.blk 0 rfl).cell _).trans (rixf_row _ _ _ _))) rfl ?_
        refine L_y (y_len Try.underlying46 rfl) rfl ?_
        refine L_y (y_lss rfl rfl) rfl ?_
        refine L_nil ?_
        refine hK7 _ _ ?_
        refine T_cond rfl (fun h23 => ?_) (fun h23 => ?_)
        ·
          exact absurd h23 (by omega)
        ·
          refine T_exit ?_
          refine hK4 _ _ ?_
          refine T_seq fun K8 hK8 => ?_
          refine T_region ?_
          refine L_y (y_move rfl) rfl ?_
          refine L_o (o_call Try.func34 rfl rfl (atN (-1) w5) rfl rfl ?_)
          rintro e6 w6 ⟨v6, rfl, l6, rfl⟩
          refine ⟨_, rfl, ?_⟩
          have S6 := S5.like l6
          refine L_y (y_build rfl (show _ = some (plf zR).toArray by kernel_rfl)) rfl ?_
          refine L_y (y_eqS Try.underlying62 (by kernel_rfl) (by kernel_rfl) (pl_eq zR zR Try.underlying62) rfl rfl) rfl ?_
          rw [peq_refl]
          refine L_y (y_move rfl) rfl ?_
          refine L_gyes rfl rfl ?_
          refine L_y (y_move rfl) rfl ?_
          refine L_gyes rfl rfl ?_
          refine L_y (y_fieldA 0 Try.underlying53 rfl sz46 rfl rfl rfl) rfl ?_
          refine L_gyes rfl rfl ?_
          refine L_y (y_ldc Try.underlying46 rfl rfl (((S6.blk 0 rfl).cell _).trans (rixf_row _ _ _ _))) rfl ?_
          refine L_gyes rfl rfl ?_
          refine L_y (y_len Try.underlying46 rfl) rfl ?_
          refine L_gyes rfl rfl ?_
          refine L_o (o_call Try.func34 rfl rfl (atN (0 : Nat) w6) rfl rfl ?_)
          rintro e7 w7 ⟨v7, rfl, l7, rfl⟩
          refine ⟨_, rfl, ?_⟩
          have S7 := S6.like l7
          refine L_gyes rfl rfl ?_
          refine L_y (y_build rfl (show _ = some (plf zR).toArray by kernel_rfl)) rfl ?_
          refine L_gyes rfl rfl ?_
          refine L_y (y_eqS Try.underlying62 (by kernel_rfl) (by kernel_rfl) (pl_eq zR zR Try.underlying62) rfl rfl) rfl ?_
          rw [peq_refl]
          refine L_y ((by first | exact y_pickT rfl rfl | exact y_pickF rfl rfl)) rfl ?_
          refine L_y (y_assign rfl) rfl ?_
          refine L_nil ?_
          refine hK8 _ _ ?_
          refine T_ret ?_
          repeat (first | with_reducible refine up_then ?_ | with_reducible refine up_in ?_)
          refine ret1 rfl rfl ?_
          exact ⟨_, rfl, S7.like0, rfl⟩


set_option maxRecDepth 100000 in
theorem opens1 (B : Option Addr) (m d : Nat) (b : List UInt8) (w0 : World) (hb : Rs w0 1 B m d (bL b)) (he : openE b = 0) :
    Calls Try.prog 5 #[.slice B m d] w0 fun e w' => ∃ u, e = .returned u ∧ Like w0 w' ∧ u = .bool true := by
  refine enter1 (env := [(0, .slice B m d)]) [.slice B m d] Try.func5 rfl Try.ntmps5 rfl rfl ?_
  have hm := hb.lenb; have hcap := hb.cap; have hmax := hb.max
  have S0 := St.start w0 noM
  refine T_seq fun K1 hK1 => ?_
  refine T_region ?_
  refine L_y (y_assign rfl) rfl ?_
  refine L_nil ?_
  refine hK1 _ _ ?_
  refine T_seq fun K2 hK2 => ?_
  refine T_seq fun K3 hK3 => ?_
  refine T_region ?_
  refine L_y (y_move rfl) rfl ?_
  refine L_y (y_len Try.underlying27 rfl) rfl ?_
  refine L_y (y_gtr rfl rfl) rfl ?_
  refine L_nil ?_
  refine hK3 _ _ ?_
  refine T_cond rfl (fun h11 => ?_) (fun h11 => ?_)
  ·
    refine T_seq fun K4 hK4 => ?_
    refine T_region ?_
    refine L_o (o_call Try.func24 rfl rfl (works w0) rfl rfl ?_)
    rintro e1 w1 ⟨v1, rfl, l1, rfl⟩
    refine ⟨_, rfl, ?_⟩
    have S1 := S0.like l1
    refine L_y (y_assign rfl) rfl ?_
    refine L_nil ?_
    refine hK4 _ _ ?_
    refine T_ret ?_
    repeat (first | with_reducible refine up_then ?_ | with_reducible refine up_in ?_)
    refine ret1 rfl rfl ?_
    exact ⟨_, rfl, S1.like0, rfl⟩
  ·
    refine T_skip ?_
    refine hK2 _ _ ?_
    refine T_seq fun K5 hK5 => ?_
    refine T_region ?_
    refine L_o (o_bsl0 te27 S0 rfl fun b2 w2 l2 S2 => ?_)
    refine L_y (y_move rfl) rfl ?_
    refine L_o (o_app te27 S2 0 rfl rfl rfl (S2.rd hb) (bL_one _) rfl (by omega) (by omega) fun A3 c3 w3 S3 => ?_)
    refine L_y (y_assign rfl) rfl ?_
    refine L_nil ?_
    refine hK5 _ _ ?_
    refine T_seq fun K6 hK6 => ?_
    refine T_region ?_
    refine L_y (y_move rfl) rfl ?_
    refine L_o (o_call Try.func28 rfl rfl (openGood _ _ _ b w3 (S3.row 0 rfl) he) rfl rfl ?_)
    rintro e4 w4 ⟨v4, rfl, l4, g4, A4, rfl, T4⟩
    refine ⟨_, rfl, ?_⟩
    have S4 := S3.adoptS T4
    refine L_y (y_move rfl) rfl ?_
    refine L_y (y_extract rfl rfl) rfl ?_
    refine L_y (y_extract rfl rfl) rfl ?_
    refine L_y (y_assign rfl) rfl ?_
    refine L_y (y_assign rfl) rfl ?_
    refine L_nil ?_
    refine hK6 _ _ ?_
    refine T_seq fun K7 hK7 => ?_
    refine T_region ?_
    refine L_y (y_move rfl) rfl ?_
    refine L_o (o_call Try.func29 rfl rfl (ropenGood B m d b w4 (S4.rd hb) (by omega) he) rfl rfl ?_)
    rintro e5 w5 ⟨v5, rfl, l5, A5, c5, rfl, O5⟩
    refine ⟨_, rfl, ?_⟩
    have S5 := S4.adopt l5 O5
    refine L_y (y_move rfl) rfl ?_
    refine L_y (y_extract rfl rfl) rfl ?_
    refine L_y (y_extract rfl rfl) rfl ?_
    refine L_o (o_alloc zz53 S5 rfl fun b6 w6 hb6 S6 => ?_)
    refine L_o (o_stW S6 4 rfl rfl rfl (by rw [List.size_toArray, rixf_len]; exact sz53) (by first | (rw [List.size_toArray, rixf_len]; rfl) | (rw [List.size_toArray, rixf_len])) (fun u hu => rixf_one _ _ _ _ u (by rw [List.toList_toArray] at hu; exact hu)) fun w7 S7 => ?_)
    refine L_y (y_assign rfl) rfl ?_
    refine L_nil ?_
    refine hK7 _ _ ?_
    refine T_seq fun K8 hK8 => ?_
    refine T_seq fun K9 hK9 => ?_
    refine T_region ?_
    refine L_y (y_move rfl) rfl ?_
    refine L_y (y_move rfl) rfl ?_
    refine L_y (y_neq rfl rfl) rfl ?_
    refine L_y (y_move rfl) rfl ?_
    refine L_split 29 rfl (fun h29 => ?_) (fun h29 => ?_)
    ·
      exact absurd rfl h29
    ·
      refine L_gyes rfl rfl ?_
      refine L_y (y_move rfl) rfl ?_
      refine L_gyes rfl rfl ?_
      refine L_y (y_pneqn Try.underlying49 rfl) rfl ?_
      refine L_gyes rfl rfl ?_
      refine L_y (y_move rfl) rfl ?_
      refine L_gyes rfl rfl ?_
      refine L_y (y_eql rfl rfl) rfl ?_
      refine L_gyes rfl rfl ?_
      refine L_y (y_neBool Try.underlying4 rfl rfl) rfl ?_
      refine L_y ((by first | exact y_pickT rfl rfl | exact y_pickF rfl rfl)) rfl ?_
      refine L_y (y_move rfl) rfl ?_
      refine L_splitB 36 rfl (fun h36 => ?_) (fun h36 => ?_)
      ·
        cases h36
      ·
        refine L_gyes rfl rfl ?_
        refine L_y (y_move rfl) rfl ?_
        refine L_gyes rfl rfl ?_
        refine L_y (y_move rfl) rfl ?_
        refine L_gyes rfl rfl ?_
        refine L_o (o_call Try.func18 rfl rfl (Oct.same _ _ _ _ _ _ _ _ w7 (S7.row 0 rfl) (S7.rd hb)) rfl rfl ?_)
        rintro e10 w10 ⟨v10, rfl, l10, rfl⟩
        refine ⟨_, rfl, ?_⟩
        have S10 := S7.like l10
        refine L_gyes rfl rfl ?_
        refine L_y ((by first | exact y_notD rfl | exact y_not rfl)) rfl ?_
        refine L_y ((by first | exact y_pickT rfl rfl | exact y_pickF rfl rfl)) rfl ?_
        refine L_nil ?_
        refine hK9 _ _ ?_
        refine T_cond rfl (fun h41 => ?_) (fun h41 => ?_)
        ·
          exact absurd rfl h41
        ·
          refine T_skip ?_
          refine hK8 _ _ ?_
          refine T_seq fun K10 hK10 => ?_
          refine T_seq fun K11 hK11 => ?_
          refine T_region ?_
          refine L_y (y_assign rfl) rfl ?_
          refine L_nil ?_
          refine hK11 _ _ ?_
          refine T_block ?_
          refine T_loop2 [(3, _), (4, _), (6, _)] (fun (k : Nat) (q : List UInt8) => [(8, .int .i64 (k : Int))]) (fun (k : Nat) (q : List UInt8) => m - k) (fun (k : Nat) (q : List UInt8) (w : World) => (k ≤ m ∧ q.length = m) ∧ Zx.St w0 noM [Zx.row 5 1 A3 (0 + m) c3 (bL q), Zx.row 119 34 A4 (rowsB b).length (rowsB b).length ((rowsB b).flatMap rowf), blk g4 97 (idxf A4 (rowsB b).length (rowsB b).length (rowsB b) (ofB b)).toArray, Zx.row 86 34 A5 (rowsB b).length c5 ((rowsB b).flatMap plf), blk b6 53 (rixf A5 (rowsB b).length c5 (ofB b)).toArray] w) 0 b (Sub.cons rfl (by first | rfl | exact congrArg (Value.int _) (by omega)) (Sub.nil _)) (Sub.cons rfl rfl (Sub.cons rfl rfl (Sub.cons rfl rfl (Sub.nil _)))) ?_ ?_
          ·
            exact ⟨⟨by omega, hm⟩, S10⟩
          ·
            intro k q w11 hrel
            obtain ⟨⟨hk, hql⟩, S11⟩ := hrel
            refine T_seq fun K12 hK12 => ?_
            refine T_seq fun K13 hK13 => ?_
            refine T_region ?_
            refine L_y (y_move rfl) rfl ?_
            refine L_y (y_move rfl) rfl ?_
            refine L_y (y_len Try.underlying27 rfl) rfl ?_
            refine L_y (y_lss rfl rfl) rfl ?_
            refine L_nil ?_
            refine hK13 _ _ ?_
            refine T_cond rfl (fun h45 => ?_) (fun h45 => ?_)
            ·
              have hq := hql
              obtain ⟨x, hx⟩ : ∃ x, q[k]? = some x := ⟨_, List.getElem?_eq_getElem (by omega)⟩
              refine T_skip ?_
              refine hK12 _ _ ?_
              refine T_seq fun K14 hK14 => ?_
              refine T_block ?_
              refine T_region ?_
              refine L_y (y_move rfl) rfl ?_
              refine L_y (y_move rfl) rfl ?_
              refine L_y (y_idx Try.underlying27 sz5 rfl rfl (S11.row 0 rfl) inferInstance (by omega)) rfl ?_
              refine L_y (y_ldr Try.underlying5 rfl rfl (S11.row 0 rfl) (bL_get _ _ _ hx)) rfl ?_
              refine L_y (y_bits rfl rfl rfl (xorX x)) rfl ?_
              refine L_y (y_idx Try.underlying27 sz5 rfl rfl (S11.row 0 rfl) inferInstance (by omega)) rfl ?_
              refine L_o (o_strow S11 0 rfl rfl rfl rfl sz5 (by omega) fun w12 S12 => ?_)
              refine L_nil ?_
              refine hK14 _ _ ?_
              refine T_region ?_
              refine L_y (y_move rfl) rfl ?_
              refine L_y (y_add rfl rfl (i64w (by omega))) rfl ?_
              refine L_y (y_assign rfl) rfl ?_
              refine L_nil ?_
              have S91 := S12.rowc 0 rfl rfl (bL_setX q k _)
              refine ⟨k + 1, q.set k (UInt8.ofNat (255 - x.toNat)), by omega, ⟨⟨by omega, by rw [List.length_set]; exact hql⟩, S91⟩, ?_⟩
              exact (Sub.cons rfl (by first | rfl | exact congrArg (Value.int _) (by omega)) (Sub.cons rfl rfl (Sub.cons rfl rfl (Sub.cons rfl rfl (Sub.nil _)))))
            ·
              refine T_exit ?_
              refine hK10 _ _ ?_
              refine T_seq fun K15 hK15 => ?_
              refine T_region ?_
              refine L_y (y_move rfl) rfl ?_
              refine L_y (y_ldW Try.underlying53 rfl sz53 rfl (S11.blk 4 rfl) (rixf_whole _ _ _ _)) rfl ?_
              refine L_o (o_call Try.func30 rfl rfl (likeT g4 A4 _ _ (rowsB b) (ofB b) A5 c5 w11 (S11.blk 2 rfl) (S11.row 1 rfl) (S11.row_ne 1 2 rfl rfl rfl) (S11.row 3 rfl)) rfl rfl ?_)
              rintro e13 w13 ⟨v13, rfl, l13, rfl⟩
              refine ⟨_, rfl, ?_⟩
              have S13 := S11.like l13
              refine L_y (y_move rfl) rfl ?_
              refine L_gyes rfl rfl ?_
              refine L_o (o_call Try.func24 rfl rfl (works w13) rfl rfl ?_)
              rintro e14 w14 ⟨v14, rfl, l14, rfl⟩
              refine ⟨_, rfl, ?_⟩
              have S14 := S13.like l14
              refine L_y ((by first | exact y_pickT rfl rfl | exact y_pickF rfl rfl)) rfl ?_
              refine L_y (y_assign rfl) rfl ?_
              refine L_nil ?_
              refine hK15 _ _ ?_
              refine T_ret ?_
              repeat (first | with_reducible refine up_then ?_ | with_reducible refine up_in ?_)
              refine ret1 rfl rfl ?_
              exact ⟨_, rfl, S14.like0, rfl⟩


set_option maxRecDepth 100000 in
theorem opens0 (B : Option Addr) (m d : Nat) (b : List UInt8) (w0 : World) (hb : Rs w0 1 B m d (bL b)) (he : openE b ≠ 0) :
    Calls Try.prog 5 #[.slice B m d] w0 fun e w' => ∃ u, e = .returned u ∧ Like w0 w' ∧ u = .bool true := by
  refine enter1 (env := [(0, .slice B m d)]) [.slice B m d] Try.func5 rfl Try.ntmps5 rfl rfl ?_
  have hm := hb.lenb; have hcap := hb.cap; have hmax := hb.max
  have S0 := St.start w0 noM
  refine T_seq fun K1 hK1 => ?_
  refine T_region ?_
  refine L_y (y_assign rfl) rfl ?_
  refine L_nil ?_
  refine hK1 _ _ ?_
  refine T_seq fun K2 hK2 => ?_
  refine T_seq fun K3 hK3 => ?_
  refine T_region ?_
  refine L_y (y_move rfl) rfl ?_
  refine L_y (y_len Try.underlying27 rfl) rfl ?_
  refine L_y (y_gtr rfl rfl) rfl ?_
  refine L_nil ?_
  refine hK3 _ _ ?_
  refine T_cond rfl (fun h11 => ?_) (fun h11 => ?_)
  ·
    refine T_seq fun K4 hK4 => ?_
    refine T_region ?_
    refine L_o (o_call Try.func24 rfl rfl (works w0) rfl rfl ?_)
    rintro e1 w1 ⟨v1, rfl, l1, rfl⟩
    refine ⟨_, rfl, ?_⟩
    have S1 := S0.like l1
    refine L_y (y_assign rfl) rfl ?_
    refine L_nil ?_
    refine hK4 _ _ ?_
    refine T_ret ?_
    repeat (first | with_reducible refine up_then ?_ | with_reducible refine up_in ?_)
    refine ret1 rfl rfl ?_
    exact ⟨_, rfl, S1.like0, rfl⟩
  ·
    refine T_skip ?_
    refine hK2 _ _ ?_
    refine T_seq fun K5 hK5 => ?_
    refine T_region ?_
    refine L_o (o_bsl0 te27 S0 rfl fun b2 w2 l2 S2 => ?_)
    refine L_y (y_move rfl) rfl ?_
    refine L_o (o_app te27 S2 0 rfl rfl rfl (S2.rd hb) (bL_one _) rfl (by omega) (by omega) fun A3 c3 w3 S3 => ?_)
    refine L_y (y_assign rfl) rfl ?_
    refine L_nil ?_
    refine hK5 _ _ ?_
    refine T_seq fun K6 hK6 => ?_
    refine T_region ?_
    refine L_y (y_move rfl) rfl ?_
    refine L_o (o_call Try.func28 rfl rfl (openBad _ _ _ b w3 (S3.row 0 rfl) he) rfl rfl ?_)
    rintro e4 w4 ⟨v4, rfl, l4, rfl⟩
    refine ⟨_, rfl, ?_⟩
    have S4 := S3.like l4
    refine L_y (y_move rfl) rfl ?_
    refine L_y (y_extract rfl rfl) rfl ?_
    refine L_y (y_extract rfl rfl) rfl ?_
    refine L_y (y_assign rfl) rfl ?_
    refine L_y (y_assign rfl) rfl ?_
    refine L_nil ?_
    refine hK6 _ _ ?_
    refine T_seq fun K7 hK7 => ?_
    refine T_region ?_
    refine L_y (y_move rfl) rfl ?_
    refine L_o (o_call Try.func29 rfl rfl (ropenBad B m d b w4 (S4.rd hb) (by omega) he) rfl rfl ?_)
    rintro e5 w5 ⟨v5, rfl, l5, rfl⟩
    refine ⟨_, rfl, ?_⟩
    have S5 := S4.like l5
    refine L_y (y_move rfl) rfl ?_
    refine L_y (y_extract rfl rfl) rfl ?_
    refine L_y (y_extract rfl rfl) rfl ?_
    refine L_o (o_alloc zz53 S5 rfl fun b6 w6 hb6 S6 => ?_)
    refine L_o (o_stW S6 1 rfl rfl rfl (by rw [List.size_toArray, rixf_len]; exact sz53) (by first | (rw [List.size_toArray, rixf_len]; rfl) | (rw [List.size_toArray, rixf_len])) (fun u hu => rixf_one _ _ _ _ u (by rw [List.toList_toArray] at hu; exact hu)) fun w7 S7 => ?_)
    refine L_y (y_assign rfl) rfl ?_
    refine L_nil ?_
    refine hK7 _ _ ?_
    refine T_seq fun K8 hK8 => ?_
    refine T_seq fun K9 hK9 => ?_
    refine T_region ?_
    refine L_y (y_move rfl) rfl ?_
    refine L_y (y_move rfl) rfl ?_
    refine L_y (y_neq rfl rfl) rfl ?_
    refine L_y (y_move rfl) rfl ?_
    refine L_split 29 rfl (fun h29 => ?_) (fun h29 => ?_)
    ·
      exact absurd rfl h29
    ·
      refine L_gyes rfl rfl ?_
      refine L_y (y_move rfl) rfl ?_
      refine L_gyes rfl rfl ?_
      refine L_y (y_pneqn Try.underlying49 rfl) rfl ?_
      refine L_gyes rfl rfl ?_
      refine L_y (y_move rfl) rfl ?_
      refine L_gyes rfl rfl ?_
      refine L_y (y_eql rfl rfl) rfl ?_
      refine L_gyes rfl rfl ?_
      refine L_y (y_neBool Try.underlying4 rfl rfl) rfl ?_
      refine L_y ((by first | exact y_pickT rfl rfl | exact y_pickF rfl rfl)) rfl ?_
      refine L_y (y_move rfl) rfl ?_
      refine L_splitB 36 rfl (fun h36 => ?_) (fun h36 => ?_)
      ·
        rw [e0 _ he] at h36; cases h36
      ·
        refine L_gyes rfl rfl ?_
        refine L_y (y_move rfl) rfl ?_
        refine L_gyes rfl rfl ?_
        refine L_y (y_move rfl) rfl ?_
        refine L_gyes rfl rfl ?_
        refine L_o (o_call Try.func18 rfl rfl (Oct.same _ _ _ _ _ _ _ _ w7 (S7.row 0 rfl) (S7.rd hb)) rfl rfl ?_)
        rintro e10 w10 ⟨v10, rfl, l10, rfl⟩
        refine ⟨_, rfl, ?_⟩
        have S10 := S7.like l10
        refine L_gyes rfl rfl ?_
        refine L_y ((by first | exact y_notD rfl | exact y_not rfl)) rfl ?_
        refine L_y ((by first | exact y_pickT rfl rfl | exact y_pickF rfl rfl)) rfl ?_
        refine L_nil ?_
        refine hK9 _ _ ?_
        refine T_cond rfl (fun h41 => ?_) (fun h41 => ?_)
        ·
          exact absurd rfl h41
        ·
          refine T_skip ?_
          refine hK8 _ _ ?_
          refine T_seq fun K10 hK10 => ?_
          refine T_seq fun K11 hK11 => ?_
          refine T_region ?_
          refine L_y (y_assign rfl) rfl ?_
          refine L_nil ?_
          refine hK11 _ _ ?_
          refine T_block ?_
          refine T_loop2 [(3, _), (4, _), (6, _)] (fun (k : Nat) (q : List UInt8) => [(8, .int .i64 (k : Int))]) (fun (k : Nat) (q : List UInt8) => m - k) (fun (k : Nat) (q : List UInt8) (w : World) => (k ≤ m ∧ q.length = m) ∧ Zx.St w0 noM [Zx.row 5 1 A3 (0 + m) c3 (bL q), blk b6 53 (rixf none 0 0 zI).toArray] w) 0 b (Sub.cons rfl (by first | rfl | exact congrArg (Value.int _) (by omega)) (Sub.nil _)) (Sub.cons rfl rfl (Sub.cons rfl rfl (Sub.cons rfl rfl (Sub.nil _)))) ?_ ?_
          ·
            exact ⟨⟨by omega, hm⟩, S10⟩
          ·
            intro k q w11 hrel
            obtain ⟨⟨hk, hql⟩, S11⟩ := hrel
            refine T_seq fun K12 hK12 => ?_
            refine T_seq fun K13 hK13 => ?_
            refine T_region ?_
            refine L_y (y_move rfl) rfl ?_
            refine L_y (y_move rfl) rfl ?_
            refine L_y (y_len Try.underlying27 rfl) rfl ?_
            refine L_y (y_lss rfl rfl) rfl ?_
            refine L_nil ?_
            refine hK13 _ _ ?_
            refine T_cond rfl (fun h45 => ?_) (fun h45 => ?_)
            ·
              have hq := hql
              obtain ⟨x, hx⟩ : ∃ x, q[k]? = some x := ⟨_, List.getElem?_eq_getElem (by omega)⟩
              refine T_skip ?_
              refine hK12 _ _ ?_
              refine T_seq fun K14 hK14 => ?_
              refine T_block ?_
              refine T_region ?_
              refine L_y (y_move rfl) rfl ?_
              refine L_y (y_move rfl) rfl ?_
              refine L_y (y_idx Try.underlying27 sz5 rfl rfl (S11.row 0 rfl) inferInstance (by omega)) rfl ?_
              refine L_y (y_ldr Try.underlying5 rfl rfl (S11.row 0 rfl) (bL_get _ _ _ hx)) rfl ?_
              refine L_y (y_bits rfl rfl rfl (xorX x)) rfl ?_
              refine L_y (y_idx Try.underlying27 sz5 rfl rfl (S11.row 0 rfl) inferInstance (by omega)) rfl ?_
              refine L_o (o_strow S11 0 rfl rfl rfl rfl sz5 (by omega) fun w12 S12 => ?_)
              refine L_nil ?_
              refine hK14 _ _ ?_
              refine T_region ?_
              refine L_y (y_move rfl) rfl ?_
              refine L_y (y_add rfl rfl (i64w (by omega))) rfl ?_
              refine L_y (y_assign rfl) rfl ?_
              refine L_nil ?_
              have S91 := S12.rowc 0 rfl rfl (bL_setX q k _)
              refine ⟨k + 1, q.set k (UInt8.ofNat (255 - x.toNat)), by omega, ⟨⟨by omega, by rw [List.length_set]; exact hql⟩, S91⟩, ?_⟩
              exact (Sub.cons rfl (by first | rfl | exact congrArg (Value.int _) (by omega)) (Sub.cons rfl rfl (Sub.cons rfl rfl (Sub.cons rfl rfl (Sub.nil _)))))
            ·
              refine T_exit ?_
              refine hK10 _ _ ?_
              refine T_seq fun K15 hK15 => ?_
              refine T_region ?_
              refine L_y (y_move rfl) rfl ?_
              refine L_y (y_ldW Try.underlying53 rfl sz53 rfl (S11.blk 1 rfl) (rixf_whole _ _ _ _)) rfl ?_
              refine L_o (o_call Try.func30 rfl rfl (likeN w11) rfl rfl ?_)
              rintro e13 w13 ⟨v13, rfl, l13, rfl⟩
              refine ⟨_, rfl, ?_⟩
              have S13 := S11.like l13
              refine L_y (y_move rfl) rfl ?_
              refine L_gyes rfl rfl ?_
              refine L_o (o_call Try.func24 rfl rfl (works w13) rfl rfl ?_)
              rintro e14 w14 ⟨v14, rfl, l14, rfl⟩
              refine ⟨_, rfl, ?_⟩
              have S14 := S13.like l14
              refine L_y ((by first | exact y_pickT rfl rfl | exact y_pickF rfl rfl)) rfl ?_
              refine L_y (y_assign rfl) rfl ?_
              refine L_nil ?_
              refine hK15 _ _ ?_
              refine T_ret ?_
              repeat (first | with_reducible refine up_then ?_ | with_reducible refine up_in ?_)
              refine ret1 rfl rfl ?_
              exact ⟨_, rfl, S14.like0, rfl⟩


theorem opens_law (B : Option Addr) (m d : Nat) (b : List UInt8) (w0 : World) (hb : Rs w0 1 B m d (bL b)) :
    Calls Try.prog 5 #[.slice B m d] w0 fun e w' => e = .returned (.bool true) ∧ Below w0.heap.size w0 w' := by
  by_cases he : openE b = 0
  · exact (opens1 B m d b w0 hb he).mono fun e w' ⟨u, h1, h2, h3⟩ => by subst h3; exact ⟨h1, h2⟩
  · exact (opens0 B m d b w0 hb he).mono fun e w' ⟨u, h1, h2, h3⟩ => by subst h3; exact ⟨h1, h2⟩
end Go.Proofs.Ytgaklngnfecdaaa.Idx
