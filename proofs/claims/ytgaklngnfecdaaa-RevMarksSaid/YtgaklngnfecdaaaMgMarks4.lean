import Derived.Test.YtgaklngnfecdaaaMgMarks3
import Derived.Test.YtgaklngnfecdaaaMgMarks2

/-
  Get.
-/
namespace Go.Proofs.Ytgaklngnfecdaaa.Rev
open Go.RowKit Zk Zx
open Oid (idf hexL idf_len readR)
open Tre (nmOk)
set_option linter.unusedVariables false
set_option linter.unusedSimpArgs false

def zL : CmL := ⟨⟨List.replicate 32 0, rfl⟩, [], [], 0, []⟩
def cmO (y : CmL) : Cm := cmOf y none y.ps.length 0
def rval (s : List UInt8) : CmL := (getR s).getD zL
def rcode (s : List UInt8) : Int := if (getR s).isSome then 0 else 12
theorem zL_cm : cmOf zL none 0 0 = zCm := by kernel_rfl
theorem fr_nil (w0 w : World) (size : Nat) : Fr w0 w size none 0 0 [] := ⟨Rs.nil w size, fun ad h => absurd h (by omega)⟩
theorem St.newF {w0 w w' : World} {M : Nat → Prop} {rs : List Res} (S : Zx.St w0 M rs w) (k : Nat) {r r' : Res} (hk : rs[k]? = some r) (h : Turned w w' r r') (hdom : ∀ i, r'.dom i → r.dom i) {size n c : Nat} {A : Option Addr} {xs : List Value} (hf : Fr w w' size A n c xs) : Zx.St w0 M (rs.set k r' ++ [fixed size A n c xs]) w' :=
  St.newT S k hk h hdom hf.1 fun i ⟨ad, hn, hA, hi⟩ => by
    subst hi
    obtain ⟨ad', hA', hb, _⟩ := hf.1.rd.2 hn
    rw [hA] at hA'
    cases hA'
    exact ⟨hf.2 ad hn hA, hb⟩
/-- What Get answers. -/
def gcode (s : List UInt8) : Int := match getR s with
  | none => 12
  | some y => chk (cmO y)
def gval (s : List UInt8) : CmL := match getR s with
  | none => zL
  | some y => if chk (cmO y) = 0 then y else zL
theorem readr' (g : Nat) (s : List UInt8) (w0 : World) (hw : (rdR g s).holds w0) (hl : s.length ≤ 100000) :
    Calls Try.prog 83 #[.pointer (some ⟨g, 0, none⟩)] w0 fun e w' => ∃ u, e = .returned u ∧ ∃ s' A c, Turned w0 w' (rdR g s) (rdR g s') ∧ Fr w0 w' 32 A (rval s).ps.length c ((rval s).ps.flatMap idf) ∧ u = .tuple #[.agg (cmf (cmOf (rval s) A (rval s).ps.length c)).toArray, .int .i64 (rcode s)] :=
  (readr g s w0 hw hl).mono fun e w' ⟨u, he, s', T, h⟩ => ⟨u, he, by
    rcases h with ⟨h1, h2⟩ | ⟨y, A, n, c, h1, h2, h3, h4⟩
    · refine ⟨s', none, 0, T, ?_⟩
      rw [show rval s = zL by rw [rval, h1]; rfl, show rcode s = 12 by rw [rcode, h1]; rfl]
      exact ⟨fr_nil _ _ _, by rw [h2]; exact congrArg (fun x => Value.tuple #[.agg (cmf x).toArray, .int .i64 12]) zL_cm.symm⟩
    · refine ⟨s', A, c, T, ?_⟩
      rw [show rval s = y by rw [rval, h1]; rfl, show rcode s = 0 by rw [rcode, h1]; rfl]
      subst h2
      exact ⟨h3, h4⟩⟩
theorem rcode_0 {s : List UInt8} (h : rcode s = 0) : getR s = some (rval s) := by
  unfold rcode at h
  unfold rval
  cases e : getR s with
  | none => rw [e] at h; cases h
  | some y => rfl
theorem rcode_n {s : List UInt8} (h : ¬ rcode s = 0) : getR s = none ∧ rcode s = 12 := by
  unfold rcode at h ⊢
  cases e : getR s with
  | none => exact ⟨rfl, rfl⟩
  | some y => rw [e] at h; exact absurd rfl h
theorem go_some {s : List UInt8} {y : CmL} (h : getR s = some y) : gcode s = chk (cmO y) ∧ gval s = if chk (cmO y) = 0 then y else zL := by unfold gcode gval; rw [h]; exact ⟨rfl, rfl⟩
theorem go_none {s : List UInt8} (h : getR s = none) : gcode s = 12 ∧ gval s = zL := by unfold gcode gval; rw [h]; exact ⟨rfl, rfl⟩


set_option maxRecDepth 100000 in
theorem get (B : Option Addr) (m d : Nat) (s : List UInt8) (w0 : World) (hb : Rs w0 1 B m d (bL s)) (hl : s.length ≤ 2000) :
    Calls Try.prog 35 #[.slice B m d] w0 fun e w' => ∃ u, e = .returned u ∧ Like w0 w' ∧ ∃ A c, Fr w0 w' 32 A (gval s).ps.length c ((gval s).ps.flatMap idf) ∧ u = .tuple #[.agg (cmf (cmOf (gval s) A (gval s).ps.length c)).toArray, .int .i64 (gcode s)] := by
  refine enter1 (env := [(0, .slice B m d)]) [.slice B m d] Try.func35 rfl Try.ntmps35 rfl rfl ?_
  have S0 := St.start w0 noM
  refine T_seq fun K1 hK1 => ?_
  refine T_region ?_
  refine L_o (o_alloc zz26 S0 rfl fun b1 w1 hb1 S1 => ?_)
  refine L_y (y_assign rfl) rfl ?_
  refine L_nil ?_
  refine hK1 _ _ ?_
  refine T_seq fun K2 hK2 => ?_
  refine T_region ?_
  refine L_y (y_move rfl) rfl ?_
  refine L_y (y_bstr Try.underlying27 Try.underlying5 Try.underlying9 rfl (by first | exact S1.rd hb)) rfl ?_
  refine L_y (y_build rfl (show _ = some #[Value.string ⟨s.toArray⟩] by kernel_rfl)) rfl ?_
  refine L_o (o_box rfl S1 rfl fun b2 w2 hb2 S2 => ?_)
  have S3 : Zx.St w0 noM [blk b1 26 (cmf zCm).toArray, rdR b2 s] w2 := S2.cast (by kernel_rfl)
  refine L_y (y_assign rfl) rfl ?_
  refine L_nil ?_
  refine hK2 _ _ ?_
  refine T_seq fun K3 hK3 => ?_
  refine T_region ?_
  refine L_y (y_move rfl) rfl ?_
  refine L_o (o_call Try.func83 rfl rfl (readr' b2 s w2 (S3.get 1 rfl) (by omega)) rfl rfl ?_)
  rintro e4 w4 ⟨v4, rfl, s9, A, c, T4, hf4, rfl⟩
  refine ⟨_, rfl, ?_⟩
  have S4 := S3.turn 1 rfl T4
  have S5 := St.newF S3 1 rfl T4 (fun i hi => hi) hf4
  refine L_y (y_move rfl) rfl ?_
  refine L_y (y_extract rfl rfl) rfl ?_
  refine L_y (y_extract rfl rfl) rfl ?_
  refine L_o (o_alloc zz26 S5 rfl fun b6 w6 hb6 S6 => ?_)
  refine L_o (o_stW S6 3 rfl rfl rfl (by rw [cmf_sz]; exact sz26) (by first | (rw [cmf_sz]; done) | (rw [cmf_sz]; rfl)) (fun u hu => cmf_one _ u (by rw [List.toList_toArray] at hu; exact hu)) fun w7 S7 => ?_)
  refine L_y (y_assign rfl) rfl ?_
  refine L_nil ?_
  refine hK3 _ _ ?_
  refine T_seq fun K4 hK4 => ?_
  refine T_seq fun K5 hK5 => ?_
  refine T_region ?_
  refine L_y (y_move rfl) rfl ?_
  refine L_y (y_eql rfl rfl) rfl ?_
  refine L_nil ?_
  refine hK5 _ _ ?_
  refine T_cond rfl (fun h17 => ?_) (fun h17 => ?_)
  ·
    have hg := rcode_0 h17
    refine T_region ?_
    refine L_y (y_ldW Try.underlying26 rfl sz26 rfl (S7.blk 3 rfl) (cm_whole _)) rfl ?_
    refine L_o (o_call Try.func19 rfl rfl (check (cmOf (rval s) A _ c) w7 (S7.fix 2 rfl)) rfl rfl ?_)
    rintro e8 w8 ⟨v8, rfl, l8, rfl⟩
    refine ⟨_, rfl, ?_⟩
    have S8 := S7.like l8
    refine L_y (y_assign rfl) rfl ?_
    refine L_nil ?_
    refine hK4 _ _ ?_
    refine T_seq fun K6 hK6 => ?_
    refine T_seq fun K7 hK7 => ?_
    refine T_region ?_
    refine L_y (y_move rfl) rfl ?_
    refine L_y (y_neq rfl rfl) rfl ?_
    refine L_nil ?_
    refine hK7 _ _ ?_
    refine T_cond rfl (fun h21 => ?_) (fun h21 => ?_)
    ·
      refine T_seq fun K8 hK8 => ?_
      refine T_region ?_
      refine L_y (y_build rfl (show _ = some (cmf zCm).toArray by kernel_rfl)) rfl ?_
      refine L_y (y_move rfl) rfl ?_
      refine L_o (o_stW S8 0 rfl rfl rfl (by rw [cmf_sz]; exact sz26) (by first | (rw [cmf_sz]; done) | (rw [cmf_sz]; rfl)) (fun u hu => cmf_one _ u (by rw [List.toList_toArray] at hu; exact hu)) fun w9 S9 => ?_)
      refine L_y (y_assign rfl) rfl ?_
      refine L_nil ?_
      refine hK8 _ _ ?_
      refine T_ret ?_
      repeat (first | with_reducible refine up_then ?_ | with_reducible refine up_in ?_)
      refine retct rfl rfl rfl (S9.blk 0 rfl) Try.underlying26 rfl (by rw [cmf_sz]; exact sz26) ?_
      have hgo := go_some hg
      have hgc : chk (cmOf (rval s) A (rval s).ps.length c) = chk (cmO (rval s)) := rfl
      have hv : gval s = zL := by rw [hgo.2, if_neg (fun e => h21 (hgc.trans e))]
      rw [hv, hgo.1]
      refine ⟨_, rfl, S9.like0, none, 0, fr_nil _ _ _, ?_⟩
      exact congrArg (fun x => Value.tuple #[.agg (cmf x).toArray, _]) zL_cm.symm
    ·
      refine T_skip ?_
      refine hK6 _ _ ?_
      refine T_seq fun K9 hK9 => ?_
      refine T_region ?_
      refine L_y (y_ldW Try.underlying26 rfl sz26 rfl (S8.blk 3 rfl) (cm_whole _)) rfl ?_
      refine L_o (o_stW S8 0 rfl rfl rfl (by rw [cmf_sz]; exact sz26) (by first | (rw [cmf_sz]; done) | (rw [cmf_sz]; rfl)) (fun u hu => cmf_one _ u (by rw [List.toList_toArray] at hu; exact hu)) fun w10 S10 => ?_)
      refine L_y (y_assign rfl) rfl ?_
      refine L_nil ?_
      refine hK9 _ _ ?_
      refine T_ret ?_
      repeat (first | with_reducible refine up_then ?_ | with_reducible refine up_in ?_)
      refine retct rfl rfl rfl (S10.blk 0 rfl) Try.underlying26 rfl (by rw [cmf_sz]; exact sz26) ?_
      have hgo := go_some hg
      have hgc : chk (cmOf (rval s) A (rval s).ps.length c) = chk (cmO (rval s)) := rfl
      have h0 : chk (cmO (rval s)) = 0 := Classical.byContradiction fun e => h21 e
      have hv : gval s = rval s := by rw [hgo.2, if_pos h0]
      rw [hv, hgo.1, h0]
      exact ⟨_, rfl, S10.like0, A, c, S10.fr 2 rfl, rfl⟩
  ·
    have hg := rcode_n h17
    refine T_skip ?_
    refine hK4 _ _ ?_
    refine T_seq fun K10 hK10 => ?_
    refine T_seq fun K11 hK11 => ?_
    refine T_region ?_
    refine L_y (y_move rfl) rfl ?_
    refine L_y (y_neq rfl rfl) rfl ?_
    refine L_nil ?_
    refine hK11 _ _ ?_
    refine T_cond rfl (fun h21 => ?_) (fun h21 => ?_)
    ·
      refine T_seq fun K12 hK12 => ?_
      refine T_region ?_
      refine L_y (y_build rfl (show _ = some (cmf zCm).toArray by kernel_rfl)) rfl ?_
      refine L_y (y_move rfl) rfl ?_
      refine L_o (o_stW S7 0 rfl rfl rfl (by rw [cmf_sz]; exact sz26) (by first | (rw [cmf_sz]; done) | (rw [cmf_sz]; rfl)) (fun u hu => cmf_one _ u (by rw [List.toList_toArray] at hu; exact hu)) fun w11 S11 => ?_)
      refine L_y (y_assign rfl) rfl ?_
      refine L_nil ?_
      refine hK12 _ _ ?_
      refine T_ret ?_
      repeat (first | with_reducible refine up_then ?_ | with_reducible refine up_in ?_)
      refine retct rfl rfl rfl (S11.blk 0 rfl) Try.underlying26 rfl (by rw [cmf_sz]; exact sz26) ?_
      have hgo := go_none hg.1
      have hv : gval s = zL := hgo.2
      rw [hv, hgo.1]
      refine ⟨_, rfl, S11.like0, none, 0, fr_nil _ _ _, ?_⟩
      show Value.tuple #[.agg (cmf zCm).toArray, .int .i64 (rcode s)] = _
      rw [hg.2]
      exact congrArg (fun x => Value.tuple #[.agg (cmf x).toArray, _]) zL_cm.symm
    ·
      refine T_skip ?_
      refine hK10 _ _ ?_
      refine T_seq fun K13 hK13 => ?_
      refine T_region ?_
      refine L_y (y_ldW Try.underlying26 rfl sz26 rfl (S7.blk 3 rfl) (cm_whole _)) rfl ?_
      refine L_o (o_stW S7 0 rfl rfl rfl (by rw [cmf_sz]; exact sz26) (by first | (rw [cmf_sz]; done) | (rw [cmf_sz]; rfl)) (fun u hu => cmf_one _ u (by rw [List.toList_toArray] at hu; exact hu)) fun w12 S12 => ?_)
      refine L_y (y_assign rfl) rfl ?_
      refine L_nil ?_
      refine hK13 _ _ ?_
      refine T_ret ?_
      repeat (first | with_reducible refine up_then ?_ | with_reducible refine up_in ?_)
      refine retct rfl rfl rfl (S12.blk 0 rfl) Try.underlying26 rfl (by rw [cmf_sz]; exact sz26) ?_
      exact absurd hg.2 (fun e => h21 (by rw [e]; decide))
end Go.Proofs.Ytgaklngnfecdaaa.Rev


/-
  The reference: a line.
-/
namespace Go.Proofs.Ytgaklngnfecdaaa.Rev
open Go.RowKit Zk Zx
open Oid (idf hexL idf_len readR)
open Tre (nmOk)
set_option linter.unusedVariables false
set_option linter.unusedSimpArgs false

def lineV (w s : List UInt8) : Value := match lineR w s with
  | none => .tuple #[.string ⟨#[]⟩, .string ⟨#[]⟩, .bool false]
  | some (a, b) => .tuple #[.string ⟨a.toArray⟩, .string ⟨b.toArray⟩, .bool true]
theorem lineV_no {w s : List UInt8} (h : lineR w s = none) : lineV w s = .tuple #[.string ⟨#[]⟩, .string ⟨#[]⟩, .bool false] := by unfold lineV; rw [h]
theorem lineV_yes {w s a b : List UInt8} (h : lineR w s = some (a, b)) : lineV w s = .tuple #[.string ⟨a.toArray⟩, .string ⟨b.toArray⟩, .bool true] := by unfold lineV; rw [h]
theorem take_no {c : UInt8} {s : List UInt8} {k : Nat} (hk : k < s.length) (h : c ∉ s.take k) (hn : g8 s k ≠ (c.toNat : Int)) : c ∉ s.take (k + 1) := by
  have e : g8 s k = ((s[k]).toNat : Int) := by simp [g8, List.getD_eq_getElem?_getD, List.getElem?_eq_getElem hk]
  rw [List.take_add_one, List.getElem?_eq_getElem hk]
  intro hm
  rcases List.mem_append.1 hm with hm | hm
  · exact h hm
  · have : c = s[k] := by simpa using hm
    exact hn (by rw [e, ← this])
theorem cut_at {c : UInt8} {s : List UInt8} {k : Nat} (hk : k < s.length) (h : c ∉ s.take k) (hn : g8 s k = (c.toNat : Int)) : cutF c s = some (s.take k, s.drop (k + 1)) := by
  have e : g8 s k = ((s[k]).toNat : Int) := by simp [g8, List.getD_eq_getElem?_getD, List.getElem?_eq_getElem hk]
  have e2 : s[k] = c := UInt8.toNat_inj.1 (by omega)
  have e3 : s = s.take k ++ c :: s.drop (k + 1) := by rw [← e2, List.getElem_cons_drop, List.take_append_drop]
  have := cutF_of (b := s.drop (k + 1)) h
  rw [← e3] at this
  exact this


set_option maxRecDepth 100000 in
theorem rline (s w : List UInt8) (w0 : World) (hl : s.length ≤ 100000) (hwl : w.length ≤ 10) :
    Calls Try.prog 84 #[.string ⟨s.toArray⟩, .string ⟨w.toArray⟩] w0 fun e w' => ∃ u, e = .returned u ∧ Like w0 w' ∧ u = lineV w s := by
  refine enter1 (env := [(0, .string ⟨s.toArray⟩), (1, .string ⟨w.toArray⟩)]) [.string ⟨s.toArray⟩, .string ⟨w.toArray⟩] Try.func84 rfl Try.ntmps84 rfl rfl ?_
  have hbs := bsz s
  have hbw := bsz w
  have S0 := St.start w0 noM
  refine T_seq fun K1 hK1 => ?_
  refine T_region ?_
  refine L_y (y_assign rfl) rfl ?_
  refine L_y (y_assign rfl) rfl ?_
  refine L_y (y_assign rfl) rfl ?_
  refine L_nil ?_
  refine hK1 _ _ ?_
  refine T_seq fun K2 hK2 => ?_
  refine T_region ?_
  refine L_y (y_assign rfl) rfl ?_
  refine L_nil ?_
  refine hK2 _ _ ?_
  refine T_seq fun K3 hK3 => ?_
  refine T_block ?_
  refine T_loop1 [(0, _), (1, _)] (fun (k : Nat) => [(7, .int .i64 (k : Int))]) (fun (k : Nat) => s.length - k) (fun (k : Nat) (w : World) => (k ≤ s.length ∧ (10 : UInt8) ∉ s.take k) ∧ St w0 noM [] w) 0 (Sub.cons rfl (by first | rfl | exact congrArg (Value.int _) (by omega)) (Sub.nil _)) (Sub.cons rfl rfl (Sub.cons rfl rfl (Sub.nil _))) ?_ ?_
  ·
    exact ⟨⟨by omega, by simp⟩, S0⟩
  ·
    intro k w1 hrel
    obtain ⟨⟨hk, hall⟩, S1⟩ := hrel
    refine T_seq fun K4 hK4 => ?_
    refine T_seq fun K5 hK5 => ?_
    refine T_region ?_
    refine L_y (y_move rfl) rfl ?_
    refine L_y (y_move rfl) rfl ?_
    refine L_y (y_lens Try.underlying9 rfl) rfl ?_
    refine L_y (y_lss rfl rfl) rfl ?_
    refine L_y (y_move rfl) rfl ?_
    refine L_split 12 rfl (fun h12 => ?_) (fun h12 => ?_)
    ·
      refine L_gyes rfl rfl ?_
      refine L_y (y_move rfl) rfl ?_
      refine L_gyes rfl rfl ?_
      refine L_y (y_move rfl) rfl ?_
      refine L_gyes rfl rfl ?_
      refine L_y (y_idxS Try.underlying9 rfl rfl inferInstance (by omega)) rfl ?_
      refine L_gyes rfl rfl ?_
      refine L_y (y_neq rfl rfl) rfl ?_
      refine L_y ((by first | exact y_pickT rfl rfl | exact y_pickF rfl rfl)) rfl ?_
      refine L_nil ?_
      refine hK5 _ _ ?_
      refine T_cond rfl (fun h17 => ?_) (fun h17 => ?_)
      ·
        refine T_skip ?_
        refine hK4 _ _ ?_
        refine T_block ?_
        refine T_region ?_
        refine L_y (y_move rfl) rfl ?_
        refine L_y (y_add rfl rfl (i64w (by omega))) rfl ?_
        refine L_y (y_assign rfl) rfl ?_
        refine L_nil ?_
        refine ⟨k + 1, by omega, ⟨⟨by omega, take_no (by omega) hall (fun e => absurd e (by first | assumption | exact fun e => by simp_all))⟩, S1⟩, ?_⟩
        exact (Sub.cons rfl (by first | rfl | exact congrArg (Value.int _) (by omega)) (Sub.cons rfl rfl (Sub.cons rfl rfl (Sub.nil _))))
      ·
        refine T_exit ?_
        refine hK3 _ _ ?_
        refine T_seq fun K6 hK6 => ?_
        refine T_seq fun K7 hK7 => ?_
        refine T_region ?_
        refine L_y (y_move rfl) rfl ?_
        refine L_y (y_move rfl) rfl ?_
        refine L_y (y_lens Try.underlying9 rfl) rfl ?_
        refine L_y (y_eql rfl rfl) rfl ?_
        refine L_y (y_move rfl) rfl ?_
        refine L_split 24 rfl (fun h24 => ?_) (fun h24 => ?_)
        ·
          refine L_gno rfl rfl rfl ?_
          refine L_gno rfl rfl rfl ?_
          refine L_gno rfl rfl rfl ?_
          refine L_gno rfl rfl rfl ?_
          refine L_gno rfl rfl rfl ?_
          refine L_y ((by first | exact y_pickT rfl rfl | exact y_pickF rfl rfl)) rfl ?_
          refine L_y (y_move rfl) rfl ?_
          refine L_gno rfl rfl rfl ?_
          refine L_gno rfl rfl rfl ?_
          refine L_gno rfl rfl rfl ?_
          refine L_gno rfl rfl rfl ?_
          refine L_gno rfl rfl rfl ?_
          refine L_gno rfl rfl rfl ?_
          refine L_gno rfl rfl rfl ?_
          refine L_gno rfl rfl rfl ?_
          refine L_y ((by first | exact y_pickT rfl rfl | exact y_pickF rfl rfl)) rfl ?_
          refine L_nil ?_
          refine hK7 _ _ ?_
          refine T_true rfl ?_
          refine T_seq fun K8 hK8 => ?_
          refine T_region ?_
          refine L_y (y_assign rfl) rfl ?_
          refine L_y (y_assign rfl) rfl ?_
          refine L_y (y_assign rfl) rfl ?_
          refine L_nil ?_
          refine hK8 _ _ ?_
          refine T_ret ?_
          repeat (first | with_reducible refine up_then ?_ | with_reducible refine up_in ?_)
          refine ret3 rfl rfl rfl rfl ?_
          have hc := cut_at (c := 10) (s := s) (k := k) (by omega) hall (Classical.byContradiction fun e => h17 e)
          first | exact absurd h24 (by omega) | exact ⟨_, rfl, S1.like0, (lineV_no (lineR_no hc (fun h => by have h9 := h.2; rw [List.length_take] at h9; omega))).symm⟩
        ·
          refine L_gyes rfl rfl ?_
          refine L_y (y_move rfl) rfl ?_
          refine L_gyes rfl rfl ?_
          refine L_y (y_move rfl) rfl ?_
          refine L_gyes rfl rfl ?_
          refine L_y (y_lens Try.underlying9 rfl) rfl ?_
          refine L_gyes rfl rfl ?_
          refine L_y (y_add rfl rfl (i64w (by omega))) rfl ?_
          refine L_gyes rfl rfl ?_
          refine L_y (y_lss rfl rfl) rfl ?_
          refine L_y ((by first | exact y_pickT rfl rfl | exact y_pickF rfl rfl)) rfl ?_
          refine L_y (y_move rfl) rfl ?_
          refine L_split 31 rfl (fun h31 => ?_) (fun h31 => ?_)
          ·
            refine L_gno rfl rfl rfl ?_
            refine L_gno rfl rfl rfl ?_
            refine L_gno rfl rfl rfl ?_
            refine L_gno rfl rfl rfl ?_
            refine L_gno rfl rfl rfl ?_
            refine L_gno rfl rfl rfl ?_
            refine L_gno rfl rfl rfl ?_
            refine L_gno rfl rfl rfl ?_
            refine L_y ((by first | exact y_pickT rfl rfl | exact y_pickF rfl rfl)) rfl ?_
            refine L_nil ?_
            refine hK7 _ _ ?_
            refine T_true rfl ?_
            refine T_seq fun K9 hK9 => ?_
            refine T_region ?_
            refine L_y (y_assign rfl) rfl ?_
            refine L_y (y_assign rfl) rfl ?_
            refine L_y (y_assign rfl) rfl ?_
            refine L_nil ?_
            refine hK9 _ _ ?_
            refine T_ret ?_
            repeat (first | with_reducible refine up_then ?_ | with_reducible refine up_in ?_)
            refine ret3 rfl rfl rfl rfl ?_
            have hc := cut_at (c := 10) (s := s) (k := k) (by omega) hall (Classical.byContradiction fun e => h17 e)
            first | exact absurd h24 (by omega) | exact ⟨_, rfl, S1.like0, (lineV_no (lineR_no hc (fun h => by have h9 := h.2; rw [List.length_take] at h9; omega))).symm⟩
          ·
            refine L_gyes rfl rfl ?_
            refine L_y (y_move rfl) rfl ?_
            refine L_gyes rfl rfl ?_
            refine L_y (y_move rfl) rfl ?_
            refine L_gyes rfl rfl ?_
            refine L_y (y_lens Try.underlying9 rfl) rfl ?_
            refine L_gyes rfl rfl ?_
            refine L_y (y_add rfl rfl (i64w (by omega))) rfl ?_
            refine L_gyes rfl rfl ?_
            refine L_y (y_ssliceH (u := w.length + 1) Try.underlying9 rfl rfl (Nt.mk (by omega)) (by omega)) rfl ?_
            refine L_gyes rfl rfl ?_
            refine L_y (y_move rfl) rfl ?_
            refine L_gyes rfl rfl ?_
            refine L_y (y_cat rfl rfl (by rw [bsz, bsz32]; omega)) rfl ?_
            rw [cat32]
            refine L_gyes rfl rfl ?_
            refine L_y (y_sneq rfl rfl) rfl ?_
            refine L_y ((by first | exact y_pickT rfl rfl | exact y_pickF rfl rfl)) rfl ?_
            refine L_nil ?_
            refine hK7 _ _ ?_
            refine T_cond rfl (fun h40 => ?_) (fun h40 => ?_)
            ·
              refine T_seq fun K10 hK10 => ?_
              refine T_region ?_
              refine L_y (y_assign rfl) rfl ?_
              refine L_y (y_assign rfl) rfl ?_
              refine L_y (y_assign rfl) rfl ?_
              refine L_nil ?_
              refine hK10 _ _ ?_
              refine T_ret ?_
              repeat (first | with_reducible refine up_then ?_ | with_reducible refine up_in ?_)
              refine ret3 rfl rfl rfl rfl ?_
              have hc := cut_at (c := 10) (s := s) (k := k) (by omega) hall (Classical.byContradiction fun e => h17 e)
              exact ⟨_, rfl, S1.like0, (lineV_no (lineR_no hc (fun h => h40 (by have h9 := (pre_iff s (w ++ [32])).2 h.1; rw [List.length_append] at h9; exact h9)))).symm⟩
            ·
              refine T_skip ?_
              refine hK6 _ _ ?_
              refine T_seq fun K11 hK11 => ?_
              refine T_drawnL [(0, true), (1, true), (2, true), (3, true), (4, true), (5, true), (6, true), (7, true), (8, true), (9, true), (10, true), (11, true), (12, true)] hmix (by kernel_rfl) fun w5 l5 => ?_
              have S5 := S1.like l5
              refine DL_y rfl (y_move rfl) rfl ?_
              refine DL_y rfl (y_move rfl) rfl ?_
              refine DL_y rfl (y_lens Try.underlying9 rfl) rfl ?_
              refine DL_y rfl (y_add rfl rfl (i64w (by omega))) rfl ?_
              refine DL_y rfl (y_move rfl) rfl ?_
              refine DL_y rfl (y_sslice (l := w.length + 1) (u := k) Try.underlying9 rfl rfl rfl (Nt.mk (by omega)) (Nt.mk (by omega)) (by omega) (by omega)) rfl ?_
              refine DL_y rfl (y_move rfl) rfl ?_
              refine DL_y rfl (y_move rfl) rfl ?_
              refine DL_y rfl (y_add rfl rfl (i64w (by omega))) rfl ?_
              refine DL_y rfl (y_ssliceL (l := k + 1) Try.underlying9 rfl rfl (Nt.mk (by omega)) (by omega)) rfl ?_
              refine DL_y rfl (y_assign rfl) rfl ?_
              refine DL_y rfl (y_assign rfl) rfl ?_
              refine DL_y rfl (y_assign rfl) rfl ?_
              refine DL_nil ?_
              refine hK11 _ _ ?_
              refine T_ret ?_
              repeat (first | with_reducible refine up_then ?_ | with_reducible refine up_in ?_)
              refine ret3 rfl rfl rfl rfl ?_
              have hc := cut_at (c := 10) (s := s) (k := k) (by omega) hall (Classical.byContradiction fun e => h17 e)
              have hp : preP s (w ++ [32]) := (pre_iff s (w ++ [32])).1 (by rw [List.length_append]; exact Classical.byContradiction fun e => h40 e)
              refine ⟨_, rfl, S5.like0, ?_⟩
              rw [lineV_yes (lineR_yes hc ⟨hp, by rw [List.length_take]; omega⟩), ext_list, ext_drop, List.drop_take]
    ·
      refine L_gno rfl rfl rfl ?_
      refine L_gno rfl rfl rfl ?_
      refine L_gno rfl rfl rfl ?_
      refine L_gno rfl rfl rfl ?_
      refine L_y ((by first | exact y_pickT rfl rfl | exact y_pickF rfl rfl)) rfl ?_
      refine L_nil ?_
      refine hK5 _ _ ?_
      refine T_false rfl ?_
      refine T_exit ?_
      refine hK3 _ _ ?_
      refine T_seq fun K12 hK12 => ?_
      refine T_seq fun K13 hK13 => ?_
      refine T_region ?_
      refine L_y (y_move rfl) rfl ?_
      refine L_y (y_move rfl) rfl ?_
      refine L_y (y_lens Try.underlying9 rfl) rfl ?_
      refine L_y (y_eql rfl rfl) rfl ?_
      refine L_y (y_move rfl) rfl ?_
      refine L_split 24 rfl (fun h24 => ?_) (fun h24 => ?_)
      ·
        refine L_gno rfl rfl rfl ?_
        refine L_gno rfl rfl rfl ?_
        refine L_gno rfl rfl rfl ?_
        refine L_gno rfl rfl rfl ?_
        refine L_gno rfl rfl rfl ?_
        refine L_y ((by first | exact y_pickT rfl rfl | exact y_pickF rfl rfl)) rfl ?_
        refine L_y (y_move rfl) rfl ?_
        refine L_gno rfl rfl rfl ?_
        refine L_gno rfl rfl rfl ?_
        refine L_gno rfl rfl rfl ?_
        refine L_gno rfl rfl rfl ?_
        refine L_gno rfl rfl rfl ?_
        refine L_gno rfl rfl rfl ?_
        refine L_gno rfl rfl rfl ?_
        refine L_gno rfl rfl rfl ?_
        refine L_y ((by first | exact y_pickT rfl rfl | exact y_pickF rfl rfl)) rfl ?_
        refine L_nil ?_
        refine hK13 _ _ ?_
        refine T_true rfl ?_
        refine T_seq fun K14 hK14 => ?_
        refine T_region ?_
        refine L_y (y_assign rfl) rfl ?_
        refine L_y (y_assign rfl) rfl ?_
        refine L_y (y_assign rfl) rfl ?_
        refine L_nil ?_
        refine hK14 _ _ ?_
        refine T_ret ?_
        repeat (first | with_reducible refine up_then ?_ | with_reducible refine up_in ?_)
        refine ret3 rfl rfl rfl rfl ?_
        have hke : k = s.length := by omega
        rw [hke, List.take_length] at hall
        first | exact ⟨_, rfl, S1.like0, (lineV_no (lineR_cut (cutF_no hall))).symm⟩
      ·
        refine L_gyes rfl rfl ?_
        refine L_y (y_move rfl) rfl ?_
        refine L_gyes rfl rfl ?_
        refine L_y (y_move rfl) rfl ?_
        refine L_gyes rfl rfl ?_
        refine L_y (y_lens Try.underlying9 rfl) rfl ?_
        refine L_gyes rfl rfl ?_
        refine L_y (y_add rfl rfl (i64w (by omega))) rfl ?_
        refine L_gyes rfl rfl ?_
        refine L_y (y_lss rfl rfl) rfl ?_
        refine L_y ((by first | exact y_pickT rfl rfl | exact y_pickF rfl rfl)) rfl ?_
        refine L_y (y_move rfl) rfl ?_
        refine L_split 31 rfl (fun h31 => ?_) (fun h31 => ?_)
        ·
          refine L_gno rfl rfl rfl ?_
          refine L_gno rfl rfl rfl ?_
          refine L_gno rfl rfl rfl ?_
          refine L_gno rfl rfl rfl ?_
          refine L_gno rfl rfl rfl ?_
          refine L_gno rfl rfl rfl ?_
          refine L_gno rfl rfl rfl ?_
          refine L_gno rfl rfl rfl ?_
          refine L_y ((by first | exact y_pickT rfl rfl | exact y_pickF rfl rfl)) rfl ?_
          refine L_nil ?_
          refine hK13 _ _ ?_
          refine T_true rfl ?_
          refine T_seq fun K15 hK15 => ?_
          refine T_region ?_
          refine L_y (y_assign rfl) rfl ?_
          refine L_y (y_assign rfl) rfl ?_
          refine L_y (y_assign rfl) rfl ?_
          refine L_nil ?_
          refine hK15 _ _ ?_
          refine T_ret ?_
          repeat (first | with_reducible refine up_then ?_ | with_reducible refine up_in ?_)
          refine ret3 rfl rfl rfl rfl ?_
          have hke : k = s.length := by omega
          rw [hke, List.take_length] at hall
          first | exact ⟨_, rfl, S1.like0, (lineV_no (lineR_cut (cutF_no hall))).symm⟩
        ·
          refine L_gyes rfl rfl ?_
          refine L_y (y_move rfl) rfl ?_
          refine L_gyes rfl rfl ?_
          refine L_y (y_move rfl) rfl ?_
          refine L_gyes rfl rfl ?_
          refine L_y (y_lens Try.underlying9 rfl) rfl ?_
          refine L_gyes rfl rfl ?_
          refine L_y (y_add rfl rfl (i64w (by omega))) rfl ?_
          refine L_gyes rfl rfl ?_
          refine L_y (y_ssliceH (u := w.length + 1) Try.underlying9 rfl rfl (Nt.mk (by omega)) (by omega)) rfl ?_
          refine L_gyes rfl rfl ?_
          refine L_y (y_move rfl) rfl ?_
          refine L_gyes rfl rfl ?_
          refine L_y (y_cat rfl rfl (by rw [bsz, bsz32]; omega)) rfl ?_
          rw [cat32]
          refine L_gyes rfl rfl ?_
          refine L_y (y_sneq rfl rfl) rfl ?_
          refine L_y ((by first | exact y_pickT rfl rfl | exact y_pickF rfl rfl)) rfl ?_
          refine L_nil ?_
          refine hK13 _ _ ?_
          refine T_cond rfl (fun h40 => ?_) (fun h40 => ?_)
          ·
            refine T_seq fun K16 hK16 => ?_
            refine T_region ?_
            refine L_y (y_assign rfl) rfl ?_
            refine L_y (y_assign rfl) rfl ?_
            refine L_y (y_assign rfl) rfl ?_
            refine L_nil ?_
            refine hK16 _ _ ?_
            refine T_ret ?_
            repeat (first | with_reducible refine up_then ?_ | with_reducible refine up_in ?_)
            refine ret3 rfl rfl rfl rfl ?_
            exact absurd (show (k : Int) = _ by omega) h24
          ·
            refine T_skip ?_
            refine hK12 _ _ ?_
            refine T_seq fun K17 hK17 => ?_
            refine T_drawnL [(0, true), (1, true), (2, true), (3, true), (4, true), (5, true), (6, true), (7, true), (8, true), (9, true), (10, true), (11, true), (12, true)] hmix (by kernel_rfl) fun w8 l8 => ?_
            have S8 := S1.like l8
            refine DL_y rfl (y_move rfl) rfl ?_
            refine DL_y rfl (y_move rfl) rfl ?_
            refine DL_y rfl (y_lens Try.underlying9 rfl) rfl ?_
            refine DL_y rfl (y_add rfl rfl (i64w (by omega))) rfl ?_
            refine DL_y rfl (y_move rfl) rfl ?_
            refine DL_y rfl (y_sslice (l := w.length + 1) (u := k) Try.underlying9 rfl rfl rfl (Nt.mk (by omega)) (Nt.mk (by omega)) (by omega) (by omega)) rfl ?_
            refine DL_y rfl (y_move rfl) rfl ?_
            refine DL_y rfl (y_move rfl) rfl ?_
            refine DL_y rfl (y_add rfl rfl (i64w (by omega))) rfl ?_
            refine DL_y rfl (y_ssliceL (l := k + 1) Try.underlying9 rfl rfl (Nt.mk (by omega)) (by omega)) rfl ?_
            refine DL_y rfl (y_assign rfl) rfl ?_
            refine DL_y rfl (y_assign rfl) rfl ?_
            refine DL_y rfl (y_assign rfl) rfl ?_
            refine DL_nil ?_
            refine hK17 _ _ ?_
            refine T_ret ?_
            repeat (first | with_reducible refine up_then ?_ | with_reducible refine up_in ?_)
            refine ret3 rfl rfl rfl rfl ?_
            exact absurd (show (k : Int) = _ by omega) h24
end Go.Proofs.Ytgaklngnfecdaaa.Rev


/-
  The reference: Get.
-/
namespace Go.Proofs.Ytgaklngnfecdaaa.Rev
open Go.RowKit Zk Zx
open Oid (idf hexL idf_len readR)
open Tre (nmOk)
set_option linter.unusedVariables false
set_option linter.unusedSimpArgs false

theorem lineV_b (w s : List UInt8) : ∃ a b f, lineV w s = .tuple #[.string ⟨a.toArray⟩, .string ⟨b.toArray⟩, .bool f] ∧ (f = true → lineR w s = some (a, b)) ∧ (f = false → lineR w s = none) ∧ b.length ≤ s.length ∧ (f = true → b.length < s.length) := by
  cases h : lineR w s with
  | none => exact ⟨[], [], false, lineV_no h, (fun e => by cases e), fun _ => rfl, Nat.zero_le _, (fun e => by cases e)⟩
  | some p =>
    have := lineR_len (a := p.1) (b := p.2) h
    exact ⟨p.1, p.2, true, lineV_yes h, fun _ => rfl, (fun e => by cases e), by omega, fun _ => by omega⟩
theorem rreadN (a : List UInt8) (w : World) : Calls Try.prog 85 #[.string ⟨a.toArray⟩] w fun e w' => ∃ u, e = .returned u ∧ Like w w' ∧ ∃ t : Oid.Id, t = ⟨(readR a).1, Oid.length_readR a⟩ ∧ u = .tuple #[.agg (idf t).toArray, .int .i64 (readR a).2] := (Oid.rread_any ⟨a.toArray⟩ w).mono fun e w' ⟨h1, h2⟩ => ⟨_, h1, h2, _, rfl, rfl⟩
theorem id_bad {w s a b : List UInt8} {f : Bool} (h1 : f = true → lineR w s = some (a, b)) (h0 : f = false → lineR w s = none) (h : f = false ∨ (readR a).2 ≠ 0) : idR w s = none := by
  cases f with
  | false => unfold idR; rw [h0 rfl]
  | true => unfold idR; rw [h1 rfl]; exact if_neg (h.resolve_left (fun e => by cases e))
theorem id_good {w s a b : List UInt8} {f : Bool} {t : Oid.Id} (ht : t = ⟨(readR a).1, Oid.length_readR a⟩) (h1 : f = true → lineR w s = some (a, b)) (hf : f = true) (h : (readR a).2 = 0) : idR w s = some (t, b) := by
  subst ht
  unfold idR; rw [h1 hf]; exact if_pos h
theorem numb_bad {w s a b : List UInt8} {f : Bool} (h1 : f = true → lineR w s = some (a, b)) (h0 : f = false → lineR w s = none) (h : f = false ∨ numOk a = false) : numbR w s = none := by
  cases f with
  | false => unfold numbR; rw [h0 rfl]
  | true => unfold numbR; rw [h1 rfl]; simp [h.resolve_left (fun e => by cases e)]
theorem numb_good {w s a b : List UInt8} {f : Bool} (h1 : f = true → lineR w s = some (a, b)) (hf : f = true) (h : numOk a = true) : numbR w s = some (numV a, b) := by
  unfold numbR; rw [h1 hf]; simp [h]
theorem pre1 (s : List UInt8) : preP s [10] ↔ (0 < s.length ∧ g8 s 0 = 10) := by
  unfold preP g8
  cases s with
  | nil => simp
  | cons x r =>
    show ([x] : List UInt8) = [10] ↔ (0 < r.length + 1 ∧ ((x.toNat : Int) = 10))
    constructor
    · intro h
      have hx : x = 10 := by simpa using h
      exact ⟨by omega, by rw [hx]; rfl⟩
    · intro h
      have hx : x = 10 := UInt8.toNat_inj.1 (by have h2 := h.2; have : (10 : UInt8).toNat = 10 := rfl; omega)
      rw [hx]
theorem textR_n {s : List UInt8} (h : g8 s 0 ≠ 10) : textR s = none := by unfold textR; exact if_neg fun hp => h ((pre1 s).1 hp).2
theorem textR_e {s : List UInt8} (h : (⟨s.toArray⟩ : ByteArray) = ⟨#[]⟩) : textR s = none := by
  have hz : s = [] := by simpa using congrArg (fun b : ByteArray => b.data.toList) h
  rw [hz]
  rfl
end Go.Proofs.Ytgaklngnfecdaaa.Rev


/-
  Same.
-/
namespace Go.Proofs.Ytgaklngnfecdaaa.Rev
open Go.RowKit Zk Zx
open Oid (idf hexL idf_len readR)
open Tre (nmOk)
set_option linter.unusedVariables false
set_option linter.unusedSimpArgs false

/-- Are two commits one? -/
def sameB (x y : Cm) : Bool := decide (x.tr = y.tr) && (decide (x.ps = y.ps) && (decide (x.au = y.au) && (decide (x.tm = y.tm) && decide (x.tx = y.tx))))
theorem tr_ne {x y : Cm} (h : ¬ x.tr.l = y.tr.l) : decide (x.tr = y.tr) = false := decide_eq_false fun e => h (by rw [e])
theorem tr_eq {x y : Cm} (h : x.tr.l = y.tr.l) : decide (x.tr = y.tr) = true := decide_eq_true (Oid.Id.ext h)
theorem all_take {l k : List Oid.Id} {i : Nat} (h : l.take i = k.take i) (h1 : l.length ≤ i) (h2 : k.length ≤ i) : l = k := by
  rwa [List.take_of_length_le h1, List.take_of_length_le h2] at h
theorem ps_take {l k : List Oid.Id} {i : Nat} {p q : Oid.Id} (hl : l[i]? = some p) (hk : k[i]? = some q) (h : l.take i = k.take i) (he : p = q) : l.take (i + 1) = k.take (i + 1) := by
  rw [List.take_add_one, List.take_add_one, hl, hk, h, he]


set_option maxRecDepth 100000 in
theorem equal (A : Option Addr) (n c : Nat) (l : List Oid.Id) (B : Option Addr) (m d : Nat) (r : List Oid.Id) (w0 : World) (hl : Rs w0 32 A n c (l.flatMap idf)) (hr : Rs w0 32 B m d (r.flatMap idf)) :
    Calls Try.prog 86 #[.slice A n c, .slice B m d] w0 fun e w' => ∃ u, e = .returned u ∧ Like w0 w' ∧ u = .bool (decide (l = r)) := by
  refine enter1 (env := [(0, .slice A n c), (1, .slice B m d)]) [.slice A n c, .slice B m d] Try.func86 rfl Try.ntmps86 rfl rfl ?_
  have hn := Oid.ids_n hl; have hm := Oid.ids_n hr; have hcap := hl.cap; have hmax := hl.max; have hcap2 := hr.cap; have hmax2 := hr.max
  have S0 := St.start w0 noM
  refine T_seq fun K1 hK1 => ?_
  refine T_region ?_
  refine L_y (y_assign rfl) rfl ?_
  refine L_nil ?_
  refine hK1 _ _ ?_
  refine T_seq fun K2 hK2 => ?_
  refine T_seq fun K3 hK3 => ?_
  refine T_region ?_
  refine L_y (y_move rfl) rfl ?_
  refine L_y (y_len Try.underlying24 rfl) rfl ?_
  refine L_y (y_move rfl) rfl ?_
  refine L_y (y_len Try.underlying24 rfl) rfl ?_
  refine L_y (y_neq rfl rfl) rfl ?_
  refine L_nil ?_
  refine hK3 _ _ ?_
  refine T_cond rfl (fun h10 => ?_) (fun h10 => ?_)
  ·
    refine T_seq fun K4 hK4 => ?_
    refine T_region ?_
    refine L_y (y_assign rfl) rfl ?_
    refine L_nil ?_
    refine hK4 _ _ ?_
    refine T_ret ?_
    repeat (first | with_reducible refine up_then ?_ | with_reducible refine up_in ?_)
    refine ret1 rfl rfl ?_
    exact ⟨_, rfl, S0.like0, congrArg Value.bool (by first | exact (decide_eq_false (fun e => h24 (by rw [e, hq] at hp; cases hp; rfl))).symm | exact (decide_eq_true (all_take htk (by omega) (by omega))).symm | exact (decide_eq_false (fun e => h10 (by rw [hn, hm, e]))).symm)⟩
  ·
    refine T_skip ?_
    refine hK2 _ _ ?_
    refine T_seq fun K5 hK5 => ?_
    refine T_seq fun K6 hK6 => ?_
    refine T_region ?_
    refine L_y (y_move rfl) rfl ?_
    refine L_y (y_len Try.underlying24 rfl) rfl ?_
    refine L_y (y_move rfl) rfl ?_
    refine L_nil ?_
    refine hK6 _ _ ?_
    refine T_block ?_
    refine T_loop1 [(0, _), (1, _), (12, _)] (fun (k : Nat) => [(13, .int .i64 (k : Int))]) (fun (k : Nat) => l.length - k) (fun (k : Nat) (w : World) => (k ≤ l.length ∧ l.take k = r.take k) ∧ St w0 noM [] w) 0 (Sub.cons rfl (by first | rfl | exact congrArg (Value.int _) (by omega)) (Sub.nil _)) (Sub.cons rfl rfl (Sub.cons rfl rfl (Sub.cons rfl rfl (Sub.nil _)))) ?_ ?_
    ·
      exact ⟨⟨by omega, by simp⟩, S0⟩
    ·
      intro k w1 hrel
      obtain ⟨⟨hk, htk⟩, S1⟩ := hrel
      refine T_seq fun K7 hK7 => ?_
      refine T_region ?_
      refine L_y (y_lss rfl rfl) rfl ?_
      refine L_nil ?_
      refine hK7 _ _ ?_
      refine T_seq fun K8 hK8 => ?_
      refine T_cond rfl (fun h14 => ?_) (fun h14 => ?_)
      ·
        obtain ⟨p, hp⟩ : ∃ p, l[k]? = some p := ⟨_, List.getElem?_eq_getElem (by omega)⟩
        obtain ⟨q, hq⟩ : ∃ q, r[k]? = some q := ⟨_, List.getElem?_eq_getElem (by omega)⟩
        refine T_skip ?_
        refine hK8 _ _ ?_
        refine T_seq fun K9 hK9 => ?_
        refine T_block ?_
        refine T_seq fun K10 hK10 => ?_
        refine T_region ?_
        refine L_y (y_move rfl) rfl ?_
        refine L_y (y_assign rfl) rfl ?_
        refine L_nil ?_
        refine hK10 _ _ ?_
        refine T_seq fun K11 hK11 => ?_
        refine T_drawnL [(0, true), (1, true), (2, true), (3, true), (4, true), (5, true), (6, true), (7, true), (8, true)] hmix (by kernel_rfl) fun w2 l2 => ?_
        have S2 := S1.like l2
        refine DL_y rfl (y_move rfl) rfl ?_
        refine DL_y rfl (y_move rfl) rfl ?_
        refine DL_y rfl (y_idx Try.underlying24 sz23 rfl rfl (S2.rd hl) inferInstance (by omega)) rfl ?_
        refine DL_y rfl (y_ldp (f := idf) idf_len Try.underlying23 rfl sz23 rfl (S2.rd hl) (by omega) hp) rfl ?_
        refine DL_y rfl (y_move rfl) rfl ?_
        refine DL_y rfl (y_move rfl) rfl ?_
        refine DL_y rfl (y_idx Try.underlying24 sz23 rfl rfl (S2.rd hr) inferInstance (by omega)) rfl ?_
        refine DL_y rfl (y_ldp (f := idf) idf_len Try.underlying23 rfl sz23 rfl (S2.rd hr) (by omega) hq) rfl ?_
        refine DL_y rfl (y_neB Try.underlying23 Try.underlying5 sz5 (by kernel_rfl) rfl rfl (Oid.Id.h _) (Oid.Id.h _)) rfl ?_
        refine DL_nil ?_
        refine hK11 _ _ ?_
        refine T_cond rfl (fun h24 => ?_) (fun h24 => ?_)
        ·
          refine T_seq fun K12 hK12 => ?_
          refine T_region ?_
          refine L_y (y_assign rfl) rfl ?_
          refine L_nil ?_
          refine hK12 _ _ ?_
          refine T_ret ?_
          repeat (first | with_reducible refine up_then ?_ | with_reducible refine up_in ?_)
          refine ret1 rfl rfl ?_
          exact ⟨_, rfl, S2.like0, congrArg Value.bool (by first | exact (decide_eq_false (fun e => h24 (by rw [e, hq] at hp; cases hp; rfl))).symm | exact (decide_eq_true (all_take htk (by omega) (by omega))).symm | exact (decide_eq_false (fun e => h10 (by rw [hn, hm, e]))).symm)⟩
        ·
          refine T_skip ?_
          refine hK9 _ _ ?_
          refine T_region ?_
          refine L_y (y_add rfl rfl (i64w (by omega))) rfl ?_
          refine L_y (y_move rfl) rfl ?_
          refine L_nil ?_
          refine ⟨k + 1, by omega, ⟨⟨by omega, ps_take hp hq htk (Oid.Id.ext (Classical.byContradiction fun e => h24 e))⟩, S2⟩, ?_⟩
          exact (Sub.cons rfl (by first | rfl | exact congrArg (Value.int _) (by omega)) (Sub.cons rfl rfl (Sub.cons rfl rfl (Sub.cons rfl rfl (Sub.nil _)))))
      ·
        refine T_exit ?_
        refine hK5 _ _ ?_
        refine T_seq fun K13 hK13 => ?_
        refine T_region ?_
        refine L_y (y_assign rfl) rfl ?_
        refine L_nil ?_
        refine hK13 _ _ ?_
        refine T_ret ?_
        repeat (first | with_reducible refine up_then ?_ | with_reducible refine up_in ?_)
        refine ret1 rfl rfl ?_
        exact ⟨_, rfl, S1.like0, congrArg Value.bool (by first | exact (decide_eq_false (fun e => h24 (by rw [e, hq] at hp; cases hp; rfl))).symm | exact (decide_eq_true (all_take htk (by omega) (by omega))).symm | exact (decide_eq_false (fun e => h10 (by rw [hn, hm, e]))).symm)⟩


set_option maxRecDepth 100000 in
theorem same (x y : Cm) (w0 : World) (hx : Rs w0 32 x.A x.n x.c (x.ps.flatMap idf)) (hy : Rs w0 32 y.A y.n y.c (y.ps.flatMap idf)) :
    Calls Try.prog 38 #[.agg (cmf x).toArray, .agg (cmf y).toArray] w0 fun e w' => ∃ u, e = .returned u ∧ Like w0 w' ∧ u = .bool (sameB x y) := by
  refine enter1 (env := [(0, .agg (cmf x).toArray), (1, .agg (cmf y).toArray)]) [.agg (cmf x).toArray, .agg (cmf y).toArray] Try.func38 rfl Try.ntmps38 rfl rfl ?_
  have S0 := St.start w0 noM
  refine T_seq fun K1 hK1 => ?_
  refine T_region ?_
  refine L_o (o_box rfl S0 rfl fun b1 w1 hb1 S1 => ?_)
  refine L_o (o_box rfl S1 rfl fun b2 w2 hb2 S2 => ?_)
  refine L_y (y_assign rfl) rfl ?_
  refine L_nil ?_
  refine hK1 _ _ ?_
  refine T_seq fun K2 hK2 => ?_
  refine T_region ?_
  refine L_y (y_fieldA 0 Try.underlying26 rfl sz23 rfl rfl rfl) rfl ?_
  refine L_y (y_ldW Try.underlying23 rfl sz23 rfl (S2.blk 0 rfl) (cm_tr x)) rfl ?_
  refine L_y (y_fieldA 0 Try.underlying26 rfl sz23 rfl rfl rfl) rfl ?_
  refine L_y (y_ldW Try.underlying23 rfl sz23 rfl (S2.blk 1 rfl) (cm_tr y)) rfl ?_
  refine L_y (y_eqB Try.underlying23 Try.underlying5 sz5 (by kernel_rfl) rfl rfl (Oid.Id.h _) (Oid.Id.h _)) rfl ?_
  refine L_y (y_move rfl) rfl ?_
  refine L_split 10 rfl (fun h10 => ?_) (fun h10 => ?_)
  ·
    refine L_gyes rfl rfl ?_
    refine L_y (y_fieldA 32 Try.underlying26 rfl sz24 rfl rfl rfl) rfl ?_
    refine L_gyes rfl rfl ?_
    refine L_y (y_ldc Try.underlying24 rfl rfl (((S2.blk 0 rfl).cell _).trans (cm32 x))) rfl ?_
    refine L_gyes rfl rfl ?_
    refine L_y (y_fieldA 32 Try.underlying26 rfl sz24 rfl rfl rfl) rfl ?_
    refine L_gyes rfl rfl ?_
    refine L_y (y_ldc Try.underlying24 rfl rfl (((S2.blk 1 rfl).cell _).trans (cm32 y))) rfl ?_
    refine L_gyes rfl rfl ?_
    refine L_o (o_call Try.func86 rfl rfl (equal _ _ _ x.ps _ _ _ y.ps w2 (S2.rd hx) (S2.rd hy)) rfl rfl ?_)
    rintro e4 w4 ⟨v4, rfl, l4, rfl⟩
    refine ⟨_, rfl, ?_⟩
    have S4 := S2.like l4
    refine L_y ((by first | exact y_pickT rfl rfl | exact y_pickF rfl rfl)) rfl ?_
    refine L_y (y_move rfl) rfl ?_
    refine L_split 17 rfl (fun h17 => ?_) (fun h17 => ?_)
    ·
      refine L_gyes rfl rfl ?_
      refine L_y (y_fieldA 33 Try.underlying26 rfl sz9 rfl rfl rfl) rfl ?_
      refine L_gyes rfl rfl ?_
      refine L_y (y_ldc Try.underlying9 rfl rfl (((S4.blk 0 rfl).cell _).trans (cm33 x))) rfl ?_
      refine L_gyes rfl rfl ?_
      refine L_y (y_fieldA 33 Try.underlying26 rfl sz9 rfl rfl rfl) rfl ?_
      refine L_gyes rfl rfl ?_
      refine L_y (y_ldc Try.underlying9 rfl rfl (((S4.blk 1 rfl).cell _).trans (cm33 y))) rfl ?_
      refine L_gyes rfl rfl ?_
      refine L_y (y_seql rfl rfl) rfl ?_
      refine L_y ((by first | exact y_pickT rfl rfl | exact y_pickF rfl rfl)) rfl ?_
      refine L_y (y_move rfl) rfl ?_
      refine L_split 24 rfl (fun h24 => ?_) (fun h24 => ?_)
      ·
        refine L_gyes rfl rfl ?_
        refine L_y (y_fieldA 34 Try.underlying26 rfl sz3 rfl rfl rfl) rfl ?_
        refine L_gyes rfl rfl ?_
        refine L_y (y_ldc Try.underlying3 rfl rfl (((S4.blk 0 rfl).cell _).trans (cm34 x))) rfl ?_
        refine L_gyes rfl rfl ?_
        refine L_y (y_fieldA 34 Try.underlying26 rfl sz3 rfl rfl rfl) rfl ?_
        refine L_gyes rfl rfl ?_
        refine L_y (y_ldc Try.underlying3 rfl rfl (((S4.blk 1 rfl).cell _).trans (cm34 y))) rfl ?_
        refine L_gyes rfl rfl ?_
        refine L_y (y_eql rfl rfl) rfl ?_
        refine L_y ((by first | exact y_pickT rfl rfl | exact y_pickF rfl rfl)) rfl ?_
        refine L_y (y_move rfl) rfl ?_
        refine L_split 31 rfl (fun h31 => ?_) (fun h31 => ?_)
        ·
          refine L_gyes rfl rfl ?_
          refine L_y (y_fieldA 35 Try.underlying26 rfl sz9 rfl rfl rfl) rfl ?_
          refine L_gyes rfl rfl ?_
          refine L_y (y_ldc Try.underlying9 rfl rfl (((S4.blk 0 rfl).cell _).trans (cm35 x))) rfl ?_
          refine L_gyes rfl rfl ?_
          refine L_y (y_fieldA 35 Try.underlying26 rfl sz9 rfl rfl rfl) rfl ?_
          refine L_gyes rfl rfl ?_
          refine L_y (y_ldc Try.underlying9 rfl rfl (((S4.blk 1 rfl).cell _).trans (cm35 y))) rfl ?_
          refine L_gyes rfl rfl ?_
          refine L_y (y_seql rfl rfl) rfl ?_
          refine L_y ((by first | exact y_pickT rfl rfl | exact y_pickF rfl rfl)) rfl ?_
          refine L_y (y_assign rfl) rfl ?_
          refine L_nil ?_
          refine hK2 _ _ ?_
          refine T_ret ?_
          repeat (first | with_reducible refine up_then ?_ | with_reducible refine up_in ?_)
          refine ret1 rfl rfl ?_
          exact ⟨_, rfl, S4.like0, congrArg Value.bool (by unfold sameB; first | rw [tr_ne h10, Bool.false_and] | simp [tr_eq h10, h17, h24, h31] | simp [tr_eq h10, h17, h24] | simp [tr_eq h10, h17] | simp [tr_eq h10])⟩
        ·
          refine L_gno rfl rfl rfl ?_
          refine L_gno rfl rfl rfl ?_
          refine L_gno rfl rfl rfl ?_
          refine L_gno rfl rfl rfl ?_
          refine L_gno rfl rfl rfl ?_
          refine L_y ((by first | exact y_pickT rfl rfl | exact y_pickF rfl rfl)) rfl ?_
          refine L_y (y_assign rfl) rfl ?_
          refine L_nil ?_
          refine hK2 _ _ ?_
          refine T_ret ?_
          repeat (first | with_reducible refine up_then ?_ | with_reducible refine up_in ?_)
          refine ret1 rfl rfl ?_
          exact ⟨_, rfl, S4.like0, congrArg Value.bool (by unfold sameB; first | rw [tr_ne h10, Bool.false_and] | simp [tr_eq h10, h17, h24, h31] | simp [tr_eq h10, h17, h24] | simp [tr_eq h10, h17] | simp [tr_eq h10])⟩
      ·
        refine L_gno rfl rfl rfl ?_
        refine L_gno rfl rfl rfl ?_
        refine L_gno rfl rfl rfl ?_
        refine L_gno rfl rfl rfl ?_
        refine L_gno rfl rfl rfl ?_
        refine L_y ((by first | exact y_pickT rfl rfl | exact y_pickF rfl rfl)) rfl ?_
        refine L_y (y_move rfl) rfl ?_
        refine L_gno rfl rfl rfl ?_
        refine L_gno rfl rfl rfl ?_
        refine L_gno rfl rfl rfl ?_
        refine L_gno rfl rfl rfl ?_
        refine L_gno rfl rfl rfl ?_
        refine L_y ((by first | exact y_pickT rfl rfl | exact y_pickF rfl rfl)) rfl ?_
        refine L_y (y_assign rfl) rfl ?_
        refine L_nil ?_
        refine hK2 _ _ ?_
        refine T_ret ?_
        repeat (first | with_reducible refine up_then ?_ | with_reducible refine up_in ?_)
        refine ret1 rfl rfl ?_
        exact ⟨_, rfl, S4.like0, congrArg Value.bool (by unfold sameB; first | rw [tr_ne h10, Bool.false_and] | simp [tr_eq h10, h17, h24, h31] | simp [tr_eq h10, h17, h24] | simp [tr_eq h10, h17] | simp [tr_eq h10])⟩
    ·
      refine L_gno rfl rfl rfl ?_
      refine L_gno rfl rfl rfl ?_
      refine L_gno rfl rfl rfl ?_
      refine L_gno rfl rfl rfl ?_
      refine L_gno rfl rfl rfl ?_
      refine L_y ((by first | exact y_pickT rfl rfl | exact y_pickF rfl rfl)) rfl ?_
      refine L_y (y_move rfl) rfl ?_
      refine L_gno rfl rfl rfl ?_
      refine L_gno rfl rfl rfl ?_
      refine L_gno rfl rfl rfl ?_
      refine L_gno rfl rfl rfl ?_
      refine L_gno rfl rfl rfl ?_
      refine L_y ((by first | exact y_pickT rfl rfl | exact y_pickF rfl rfl)) rfl ?_
      refine L_y (y_move rfl) rfl ?_
      refine L_gno rfl rfl rfl ?_
      refine L_gno rfl rfl rfl ?_
      refine L_gno rfl rfl rfl ?_
      refine L_gno rfl rfl rfl ?_
      refine L_gno rfl rfl rfl ?_
      refine L_y ((by first | exact y_pickT rfl rfl | exact y_pickF rfl rfl)) rfl ?_
      refine L_y (y_assign rfl) rfl ?_
      refine L_nil ?_
      refine hK2 _ _ ?_
      refine T_ret ?_
      repeat (first | with_reducible refine up_then ?_ | with_reducible refine up_in ?_)
      refine ret1 rfl rfl ?_
      exact ⟨_, rfl, S4.like0, congrArg Value.bool (by unfold sameB; first | rw [tr_ne h10, Bool.false_and] | simp [tr_eq h10, h17, h24, h31] | simp [tr_eq h10, h17, h24] | simp [tr_eq h10, h17] | simp [tr_eq h10])⟩
  ·
    refine L_gno rfl rfl rfl ?_
    refine L_gno rfl rfl rfl ?_
    refine L_gno rfl rfl rfl ?_
    refine L_gno rfl rfl rfl ?_
    refine L_gno rfl rfl rfl ?_
    refine L_y ((by first | exact y_pickT rfl rfl | exact y_pickF rfl rfl)) rfl ?_
    refine L_y (y_move rfl) rfl ?_
    refine L_gno rfl rfl rfl ?_
    refine L_gno rfl rfl rfl ?_
    refine L_gno rfl rfl rfl ?_
    refine L_gno rfl rfl rfl ?_
    refine L_gno rfl rfl rfl ?_
    refine L_y ((by first | exact y_pickT rfl rfl | exact y_pickF rfl rfl)) rfl ?_
    refine L_y (y_move rfl) rfl ?_
    refine L_gno rfl rfl rfl ?_
    refine L_gno rfl rfl rfl ?_
    refine L_gno rfl rfl rfl ?_
    refine L_gno rfl rfl rfl ?_
    refine L_gno rfl rfl rfl ?_
    refine L_y ((by first | exact y_pickT rfl rfl | exact y_pickF rfl rfl)) rfl ?_
    refine L_y (y_move rfl) rfl ?_
    refine L_gno rfl rfl rfl ?_
    refine L_gno rfl rfl rfl ?_
    refine L_gno rfl rfl rfl ?_
    refine L_gno rfl rfl rfl ?_
    refine L_gno rfl rfl rfl ?_
    refine L_y ((by first | exact y_pickT rfl rfl | exact y_pickF rfl rfl)) rfl ?_
    refine L_y (y_assign rfl) rfl ?_
    refine L_nil ?_
    refine hK2 _ _ ?_
    refine T_ret ?_
    repeat (first | with_reducible refine up_then ?_ | with_reducible refine up_in ?_)
    refine ret1 rfl rfl ?_
    exact ⟨_, rfl, S2.like0, congrArg Value.bool (by unfold sameB; first | rw [tr_ne h10, Bool.false_and] | simp [tr_eq h10, h17, h24, h31] | simp [tr_eq h10, h17, h24] | simp [tr_eq h10, h17] | simp [tr_eq h10])⟩
end Go.Proofs.Ytgaklngnfecdaaa.Rev


/-
  The law RevGets.
-/
namespace Go.Proofs.Ytgaklngnfecdaaa.Rev
open Go.RowKit Zk Zx
open Oid (idf hexL idf_len readR)
open Tre (nmOk)
set_option linter.unusedVariables false
set_option linter.unusedSimpArgs false

end Go.Proofs.Ytgaklngnfecdaaa.Rev


/-
  A commit's bytes and back: plain laws.
-/
namespace Go.Proofs.Ytgaklngnfecdaaa.Rev
open Go.RowKit Zk Zx
open Oid (idf hexL idf_len readR read_hex hex_read)
open Tre (nmOk)
set_option linter.unusedVariables false
set_option linter.unusedSimpArgs false

/-! ### numbers -/
/-! ### lines -/
end Go.Proofs.Ytgaklngnfecdaaa.Rev


/-
  The law RevBack.
-/
namespace Go.Proofs.Ytgaklngnfecdaaa.Rev
open Go.RowKit Zk Zx
open Oid (idf hexL idf_len readR)
open Tre (nmOk)
set_option linter.unusedVariables false
set_option linter.unusedSimpArgs false

end Go.Proofs.Ytgaklngnfecdaaa.Rev


/-
  Tags: Check and Put.
-/
namespace Go.Proofs.Ytgaklngnfecdaaa.Rev
open Go.RowKit Zk Zx
open Oid (idf hexL ris ris_ne idf_len length_hexL)
open Tre (nmOk)
set_option linter.unusedVariables false
set_option linter.unusedSimpArgs false

theorem mkf_len (x : Mk) : (mkf x).length = 36 := by simp [mkf, idf_len]
theorem mkf_sz (x : Mk) : (mkf x).toArray.size = 36 := by rw [List.size_toArray, mkf_len]
theorem mkf_one (x : Mk) : ∀ u ∈ mkf x, u.oneCell' = true := fun u hu => by
  rcases List.mem_append.1 hu with h | h
  · exact bL_one _ u h
  · simp at h
    rcases h with rfl | rfl | rfl | rfl <;> rfl
theorem mk_ob (x : Mk) : ((mkf x).toArray.toList.drop 0).take 32 = idf x.ob ∧ (idf x.ob).length = 32 := ⟨by rw [List.drop_zero]; simp [mkf, List.take_append, idf_len], idf_len _⟩
theorem mk_at (x : Mk) (k : Nat) : (mkf x).toArray[32 + k]? = [Value.int .i64 x.kd, .string x.nm, .int .i64 x.tm, .string x.tx][k]? := by
  rw [List.getElem?_toArray, mkf, List.getElem?_append_right (by rw [idf_len]; omega), idf_len]
  congr 1
  omega
theorem mk32 (x : Mk) : (mkf x).toArray[32]? = some (.int .i64 x.kd) := mk_at x 0
theorem mk33 (x : Mk) : (mkf x).toArray[33]? = some (.string x.nm) := mk_at x 1
theorem mk34 (x : Mk) : (mkf x).toArray[34]? = some (.int .i64 x.tm) := mk_at x 2
theorem mk35 (x : Mk) : (mkf x).toArray[35]? = some (.string x.tx) := mk_at x 3
theorem mk_whole (x : Mk) : ((mkf x).toArray.toList.drop 0).take 36 = mkf x ∧ (mkf x).length = 36 := ⟨by rw [List.drop_zero]; exact List.take_of_length_le (by have := mkf_len x; simp only [] at this ⊢; omega), mkf_len x⟩
/-- What CheckMark answers. -/
def chkM (x : Mk) : Int := if 400 < x.tx.size then 3 else if x.kd < 1 ∨ 4 < x.kd then 19 else if nmOk x.nm = false then 15 else if x.tm < 0 ∨ 1099511627776 < x.tm then 2 else 0
theorem chkM_ok {x : Mk} (h : chkM x = 0) : x.tx.size ≤ 400 ∧ 1 ≤ x.kd ∧ x.kd ≤ 4 ∧ nmOk x.nm = true ∧ 0 ≤ x.tm ∧ x.tm ≤ 1099511627776 := by
  unfold chkM at h
  split at h
  · cases h
  · split at h
    · cases h
    · split at h
      · cases h
      · split at h
        · cases h
        · rename_i h1 h2 h3 h4
          exact ⟨by omega, by omega, by omega, by simpa using h3, by omega, by omega⟩
def wObject : List UInt8 := [111, 98, 106, 101, 99, 116]
def wKind : List UInt8 := [107, 105, 110, 100]
def wName : List UInt8 := [110, 97, 109, 101]
/-- A tag's bytes. -/
def markB (x : Mk) : List UInt8 := lineL wObject (hexL x.ob.l) ++ lineL wKind (digS x.kd) ++ lineL wName x.nm.data.toList ++ lineL wTime (digS x.tm) ++ [10] ++ x.tx.data.toList
theorem wObject_len : wObject.length = 6 := rfl
theorem wKind_len : wKind.length = 4 := rfl
theorem wName_len : wName.length = 4 := rfl


set_option maxRecDepth 100000 in
theorem checkM (x : Mk) (w0 : World)  :
    Calls Try.prog 43 #[.agg (mkf x).toArray] w0 fun e w' => ∃ u, e = .returned u ∧ Like w0 w' ∧ u = .int .i64 (chkM x) := by
  refine enter1 (env := [(0, .agg (mkf x).toArray)]) [.agg (mkf x).toArray] Try.func43 rfl Try.ntmps43 rfl rfl ?_
  have S0 := St.start w0 noM
  refine T_seq fun K1 hK1 => ?_
  refine T_region ?_
  refine L_o (o_box rfl S0 rfl fun b1 w1 hb1 S1 => ?_)
  refine L_y (y_assign rfl) rfl ?_
  refine L_nil ?_
  refine hK1 _ _ ?_
  refine T_seq fun K2 hK2 => ?_
  refine T_block ?_
  refine T_seq fun K3 hK3 => ?_
  refine T_region ?_
  refine L_y (y_fieldA 35 Try.underlying74 rfl sz9 rfl rfl rfl) rfl ?_
  refine L_y (y_ldc Try.underlying9 rfl rfl (((S1.blk 0 rfl).cell _).trans (mk35 x))) rfl ?_
  refine L_y (y_lens Try.underlying9 rfl) rfl ?_
  refine L_y (y_gtr rfl rfl) rfl ?_
  refine L_y (y_assign rfl) rfl ?_
  refine L_nil ?_
  refine hK3 _ _ ?_
  refine T_cond rfl (fun h3 => ?_) (fun h3 => ?_)
  ·
    refine T_seq fun K4 hK4 => ?_
    refine T_region ?_
    refine L_y (y_assign rfl) rfl ?_
    refine L_nil ?_
    refine hK4 _ _ ?_
    refine T_ret ?_
    repeat (first | with_reducible refine up_then ?_ | with_reducible refine up_in ?_)
    refine ret1 rfl rfl ?_
    exact ⟨_, rfl, S1.like0, by unfold chkM; first | rw [if_pos (by omega)] | rw [if_neg (by omega), if_pos (by omega)] | rw [if_neg (by omega), if_neg (by omega), if_pos hnm] | rw [if_neg (by omega), if_neg (by omega), if_neg hnm, if_pos htm] | rw [if_neg (by omega), if_neg (by omega), if_neg hnm, if_neg htm]⟩
  ·
    refine T_seq fun K5 hK5 => ?_
    refine T_region ?_
    refine L_y (y_fieldA 32 Try.underlying74 rfl sz3 rfl rfl rfl) rfl ?_
    refine L_y (y_ldc Try.underlying3 rfl rfl (((S1.blk 0 rfl).cell _).trans (mk32 x))) rfl ?_
    refine L_y (y_lss rfl rfl) rfl ?_
    refine L_y (y_move rfl) rfl ?_
    refine L_split 12 rfl (fun h12 => ?_) (fun h12 => ?_)
    ·
      refine L_gno rfl rfl rfl ?_
      refine L_gno rfl rfl rfl ?_
      refine L_gno rfl rfl rfl ?_
      refine L_y ((by first | exact y_pickT rfl rfl | exact y_pickF rfl rfl)) rfl ?_
      refine L_y (y_assign rfl) rfl ?_
      refine L_nil ?_
      refine hK5 _ _ ?_
      refine T_true rfl ?_
      refine T_seq fun K6 hK6 => ?_
      refine T_region ?_
      refine L_y (y_assign rfl) rfl ?_
      refine L_nil ?_
      refine hK6 _ _ ?_
      refine T_ret ?_
      repeat (first | with_reducible refine up_then ?_ | with_reducible refine up_in ?_)
      refine ret1 rfl rfl ?_
      exact ⟨_, rfl, S1.like0, by unfold chkM; first | rw [if_pos (by omega)] | rw [if_neg (by omega), if_pos (by omega)] | rw [if_neg (by omega), if_neg (by omega), if_pos hnm] | rw [if_neg (by omega), if_neg (by omega), if_neg hnm, if_pos htm] | rw [if_neg (by omega), if_neg (by omega), if_neg hnm, if_neg htm]⟩
    ·
      refine L_gyes rfl rfl ?_
      refine L_y (y_fieldA 32 Try.underlying74 rfl sz3 rfl rfl rfl) rfl ?_
      refine L_gyes rfl rfl ?_
      refine L_y (y_ldc Try.underlying3 rfl rfl (((S1.blk 0 rfl).cell _).trans (mk32 x))) rfl ?_
      refine L_gyes rfl rfl ?_
      refine L_y (y_gtr rfl rfl) rfl ?_
      refine L_y ((by first | exact y_pickT rfl rfl | exact y_pickF rfl rfl)) rfl ?_
      refine L_y (y_assign rfl) rfl ?_
      refine L_nil ?_
      refine hK5 _ _ ?_
      refine T_cond rfl (fun h8 => ?_) (fun h8 => ?_)
      ·
        refine T_seq fun K7 hK7 => ?_
        refine T_region ?_
        refine L_y (y_assign rfl) rfl ?_
        refine L_nil ?_
        refine hK7 _ _ ?_
        refine T_ret ?_
        repeat (first | with_reducible refine up_then ?_ | with_reducible refine up_in ?_)
        refine ret1 rfl rfl ?_
        exact ⟨_, rfl, S1.like0, by unfold chkM; first | rw [if_pos (by omega)] | rw [if_neg (by omega), if_pos (by omega)] | rw [if_neg (by omega), if_neg (by omega), if_pos hnm] | rw [if_neg (by omega), if_neg (by omega), if_neg hnm, if_pos htm] | rw [if_neg (by omega), if_neg (by omega), if_neg hnm, if_neg htm]⟩
      ·
        refine T_seq fun K8 hK8 => ?_
        refine T_region ?_
        refine L_y (y_fieldA 33 Try.underlying74 rfl sz9 rfl rfl rfl) rfl ?_
        refine L_y (y_ldc Try.underlying9 rfl rfl (((S1.blk 0 rfl).cell _).trans (mk33 x))) rfl ?_
        refine L_o (o_call Try.func59 rfl rfl (Tre.pname x.nm w1) rfl rfl ?_)
        rintro e3 w3 ⟨v3, rfl, l3, rfl⟩
        refine ⟨_, rfl, ?_⟩
        have S3 := S1.like l3
        refine L_y ((by first | exact y_notD rfl | exact y_not rfl)) rfl ?_
        refine L_y (y_assign rfl) rfl ?_
        refine L_nil ?_
        refine hK8 _ _ ?_
        refine T_condB rfl (fun h17 => ?_) (fun h17 => ?_)
        ·
          have hnm : nmOk x.nm = false := by simpa using h17
          refine T_seq fun K9 hK9 => ?_
          refine T_region ?_
          refine L_y (y_assign rfl) rfl ?_
          refine L_nil ?_
          refine hK9 _ _ ?_
          refine T_ret ?_
          repeat (first | with_reducible refine up_then ?_ | with_reducible refine up_in ?_)
          refine ret1 rfl rfl ?_
          exact ⟨_, rfl, S3.like0, by unfold chkM; first | rw [if_pos (by omega)] | rw [if_neg (by omega), if_pos (by omega)] | rw [if_neg (by omega), if_neg (by omega), if_pos hnm] | rw [if_neg (by omega), if_neg (by omega), if_neg hnm, if_pos htm] | rw [if_neg (by omega), if_neg (by omega), if_neg hnm, if_neg htm]⟩
        ·
          have hnm : ¬ nmOk x.nm = false := by simpa using h17
          refine T_seq fun K10 hK10 => ?_
          refine T_region ?_
          refine L_y (y_fieldA 34 Try.underlying74 rfl sz3 rfl rfl rfl) rfl ?_
          refine L_y (y_ldc Try.underlying3 rfl rfl (((S3.blk 0 rfl).cell _).trans (mk34 x))) rfl ?_
          refine L_o (o_call Try.func60 rfl rfl (time_ x.tm w3) rfl rfl ?_)
          rintro e4 w4 ⟨v4, rfl, l4, rfl⟩
          refine ⟨_, rfl, ?_⟩
          have S4 := S3.like l4
          refine L_y ((by first | exact y_notD rfl | exact y_not rfl)) rfl ?_
          refine L_y (y_assign rfl) rfl ?_
          refine L_nil ?_
          refine hK10 _ _ ?_
          refine T_condB rfl (fun h22 => ?_) (fun h22 => ?_)
          ·
            have htm : x.tm < 0 ∨ 1099511627776 < x.tm := by simpa using h22
            refine T_seq fun K11 hK11 => ?_
            refine T_region ?_
            refine L_y (y_assign rfl) rfl ?_
            refine L_nil ?_
            refine hK11 _ _ ?_
            refine T_ret ?_
            repeat (first | with_reducible refine up_then ?_ | with_reducible refine up_in ?_)
            refine ret1 rfl rfl ?_
            exact ⟨_, rfl, S4.like0, by unfold chkM; first | rw [if_pos (by omega)] | rw [if_neg (by omega), if_pos (by omega)] | rw [if_neg (by omega), if_neg (by omega), if_pos hnm] | rw [if_neg (by omega), if_neg (by omega), if_neg hnm, if_pos htm] | rw [if_neg (by omega), if_neg (by omega), if_neg hnm, if_neg htm]⟩
          ·
            have htm : ¬ (x.tm < 0 ∨ 1099511627776 < x.tm) := by simpa using h22
            refine T_skip ?_
            refine hK2 _ _ ?_
            refine T_seq fun K12 hK12 => ?_
            refine T_region ?_
            refine L_y (y_assign rfl) rfl ?_
            refine L_nil ?_
            refine hK12 _ _ ?_
            refine T_ret ?_
            repeat (first | with_reducible refine up_then ?_ | with_reducible refine up_in ?_)
            refine ret1 rfl rfl ?_
            exact ⟨_, rfl, S4.like0, by unfold chkM; first | rw [if_pos (by omega)] | rw [if_neg (by omega), if_pos (by omega)] | rw [if_neg (by omega), if_neg (by omega), if_pos hnm] | rw [if_neg (by omega), if_neg (by omega), if_neg hnm, if_pos htm] | rw [if_neg (by omega), if_neg (by omega), if_neg hnm, if_neg htm]⟩


set_option maxRecDepth 100000 in
theorem rcheckM (x : Mk) (w0 : World)  :
    Calls Try.prog 44 #[.agg (mkf x).toArray] w0 fun e w' => ∃ u, e = .returned u ∧ Like w0 w' ∧ u = .int .i64 (chkM x) := by
  refine enter1 (env := [(0, .agg (mkf x).toArray)]) [.agg (mkf x).toArray] Try.func44 rfl Try.ntmps44 rfl rfl ?_
  have S0 := St.start w0 noM
  refine T_seq fun K1 hK1 => ?_
  refine T_region ?_
  refine L_o (o_box rfl S0 rfl fun b1 w1 hb1 S1 => ?_)
  refine L_y (y_assign rfl) rfl ?_
  refine L_nil ?_
  refine hK1 _ _ ?_
  refine T_seq fun K2 hK2 => ?_
  refine T_seq fun K3 hK3 => ?_
  refine T_region ?_
  refine L_y (y_fieldA 35 Try.underlying74 rfl sz9 rfl rfl rfl) rfl ?_
  refine L_y (y_ldc Try.underlying9 rfl rfl (((S1.blk 0 rfl).cell _).trans (mk35 x))) rfl ?_
  refine L_y (y_lens Try.underlying9 rfl) rfl ?_
  refine L_y (y_gtr rfl rfl) rfl ?_
  refine L_nil ?_
  refine hK3 _ _ ?_
  refine T_cond rfl (fun h6 => ?_) (fun h6 => ?_)
  ·
    refine T_seq fun K4 hK4 => ?_
    refine T_region ?_
    refine L_y (y_assign rfl) rfl ?_
    refine L_nil ?_
    refine hK4 _ _ ?_
    refine T_ret ?_
    repeat (first | with_reducible refine up_then ?_ | with_reducible refine up_in ?_)
    refine ret1 rfl rfl ?_
    exact ⟨_, rfl, S1.like0, by unfold chkM; first | rw [if_pos (by omega)] | rw [if_neg (by omega), if_pos (by omega)] | rw [if_neg (by omega), if_neg (by omega), if_pos hnm] | rw [if_neg (by omega), if_neg (by omega), if_neg hnm, if_pos htm] | rw [if_neg (by omega), if_neg (by omega), if_neg hnm, if_neg htm]⟩
  ·
    refine T_skip ?_
    refine hK2 _ _ ?_
    refine T_seq fun K5 hK5 => ?_
    refine T_seq fun K6 hK6 => ?_
    refine T_region ?_
    refine L_y (y_fieldA 32 Try.underlying74 rfl sz3 rfl rfl rfl) rfl ?_
    refine L_y (y_ldc Try.underlying3 rfl rfl (((S1.blk 0 rfl).cell _).trans (mk32 x))) rfl ?_
    refine L_y (y_lss rfl rfl) rfl ?_
    refine L_y (y_move rfl) rfl ?_
    refine L_split 10 rfl (fun h10 => ?_) (fun h10 => ?_)
    ·
      refine L_gno rfl rfl rfl ?_
      refine L_gno rfl rfl rfl ?_
      refine L_gno rfl rfl rfl ?_
      refine L_y ((by first | exact y_pickT rfl rfl | exact y_pickF rfl rfl)) rfl ?_
      refine L_nil ?_
      refine hK6 _ _ ?_
      refine T_true rfl ?_
      refine T_seq fun K7 hK7 => ?_
      refine T_region ?_
      refine L_y (y_assign rfl) rfl ?_
      refine L_nil ?_
      refine hK7 _ _ ?_
      refine T_ret ?_
      repeat (first | with_reducible refine up_then ?_ | with_reducible refine up_in ?_)
      refine ret1 rfl rfl ?_
      exact ⟨_, rfl, S1.like0, by unfold chkM; first | rw [if_pos (by omega)] | rw [if_neg (by omega), if_pos (by omega)] | rw [if_neg (by omega), if_neg (by omega), if_pos hnm] | rw [if_neg (by omega), if_neg (by omega), if_neg hnm, if_pos htm] | rw [if_neg (by omega), if_neg (by omega), if_neg hnm, if_neg htm]⟩
    ·
      refine L_gyes rfl rfl ?_
      refine L_y (y_fieldA 32 Try.underlying74 rfl sz3 rfl rfl rfl) rfl ?_
      refine L_gyes rfl rfl ?_
      refine L_y (y_ldc Try.underlying3 rfl rfl (((S1.blk 0 rfl).cell _).trans (mk32 x))) rfl ?_
      refine L_gyes rfl rfl ?_
      refine L_y (y_gtr rfl rfl) rfl ?_
      refine L_y ((by first | exact y_pickT rfl rfl | exact y_pickF rfl rfl)) rfl ?_
      refine L_nil ?_
      refine hK6 _ _ ?_
      refine T_cond rfl (fun h14 => ?_) (fun h14 => ?_)
      ·
        refine T_seq fun K8 hK8 => ?_
        refine T_region ?_
        refine L_y (y_assign rfl) rfl ?_
        refine L_nil ?_
        refine hK8 _ _ ?_
        refine T_ret ?_
        repeat (first | with_reducible refine up_then ?_ | with_reducible refine up_in ?_)
        refine ret1 rfl rfl ?_
        exact ⟨_, rfl, S1.like0, by unfold chkM; first | rw [if_pos (by omega)] | rw [if_neg (by omega), if_pos (by omega)] | rw [if_neg (by omega), if_neg (by omega), if_pos hnm] | rw [if_neg (by omega), if_neg (by omega), if_neg hnm, if_pos htm] | rw [if_neg (by omega), if_neg (by omega), if_neg hnm, if_neg htm]⟩
      ·
        refine T_skip ?_
        refine hK5 _ _ ?_
        refine T_seq fun K9 hK9 => ?_
        refine T_seq fun K10 hK10 => ?_
        refine T_region ?_
        refine L_y (y_fieldA 33 Try.underlying74 rfl sz9 rfl rfl rfl) rfl ?_
        refine L_y (y_ldc Try.underlying9 rfl rfl (((S1.blk 0 rfl).cell _).trans (mk33 x))) rfl ?_
        refine L_o (o_call Try.func61 rfl rfl (Tre.rname x.nm w1) rfl rfl ?_)
        rintro e3 w3 ⟨v3, rfl, l3, rfl⟩
        refine ⟨_, rfl, ?_⟩
        have S3 := S1.like l3
        refine L_y ((by first | exact y_notD rfl | exact y_not rfl)) rfl ?_
        refine L_nil ?_
        refine hK10 _ _ ?_
        refine T_condB rfl (fun h18 => ?_) (fun h18 => ?_)
        ·
          have hnm : nmOk x.nm = false := by simpa using h18
          refine T_seq fun K11 hK11 => ?_
          refine T_region ?_
          refine L_y (y_assign rfl) rfl ?_
          refine L_nil ?_
          refine hK11 _ _ ?_
          refine T_ret ?_
          repeat (first | with_reducible refine up_then ?_ | with_reducible refine up_in ?_)
          refine ret1 rfl rfl ?_
          exact ⟨_, rfl, S3.like0, by unfold chkM; first | rw [if_pos (by omega)] | rw [if_neg (by omega), if_pos (by omega)] | rw [if_neg (by omega), if_neg (by omega), if_pos hnm] | rw [if_neg (by omega), if_neg (by omega), if_neg hnm, if_pos htm] | rw [if_neg (by omega), if_neg (by omega), if_neg hnm, if_neg htm]⟩
        ·
          have hnm : ¬ nmOk x.nm = false := by simpa using h18
          refine T_skip ?_
          refine hK9 _ _ ?_
          refine T_seq fun K12 hK12 => ?_
          refine T_seq fun K13 hK13 => ?_
          refine T_region ?_
          refine L_y (y_fieldA 34 Try.underlying74 rfl sz3 rfl rfl rfl) rfl ?_
          refine L_y (y_ldc Try.underlying3 rfl rfl (((S3.blk 0 rfl).cell _).trans (mk34 x))) rfl ?_
          refine L_y (y_lss rfl rfl) rfl ?_
          refine L_y (y_move rfl) rfl ?_
          refine L_split 22 rfl (fun h22 => ?_) (fun h22 => ?_)
          ·
            refine L_gno rfl rfl rfl ?_
            refine L_gno rfl rfl rfl ?_
            refine L_gno rfl rfl rfl ?_
            refine L_y ((by first | exact y_pickT rfl rfl | exact y_pickF rfl rfl)) rfl ?_
            refine L_nil ?_
            refine hK13 _ _ ?_
            refine T_true rfl ?_
            refine T_seq fun K14 hK14 => ?_
            have htm : x.tm < 0 ∨ 1099511627776 < x.tm := by omega
            refine T_region ?_
            refine L_y (y_assign rfl) rfl ?_
            refine L_nil ?_
            refine hK14 _ _ ?_
            refine T_ret ?_
            repeat (first | with_reducible refine up_then ?_ | with_reducible refine up_in ?_)
            refine ret1 rfl rfl ?_
            exact ⟨_, rfl, S3.like0, by unfold chkM; first | rw [if_pos (by omega)] | rw [if_neg (by omega), if_pos (by omega)] | rw [if_neg (by omega), if_neg (by omega), if_pos hnm] | rw [if_neg (by omega), if_neg (by omega), if_neg hnm, if_pos htm] | rw [if_neg (by omega), if_neg (by omega), if_neg hnm, if_neg htm]⟩
          ·
            refine L_gyes rfl rfl ?_
            refine L_y (y_fieldA 34 Try.underlying74 rfl sz3 rfl rfl rfl) rfl ?_
            refine L_gyes rfl rfl ?_
            refine L_y (y_ldc Try.underlying3 rfl rfl (((S3.blk 0 rfl).cell _).trans (mk34 x))) rfl ?_
            refine L_gyes rfl rfl ?_
            refine L_y (y_gtr rfl rfl) rfl ?_
            refine L_y ((by first | exact y_pickT rfl rfl | exact y_pickF rfl rfl)) rfl ?_
            refine L_nil ?_
            refine hK13 _ _ ?_
            refine T_cond rfl (fun h26 => ?_) (fun h26 => ?_)
            ·
              refine T_seq fun K15 hK15 => ?_
              have htm : x.tm < 0 ∨ 1099511627776 < x.tm := by omega
              refine T_region ?_
              refine L_y (y_assign rfl) rfl ?_
              refine L_nil ?_
              refine hK15 _ _ ?_
              refine T_ret ?_
              repeat (first | with_reducible refine up_then ?_ | with_reducible refine up_in ?_)
              refine ret1 rfl rfl ?_
              exact ⟨_, rfl, S3.like0, by unfold chkM; first | rw [if_pos (by omega)] | rw [if_neg (by omega), if_pos (by omega)] | rw [if_neg (by omega), if_neg (by omega), if_pos hnm] | rw [if_neg (by omega), if_neg (by omega), if_neg hnm, if_pos htm] | rw [if_neg (by omega), if_neg (by omega), if_neg hnm, if_neg htm]⟩
            ·
              refine T_skip ?_
              refine hK12 _ _ ?_
              refine T_seq fun K16 hK16 => ?_
              have htm : ¬ (x.tm < 0 ∨ 1099511627776 < x.tm) := by omega
              refine T_region ?_
              refine L_y (y_assign rfl) rfl ?_
              refine L_nil ?_
              refine hK16 _ _ ?_
              refine T_ret ?_
              repeat (first | with_reducible refine up_then ?_ | with_reducible refine up_in ?_)
              refine ret1 rfl rfl ?_
              exact ⟨_, rfl, S3.like0, by unfold chkM; first | rw [if_pos (by omega)] | rw [if_neg (by omega), if_pos (by omega)] | rw [if_neg (by omega), if_neg (by omega), if_pos hnm] | rw [if_neg (by omega), if_neg (by omega), if_neg hnm, if_pos htm] | rw [if_neg (by omega), if_neg (by omega), if_neg hnm, if_neg htm]⟩


set_option maxRecDepth 100000 in
theorem putM (x : Mk) (w0 : World)  :
    Calls Try.prog 39 #[.agg (mkf x).toArray] w0 fun e w' => ∃ u, e = .returned u ∧ Like w0 w' ∧ ∃ B m d l e, u = .tuple #[.slice B m d, .int .i64 e] ∧ e = chkM x ∧ l = (if chkM x = 0 then markB x else []) ∧ Fr w0 w' 1 B m d (bL l) := by
  refine enter1 (env := [(0, .agg (mkf x).toArray)]) [.agg (mkf x).toArray] Try.func39 rfl Try.ntmps39 rfl rfl ?_
  have S0 := St.start w0 noM
  refine T_seq fun K1 hK1 => ?_
  refine T_region ?_
  refine L_o (o_box rfl S0 rfl fun b1 w1 hb1 S1 => ?_)
  refine L_y (y_assign rfl) rfl ?_
  refine L_y (y_assign rfl) rfl ?_
  refine L_nil ?_
  refine hK1 _ _ ?_
  refine T_seq fun K2 hK2 => ?_
  refine T_seq fun K3 hK3 => ?_
  refine T_region ?_
  refine L_y (y_ldW Try.underlying74 rfl sz74 rfl (S1.blk 0 rfl) (mk_whole x)) rfl ?_
  refine L_o (o_call Try.func43 rfl rfl (checkM x w1) rfl rfl ?_)
  rintro e2 w2 ⟨v2, rfl, l2, rfl⟩
  refine ⟨_, rfl, ?_⟩
  have S2 := S1.like l2
  refine L_y (y_assign rfl) rfl ?_
  refine L_nil ?_
  refine hK3 _ _ ?_
  refine T_seq fun K4 hK4 => ?_
  refine T_region ?_
  refine L_y (y_move rfl) rfl ?_
  refine L_y (y_neq rfl rfl) rfl ?_
  refine L_nil ?_
  refine hK4 _ _ ?_
  refine T_cond rfl (fun h9 => ?_) (fun h9 => ?_)
  ·
    refine T_seq fun K5 hK5 => ?_
    refine T_region ?_
    refine L_y (y_move rfl) rfl ?_
    refine L_y (y_assign rfl) rfl ?_
    refine L_y (y_assign rfl) rfl ?_
    refine L_nil ?_
    refine hK5 _ _ ?_
    refine T_ret ?_
    repeat (first | with_reducible refine up_then ?_ | with_reducible refine up_in ?_)
    refine ret2 rfl rfl rfl ?_
    exact ⟨_, rfl, S2.like0, none, 0, 0, [], chkM x, rfl, rfl, by rw [if_neg (fun e => h9 e)], ⟨Rs.nil _ 1, fun ad h => absurd h (by omega)⟩⟩
  ·
    have h0 : chkM x = 0 := Classical.not_not.1 h9
    obtain ⟨ht4, hk1, hk4, hnm, htm0, htm1⟩ := chkM_ok h0
    have haul := nm_size hnm
    have haul2 := nm_len hnm
    have hdl := digS_len (n := x.tm) (by omega)
    have hdk := digS_len (n := x.kd) (by omega)
    have htl : x.tx.data.toList.length ≤ 400 := by have h9 : x.tx.data.toList.length = x.tx.size := (by simp); omega
    refine T_skip ?_
    refine hK2 _ _ ?_
    refine T_seq fun K6 hK6 => ?_
    refine T_drawnL [(0, true), (1, true), (4, true), (5, true), (9, true), (10, true), (13, true), (14, true), (2, false), (3, false), (6, false), (7, false), (8, true), (11, false), (12, true), (15, false), (16, false), (17, true), (18, true)] hmix (by kernel_rfl) fun w3 l3 => ?_
    have S3 := S2.like l3
    refine DL_y rfl (y_fieldA 0 Try.underlying74 rfl sz23 rfl rfl rfl) rfl ?_
    refine DL_y rfl (y_ldW Try.underlying23 rfl sz23 rfl (S3.blk 0 rfl) (mk_ob x)) rfl ?_
    refine DL_y rfl (y_fieldA 32 Try.underlying74 rfl sz3 rfl rfl rfl) rfl ?_
    refine DL_y rfl (y_ldc Try.underlying3 rfl rfl (((S3.blk 0 rfl).cell _).trans (mk32 x))) rfl ?_
    refine DL_y rfl (y_fieldA 33 Try.underlying74 rfl sz9 rfl rfl rfl) rfl ?_
    refine DL_y rfl (y_ldc Try.underlying9 rfl rfl (((S3.blk 0 rfl).cell _).trans (mk33 x))) rfl ?_
    refine DL_y rfl (y_fieldA 34 Try.underlying74 rfl sz3 rfl rfl rfl) rfl ?_
    refine DL_y rfl (y_ldc Try.underlying3 rfl rfl (((S3.blk 0 rfl).cell _).trans (mk34 x))) rfl ?_
    refine DL_o rfl (o_call Try.func55 rfl rfl (hexN x.ob w3) rfl rfl ?_)
    rintro e4 w4 ⟨v4, rfl, l4, rfl⟩
    refine ⟨_, rfl, l4, ?_⟩
    have S4 := S3.like l4
    have q4 := l4
    refine DL_o rfl (o_call Try.func54 rfl rfl (linec wObject (hexL x.ob.l) w4 (by decide) (by have hq := hexI_len x.ob; omega)) rfl rfl ?_)
    rintro e5 w5 ⟨v5, rfl, l5, rfl⟩
    refine ⟨_, rfl, (Like.trans q4 l5), ?_⟩
    have S5 := S4.like l5
    have q5 := (Like.trans q4 l5)
    refine DL_o rfl (o_call Try.func21 rfl rfl (digits x.kd w5 (by omega)) rfl rfl ?_)
    rintro e6 w6 ⟨v6, rfl, l6, rfl⟩
    refine ⟨_, rfl, (Like.trans q5 l6), ?_⟩
    have S6 := S5.like l6
    have q6 := (Like.trans q5 l6)
    refine DL_o rfl (o_call Try.func54 rfl rfl (linec wKind (digS x.kd) w6 (by decide) (by have hq := hdk; omega)) rfl rfl ?_)
    rintro e7 w7 ⟨v7, rfl, l7, rfl⟩
    refine ⟨_, rfl, (Like.trans q6 l7), ?_⟩
    have S7 := S6.like l7
    have q7 := (Like.trans q6 l7)
    refine DL_y rfl (y_cat rfl rfl (by simp only [bsz, List.length_append, List.length_cons, List.length_nil, lineL_len, hexI_len, wObject_len, wKind_len, wName_len, wTime_len]; omega)) rfl ?_
    rw [strs_app]
    refine DL_o rfl (o_call Try.func54 rfl rfl (linec wName x.nm.data.toList w7 (by decide) (by omega)) rfl rfl ?_)
    rintro e8 w8 ⟨v8, rfl, l8, rfl⟩
    refine ⟨_, rfl, (Like.trans q7 l8), ?_⟩
    have S8 := S7.like l8
    have q8 := (Like.trans q7 l8)
    refine DL_y rfl (y_cat rfl rfl (by simp only [bsz, List.length_append, List.length_cons, List.length_nil, lineL_len, hexI_len, wObject_len, wKind_len, wName_len, wTime_len]; omega)) rfl ?_
    rw [strs_app]
    refine DL_o rfl (o_call Try.func21 rfl rfl (digits x.tm w8 (by omega)) rfl rfl ?_)
    rintro e9 w9 ⟨v9, rfl, l9, rfl⟩
    refine ⟨_, rfl, (Like.trans q8 l9), ?_⟩
    have S9 := S8.like l9
    have q9 := (Like.trans q8 l9)
    refine DL_o rfl (o_call Try.func54 rfl rfl (linec wTime (digS x.tm) w9 (by decide) (by have hq := hdl; omega)) rfl rfl ?_)
    rintro e10 w10 ⟨v10, rfl, l10, rfl⟩
    refine ⟨_, rfl, (Like.trans q9 l10), ?_⟩
    have S10 := S9.like l10
    have q10 := (Like.trans q9 l10)
    refine DL_y rfl (y_cat rfl rfl (by simp only [bsz, List.length_append, List.length_cons, List.length_nil, lineL_len, hexI_len, wObject_len, wKind_len, wName_len, wTime_len]; omega)) rfl ?_
    rw [strs_app]
    refine DL_y rfl (y_assign rfl) rfl ?_
    refine DL_nil ?_
    refine hK6 _ _ ?_
    refine T_seq fun K7 hK7 => ?_
    refine T_region ?_
    refine L_y (y_move rfl) rfl ?_
    refine L_y (y_cat rfl rfl (by simp only [bsz, List.length_append, List.length_cons, List.length_nil, lineL_len, hexI_len, wObject_len, wKind_len, wName_len, wTime_len]; omega)) rfl ?_
    rw [strs_app]
    refine L_y (y_fieldA 35 Try.underlying74 rfl sz9 rfl rfl rfl) rfl ?_
    refine L_y (y_ldc Try.underlying9 rfl rfl (((S10.blk 0 rfl).cell _).trans (mk35 x))) rfl ?_
    refine L_y (y_cat rfl rfl (by simp only [bsz, List.length_append, List.length_cons, List.length_nil, lineL_len, hexI_len, wObject_len, wKind_len, wName_len, wTime_len]; omega)) rfl ?_
    rw [strs_app2]
    refine L_o (o_sbytes Try.underlying9 Try.underlying27 Try.underlying5 rfl (by simp only [bsz, List.length_append, List.length_cons, List.length_nil, lineL_len, hexI_len, wObject_len, wKind_len, wName_len, wTime_len]; omega) S10 rfl fun b11 c11 w11 l11 S11 => ?_)
    refine L_y (y_assign rfl) rfl ?_
    refine L_y (y_assign rfl) rfl ?_
    refine L_nil ?_
    refine hK7 _ _ ?_
    refine T_ret ?_
    repeat (first | with_reducible refine up_then ?_ | with_reducible refine up_in ?_)
    refine ret2 rfl rfl rfl ?_
    exact ⟨_, rfl, S11.like0, _, _, _, _, 0, rfl, h0.symm, by rw [if_pos h0]; unfold markB; simp [lineL, wObject, wKind, wName, wTime], S11.fr 1 rfl⟩


set_option maxRecDepth 100000 in
theorem rputM (x : Mk) (w0 : World)  :
    Calls Try.prog 40 #[.agg (mkf x).toArray] w0 fun e w' => ∃ u, e = .returned u ∧ Like w0 w' ∧ ∃ B m d l e, u = .tuple #[.slice B m d, .int .i64 e] ∧ e = chkM x ∧ l = (if chkM x = 0 then markB x else []) ∧ Fr w0 w' 1 B m d (bL l) := by
  refine enter1 (env := [(0, .agg (mkf x).toArray)]) [.agg (mkf x).toArray] Try.func40 rfl Try.ntmps40 rfl rfl ?_
  have S0 := St.start w0 noM
  refine T_seq fun K1 hK1 => ?_
  refine T_region ?_
  refine L_o (o_box rfl S0 rfl fun b1 w1 hb1 S1 => ?_)
  refine L_y (y_assign rfl) rfl ?_
  refine L_y (y_assign rfl) rfl ?_
  refine L_nil ?_
  refine hK1 _ _ ?_
  refine T_seq fun K2 hK2 => ?_
  refine T_region ?_
  refine L_y (y_ldW Try.underlying74 rfl sz74 rfl (S1.blk 0 rfl) (mk_whole x)) rfl ?_
  refine L_o (o_call Try.func44 rfl rfl (rcheckM x w1) rfl rfl ?_)
  rintro e2 w2 ⟨v2, rfl, l2, rfl⟩
  refine ⟨_, rfl, ?_⟩
  have S2 := S1.like l2
  refine L_y (y_assign rfl) rfl ?_
  refine L_nil ?_
  refine hK2 _ _ ?_
  refine T_seq fun K3 hK3 => ?_
  refine T_seq fun K4 hK4 => ?_
  refine T_region ?_
  refine L_y (y_move rfl) rfl ?_
  refine L_y (y_neq rfl rfl) rfl ?_
  refine L_nil ?_
  refine hK4 _ _ ?_
  refine T_cond rfl (fun h9 => ?_) (fun h9 => ?_)
  ·
    refine T_seq fun K5 hK5 => ?_
    refine T_region ?_
    refine L_y (y_move rfl) rfl ?_
    refine L_y (y_assign rfl) rfl ?_
    refine L_y (y_assign rfl) rfl ?_
    refine L_nil ?_
    refine hK5 _ _ ?_
    refine T_ret ?_
    repeat (first | with_reducible refine up_then ?_ | with_reducible refine up_in ?_)
    refine ret2 rfl rfl rfl ?_
    exact ⟨_, rfl, S2.like0, none, 0, 0, [], chkM x, rfl, rfl, by rw [if_neg (fun e => h9 e)], ⟨Rs.nil _ 1, fun ad h => absurd h (by omega)⟩⟩
  ·
    have h0 : chkM x = 0 := Classical.not_not.1 h9
    obtain ⟨ht4, hk1, hk4, hnm, htm0, htm1⟩ := chkM_ok h0
    have haul := nm_size hnm
    have haul2 := nm_len hnm
    have hdl := digS_len (n := x.tm) (by omega)
    have hdk := digS_len (n := x.kd) (by omega)
    have htl : x.tx.data.toList.length ≤ 400 := by have h9 : x.tx.data.toList.length = x.tx.size := (by simp); omega
    refine T_skip ?_
    refine hK3 _ _ ?_
    refine T_seq fun K6 hK6 => ?_
    refine T_drawnL [(0, true), (1, true), (5, true), (6, true), (10, true), (11, true), (14, true), (15, true), (19, true), (20, true), (2, false), (3, true), (4, true), (7, false), (8, true), (9, true), (12, true), (13, true), (16, false), (17, true), (18, true), (21, true), (22, true)] hmix (by kernel_rfl) fun w3 l3 => ?_
    have S3 := S2.like l3
    refine DL_y rfl (y_fieldA 0 Try.underlying74 rfl sz23 rfl rfl rfl) rfl ?_
    refine DL_y rfl (y_ldW Try.underlying23 rfl sz23 rfl (S3.blk 0 rfl) (mk_ob x)) rfl ?_
    refine DL_y rfl (y_fieldA 32 Try.underlying74 rfl sz3 rfl rfl rfl) rfl ?_
    refine DL_y rfl (y_ldc Try.underlying3 rfl rfl (((S3.blk 0 rfl).cell _).trans (mk32 x))) rfl ?_
    refine DL_y rfl (y_fieldA 33 Try.underlying74 rfl sz9 rfl rfl rfl) rfl ?_
    refine DL_y rfl (y_ldc Try.underlying9 rfl rfl (((S3.blk 0 rfl).cell _).trans (mk33 x))) rfl ?_
    refine DL_y rfl (y_fieldA 34 Try.underlying74 rfl sz3 rfl rfl rfl) rfl ?_
    refine DL_y rfl (y_ldc Try.underlying3 rfl rfl (((S3.blk 0 rfl).cell _).trans (mk34 x))) rfl ?_
    refine DL_y rfl (y_fieldA 35 Try.underlying74 rfl sz9 rfl rfl rfl) rfl ?_
    refine DL_y rfl (y_ldc Try.underlying9 rfl rfl (((S3.blk 0 rfl).cell _).trans (mk35 x))) rfl ?_
    refine DL_o rfl (o_call Try.func57 rfl rfl (Oid.cRHex x.ob w3) rfl rfl ?_)
    rintro e4 w4 ⟨v4, rfl, l4, rfl⟩
    refine ⟨_, rfl, l4, ?_⟩
    have S4 := S3.like l4
    have q4 := l4
    refine DL_y rfl (y_cat rfl rfl (by simp only [bsz, List.length_append, List.length_cons, List.length_nil, lineL_len, hexI_len, wObject_len, wKind_len, wName_len, wTime_len]; omega)) rfl ?_
    rw [strs_app]
    refine DL_y rfl (y_cat rfl rfl (by simp only [bsz, List.length_append, List.length_cons, List.length_nil, lineL_len, hexI_len, wObject_len, wKind_len, wName_len, wTime_len]; omega)) rfl ?_
    rw [strs_app]
    refine DL_o rfl (o_call Try.func22 rfl rfl (rdigits x.kd w4 (by omega)) rfl rfl ?_)
    rintro e5 w5 ⟨v5, rfl, l5, rfl⟩
    refine ⟨_, rfl, (Like.trans q4 l5), ?_⟩
    have S5 := S4.like l5
    have q5 := (Like.trans q4 l5)
    refine DL_y rfl (y_cat rfl rfl (by simp only [bsz, List.length_append, List.length_cons, List.length_nil, lineL_len, hexI_len, wObject_len, wKind_len, wName_len, wTime_len]; omega)) rfl ?_
    rw [strs_app]
    refine DL_y rfl (y_cat rfl rfl (by simp only [bsz, List.length_append, List.length_cons, List.length_nil, lineL_len, hexI_len, wObject_len, wKind_len, wName_len, wTime_len]; omega)) rfl ?_
    rw [strs_app]
    refine DL_y rfl (y_cat rfl rfl (by simp only [bsz, List.length_append, List.length_cons, List.length_nil, lineL_len, hexI_len, wObject_len, wKind_len, wName_len, wTime_len]; omega)) rfl ?_
    rw [strs_app2]
    refine DL_y rfl (y_cat rfl rfl (by simp only [bsz, List.length_append, List.length_cons, List.length_nil, lineL_len, hexI_len, wObject_len, wKind_len, wName_len, wTime_len]; omega)) rfl ?_
    rw [strs_app]
    refine DL_o rfl (o_call Try.func22 rfl rfl (rdigits x.tm w5 (by omega)) rfl rfl ?_)
    rintro e6 w6 ⟨v6, rfl, l6, rfl⟩
    refine ⟨_, rfl, (Like.trans q5 l6), ?_⟩
    have S6 := S5.like l6
    have q6 := (Like.trans q5 l6)
    refine DL_y rfl (y_cat rfl rfl (by simp only [bsz, List.length_append, List.length_cons, List.length_nil, lineL_len, hexI_len, wObject_len, wKind_len, wName_len, wTime_len]; omega)) rfl ?_
    rw [strs_app]
    refine DL_y rfl (y_cat rfl rfl (by simp only [bsz, List.length_append, List.length_cons, List.length_nil, lineL_len, hexI_len, wObject_len, wKind_len, wName_len, wTime_len]; omega)) rfl ?_
    rw [strs_app]
    refine DL_y rfl (y_cat rfl rfl (by simp only [bsz, List.length_append, List.length_cons, List.length_nil, lineL_len, hexI_len, wObject_len, wKind_len, wName_len, wTime_len]; omega)) rfl ?_
    rw [strs_app2]
    refine DL_y rfl (y_assign rfl) rfl ?_
    refine DL_nil ?_
    refine hK6 _ _ ?_
    refine T_seq fun K7 hK7 => ?_
    refine T_region ?_
    refine L_y (y_move rfl) rfl ?_
    refine L_o (o_sbytes Try.underlying9 Try.underlying27 Try.underlying5 rfl (by simp only [bsz, List.length_append, List.length_cons, List.length_nil, lineL_len, hexI_len, wObject_len, wKind_len, wName_len, wTime_len]; omega) S6 rfl fun b7 c7 w7 l7 S7 => ?_)
    refine L_y (y_assign rfl) rfl ?_
    refine L_y (y_assign rfl) rfl ?_
    refine L_nil ?_
    refine hK7 _ _ ?_
    refine T_ret ?_
    repeat (first | with_reducible refine up_then ?_ | with_reducible refine up_in ?_)
    refine ret2 rfl rfl rfl ?_
    exact ⟨_, rfl, S7.like0, _, _, _, _, 0, rfl, h0.symm, by rw [if_pos h0]; unfold markB; simp [lineL, wObject, wKind, wName, wTime], S7.fr 1 rfl⟩
end Go.Proofs.Ytgaklngnfecdaaa.Rev


/-
  Reading a tag.
-/
namespace Go.Proofs.Ytgaklngnfecdaaa.Rev
open Go.RowKit Zk Zx
open Oid (idf hexL idf_len readR)
open Tre (nmOk)
set_option linter.unusedVariables false
set_option linter.unusedSimpArgs false

/-- What the lines of a tag say. -/
structure MkL where
  ob : Oid.Id
  kd : Nat
  nm : List UInt8
  tm : Nat
  tx : List UInt8
def mkOf (y : MkL) : Mk := ⟨y.ob, (y.kd : Int), ⟨y.nm.toArray⟩, (y.tm : Int), ⟨y.tx.toArray⟩⟩
def zML : MkL := ⟨⟨List.replicate 32 0, rfl⟩, 0, [], 0, []⟩
theorem zML_mk : mkOf zML = zMk := by kernel_rfl
def markR (s : List UInt8) : Option MkL :=
  (idR wObject s).bind fun o => (numbR wKind o.2).bind fun k => if 9 < k.1 then none else (lineR wName k.2).bind fun a => (numbR wTime a.2).bind fun n => (textR n.2).map fun x => ⟨o.1, k.1, a.1, n.1, x⟩
section
variable {s s1 s2 s3 s4 a x : List UInt8} {o : Oid.Id} {k n : Nat}
theorem m1 (h : idR wObject s = none) : markR s = none := by unfold markR; rw [h]; rfl
theorem m2 (h : idR wObject s = some (o, s1)) (hk : numbR wKind s1 = none) : markR s = none := by unfold markR; rw [h]; simp [hk]
theorem m3 (h : idR wObject s = some (o, s1)) (hk : numbR wKind s1 = some (k, s2)) (h9 : 9 < k) : markR s = none := by unfold markR; rw [h]; simp [hk, h9]
theorem m4 (h : idR wObject s = some (o, s1)) (hk : numbR wKind s1 = some (k, s2)) (ha : lineR wName s2 = none) : markR s = none := by
  unfold markR; rw [h]; by_cases h9 : 9 < k <;> simp [hk, h9, ha]
theorem m5 (h : idR wObject s = some (o, s1)) (hk : numbR wKind s1 = some (k, s2)) (ha : lineR wName s2 = some (a, s3)) (hn : numbR wTime s3 = none) : markR s = none := by
  unfold markR; rw [h]; by_cases h9 : 9 < k <;> simp [hk, h9, ha, hn]
theorem m6 (h : idR wObject s = some (o, s1)) (hk : numbR wKind s1 = some (k, s2)) (ha : lineR wName s2 = some (a, s3)) (hn : numbR wTime s3 = some (n, s4)) (hx : textR s4 = none) : markR s = none := by
  unfold markR; rw [h]; by_cases h9 : 9 < k <;> simp [hk, h9, ha, hn, hx]
theorem m7 (h : idR wObject s = some (o, s1)) (hk : numbR wKind s1 = some (k, s2)) (h9 : ¬ 9 < k) (ha : lineR wName s2 = some (a, s3)) (hn : numbR wTime s3 = some (n, s4)) (hx : textR s4 = some x) : markR s = some ⟨o, k, a, n, x⟩ := by
  unfold markR; rw [h]; simp [hk, h9, ha, hn, hx]
end
theorem stm (x : Mk) (t : Oid.Id) : ((mkf x).toArray.toList.take 0 ++ (idf t).toArray.toList ++ (mkf x).toArray.toList.drop (0 + (idf t).toArray.size)).toArray = (mkf { x with ob := t }).toArray := by
  simp only [List.take_zero, List.nil_append, List.size_toArray, idf_len, Nat.zero_add]
  congr 1
  show idf t ++ (mkf x).drop 32 = _
  unfold mkf
  rw [List.drop_append_of_le_length (by rw [idf_len]; omega), List.drop_of_length_le (by rw [idf_len]; omega), List.nil_append]
theorem stm_at (x : Mk) (k : Nat) (v : Value) (hk : k < 4) : (mkf x).toArray.setIfInBounds (32 + k) v = (idf x.ob ++ [Value.int .i64 x.kd, .string x.nm, .int .i64 x.tm, .string x.tx].set k v).toArray := by
  rw [List.setIfInBounds_toArray]
  congr 1
  unfold mkf
  rw [List.set_append_right _ _ (by rw [idf_len]; omega), idf_len, show 32 + k - 32 = k by omega]
theorem stm32 (x : Mk) (v : Int) : (mkf x).toArray.setIfInBounds 32 (.int .i64 v) = (mkf { x with kd := v }).toArray := stm_at x 0 _ (by omega)
theorem stm33 (x : Mk) (v : ByteArray) : (mkf x).toArray.setIfInBounds 33 (.string v) = (mkf { x with nm := v }).toArray := stm_at x 1 _ (by omega)
theorem stm34 (x : Mk) (v : Int) : (mkf x).toArray.setIfInBounds 34 (.int .i64 v) = (mkf { x with tm := v }).toArray := stm_at x 2 _ (by omega)
theorem stm35 (x : Mk) (v : ByteArray) : (mkf x).toArray.setIfInBounds 35 (.string v) = (mkf { x with tx := v }).toArray := stm_at x 3 _ (by omega)
/-- What GetMark answers. -/
def mcode (s : List UInt8) : Int := match markR s with
  | none => 12
  | some y => chkM (mkOf y)
def mval (s : List UInt8) : MkL := match markR s with
  | none => zML
  | some y => if chkM (mkOf y) = 0 then y else zML
theorem mo_some {s : List UInt8} {y : MkL} (h : markR s = some y) : mcode s = chkM (mkOf y) ∧ mval s = if chkM (mkOf y) = 0 then y else zML := by unfold mcode mval; rw [h]; exact ⟨rfl, rfl⟩
theorem mo_none {s : List UInt8} (h : markR s = none) : mcode s = 12 ∧ mval s = zML := by unfold mcode mval; rw [h]; exact ⟨rfl, rfl⟩
def kval (s : List UInt8) : MkL := (markR s).getD zML
def kcode (s : List UInt8) : Int := if (markR s).isSome then 0 else 12
theorem kcode_0 {s : List UInt8} (h : kcode s = 0) : markR s = some (kval s) := by
  unfold kcode at h
  unfold kval
  cases e : markR s with
  | none => rw [e] at h; cases h
  | some y => rfl
theorem kcode_n {s : List UInt8} (h : ¬ kcode s = 0) : markR s = none ∧ kcode s = 12 := by
  unfold kcode at h ⊢
  cases e : markR s with
  | none => exact ⟨rfl, rfl⟩
  | some y => rw [e] at h; exact absurd rfl h
theorem k_none {s : List UInt8} (h : markR s = none) : Value.tuple #[.agg (mkf zMk).toArray, .int .i64 12] = .tuple #[.agg (mkf (mkOf (kval s))).toArray, .int .i64 (kcode s)] := by
  rw [show kval s = zML by rw [kval, h]; rfl, show kcode s = 12 by rw [kcode, h]; rfl, zML_mk]
theorem k_some {s : List UInt8} {y : MkL} (h : markR s = some y) : Value.tuple #[.agg (mkf (mkOf y)).toArray, .int .i64 0] = .tuple #[.agg (mkf (mkOf (kval s))).toArray, .int .i64 (kcode s)] := by
  rw [show kval s = y by rw [kval, h]; rfl, show kcode s = 0 by rw [kcode, h]; rfl]


set_option maxRecDepth 100000 in
theorem mark (g : Nat) (s : List UInt8) (w0 : World) (hw : (rdR g s).holds w0) (hl : s.length ≤ 100000) :
    Calls Try.prog 87 #[.pointer (some ⟨g, 0, none⟩)] w0 fun e w' => ∃ u, e = .returned u ∧ ∃ s', Turned w0 w' (rdR g s) (rdR g s') ∧ u = .tuple #[.agg (mkf (mkOf (kval s))).toArray, .int .i64 (kcode s)] := by
  refine enterD1 (env := [(0, .pointer (some ⟨g, 0, none⟩))]) [.pointer (some ⟨g, 0, none⟩)] Try.func87 rfl Try.ntmps87 rfl rfl ?_
  have S0 := St.borrow1 (rdR g s) hw (rd_lt hw)
  refine T_seq fun K1 hK1 => ?_
  refine T_region ?_
  refine L_o (o_alloc zz74 S0 rfl fun b1 w1 hb1 S1 => ?_)
  refine L_o (o_alloc zz28 S1 rfl fun b2 w2 hb2 S2 => ?_)
  have S3 : Zx.St w0 (rdR g s).dom [rdR g s, blk b1 74 (mkf zMk).toArray, blk b2 28 #[Value.int .i64 0]] w2 := S2.cast (by kernel_rfl)
  have hne : b1 ≠ b2 := fun e => St.apart_ S3 1 2 rfl rfl rfl b1 rfl e
  refine L_nil ?_
  refine hK1 _ _ ?_
  refine T_seq fun K2 hK2 => ?_
  refine T_region ?_
  refine L_y (y_makeFunc rfl rfl) rfl ?_
  refine L_deferV rfl ?_
  refine L_nil ?_
  refine hK2 _ _ ?_
  refine T_seq fun K3 hK3 => ?_
  refine T_region ?_
  refine L_y (y_move rfl) rfl ?_
  refine L_o (o_callP Try.func125 rfl rfl (idr g s wObject w2 (S3.get 0 rfl) (by decide) (by omega)) rfl rfl ?_)
  rintro e4 w4 (⟨rfl, s9, T4, hno⟩ | ⟨v4, rfl, o, s1, hid, T4, rfl⟩)
  · exact .inr ⟨_, rfl, mark_pan rfl rfl rfl ((S3.turn 0 rfl T4).blk 1 rfl) (mkf_sz _) ((S3.turn 0 rfl T4).blk 2 rfl) hne (fun w' T' => ⟨_, rfl, _, (st_pan ((S3.turn 0 rfl T4).sel [0, 1, 2] (by decide)) T').turned1 0 rfl, k_none (m1 hno)⟩)⟩
  refine .inl ⟨_, rfl, ?_⟩
  have S4 := S3.turn 0 rfl T4
  have hl1 := idR_len hid
  refine L_y (y_fieldA 0 Try.underlying74 rfl sz23 rfl rfl rfl) rfl ?_
  refine L_o (o_stR S4 1 rfl rfl rfl (by rw [List.size_toArray, idf_len]; exact sz23) (by rw [List.size_toArray, idf_len, mkf_sz]; omega) (fun u hu => bL_one _ u (by rw [List.toList_toArray] at hu; exact hu)) fun w5 S5 => ?_)
  have S6 := S5.blkc 1 rfl (show _ = (mkf (⟨o, 0, ⟨#[]⟩, 0, ⟨#[]⟩⟩ : Mk)).toArray from stm zMk o)
  have S7 : Zx.St w0 (rdR g s).dom [rdR g s1, blk b1 74 (mkf (⟨o, 0, ⟨#[]⟩, 0, ⟨#[]⟩⟩ : Mk)).toArray, blk b2 28 #[Value.int .i64 0]] w5 := S6.cast (by kernel_rfl)
  refine L_nil ?_
  refine hK3 _ _ ?_
  refine T_seq fun K4 hK4 => ?_
  refine T_region ?_
  refine L_y (y_move rfl) rfl ?_
  refine L_o (o_callP Try.func128 rfl rfl (numb g s1 wKind w5 (S7.get 0 rfl) (by decide) (by omega)) rfl rfl ?_)
  rintro e8 w8 (⟨rfl, s9, T8, hno⟩ | ⟨v8, rfl, kd, s2, hkd, T8, rfl⟩)
  · exact .inr ⟨_, rfl, mark_pan rfl rfl rfl ((S7.turn 0 rfl T8).blk 1 rfl) (mkf_sz _) ((S7.turn 0 rfl T8).blk 2 rfl) hne (fun w' T' => ⟨_, rfl, _, (st_pan ((S7.turn 0 rfl T8).sel [0, 1, 2] (by decide)) T').turned1 0 rfl, k_none (m2 hid hno)⟩)⟩
  refine .inl ⟨_, rfl, ?_⟩
  have S8 := S7.turn 0 rfl T8
  have hl2 := (numbR_len hkd).1
  refine L_y (y_fieldA 32 Try.underlying74 rfl sz3 rfl rfl rfl) rfl ?_
  refine L_o (o_st1 S8 1 rfl rfl rfl rfl sz3 (by rw [mkf_sz]; omega) fun w9 S9 => ?_)
  have S10 := S9.blkc 1 rfl (show _ = (mkf (⟨o, (kd : Int), ⟨#[]⟩, 0, ⟨#[]⟩⟩ : Mk)).toArray from stm32 (⟨o, 0, ⟨#[]⟩, 0, ⟨#[]⟩⟩ : Mk) _)
  have S11 : Zx.St w0 (rdR g s).dom [rdR g s2, blk b1 74 (mkf (⟨o, (kd : Int), ⟨#[]⟩, 0, ⟨#[]⟩⟩ : Mk)).toArray, blk b2 28 #[Value.int .i64 0]] w9 := S10.cast (by kernel_rfl)
  refine L_nil ?_
  refine hK4 _ _ ?_
  refine T_seq fun K5 hK5 => ?_
  refine T_seq fun K6 hK6 => ?_
  refine T_region ?_
  refine L_y (y_fieldA 32 Try.underlying74 rfl sz3 rfl rfl rfl) rfl ?_
  refine L_y (y_ldc Try.underlying3 rfl rfl (((S11.blk 1 rfl).cell _).trans (mk32 _))) rfl ?_
  refine L_y (y_gtr rfl rfl) rfl ?_
  refine L_nil ?_
  refine hK6 _ _ ?_
  refine T_cond rfl (fun h13 => ?_) (fun h13 => ?_)
  ·
    have h9k : (9 : Int) < (kd : Int) := h13
    refine T_region ?_
    refine L_y (y_build rfl (show _ = some #[Value.int .i64 12] by kernel_rfl)) rfl ?_
    refine L_y (y_mkI (by kernel_rfl) rfl) rfl ?_
    refine L_panic rfl ?_
    exact mark_pan rfl rfl rfl (S11.blk 1 rfl) (mkf_sz _) (S11.blk 2 rfl) hne (fun w' T' => ⟨_, rfl, _, (st_pan (S11.sel [0, 1, 2] (by decide)) T').turned1 0 rfl, k_none (m3 hid hkd (by omega))⟩)
  ·
    have h9k : ¬ (9 : Int) < (kd : Int) := h13
    refine T_skip ?_
    refine hK5 _ _ ?_
    refine T_seq fun K7 hK7 => ?_
    refine T_region ?_
    refine L_y (y_move rfl) rfl ?_
    refine L_o (o_callP Try.func127 rfl rfl (take g s2 wName w9 (S11.get 0 rfl) (by decide) (by omega)) rfl rfl ?_)
    rintro e12 w12 (⟨rfl, T12, hno⟩ | ⟨v12, rfl, nm, s3, hnm, T12, rfl⟩)
    · exact .inr ⟨_, rfl, mark_pan rfl rfl rfl ((S11.turn 0 rfl T12).blk 1 rfl) (mkf_sz _) ((S11.turn 0 rfl T12).blk 2 rfl) hne (fun w' T' => ⟨_, rfl, _, (st_pan ((S11.turn 0 rfl T12).sel [0, 1, 2] (by decide)) T').turned1 0 rfl, k_none (m4 hid hkd hno)⟩)⟩
    refine .inl ⟨_, rfl, ?_⟩
    have S12 := S11.turn 0 rfl T12
    have hl3 := lineR_len2 hnm
    refine L_y (y_fieldA 33 Try.underlying74 rfl sz9 rfl rfl rfl) rfl ?_
    refine L_o (o_st1 S12 1 rfl rfl rfl rfl sz9 (by rw [mkf_sz]; omega) fun w13 S13 => ?_)
    have S14 := S13.blkc 1 rfl (show _ = (mkf (⟨o, (kd : Int), ⟨nm.toArray⟩, 0, ⟨#[]⟩⟩ : Mk)).toArray from stm33 (⟨o, (kd : Int), ⟨#[]⟩, 0, ⟨#[]⟩⟩ : Mk) _)
    have S15 : Zx.St w0 (rdR g s).dom [rdR g s3, blk b1 74 (mkf (⟨o, (kd : Int), ⟨nm.toArray⟩, 0, ⟨#[]⟩⟩ : Mk)).toArray, blk b2 28 #[Value.int .i64 0]] w13 := S14.cast (by kernel_rfl)
    refine L_nil ?_
    refine hK7 _ _ ?_
    refine T_seq fun K8 hK8 => ?_
    refine T_region ?_
    refine L_y (y_move rfl) rfl ?_
    refine L_o (o_callP Try.func128 rfl rfl (numb g s3 wTime w13 (S15.get 0 rfl) (by decide) (by omega)) rfl rfl ?_)
    rintro e16 w16 (⟨rfl, s9, T16, hno⟩ | ⟨v16, rfl, tm, s4, htm, T16, rfl⟩)
    · exact .inr ⟨_, rfl, mark_pan rfl rfl rfl ((S15.turn 0 rfl T16).blk 1 rfl) (mkf_sz _) ((S15.turn 0 rfl T16).blk 2 rfl) hne (fun w' T' => ⟨_, rfl, _, (st_pan ((S15.turn 0 rfl T16).sel [0, 1, 2] (by decide)) T').turned1 0 rfl, k_none (m5 hid hkd hnm hno)⟩)⟩
    refine .inl ⟨_, rfl, ?_⟩
    have S16 := S15.turn 0 rfl T16
    have hl4 := (numbR_len htm).1
    refine L_y (y_fieldA 34 Try.underlying74 rfl sz3 rfl rfl rfl) rfl ?_
    refine L_o (o_st1 S16 1 rfl rfl rfl rfl sz3 (by rw [mkf_sz]; omega) fun w17 S17 => ?_)
    have S18 := S17.blkc 1 rfl (show _ = (mkf (⟨o, (kd : Int), ⟨nm.toArray⟩, (tm : Int), ⟨#[]⟩⟩ : Mk)).toArray from stm34 (⟨o, (kd : Int), ⟨nm.toArray⟩, 0, ⟨#[]⟩⟩ : Mk) _)
    have S19 : Zx.St w0 (rdR g s).dom [rdR g s4, blk b1 74 (mkf (⟨o, (kd : Int), ⟨nm.toArray⟩, (tm : Int), ⟨#[]⟩⟩ : Mk)).toArray, blk b2 28 #[Value.int .i64 0]] w17 := S18.cast (by kernel_rfl)
    refine L_nil ?_
    refine hK8 _ _ ?_
    refine T_seq fun K9 hK9 => ?_
    refine T_region ?_
    refine L_y (y_move rfl) rfl ?_
    refine L_o (o_callP Try.func129 rfl rfl (text_ g s4 w17 (S19.get 0 rfl)) rfl rfl ?_)
    rintro e20 w20 (⟨rfl, T20, hno⟩ | ⟨v20, rfl, tx, htx, T20, rfl⟩)
    · exact .inr ⟨_, rfl, mark_pan rfl rfl rfl ((S19.turn 0 rfl T20).blk 1 rfl) (mkf_sz _) ((S19.turn 0 rfl T20).blk 2 rfl) hne (fun w' T' => ⟨_, rfl, _, (st_pan ((S19.turn 0 rfl T20).sel [0, 1, 2] (by decide)) T').turned1 0 rfl, k_none (m6 hid hkd hnm htm hno)⟩)⟩
    refine .inl ⟨_, rfl, ?_⟩
    have S20 := S19.turn 0 rfl T20
    refine L_y (y_fieldA 35 Try.underlying74 rfl sz9 rfl rfl rfl) rfl ?_
    refine L_o (o_st1 S20 1 rfl rfl rfl rfl sz9 (by rw [mkf_sz]; omega) fun w21 S21 => ?_)
    have S22 := S21.blkc 1 rfl (show _ = (mkf (⟨o, (kd : Int), ⟨nm.toArray⟩, (tm : Int), ⟨tx.toArray⟩⟩ : Mk)).toArray from stm35 (⟨o, (kd : Int), ⟨nm.toArray⟩, (tm : Int), ⟨#[]⟩⟩ : Mk) _)
    have S23 : Zx.St w0 (rdR g s).dom [rdR g s4, blk b1 74 (mkf (⟨o, (kd : Int), ⟨nm.toArray⟩, (tm : Int), ⟨tx.toArray⟩⟩ : Mk)).toArray, blk b2 28 #[Value.int .i64 0]] w21 := S22.cast (by kernel_rfl)
    refine L_nil ?_
    refine hK9 _ _ ?_
    refine T_seq fun K10 hK10 => ?_
    refine T_region ?_
    refine L_y (y_ldW Try.underlying74 rfl sz74 rfl (S23.blk 1 rfl) (mk_whole _)) rfl ?_
    refine L_o (o_stW S23 1 rfl rfl rfl (by rw [mkf_sz]; exact sz74) (by rw [mkf_sz]) (fun u hu => mkf_one _ u (by rw [List.toList_toArray] at hu; exact hu)) fun w24 S24 => ?_)
    refine L_o (o_st1 S24 2 rfl rfl rfl rfl sz28 (by simp; done) fun w25 S25 => ?_)
    refine L_nil ?_
    refine hK10 _ _ ?_
    refine T_ret ?_
    repeat (first | with_reducible refine up_then ?_ | with_reducible refine up_in ?_)
    refine mark_ret rfl rfl rfl (S25.blk 1 rfl) (mkf_sz _) (S25.blk 2 rfl) ?_
    intro w' l'
    exact ⟨_, rfl, _, (S25.like l').turned1 0 rfl, k_some (y := ⟨o, kd, nm, tm, tx⟩) (m7 hid hkd (by omega) hnm htm htx)⟩
end Go.Proofs.Ytgaklngnfecdaaa.Rev


/-
  '==' on structs of any plain fields. General; nothing here names a program.
-/
namespace Go.Proofs.Ytgaklngnfecdaaa.Zx
open Go.RowKit Zk
set_option linter.unusedVariables false
set_option linter.unusedSimpArgs false
section
variable {P : Program}
/-- What '==' says of one field. -/
def FE (P : Program) (d : Nat) (xs ys : Array Value) (f : Field) (b : Bool) : Prop :=
  f.name ≠ "_" ∧ ∃ vx vy, (∀ w, (part f.type xs f.offset).run P w = .ok vx w) ∧ (∀ w, (part f.type ys f.offset).run P w = .ok vy w) ∧ (∀ w, (Op.equalIn d f.type vx vy).run P w = .ok b w)
inductive EqFs (P : Program) (d : Nat) (xs ys : Array Value) : List Field → Bool → Prop
  | nil : EqFs P d xs ys [] true
  | cons {f : Field} {fs : List Field} {b r : Bool} : FE P d xs ys f b → EqFs P d xs ys fs r → EqFs P d xs ys (f :: fs) (b && r)
theorem EqFs.run {d : Nat} {xs ys : Array Value} : ∀ {fs : List Field} {r : Bool}, EqFs P d xs ys fs r → ∀ w, (Op.eqFields d xs ys fs).run P w = .ok r w
  | _, _, .nil, w => rfl
  | _, _, .cons (f := f) (fs := fs) (b := b) (r := r) ⟨hn, vx, vy, h1, h2, h3⟩ h, w => by
    rw [Op.eqFields, if_pos hn, Sem.run_bind, h1 w, Result.andThen_ok, Sem.run_bind, h2 w, Result.andThen_ok, Sem.run_bind, h3 w, Result.andThen_ok]
    cases b with
    | true =>
      simp only [Bool.not_true, Bool.false_eq_true, if_false]
      rw [h.run w]
      rfl
    | false =>
      simp only [Bool.not_false, if_true, Sem.run_pure]
      rfl
theorem run_part_one {t : TypeId} {cs : Array Value} {o : Nat} {v : Value} (ha : ∀ w, (isAgg t).run P w = .ok false w) (hv : cs[o]? = some v) (w : World) : (part t cs o).run P w = .ok v w := by
  unfold part
  rw [Sem.run_bind, ha w]
  simp only [Result.andThen_ok, Bool.false_eq_true, if_false, hv, Sem.run_pure]
theorem run_part_agg {t : TypeId} {cs vs : Array Value} {o n : Nat} (ha : ∀ w, (isAgg t).run P w = .ok true w) (hs : ∀ w, (sizeOf t).run P w = .ok n w) (hv : cs.extract o (o + n) = vs) (w : World) : (part t cs o).run P w = .ok (.agg vs) w := by
  unfold part
  rw [Sem.run_bind, ha w]
  simp only [Result.andThen_ok, if_true, Sem.run_bind, hs w, Sem.run_pure, hv]
theorem FE_str {d : Nat} {xs ys : Array Value} {f : Field} {a b : ByteArray} (hn : f.name ≠ "_") (ht : P.underlying f.type = some .string) (hx : xs[f.offset]? = some (.string a)) (hy : ys[f.offset]? = some (.string b)) : FE P (d + 1) xs ys f (decide (a = b)) := by
  have ha : ∀ w, (isAgg f.type).run P w = .ok false w := fun w => by unfold isAgg; rw [Sem.run_bind, run_underlying ht w]; rfl
  refine ⟨hn, _, _, run_part_one ha hx, run_part_one ha hy, fun w => ?_⟩
  simp only [Op.equalIn, Sem.run_bind, run_underlying ht, Result.andThen_ok, Sem.run_pure]
  congr 1
  rw [beq_toListBytes, beq_str]
theorem FE_int {d : Nat} {xs ys : Array Value} {f : Field} {k : IntKind} {a b : Int} (hn : f.name ≠ "_") (ht : P.underlying f.type = some (.int k)) (hx : xs[f.offset]? = some (.int k a)) (hy : ys[f.offset]? = some (.int k b)) : FE P (d + 1) xs ys f (decide (a = b)) := by
  refine ⟨hn, _, _, run_part_int ht hx, run_part_int ht hy, fun w => ?_⟩
  rw [run_equalIn_int w d _ _ _ _ _ ht]
  congr 1
theorem FE_bytes {d n : Nat} {xs ys : Array Value} {f : Field} {e : TypeId} {a b : List UInt8} (hn : f.name ≠ "_") (ht : P.underlying f.type = some (.array n e)) (he : P.underlying e = some (.int .u8)) (hs : (P.info? e).map (·.size) = some 1) (hsz : ∀ w, (sizeOf f.type).run P w = .ok n w) (ha : a.length = n) (hb : b.length = n)
    (hx : xs.extract f.offset (f.offset + n) = bA a) (hy : ys.extract f.offset (f.offset + n) = bA b) : FE P (d + 2) xs ys f (decide (a = b)) := by
  have hag : ∀ w, (isAgg f.type).run P w = .ok true w := fun w => by unfold isAgg; rw [Sem.run_bind, run_underlying ht w]; rfl
  refine ⟨hn, _, _, run_part_agg hag hsz hx, run_part_agg hag hsz hy, fun w => ?_⟩
  rw [run_equalIn_bytes w d ht he hs a b ha hb _ _ (bA_get a) (bA_get b)]
  congr 1
  by_cases h : a = b <;> simp [h]
variable {S : World → Prop} {env : Env} {dst : Option Tmp} {ty : TypeId} {pos : String} {after : Array Edge} {g : Option (Nat × Bool)}
theorem y_eqS {x y : Operand} {t u : TypeId} {fs : Array Field} {xs ys : Array Value} {r : Bool} (ht : P.underlying t = some (.struct fs)) (hp : P.stoodInHeld t = false) (hm : P.eqGuardType P.depth t = false) (hf : EqFs P 9999 xs ys fs.toList r) (hx : ev env x = some (.agg xs)) (hy : ev env y = some (.agg ys)) :
    Y P S env ⟨dst, .binOp .eql t x y u, ty, pos, after, g⟩ (.bool r) := fun N a w ha _ => by
  have h1 := run_eql_struct (P := P) w t xs ys
  have e : P.fieldsOf t = fs := by simp [Program.fieldsOf, ht]
  rw [run_equalIn_struct w 9999 t _ _ (by rw [e]; exact ht) hp, e, hf.run w, Result.andThen_ok] at h1
  simp only [execOp, ha.eval hx, ha.eval hy, Sem.run_bind, eqGuard_run .eql x y _ _ hm w, Result.andThen_ok, h1, Sem.run_pure]
end
end Go.Proofs.Ytgaklngnfecdaaa.Zx


/-
  GetMark.
-/
namespace Go.Proofs.Ytgaklngnfecdaaa.Rev
open Go.RowKit Zk Zx
open Oid (idf hexL idf_len readR)
open Tre (nmOk)
set_option linter.unusedVariables false
set_option linter.unusedSimpArgs false

def meq (x y : Mk) : Bool := decide (x.ob.l = y.ob.l) && (decide (x.kd = y.kd) && (decide (x.nm = y.nm) && (decide (x.tm = y.tm) && (decide (x.tx = y.tx) && true))))
theorem meq_refl (x : Mk) : meq x x = true := by simp [meq]
theorem mk_id (x : Mk) : (mkf x).toArray.extract 0 (0 + 32) = bA x.ob.l := by
  apply Array.ext'
  rw [Array.toList_extract]
  simp only [mkf, bA]
  rw [List.extract_eq_take_drop]
  show List.take 32 (bL x.ob.l ++ _) = bL x.ob.l
  rw [List.take_append_of_le_length (by rw [length_bL, x.ob.h]; exact Nat.le_refl _)]
  exact List.take_of_length_le (by rw [length_bL, x.ob.h]; exact Nat.le_refl _)
theorem mk_eq (x y : Mk) {fs : Array Field} (hfs : Try.prog.underlying 74 = some (.struct fs)) : EqFs Try.prog 9999 (mkf x).toArray (mkf y).toArray fs.toList (meq x y) := by
  have h2 := Try.underlying74
  rw [hfs] at h2
  injection h2 with h2
  injection h2 with h2
  subst h2
  unfold meq
  exact .cons (FE_bytes (by decide) Try.underlying23 Try.underlying5 sz5 Try.sizeOf23 x.ob.h y.ob.h (mk_id x) (mk_id y)) (.cons (FE_int (by decide) Try.underlying3 (mk32 x) (mk32 y)) (.cons (FE_str (by decide) Try.underlying9 (mk33 x) (mk33 y)) (.cons (FE_int (by decide) Try.underlying3 (mk34 x) (mk34 y)) (.cons (FE_str (by decide) Try.underlying9 (mk35 x) (mk35 y)) .nil))))
theorem get_outM {w0 w : World} {s : List UInt8} (l : Like w0 w) (h : markR s = none) : ∃ u, Ending.returned (.tuple #[.agg (mkf zMk).toArray, .int .i64 12]) = .returned u ∧ Like w0 w ∧ u = .tuple #[.agg (mkf (mkOf (mval s))).toArray, .int .i64 (mcode s)] := by
  have hgo := mo_none h
  rw [hgo.1, hgo.2, zML_mk]
  exact ⟨_, rfl, l, rfl⟩


set_option maxRecDepth 100000 in
theorem getM (B : Option Addr) (m d : Nat) (s : List UInt8) (w0 : World) (hb : Rs w0 1 B m d (bL s)) (hl : s.length ≤ 2000) :
    Calls Try.prog 41 #[.slice B m d] w0 fun e w' => ∃ u, e = .returned u ∧ Like w0 w' ∧ u = .tuple #[.agg (mkf (mkOf (mval s))).toArray, .int .i64 (mcode s)] := by
  refine enter1 (env := [(0, .slice B m d)]) [.slice B m d] Try.func41 rfl Try.ntmps41 rfl rfl ?_
  have S0 := St.start w0 noM
  refine T_seq fun K1 hK1 => ?_
  refine T_region ?_
  refine L_o (o_alloc zz74 S0 rfl fun b1 w1 hb1 S1 => ?_)
  refine L_y (y_assign rfl) rfl ?_
  refine L_nil ?_
  refine hK1 _ _ ?_
  refine T_seq fun K2 hK2 => ?_
  refine T_region ?_
  refine L_y (y_move rfl) rfl ?_
  refine L_y (y_bstr Try.underlying27 Try.underlying5 Try.underlying9 rfl (by first | exact S1.rd hb)) rfl ?_
  refine L_y (y_build rfl (show _ = some #[Value.string ⟨s.toArray⟩] by kernel_rfl)) rfl ?_
  refine L_o (o_box rfl S1 rfl fun b2 w2 hb2 S2 => ?_)
  have S3 : Zx.St w0 noM [blk b1 74 (mkf zMk).toArray, rdR b2 s] w2 := S2.cast (by kernel_rfl)
  refine L_y (y_assign rfl) rfl ?_
  refine L_nil ?_
  refine hK2 _ _ ?_
  refine T_seq fun K3 hK3 => ?_
  refine T_region ?_
  refine L_y (y_move rfl) rfl ?_
  refine L_o (o_call Try.func87 rfl rfl (mark b2 s w2 (S3.get 1 rfl) (by omega)) rfl rfl ?_)
  rintro e4 w4 ⟨v4, rfl, s9, T4, rfl⟩
  refine ⟨_, rfl, ?_⟩
  have S4 := S3.turn 1 rfl T4
  refine L_y (y_move rfl) rfl ?_
  refine L_y (y_extract rfl rfl) rfl ?_
  refine L_y (y_extract rfl rfl) rfl ?_
  refine L_o (o_alloc zz74 S4 rfl fun b5 w5 hb5 S5 => ?_)
  refine L_o (o_stW S5 2 rfl rfl rfl (by rw [mkf_sz]; exact sz74) (by first | (rw [mkf_sz]; done) | (rw [mkf_sz]; rfl)) (fun u hu => mkf_one _ u (by rw [List.toList_toArray] at hu; exact hu)) fun w6 S6 => ?_)
  refine L_y (y_assign rfl) rfl ?_
  refine L_nil ?_
  refine hK3 _ _ ?_
  refine T_seq fun K4 hK4 => ?_
  refine T_seq fun K5 hK5 => ?_
  refine T_region ?_
  refine L_y (y_move rfl) rfl ?_
  refine L_y (y_eql rfl rfl) rfl ?_
  refine L_nil ?_
  refine hK5 _ _ ?_
  refine T_cond rfl (fun h17 => ?_) (fun h17 => ?_)
  ·
    have hg := kcode_0 h17
    refine T_region ?_
    refine L_y (y_ldW Try.underlying74 rfl sz74 rfl (S6.blk 2 rfl) (mk_whole _)) rfl ?_
    refine L_o (o_call Try.func43 rfl rfl (checkM (mkOf (kval s)) w6) rfl rfl ?_)
    rintro e7 w7 ⟨v7, rfl, l7, rfl⟩
    refine ⟨_, rfl, ?_⟩
    have S7 := S6.like l7
    refine L_y (y_assign rfl) rfl ?_
    refine L_nil ?_
    refine hK4 _ _ ?_
    refine T_seq fun K6 hK6 => ?_
    refine T_seq fun K7 hK7 => ?_
    refine T_region ?_
    refine L_y (y_move rfl) rfl ?_
    refine L_y (y_neq rfl rfl) rfl ?_
    refine L_nil ?_
    refine hK7 _ _ ?_
    refine T_cond rfl (fun h21 => ?_) (fun h21 => ?_)
    ·
      refine T_seq fun K8 hK8 => ?_
      refine T_region ?_
      refine L_y (y_build rfl (show _ = some (mkf zMk).toArray by kernel_rfl)) rfl ?_
      refine L_y (y_move rfl) rfl ?_
      refine L_o (o_stW S7 0 rfl rfl rfl (by rw [mkf_sz]; exact sz74) (by first | (rw [mkf_sz]; done) | (rw [mkf_sz]; rfl)) (fun u hu => mkf_one _ u (by rw [List.toList_toArray] at hu; exact hu)) fun w8 S8 => ?_)
      refine L_y (y_assign rfl) rfl ?_
      refine L_nil ?_
      refine hK8 _ _ ?_
      refine T_ret ?_
      repeat (first | with_reducible refine up_then ?_ | with_reducible refine up_in ?_)
      refine retct rfl rfl rfl (S8.blk 0 rfl) Try.underlying74 rfl (by rw [mkf_sz]; exact sz74) ?_
      have hgo := mo_some hg
      have hv : mval s = zML := by rw [hgo.2, if_neg (show ¬ chkM (mkOf (kval s)) = 0 from fun e => h21 e)]
      rw [hv, hgo.1, zML_mk]
      exact ⟨_, rfl, S8.like0, rfl⟩
    ·
      refine T_skip ?_
      refine hK6 _ _ ?_
      refine T_seq fun K9 hK9 => ?_
      refine T_region ?_
      refine L_y (y_ldW Try.underlying74 rfl sz74 rfl (S7.blk 2 rfl) (mk_whole _)) rfl ?_
      refine L_o (o_stW S7 0 rfl rfl rfl (by rw [mkf_sz]; exact sz74) (by first | (rw [mkf_sz]; done) | (rw [mkf_sz]; rfl)) (fun u hu => mkf_one _ u (by rw [List.toList_toArray] at hu; exact hu)) fun w9 S9 => ?_)
      refine L_y (y_assign rfl) rfl ?_
      refine L_nil ?_
      refine hK9 _ _ ?_
      refine T_ret ?_
      repeat (first | with_reducible refine up_then ?_ | with_reducible refine up_in ?_)
      refine retct rfl rfl rfl (S9.blk 0 rfl) Try.underlying74 rfl (by rw [mkf_sz]; exact sz74) ?_
      have hgo := mo_some hg
      have h0 : chkM (mkOf (kval s)) = 0 := Classical.byContradiction fun e => h21 e
      have hv : mval s = kval s := by rw [hgo.2, if_pos h0]
      rw [hv, hgo.1, h0]
      exact ⟨_, rfl, S9.like0, rfl⟩
  ·
    have hg := kcode_n h17
    refine T_skip ?_
    refine hK4 _ _ ?_
    refine T_seq fun K10 hK10 => ?_
    refine T_seq fun K11 hK11 => ?_
    refine T_region ?_
    refine L_y (y_move rfl) rfl ?_
    refine L_y (y_neq rfl rfl) rfl ?_
    refine L_nil ?_
    refine hK11 _ _ ?_
    refine T_cond rfl (fun h21 => ?_) (fun h21 => ?_)
    ·
      refine T_seq fun K12 hK12 => ?_
      refine T_region ?_
      refine L_y (y_build rfl (show _ = some (mkf zMk).toArray by kernel_rfl)) rfl ?_
      refine L_y (y_move rfl) rfl ?_
      refine L_o (o_stW S6 0 rfl rfl rfl (by rw [mkf_sz]; exact sz74) (by first | (rw [mkf_sz]; done) | (rw [mkf_sz]; rfl)) (fun u hu => mkf_one _ u (by rw [List.toList_toArray] at hu; exact hu)) fun w10 S10 => ?_)
      refine L_y (y_assign rfl) rfl ?_
      refine L_nil ?_
      refine hK12 _ _ ?_
      refine T_ret ?_
      repeat (first | with_reducible refine up_then ?_ | with_reducible refine up_in ?_)
      refine retct rfl rfl rfl (S10.blk 0 rfl) Try.underlying74 rfl (by rw [mkf_sz]; exact sz74) ?_
      have hgo := mo_none hg.1
      have hv : mval s = zML := hgo.2
      rw [hv, hgo.1, zML_mk]
      exact ⟨_, rfl, S10.like0, by show Value.tuple #[.agg (mkf zMk).toArray, .int .i64 (kcode s)] = _; rw [hg.2]⟩
    ·
      refine T_skip ?_
      refine hK10 _ _ ?_
      refine T_seq fun K13 hK13 => ?_
      refine T_region ?_
      refine L_y (y_ldW Try.underlying74 rfl sz74 rfl (S6.blk 2 rfl) (mk_whole _)) rfl ?_
      refine L_o (o_stW S6 0 rfl rfl rfl (by rw [mkf_sz]; exact sz74) (by first | (rw [mkf_sz]; done) | (rw [mkf_sz]; rfl)) (fun u hu => mkf_one _ u (by rw [List.toList_toArray] at hu; exact hu)) fun w11 S11 => ?_)
      refine L_y (y_assign rfl) rfl ?_
      refine L_nil ?_
      refine hK13 _ _ ?_
      refine T_ret ?_
      repeat (first | with_reducible refine up_then ?_ | with_reducible refine up_in ?_)
      refine retct rfl rfl rfl (S11.blk 0 rfl) Try.underlying74 rfl (by rw [mkf_sz]; exact sz74) ?_
      exact absurd hg.2 (fun e => h21 (by rw [e]; decide))


set_option maxRecDepth 100000 in
theorem rgetM (B : Option Addr) (m d : Nat) (s : List UInt8) (w0 : World) (hb : Rs w0 1 B m d (bL s)) (hl : s.length ≤ 2000) :
    Calls Try.prog 42 #[.slice B m d] w0 fun e w' => ∃ u, e = .returned u ∧ Like w0 w' ∧ u = .tuple #[.agg (mkf (mkOf (mval s))).toArray, .int .i64 (mcode s)] := by
  refine enter1 (env := [(0, .slice B m d)]) [.slice B m d] Try.func42 rfl Try.ntmps42 rfl rfl ?_
  have S0 := St.start w0 noM
  refine T_seq fun K1 hK1 => ?_
  refine T_region ?_
  refine L_o (o_alloc zz74 S0 rfl fun b1 w1 hb1 S1 => ?_)
  refine L_y (y_assign rfl) rfl ?_
  refine L_nil ?_
  refine hK1 _ _ ?_
  refine T_seq fun K2 hK2 => ?_
  refine T_region ?_
  refine L_o (o_alloc zz74 S1 rfl fun b2 w2 hb2 S2 => ?_)
  have S3 : Zx.St w0 noM [blk b1 74 (mkf zMk).toArray, blk b2 74 (mkf zMk).toArray] w2 := S2.cast (by kernel_rfl)
  refine L_nil ?_
  refine hK2 _ _ ?_
  refine T_seq fun K3 hK3 => ?_
  refine T_region ?_
  refine L_y (y_move rfl) rfl ?_
  refine L_y (y_bstr Try.underlying27 Try.underlying5 Try.underlying9 rfl (by first | exact S3.rd hb)) rfl ?_
  refine L_o (o_call Try.func84 rfl rfl (rline s wObject w2 (by omega) (by decide)) rfl rfl ?_)
  rintro e4 w4 ⟨v4, rfl, l4, hu4⟩
  refine ⟨_, rfl, ?_⟩
  have S4 := S3.like l4
  obtain ⟨ta, s1, f1, hvf1, h1f1, h0f1, hlf1, hmf1⟩ := lineV_b wObject s
  rw [hvf1] at hu4
  subst hu4
  refine L_y (y_move rfl) rfl ?_
  refine L_y (y_extract rfl rfl) rfl ?_
  refine L_y (y_extract rfl rfl) rfl ?_
  refine L_y (y_extract rfl rfl) rfl ?_
  refine L_y (y_assign rfl) rfl ?_
  refine L_y (y_assign rfl) rfl ?_
  refine L_y (y_assign rfl) rfl ?_
  refine L_nil ?_
  refine hK3 _ _ ?_
  refine T_seq fun K4 hK4 => ?_
  refine T_region ?_
  refine L_y (y_move rfl) rfl ?_
  refine L_o (o_call Try.func85 rfl rfl (rreadN ta w4) rfl rfl ?_)
  rintro e5 w5 ⟨v5, rfl, l5, o, ho, rfl⟩
  refine ⟨_, rfl, ?_⟩
  have S5 := S4.like l5
  refine L_y (y_move rfl) rfl ?_
  refine L_y (y_extract rfl rfl) rfl ?_
  refine L_y (y_extract rfl rfl) rfl ?_
  refine L_o (o_alloc zz23 S5 rfl fun b6 w6 hb6 S6 => ?_)
  refine L_o (o_stW S6 2 rfl rfl rfl (by rw [List.size_toArray, idf_len]; exact sz23) (by rw [List.size_toArray, idf_len]; simp [Value.cells, idf_len]) (fun u hu => bL_one _ u (by rw [List.toList_toArray] at hu; exact hu)) fun w7 S7 => ?_)
  refine L_y (y_assign rfl) rfl ?_
  refine L_nil ?_
  refine hK4 _ _ ?_
  refine T_seq fun K5 hK5 => ?_
  refine T_seq fun K6 hK6 => ?_
  refine T_region ?_
  refine L_y (y_move rfl) rfl ?_
  refine L_y ((by first | exact y_notD rfl | exact y_not rfl)) rfl ?_
  refine L_y (y_move rfl) rfl ?_
  refine L_splitB 29 rfl (fun h29 => ?_) (fun h29 => ?_)
  ·
    refine L_gno rfl rfl rfl ?_
    refine L_gno rfl rfl rfl ?_
    refine L_y ((by first | exact y_pickT rfl rfl | exact y_pickF rfl rfl)) rfl ?_
    refine L_nil ?_
    refine hK6 _ _ ?_
    refine T_true rfl ?_
    refine T_seq fun K7 hK7 => ?_
    refine T_region ?_
    refine L_y (y_build rfl (show _ = some (mkf zMk).toArray by kernel_rfl)) rfl ?_
    refine L_o (o_stW S7 0 rfl rfl rfl (by rw [mkf_sz]; exact sz74) (by first | (rw [mkf_sz]; done) | (rw [mkf_sz]; rfl)) (fun u hu => mkf_one _ u (by rw [List.toList_toArray] at hu; exact hu)) fun w9 S9 => ?_)
    refine L_y (y_assign rfl) rfl ?_
    refine L_nil ?_
    refine hK7 _ _ ?_
    refine T_ret ?_
    repeat (first | with_reducible refine up_then ?_ | with_reducible refine up_in ?_)
    refine retct rfl rfl rfl (S9.blk 0 rfl) Try.underlying74 rfl (by rw [mkf_sz]; exact sz74) ?_
    exact get_outM S9.like0 (m1 (id_bad h1f1 h0f1 (by first | exact .inl (by simpa using h29) | exact .inr h32)))
  ·
    refine L_gyes rfl rfl ?_
    refine L_y (y_move rfl) rfl ?_
    refine L_gyes rfl rfl ?_
    refine L_y (y_neq rfl rfl) rfl ?_
    refine L_y ((by first | exact y_pickT rfl rfl | exact y_pickF rfl rfl)) rfl ?_
    refine L_nil ?_
    refine hK6 _ _ ?_
    refine T_cond rfl (fun h32 => ?_) (fun h32 => ?_)
    ·
      refine T_seq fun K8 hK8 => ?_
      refine T_region ?_
      refine L_y (y_build rfl (show _ = some (mkf zMk).toArray by kernel_rfl)) rfl ?_
      refine L_o (o_stW S7 0 rfl rfl rfl (by rw [mkf_sz]; exact sz74) (by first | (rw [mkf_sz]; done) | (rw [mkf_sz]; rfl)) (fun u hu => mkf_one _ u (by rw [List.toList_toArray] at hu; exact hu)) fun w10 S10 => ?_)
      refine L_y (y_assign rfl) rfl ?_
      refine L_nil ?_
      refine hK8 _ _ ?_
      refine T_ret ?_
      repeat (first | with_reducible refine up_then ?_ | with_reducible refine up_in ?_)
      refine retct rfl rfl rfl (S10.blk 0 rfl) Try.underlying74 rfl (by rw [mkf_sz]; exact sz74) ?_
      exact get_outM S10.like0 (m1 (id_bad h1f1 h0f1 (by first | exact .inl (by simpa using h29) | exact .inr h32)))
    ·
      have hid := id_good ho h1f1 (by simpa using h29) (Classical.byContradiction fun e => h32 e)
      have hl1 := hmf1 (by simpa using h29)
      refine T_skip ?_
      refine hK5 _ _ ?_
      refine T_seq fun K9 hK9 => ?_
      refine T_region ?_
      refine L_y (y_ldW Try.underlying23 rfl sz23 rfl (S7.blk 2 rfl) (⟨by rw [List.drop_zero]; exact List.take_of_length_le (by simp [idf_len]), by rw [idf_len]⟩ : _ = idf _ ∧ _)) rfl ?_
      refine L_y (y_fieldA 0 Try.underlying74 rfl sz23 rfl rfl rfl) rfl ?_
      refine L_o (o_stR S7 1 rfl rfl rfl (by rw [List.size_toArray, idf_len]; exact sz23) (by rw [List.size_toArray, idf_len, mkf_sz]; omega) (fun u hu => bL_one _ u (by rw [List.toList_toArray] at hu; exact hu)) fun w11 S11 => ?_)
      have S12 := S11.blkc 1 rfl (show _ = (mkf (⟨o, 0, ⟨#[]⟩, 0, ⟨#[]⟩⟩ : Mk)).toArray from stm zMk o)
      have S13 : Zx.St w0 noM [blk b1 74 (mkf zMk).toArray, blk b2 74 (mkf (⟨o, 0, ⟨#[]⟩, 0, ⟨#[]⟩⟩ : Mk)).toArray, blk b6 23 (idf o).toArray] w11 := S12.cast (by kernel_rfl)
      refine L_nil ?_
      refine hK9 _ _ ?_
      refine T_seq fun K10 hK10 => ?_
      refine T_region ?_
      refine L_y (y_move rfl) rfl ?_
      refine L_o (o_call Try.func84 rfl rfl (rline s1 wKind w11 (by omega) (by decide)) rfl rfl ?_)
      rintro e14 w14 ⟨v14, rfl, l14, hu14⟩
      refine ⟨_, rfl, ?_⟩
      have S14 := S13.like l14
      obtain ⟨tk, s2, f2, hvf2, h1f2, h0f2, hlf2, hmf2⟩ := lineV_b wKind s1
      rw [hvf2] at hu14
      subst hu14
      refine L_y (y_move rfl) rfl ?_
      refine L_y (y_extract rfl rfl) rfl ?_
      refine L_y (y_extract rfl rfl) rfl ?_
      refine L_y (y_extract rfl rfl) rfl ?_
      refine L_y (y_assign rfl) rfl ?_
      refine L_y (y_assign rfl) rfl ?_
      refine L_y (y_assign rfl) rfl ?_
      refine L_nil ?_
      refine hK10 _ _ ?_
      refine T_seq fun K11 hK11 => ?_
      refine T_region ?_
      refine L_y (y_move rfl) rfl ?_
      refine L_o (o_call Try.func17 rfl rfl (rnumber ⟨tk.toArray⟩ w14) rfl rfl ?_)
      rintro e15 w15 ⟨v15, rfl, l15, hu15⟩
      refine ⟨_, rfl, ?_⟩
      have S15 := S14.like l15
      obtain ⟨va1, vb1, hnv1, hnc1⟩ := numR_b tk
      have hnw1 : numR (⟨tk.toArray⟩ : ByteArray).data.toList = .tuple #[.int .i64 va1, .int .i64 vb1] := hnv1
      rw [hnw1] at hu15
      subst hu15
      refine L_y (y_move rfl) rfl ?_
      refine L_y (y_extract rfl rfl) rfl ?_
      refine L_y (y_extract rfl rfl) rfl ?_
      refine L_y (y_assign rfl) rfl ?_
      refine L_y (y_assign rfl) rfl ?_
      refine L_nil ?_
      refine hK11 _ _ ?_
      refine T_seq fun K12 hK12 => ?_
      refine T_seq fun K13 hK13 => ?_
      refine T_region ?_
      refine L_y (y_move rfl) rfl ?_
      refine L_y ((by first | exact y_notD rfl | exact y_not rfl)) rfl ?_
      refine L_y (y_move rfl) rfl ?_
      refine L_splitB 49 rfl (fun h49 => ?_) (fun h49 => ?_)
      ·
        refine L_gno rfl rfl rfl ?_
        refine L_gno rfl rfl rfl ?_
        refine L_y ((by first | exact y_pickT rfl rfl | exact y_pickF rfl rfl)) rfl ?_
        refine L_y (y_move rfl) rfl ?_
        refine L_gno rfl rfl rfl ?_
        refine L_gno rfl rfl rfl ?_
        refine L_y ((by first | exact y_pickT rfl rfl | exact y_pickF rfl rfl)) rfl ?_
        refine L_nil ?_
        refine hK13 _ _ ?_
        refine T_true rfl ?_
        refine T_seq fun K14 hK14 => ?_
        refine T_region ?_
        refine L_y (y_build rfl (show _ = some (mkf zMk).toArray by kernel_rfl)) rfl ?_
        refine L_o (o_stW S15 0 rfl rfl rfl (by rw [mkf_sz]; exact sz74) (by first | (rw [mkf_sz]; done) | (rw [mkf_sz]; rfl)) (fun u hu => mkf_one _ u (by rw [List.toList_toArray] at hu; exact hu)) fun w17 S17 => ?_)
        refine L_y (y_assign rfl) rfl ?_
        refine L_nil ?_
        refine hK14 _ _ ?_
        refine T_ret ?_
        repeat (first | with_reducible refine up_then ?_ | with_reducible refine up_in ?_)
        refine retct rfl rfl rfl (S17.blk 0 rfl) Try.underlying74 rfl (by rw [mkf_sz]; exact sz74) ?_
        first | exact get_outM S17.like0 (m2 hid (numb_bad h1f2 h0f2 (.inl (by simpa using h49)))) | exact get_outM S17.like0 (m2 hid (numb_bad h1f2 h0f2 (.inr (hnc1.resolve_left (fun h => h53 h.1)).2))) | exact get_outM S17.like0 (m3 hid (numb_good h1f2 (by simpa using h49) (hnc1.resolve_right (fun h => h53 (by omega))).2.1) (by have h8 := (hnc1.resolve_right (fun h => h53 (by omega))).2.2; omega))
      ·
        refine L_gyes rfl rfl ?_
        refine L_y (y_move rfl) rfl ?_
        refine L_gyes rfl rfl ?_
        refine L_y (y_neq rfl rfl) rfl ?_
        refine L_y ((by first | exact y_pickT rfl rfl | exact y_pickF rfl rfl)) rfl ?_
        refine L_y (y_move rfl) rfl ?_
        refine L_split 53 rfl (fun h53 => ?_) (fun h53 => ?_)
        ·
          refine L_gno rfl rfl rfl ?_
          refine L_gno rfl rfl rfl ?_
          refine L_y ((by first | exact y_pickT rfl rfl | exact y_pickF rfl rfl)) rfl ?_
          refine L_nil ?_
          refine hK13 _ _ ?_
          refine T_true rfl ?_
          refine T_seq fun K15 hK15 => ?_
          refine T_region ?_
          refine L_y (y_build rfl (show _ = some (mkf zMk).toArray by kernel_rfl)) rfl ?_
          refine L_o (o_stW S15 0 rfl rfl rfl (by rw [mkf_sz]; exact sz74) (by first | (rw [mkf_sz]; done) | (rw [mkf_sz]; rfl)) (fun u hu => mkf_one _ u (by rw [List.toList_toArray] at hu; exact hu)) fun w19 S19 => ?_)
          refine L_y (y_assign rfl) rfl ?_
          refine L_nil ?_
          refine hK15 _ _ ?_
          refine T_ret ?_
          repeat (first | with_reducible refine up_then ?_ | with_reducible refine up_in ?_)
          refine retct rfl rfl rfl (S19.blk 0 rfl) Try.underlying74 rfl (by rw [mkf_sz]; exact sz74) ?_
          first | exact get_outM S19.like0 (m2 hid (numb_bad h1f2 h0f2 (.inl (by simpa using h49)))) | exact get_outM S19.like0 (m2 hid (numb_bad h1f2 h0f2 (.inr (hnc1.resolve_left (fun h => h53 h.1)).2))) | exact get_outM S19.like0 (m3 hid (numb_good h1f2 (by simpa using h49) (hnc1.resolve_right (fun h => h53 (by omega))).2.1) (by have h8 := (hnc1.resolve_right (fun h => h53 (by omega))).2.2; omega))
        ·
          refine L_gyes rfl rfl ?_
          refine L_y (y_move rfl) rfl ?_
          refine L_gyes rfl rfl ?_
          refine L_y (y_gtr rfl rfl) rfl ?_
          refine L_y ((by first | exact y_pickT rfl rfl | exact y_pickF rfl rfl)) rfl ?_
          refine L_nil ?_
          refine hK13 _ _ ?_
          refine T_cond rfl (fun h56 => ?_) (fun h56 => ?_)
          ·
            refine T_seq fun K16 hK16 => ?_
            refine T_region ?_
            refine L_y (y_build rfl (show _ = some (mkf zMk).toArray by kernel_rfl)) rfl ?_
            refine L_o (o_stW S15 0 rfl rfl rfl (by rw [mkf_sz]; exact sz74) (by first | (rw [mkf_sz]; done) | (rw [mkf_sz]; rfl)) (fun u hu => mkf_one _ u (by rw [List.toList_toArray] at hu; exact hu)) fun w20 S20 => ?_)
            refine L_y (y_assign rfl) rfl ?_
            refine L_nil ?_
            refine hK16 _ _ ?_
            refine T_ret ?_
            repeat (first | with_reducible refine up_then ?_ | with_reducible refine up_in ?_)
            refine retct rfl rfl rfl (S20.blk 0 rfl) Try.underlying74 rfl (by rw [mkf_sz]; exact sz74) ?_
            first | exact get_outM S20.like0 (m2 hid (numb_bad h1f2 h0f2 (.inl (by simpa using h49)))) | exact get_outM S20.like0 (m2 hid (numb_bad h1f2 h0f2 (.inr (hnc1.resolve_left (fun h => h53 h.1)).2))) | exact get_outM S20.like0 (m3 hid (numb_good h1f2 (by simpa using h49) (hnc1.resolve_right (fun h => h53 (by omega))).2.1) (by have h8 := (hnc1.resolve_right (fun h => h53 (by omega))).2.2; omega))
          ·
            obtain ⟨hvb1, hok1, rfl⟩ := hnc1.resolve_right (fun h => h53 (by omega))
            have hkd := numb_good h1f2 (by simpa using h49) hok1
            have hl2 := hmf2 (by simpa using h49)
            have h9k : ¬ 9 < numV tk := by omega
            refine T_skip ?_
            refine hK12 _ _ ?_
            refine T_seq fun K17 hK17 => ?_
            refine T_region ?_
            refine L_y (y_move rfl) rfl ?_
            refine L_y (y_fieldA 32 Try.underlying74 rfl sz3 rfl rfl rfl) rfl ?_
            refine L_o (o_st1 S15 1 rfl rfl rfl rfl sz3 (by rw [mkf_sz]; omega) fun w21 S21 => ?_)
            have S22 := S21.blkc 1 rfl (show _ = (mkf (⟨o, (numV tk : Int), ⟨#[]⟩, 0, ⟨#[]⟩⟩ : Mk)).toArray from stm32 (⟨o, 0, ⟨#[]⟩, 0, ⟨#[]⟩⟩ : Mk) _)
            have S23 : Zx.St w0 noM [blk b1 74 (mkf zMk).toArray, blk b2 74 (mkf (⟨o, (numV tk : Int), ⟨#[]⟩, 0, ⟨#[]⟩⟩ : Mk)).toArray, blk b6 23 (idf o).toArray] w21 := S22.cast (by kernel_rfl)
            refine L_nil ?_
            refine hK17 _ _ ?_
            refine T_seq fun K18 hK18 => ?_
            refine T_region ?_
            refine L_y (y_move rfl) rfl ?_
            refine L_o (o_call Try.func84 rfl rfl (rline s2 wName w21 (by omega) (by decide)) rfl rfl ?_)
            rintro e24 w24 ⟨v24, rfl, l24, hu24⟩
            refine ⟨_, rfl, ?_⟩
            have S24 := S23.like l24
            obtain ⟨nm, s3, f3, hvf3, h1f3, h0f3, hlf3, hmf3⟩ := lineV_b wName s2
            rw [hvf3] at hu24
            subst hu24
            refine L_y (y_move rfl) rfl ?_
            refine L_y (y_extract rfl rfl) rfl ?_
            refine L_y (y_extract rfl rfl) rfl ?_
            refine L_y (y_extract rfl rfl) rfl ?_
            refine L_y (y_assign rfl) rfl ?_
            refine L_y (y_assign rfl) rfl ?_
            refine L_y (y_assign rfl) rfl ?_
            refine L_nil ?_
            refine hK18 _ _ ?_
            refine T_seq fun K19 hK19 => ?_
            refine T_seq fun K20 hK20 => ?_
            refine T_region ?_
            refine L_y (y_move rfl) rfl ?_
            refine L_y ((by first | exact y_notD rfl | exact y_not rfl)) rfl ?_
            refine L_nil ?_
            refine hK20 _ _ ?_
            refine T_condB rfl (fun h67 => ?_) (fun h67 => ?_)
            ·
              refine T_seq fun K21 hK21 => ?_
              refine T_region ?_
              refine L_y (y_build rfl (show _ = some (mkf zMk).toArray by kernel_rfl)) rfl ?_
              refine L_o (o_stW S24 0 rfl rfl rfl (by rw [mkf_sz]; exact sz74) (by first | (rw [mkf_sz]; done) | (rw [mkf_sz]; rfl)) (fun u hu => mkf_one _ u (by rw [List.toList_toArray] at hu; exact hu)) fun w25 S25 => ?_)
              refine L_y (y_assign rfl) rfl ?_
              refine L_nil ?_
              refine hK21 _ _ ?_
              refine T_ret ?_
              repeat (first | with_reducible refine up_then ?_ | with_reducible refine up_in ?_)
              refine retct rfl rfl rfl (S25.blk 0 rfl) Try.underlying74 rfl (by rw [mkf_sz]; exact sz74) ?_
              exact get_outM S25.like0 (m4 hid hkd (h0f3 (by simpa using h67)))
            ·
              have hnm := h1f3 (by simpa using h67)
              have hl3 := hmf3 (by simpa using h67)
              refine T_skip ?_
              refine hK19 _ _ ?_
              refine T_seq fun K22 hK22 => ?_
              refine T_region ?_
              refine L_y (y_move rfl) rfl ?_
              refine L_y (y_fieldA 33 Try.underlying74 rfl sz9 rfl rfl rfl) rfl ?_
              refine L_o (o_st1 S24 1 rfl rfl rfl rfl sz9 (by rw [mkf_sz]; omega) fun w26 S26 => ?_)
              have S27 := S26.blkc 1 rfl (show _ = (mkf (⟨o, (numV tk : Int), ⟨nm.toArray⟩, 0, ⟨#[]⟩⟩ : Mk)).toArray from stm33 (⟨o, (numV tk : Int), ⟨#[]⟩, 0, ⟨#[]⟩⟩ : Mk) _)
              have S28 : Zx.St w0 noM [blk b1 74 (mkf zMk).toArray, blk b2 74 (mkf (⟨o, (numV tk : Int), ⟨nm.toArray⟩, 0, ⟨#[]⟩⟩ : Mk)).toArray, blk b6 23 (idf o).toArray] w26 := S27.cast (by kernel_rfl)
              refine L_nil ?_
              refine hK22 _ _ ?_
              refine T_seq fun K23 hK23 => ?_
              refine T_region ?_
              refine L_y (y_move rfl) rfl ?_
              refine L_o (o_call Try.func84 rfl rfl (rline s3 wTime w26 (by omega) (by decide)) rfl rfl ?_)
              rintro e29 w29 ⟨v29, rfl, l29, hu29⟩
              refine ⟨_, rfl, ?_⟩
              have S29 := S28.like l29
              obtain ⟨tn, s4, f4, hvf4, h1f4, h0f4, hlf4, hmf4⟩ := lineV_b wTime s3
              rw [hvf4] at hu29
              subst hu29
              refine L_y (y_move rfl) rfl ?_
              refine L_y (y_extract rfl rfl) rfl ?_
              refine L_y (y_extract rfl rfl) rfl ?_
              refine L_y (y_extract rfl rfl) rfl ?_
              refine L_y (y_assign rfl) rfl ?_
              refine L_y (y_assign rfl) rfl ?_
              refine L_y (y_assign rfl) rfl ?_
              refine L_nil ?_
              refine hK23 _ _ ?_
              refine T_seq fun K24 hK24 => ?_
              refine T_region ?_
              refine L_y (y_move rfl) rfl ?_
              refine L_o (o_call Try.func17 rfl rfl (rnumber ⟨tn.toArray⟩ w29) rfl rfl ?_)
              rintro e30 w30 ⟨v30, rfl, l30, hu30⟩
              refine ⟨_, rfl, ?_⟩
              have S30 := S29.like l30
              obtain ⟨va2, vb2, hnv2, hnc2⟩ := numR_b tn
              have hnw2 : numR (⟨tn.toArray⟩ : ByteArray).data.toList = .tuple #[.int .i64 va2, .int .i64 vb2] := hnv2
              rw [hnw2] at hu30
              subst hu30
              refine L_y (y_move rfl) rfl ?_
              refine L_y (y_extract rfl rfl) rfl ?_
              refine L_y (y_extract rfl rfl) rfl ?_
              refine L_y (y_assign rfl) rfl ?_
              refine L_y (y_assign rfl) rfl ?_
              refine L_nil ?_
              refine hK24 _ _ ?_
              refine T_seq fun K25 hK25 => ?_
              refine T_seq fun K26 hK26 => ?_
              refine T_region ?_
              refine L_y (y_move rfl) rfl ?_
              refine L_y ((by first | exact y_notD rfl | exact y_not rfl)) rfl ?_
              refine L_y (y_move rfl) rfl ?_
              refine L_splitB 84 rfl (fun h84 => ?_) (fun h84 => ?_)
              ·
                refine L_gno rfl rfl rfl ?_
                refine L_gno rfl rfl rfl ?_
                refine L_y ((by first | exact y_pickT rfl rfl | exact y_pickF rfl rfl)) rfl ?_
                refine L_y (y_move rfl) rfl ?_
                refine L_gno rfl rfl rfl ?_
                refine L_gno rfl rfl rfl ?_
                refine L_y ((by first | exact y_pickT rfl rfl | exact y_pickF rfl rfl)) rfl ?_
                refine L_y (y_move rfl) rfl ?_
                refine L_gno rfl rfl rfl ?_
                refine L_gno rfl rfl rfl ?_
                refine L_gno rfl rfl rfl ?_
                refine L_y ((by first | exact y_pickT rfl rfl | exact y_pickF rfl rfl)) rfl ?_
                refine L_nil ?_
                refine hK26 _ _ ?_
                refine T_true rfl ?_
                refine T_seq fun K27 hK27 => ?_
                refine T_region ?_
                refine L_y (y_build rfl (show _ = some (mkf zMk).toArray by kernel_rfl)) rfl ?_
                refine L_o (o_stW S30 0 rfl rfl rfl (by rw [mkf_sz]; exact sz74) (by first | (rw [mkf_sz]; done) | (rw [mkf_sz]; rfl)) (fun u hu => mkf_one _ u (by rw [List.toList_toArray] at hu; exact hu)) fun w32 S32 => ?_)
                refine L_y (y_assign rfl) rfl ?_
                refine L_nil ?_
                refine hK27 _ _ ?_
                refine T_ret ?_
                repeat (first | with_reducible refine up_then ?_ | with_reducible refine up_in ?_)
                refine retct rfl rfl rfl (S32.blk 0 rfl) Try.underlying74 rfl (by rw [mkf_sz]; exact sz74) ?_
                first | exact get_outM S32.like0 (m5 hid hkd hnm (numb_bad h1f4 h0f4 (.inl (by simpa using h84)))) | exact get_outM S32.like0 (m5 hid hkd hnm (numb_bad h1f4 h0f4 (.inr (hnc2.resolve_left (fun h => h88 h.1)).2))) | exact get_outM S32.like0 (m6 hid hkd hnm (numb_good h1f4 (by simpa using h84) (hnc2.resolve_right (fun h => h88 (by omega))).2.1) (by first | exact textR_n h96 | exact textR_e h92))
              ·
                refine L_gyes rfl rfl ?_
                refine L_y (y_move rfl) rfl ?_
                refine L_gyes rfl rfl ?_
                refine L_y (y_neq rfl rfl) rfl ?_
                refine L_y ((by first | exact y_pickT rfl rfl | exact y_pickF rfl rfl)) rfl ?_
                refine L_y (y_move rfl) rfl ?_
                refine L_split 88 rfl (fun h88 => ?_) (fun h88 => ?_)
                ·
                  refine L_gno rfl rfl rfl ?_
                  refine L_gno rfl rfl rfl ?_
                  refine L_y ((by first | exact y_pickT rfl rfl | exact y_pickF rfl rfl)) rfl ?_
                  refine L_y (y_move rfl) rfl ?_
                  refine L_gno rfl rfl rfl ?_
                  refine L_gno rfl rfl rfl ?_
                  refine L_gno rfl rfl rfl ?_
                  refine L_y ((by first | exact y_pickT rfl rfl | exact y_pickF rfl rfl)) rfl ?_
                  refine L_nil ?_
                  refine hK26 _ _ ?_
                  refine T_true rfl ?_
                  refine T_seq fun K28 hK28 => ?_
                  refine T_region ?_
                  refine L_y (y_build rfl (show _ = some (mkf zMk).toArray by kernel_rfl)) rfl ?_
                  refine L_o (o_stW S30 0 rfl rfl rfl (by rw [mkf_sz]; exact sz74) (by first | (rw [mkf_sz]; done) | (rw [mkf_sz]; rfl)) (fun u hu => mkf_one _ u (by rw [List.toList_toArray] at hu; exact hu)) fun w34 S34 => ?_)
                  refine L_y (y_assign rfl) rfl ?_
                  refine L_nil ?_
                  refine hK28 _ _ ?_
                  refine T_ret ?_
                  repeat (first | with_reducible refine up_then ?_ | with_reducible refine up_in ?_)
                  refine retct rfl rfl rfl (S34.blk 0 rfl) Try.underlying74 rfl (by rw [mkf_sz]; exact sz74) ?_
                  first | exact get_outM S34.like0 (m5 hid hkd hnm (numb_bad h1f4 h0f4 (.inl (by simpa using h84)))) | exact get_outM S34.like0 (m5 hid hkd hnm (numb_bad h1f4 h0f4 (.inr (hnc2.resolve_left (fun h => h88 h.1)).2))) | exact get_outM S34.like0 (m6 hid hkd hnm (numb_good h1f4 (by simpa using h84) (hnc2.resolve_right (fun h => h88 (by omega))).2.1) (by first | exact textR_n h96 | exact textR_e h92))
                ·
                  refine L_gyes rfl rfl ?_
                  refine L_y (y_move rfl) rfl ?_
                  refine L_gyes rfl rfl ?_
                  refine L_y (y_seql rfl rfl) rfl ?_
                  refine L_y ((by first | exact y_pickT rfl rfl | exact y_pickF rfl rfl)) rfl ?_
                  refine L_y (y_move rfl) rfl ?_
                  refine L_split 92 rfl (fun h92 => ?_) (fun h92 => ?_)
                  ·
                    refine L_gno rfl rfl rfl ?_
                    refine L_gno rfl rfl rfl ?_
                    refine L_gno rfl rfl rfl ?_
                    refine L_y ((by first | exact y_pickT rfl rfl | exact y_pickF rfl rfl)) rfl ?_
                    refine L_nil ?_
                    refine hK26 _ _ ?_
                    refine T_true rfl ?_
                    refine T_seq fun K29 hK29 => ?_
                    refine T_region ?_
                    refine L_y (y_build rfl (show _ = some (mkf zMk).toArray by kernel_rfl)) rfl ?_
                    refine L_o (o_stW S30 0 rfl rfl rfl (by rw [mkf_sz]; exact sz74) (by first | (rw [mkf_sz]; done) | (rw [mkf_sz]; rfl)) (fun u hu => mkf_one _ u (by rw [List.toList_toArray] at hu; exact hu)) fun w36 S36 => ?_)
                    refine L_y (y_assign rfl) rfl ?_
                    refine L_nil ?_
                    refine hK29 _ _ ?_
                    refine T_ret ?_
                    repeat (first | with_reducible refine up_then ?_ | with_reducible refine up_in ?_)
                    refine retct rfl rfl rfl (S36.blk 0 rfl) Try.underlying74 rfl (by rw [mkf_sz]; exact sz74) ?_
                    first | exact get_outM S36.like0 (m5 hid hkd hnm (numb_bad h1f4 h0f4 (.inl (by simpa using h84)))) | exact get_outM S36.like0 (m5 hid hkd hnm (numb_bad h1f4 h0f4 (.inr (hnc2.resolve_left (fun h => h88 h.1)).2))) | exact get_outM S36.like0 (m6 hid hkd hnm (numb_good h1f4 (by simpa using h84) (hnc2.resolve_right (fun h => h88 (by omega))).2.1) (by first | exact textR_n h96 | exact textR_e h92))
                  ·
                    have h0s : 0 < s4.length := Nat.pos_of_ne_zero (fun e => h92 (by rw [List.eq_nil_of_length_eq_zero e]))
                    have hbs4 := bsz s4
                    refine L_gyes rfl rfl ?_
                    refine L_y (y_move rfl) rfl ?_
                    refine L_gyes rfl rfl ?_
                    refine L_y (y_idxS Try.underlying9 rfl rfl inferInstance (by omega)) rfl ?_
                    refine L_gyes rfl rfl ?_
                    refine L_y (y_neq rfl rfl) rfl ?_
                    refine L_y ((by first | exact y_pickT rfl rfl | exact y_pickF rfl rfl)) rfl ?_
                    refine L_nil ?_
                    refine hK26 _ _ ?_
                    refine T_cond rfl (fun h96 => ?_) (fun h96 => ?_)
                    ·
                      refine T_seq fun K30 hK30 => ?_
                      refine T_region ?_
                      refine L_y (y_build rfl (show _ = some (mkf zMk).toArray by kernel_rfl)) rfl ?_
                      refine L_o (o_stW S30 0 rfl rfl rfl (by rw [mkf_sz]; exact sz74) (by first | (rw [mkf_sz]; done) | (rw [mkf_sz]; rfl)) (fun u hu => mkf_one _ u (by rw [List.toList_toArray] at hu; exact hu)) fun w37 S37 => ?_)
                      refine L_y (y_assign rfl) rfl ?_
                      refine L_nil ?_
                      refine hK30 _ _ ?_
                      refine T_ret ?_
                      repeat (first | with_reducible refine up_then ?_ | with_reducible refine up_in ?_)
                      refine retct rfl rfl rfl (S37.blk 0 rfl) Try.underlying74 rfl (by rw [mkf_sz]; exact sz74) ?_
                      first | exact get_outM S37.like0 (m5 hid hkd hnm (numb_bad h1f4 h0f4 (.inl (by simpa using h84)))) | exact get_outM S37.like0 (m5 hid hkd hnm (numb_bad h1f4 h0f4 (.inr (hnc2.resolve_left (fun h => h88 h.1)).2))) | exact get_outM S37.like0 (m6 hid hkd hnm (numb_good h1f4 (by simpa using h84) (hnc2.resolve_right (fun h => h88 (by omega))).2.1) (by first | exact textR_n h96 | exact textR_e h92))
                    ·
                      obtain ⟨hvb2, hok2, rfl⟩ := hnc2.resolve_right (fun h => h88 (by omega))
                      have hpx : preP s4 [10] := (pre1 s4).2 ⟨h0s, Classical.byContradiction fun e => h96 e⟩
                      have hg : markR s = some (⟨o, numV tk, nm, numV tn, s4.drop 1⟩ : MkL) := m7 hid hkd h9k hnm (numb_good h1f4 (by simpa using h84) hok2) (by unfold textR; exact if_pos hpx)
                      refine T_skip ?_
                      refine hK25 _ _ ?_
                      refine T_seq fun K31 hK31 => ?_
                      refine T_region ?_
                      refine L_y (y_move rfl) rfl ?_
                      refine L_y (y_fieldA 34 Try.underlying74 rfl sz3 rfl rfl rfl) rfl ?_
                      refine L_o (o_st1 S30 1 rfl rfl rfl rfl sz3 (by rw [mkf_sz]; omega) fun w38 S38 => ?_)
                      have S39 := S38.blkc 1 rfl (show _ = (mkf (⟨o, (numV tk : Int), ⟨nm.toArray⟩, (numV tn : Int), ⟨#[]⟩⟩ : Mk)).toArray from stm34 (⟨o, (numV tk : Int), ⟨nm.toArray⟩, 0, ⟨#[]⟩⟩ : Mk) _)
                      have S40 : Zx.St w0 noM [blk b1 74 (mkf zMk).toArray, blk b2 74 (mkf (⟨o, (numV tk : Int), ⟨nm.toArray⟩, (numV tn : Int), ⟨#[]⟩⟩ : Mk)).toArray, blk b6 23 (idf o).toArray] w38 := S39.cast (by kernel_rfl)
                      refine L_nil ?_
                      refine hK31 _ _ ?_
                      refine T_seq fun K32 hK32 => ?_
                      refine T_region ?_
                      refine L_y (y_move rfl) rfl ?_
                      refine L_y (y_ssliceL (l := 1) Try.underlying9 rfl rfl (Nt.mk (by omega)) (by omega)) rfl ?_
                      rw [ext_drop]
                      refine L_y (y_fieldA 35 Try.underlying74 rfl sz9 rfl rfl rfl) rfl ?_
                      refine L_o (o_st1 S40 1 rfl rfl rfl rfl sz9 (by rw [mkf_sz]; omega) fun w41 S41 => ?_)
                      have S42 := S41.blkc 1 rfl (show _ = (mkf (⟨o, (numV tk : Int), ⟨nm.toArray⟩, (numV tn : Int), ⟨(s4.drop 1).toArray⟩⟩ : Mk)).toArray from stm35 (⟨o, (numV tk : Int), ⟨nm.toArray⟩, (numV tn : Int), ⟨#[]⟩⟩ : Mk) _)
                      have S43 : Zx.St w0 noM [blk b1 74 (mkf zMk).toArray, blk b2 74 (mkf (⟨o, (numV tk : Int), ⟨nm.toArray⟩, (numV tn : Int), ⟨(s4.drop 1).toArray⟩⟩ : Mk)).toArray, blk b6 23 (idf o).toArray] w41 := S42.cast (by kernel_rfl)
                      refine L_nil ?_
                      refine hK32 _ _ ?_
                      refine T_seq fun K33 hK33 => ?_
                      refine T_region ?_
                      refine L_y (y_ldW Try.underlying74 rfl sz74 rfl (S43.blk 1 rfl) (mk_whole _)) rfl ?_
                      refine L_o (o_call Try.func44 rfl rfl (rcheckM (mkOf (⟨o, numV tk, nm, numV tn, s4.drop 1⟩ : MkL)) w41) rfl rfl ?_)
                      rintro e44 w44 ⟨v44, rfl, l44, rfl⟩
                      refine ⟨_, rfl, ?_⟩
                      have S44 := S43.like l44
                      refine L_y (y_assign rfl) rfl ?_
                      refine L_nil ?_
                      refine hK33 _ _ ?_
                      refine T_seq fun K34 hK34 => ?_
                      refine T_seq fun K35 hK35 => ?_
                      refine T_region ?_
                      refine L_y (y_move rfl) rfl ?_
                      refine L_y (y_neq rfl rfl) rfl ?_
                      refine L_nil ?_
                      refine hK35 _ _ ?_
                      refine T_cond rfl (fun h106 => ?_) (fun h106 => ?_)
                      ·
                        refine T_seq fun K36 hK36 => ?_
                        refine T_region ?_
                        refine L_y (y_build rfl (show _ = some (mkf zMk).toArray by kernel_rfl)) rfl ?_
                        refine L_y (y_move rfl) rfl ?_
                        refine L_o (o_stW S44 0 rfl rfl rfl (by rw [mkf_sz]; exact sz74) (by first | (rw [mkf_sz]; done) | (rw [mkf_sz]; rfl)) (fun u hu => mkf_one _ u (by rw [List.toList_toArray] at hu; exact hu)) fun w45 S45 => ?_)
                        refine L_y (y_assign rfl) rfl ?_
                        refine L_nil ?_
                        refine hK36 _ _ ?_
                        refine T_ret ?_
                        repeat (first | with_reducible refine up_then ?_ | with_reducible refine up_in ?_)
                        refine retct rfl rfl rfl (S45.blk 0 rfl) Try.underlying74 rfl (by rw [mkf_sz]; exact sz74) ?_
                        have hgo := mo_some hg
                        have h0 : ¬ chkM (mkOf (⟨o, numV tk, nm, numV tn, s4.drop 1⟩ : MkL)) = 0 := fun e => h106 e
                        have hv : mval s = zML := by rw [hgo.2, if_neg h0]
                        rw [hv, hgo.1, zML_mk]
                        exact ⟨_, rfl, S45.like0, rfl⟩
                      ·
                        refine T_skip ?_
                        refine hK34 _ _ ?_
                        refine T_seq fun K37 hK37 => ?_
                        refine T_region ?_
                        refine L_y (y_ldW Try.underlying74 rfl sz74 rfl (S44.blk 1 rfl) (mk_whole _)) rfl ?_
                        refine L_o (o_stW S44 0 rfl rfl rfl (by rw [mkf_sz]; exact sz74) (by first | (rw [mkf_sz]; done) | (rw [mkf_sz]; rfl)) (fun u hu => mkf_one _ u (by rw [List.toList_toArray] at hu; exact hu)) fun w46 S46 => ?_)
                        refine L_y (y_assign rfl) rfl ?_
                        refine L_nil ?_
                        refine hK37 _ _ ?_
                        refine T_ret ?_
                        repeat (first | with_reducible refine up_then ?_ | with_reducible refine up_in ?_)
                        refine retct rfl rfl rfl (S46.blk 0 rfl) Try.underlying74 rfl (by rw [mkf_sz]; exact sz74) ?_
                        have hgo := mo_some hg
                        have h0 : chkM (mkOf (⟨o, numV tk, nm, numV tn, s4.drop 1⟩ : MkL)) = 0 := Classical.byContradiction fun e => h106 e
                        have hv : mval s = (⟨o, numV tk, nm, numV tn, s4.drop 1⟩ : MkL) := by rw [hgo.2, if_pos h0]
                        rw [hv, hgo.1, h0]
                        exact ⟨_, rfl, S46.like0, rfl⟩
end Go.Proofs.Ytgaklngnfecdaaa.Rev


/-
  The laws of tags.
-/
namespace Go.Proofs.Ytgaklngnfecdaaa.Rev
open Go.RowKit Zk Zx
open Oid (idf hexL idf_len readR)
open Tre (nmOk)
set_option linter.unusedVariables false
set_option linter.unusedSimpArgs false

set_option maxRecDepth 100000 in
theorem marks (x : Mk) (B : Option Addr) (m d : Nat) (s : List UInt8) (w0 : World) (hb : Rs w0 1 B m d (bL s)) :
    Calls Try.prog 9 #[.agg (mkf x).toArray, .slice B m d] w0 fun e w' => ∃ u, e = .returned u ∧ Like w0 w' ∧ u = .bool true := by
  refine enter1 (env := [(0, .agg (mkf x).toArray), (1, .slice B m d)]) [.agg (mkf x).toArray, .slice B m d] Try.func9 rfl Try.ntmps9 rfl rfl ?_
  have hm := hb.lenb; have hcap := hb.cap; have hmax := hb.max
  have S0 := St.start w0 noM
  refine T_seq fun K1 hK1 => ?_
  refine T_region ?_
  refine L_o (o_box rfl S0 rfl fun b1 w1 hb1 S1 => ?_)
  refine L_y (y_assign rfl) rfl ?_
  refine L_nil ?_
  refine hK1 _ _ ?_
  refine T_seq fun K2 hK2 => ?_
  refine T_seq fun K3 hK3 => ?_
  refine T_region ?_
  refine L_y (y_move rfl) rfl ?_
  refine L_y (y_len Try.underlying27 rfl) rfl ?_
  refine L_y (y_gtr rfl rfl) rfl ?_
  refine L_nil ?_
  refine hK3 _ _ ?_
  refine T_cond rfl (fun h15 => ?_) (fun h15 => ?_)
  ·
    refine T_seq fun K4 hK4 => ?_
    refine T_region ?_
    refine L_o (o_call Try.func23 rfl rfl (works w1) rfl rfl ?_)
    rintro e2 w2 ⟨v2, rfl, l2, rfl⟩
    refine ⟨_, rfl, ?_⟩
    have S2 := S1.like l2
    refine L_y (y_assign rfl) rfl ?_
    refine L_nil ?_
    refine hK4 _ _ ?_
    refine T_ret ?_
    repeat (first | with_reducible refine up_then ?_ | with_reducible refine up_in ?_)
    refine ret1 rfl rfl ?_
    exact ⟨_, rfl, S2.like0, rfl⟩
  ·
    refine T_skip ?_
    refine hK2 _ _ ?_
    refine T_seq fun K5 hK5 => ?_
    refine T_region ?_
    refine L_y (y_ldW Try.underlying74 rfl sz74 rfl (S1.blk 0 rfl) (mk_whole x)) rfl ?_
    refine L_o (o_call Try.func39 rfl rfl (putM x w1) rfl rfl ?_)
    rintro e3 w3 ⟨v3, rfl, l3, B3, m3, d3, l3, e3, rfl, rfl, rfl, F3⟩
    refine ⟨_, rfl, ?_⟩
    have S3 := S1.adoptF l3 F3
    refine L_y (y_move rfl) rfl ?_
    refine L_y (y_extract rfl rfl) rfl ?_
    refine L_y (y_extract rfl rfl) rfl ?_
    refine L_y (y_assign rfl) rfl ?_
    refine L_y (y_assign rfl) rfl ?_
    refine L_nil ?_
    refine hK5 _ _ ?_
    refine T_seq fun K6 hK6 => ?_
    refine T_region ?_
    refine L_y (y_ldW Try.underlying74 rfl sz74 rfl (S3.blk 0 rfl) (mk_whole x)) rfl ?_
    refine L_o (o_call Try.func40 rfl rfl (rputM x w3) rfl rfl ?_)
    rintro e4 w4 ⟨v4, rfl, l4, B4, m4, d4, l4, e4, rfl, rfl, rfl, F4⟩
    refine ⟨_, rfl, ?_⟩
    have S4 := S3.adoptF l4 F4
    refine L_y (y_move rfl) rfl ?_
    refine L_y (y_extract rfl rfl) rfl ?_
    refine L_y (y_extract rfl rfl) rfl ?_
    refine L_y (y_assign rfl) rfl ?_
    refine L_y (y_assign rfl) rfl ?_
    refine L_nil ?_
    refine hK6 _ _ ?_
    refine T_seq fun K7 hK7 => ?_
    refine T_region ?_
    refine L_y (y_move rfl) rfl ?_
    refine L_o (o_call Try.func41 rfl rfl (getM _ _ _ s w4 (S4.rd hb) (by omega)) rfl rfl ?_)
    rintro e5 w5 ⟨v5, rfl, l5, rfl⟩
    refine ⟨_, rfl, ?_⟩
    have S5 := S4.like l5
    refine L_y (y_move rfl) rfl ?_
    refine L_y (y_extract rfl rfl) rfl ?_
    refine L_y (y_extract rfl rfl) rfl ?_
    refine L_o (o_alloc zz74 S5 rfl fun b6 w6 hb6 S6 => ?_)
    refine L_o (o_stW S6 3 rfl rfl rfl (by rw [mkf_sz]; exact sz74) (by first | (rw [mkf_sz]; done) | (rw [mkf_sz]; rfl)) (fun u hu => mkf_one _ u (by rw [List.toList_toArray] at hu; exact hu)) fun w7 S7 => ?_)
    refine L_y (y_assign rfl) rfl ?_
    refine L_nil ?_
    refine hK7 _ _ ?_
    refine T_seq fun K8 hK8 => ?_
    refine T_region ?_
    refine L_y (y_move rfl) rfl ?_
    refine L_o (o_call Try.func42 rfl rfl (rgetM _ _ _ s w7 (S7.rd hb) (by omega)) rfl rfl ?_)
    rintro e8 w8 ⟨v8, rfl, l8, rfl⟩
    refine ⟨_, rfl, ?_⟩
    have S8 := S7.like l8
    refine L_y (y_move rfl) rfl ?_
    refine L_y (y_extract rfl rfl) rfl ?_
    refine L_y (y_extract rfl rfl) rfl ?_
    refine L_o (o_alloc zz74 S8 rfl fun b9 w9 hb9 S9 => ?_)
    refine L_o (o_stW S9 4 rfl rfl rfl (by rw [mkf_sz]; exact sz74) (by first | (rw [mkf_sz]; done) | (rw [mkf_sz]; rfl)) (fun u hu => mkf_one _ u (by rw [List.toList_toArray] at hu; exact hu)) fun w10 S10 => ?_)
    refine L_y (y_assign rfl) rfl ?_
    refine L_nil ?_
    refine hK8 _ _ ?_
    refine T_seq fun K9 hK9 => ?_
    refine T_drawnL [(0, true), (1, true), (2, false), (3, true), (4, true), (5, true), (6, true), (7, true), (8, true), (9, true), (11, true), (10, false), (12, false), (13, true), (14, true), (15, true), (16, true), (17, true), (18, true), (19, true), (20, true), (21, true), (22, true), (23, true), (24, true), (25, true), (26, false), (27, true), (28, true)] hmix (by kernel_rfl) fun w11 l11 => ?_
    have S11 := S10.like l11
    refine DL_y rfl (y_move rfl) rfl ?_
    refine DL_y rfl (y_move rfl) rfl ?_
    refine DL_o rfl (o_call Try.func18 rfl rfl (Oct.same _ _ _ _ _ _ _ _ w11 (S11.fix 1 rfl) (S11.fix 2 rfl)) rfl rfl ?_)
    rintro e12 w12 ⟨v12, rfl, l12, rfl⟩
    refine ⟨_, rfl, l12, ?_⟩
    have S12 := S11.like l12
    have q12 := l12
    refine DL_y rfl (y_move rfl) rfl ?_
    refine DL_split 40 rfl (fun h40 => ?_) (fun h40 => ?_)
    ·
      refine DL_gyes rfl rfl rfl (y_move rfl) rfl ?_
      refine DL_gyes rfl rfl rfl (y_move rfl) rfl ?_
      refine DL_gyes rfl rfl rfl (y_eql rfl rfl) rfl ?_
      refine DL_y rfl ((by first | exact y_pickT rfl rfl | exact y_pickF rfl rfl)) rfl ?_
      refine DL_y rfl (y_move rfl) rfl ?_
      refine DL_split 45 rfl (fun h45 => ?_) (fun h45 => ?_)
      ·
        refine DL_gyes rfl rfl rfl (y_ldW Try.underlying74 rfl sz74 rfl (S11.blk 0 rfl) (mk_whole x)) rfl ?_
        refine DL_gyes rfl rfl rfl (y_ldW Try.underlying74 rfl sz74 rfl (S11.blk 0 rfl) (mk_whole x)) rfl ?_
        refine DL_ogyes rfl rfl rfl (o_call Try.func43 rfl rfl (checkM x w12) rfl rfl ?_)
        rintro e13 w13 ⟨v13, rfl, l13, rfl⟩
        refine ⟨_, rfl, (Like.trans q12 l13), ?_⟩
        have S13 := S12.like l13
        have q13 := (Like.trans q12 l13)
        refine DL_ogyes rfl rfl rfl (o_call Try.func44 rfl rfl (rcheckM x w13) rfl rfl ?_)
        rintro e14 w14 ⟨v14, rfl, l14, rfl⟩
        refine ⟨_, rfl, (Like.trans q13 l14), ?_⟩
        have S14 := S13.like l14
        have q14 := (Like.trans q13 l14)
        refine DL_gyes rfl rfl rfl (y_eql rfl rfl) rfl ?_
        refine DL_y rfl ((by first | exact y_pickT rfl rfl | exact y_pickF rfl rfl)) rfl ?_
        refine DL_y rfl (y_move rfl) rfl ?_
        refine DL_split 52 rfl (fun h52 => ?_) (fun h52 => ?_)
        ·
          refine DL_gyes rfl rfl rfl (y_ldW Try.underlying74 rfl sz74 rfl (S11.blk 3 rfl) (mk_whole _)) rfl ?_
          refine DL_gyes rfl rfl rfl (y_ldW Try.underlying74 rfl sz74 rfl (S11.blk 4 rfl) (mk_whole _)) rfl ?_
          refine DL_gyes rfl rfl rfl (y_eqS Try.underlying74 (by kernel_rfl) (by kernel_rfl) (mk_eq (mkOf (mval s)) (mkOf (mval s)) Try.underlying74) rfl rfl) rfl ?_
          refine DL_y rfl ((by first | exact y_pickT rfl rfl | exact y_pickF rfl rfl)) rfl ?_
          refine DL_y rfl (y_move rfl) rfl ?_
          refine DL_splitB 57 rfl (fun h57 => ?_) (fun h57 => ?_)
          ·
            refine DL_gyes rfl rfl rfl (y_move rfl) rfl ?_
            refine DL_gyes rfl rfl rfl (y_move rfl) rfl ?_
            refine DL_gyes rfl rfl rfl (y_eql rfl rfl) rfl ?_
            refine DL_y rfl ((by first | exact y_pickT rfl rfl | exact y_pickF rfl rfl)) rfl ?_
            refine DL_y rfl (y_move rfl) rfl ?_
            refine DL_split 62 rfl (fun h62 => ?_) (fun h62 => ?_)
            ·
              refine DL_ogyes rfl rfl rfl (o_call Try.func23 rfl rfl (works w14) rfl rfl ?_)
              rintro e15 w15 ⟨v15, rfl, l15, rfl⟩
              refine ⟨_, rfl, (Like.trans q14 l15), ?_⟩
              have S15 := S14.like l15
              have q15 := (Like.trans q14 l15)
              refine DL_y rfl ((by first | exact y_pickT rfl rfl | exact y_pickF rfl rfl)) rfl ?_
              refine DL_y rfl (y_assign rfl) rfl ?_
              refine DL_nil ?_
              refine hK9 _ _ ?_
              refine T_ret ?_
              repeat (first | with_reducible refine up_then ?_ | with_reducible refine up_in ?_)
              refine ret1 rfl rfl ?_
              exact ⟨_, rfl, S15.like0, rfl⟩
            ·
              exact absurd rfl h62
          ·
            exact absurd h57 (by simp [meq_refl])
        ·
          exact absurd rfl h52
      ·
        exact absurd rfl h45
    ·
      exact absurd rfl h40


theorem marks_law (x : Mk) (B : Option Addr) (m d : Nat) (s : List UInt8) (w0 : World) (hb : Rs w0 1 B m d (bL s)) :
    Calls Try.prog 9 #[.agg (mkf x).toArray, .slice B m d] w0 fun e w' => e = .returned (.bool true) ∧ Below w0.heap.size w0 w' :=
  (marks x B m d s w0 hb).mono fun e w' ⟨u, h1, h2, h3⟩ => by subst h3; exact ⟨h1, h2⟩


end Go.Proofs.Ytgaklngnfecdaaa.Rev


/-
  Tags as a law's arguments.
-/
namespace Go.Proofs.Ytgaklngnfecdaaa.Rev
open Go.ChangeShapes Go.WideShapes Go.ChangeAt Go.RowKit Go.Deep Zk Zx
open Oid (idf idf_len)
set_option linter.unusedVariables false
set_option linter.unusedSimpArgs false
set_option maxRecDepth 100000
section
variable {H : Type} {enc : TypeId × Value → H} {w : World} {base : Nat} {spare : Nat → Bool} {held : Bool}
theorem read_mk {fuel : Nat} {cs : List Value} {x : DataW H × List MemPlace} (hlen : cs.length = 36) (h : DataW.trod enc Try.prog w base spare held fuel 74 cs = some x) : ∃ y : Mk, cs = mkf y := by
  obtain ⟨xs, n, _, hx, hl, hlen2, hg⟩ := DataW.trod_struct Try.underlying74 h
  have e0 := hg 0 _ rfl
  have e1 := hg 1 _ rfl
  have e2 := hg 2 _ rfl
  have e3 := hg 3 _ rfl
  have e4 := hg 4 _ rfl
  change DataW.trod enc Try.prog w base spare held n 23 ((cs.drop 0).take (Try.prog.cellsOf 23)) = _ at e0
  change DataW.trod enc Try.prog w base spare held n 3 ((cs.drop 32).take (Try.prog.cellsOf 3)) = _ at e1
  change DataW.trod enc Try.prog w base spare held n 9 ((cs.drop 33).take (Try.prog.cellsOf 9)) = _ at e2
  change DataW.trod enc Try.prog w base spare held n 3 ((cs.drop 34).take (Try.prog.cellsOf 3)) = _ at e3
  change DataW.trod enc Try.prog w base spare held n 9 ((cs.drop 35).take (Try.prog.cellsOf 9)) = _ at e4
  rw [c23] at e0
  rw [c9] at e2 e4
  rw [c3] at e1 e3
  have hxl : xs.length = 5 := hlen2
  match xs, hxl with
  | [y0, y1, y2, y3, y4], _ =>
    have e0 : DataW.trod enc Try.prog w base spare held n 23 ((cs.drop 0).take 32) = some y0 := e0
    have e1 : DataW.trod enc Try.prog w base spare held n 3 ((cs.drop 32).take 1) = some y1 := e1
    have e2 : DataW.trod enc Try.prog w base spare held n 9 ((cs.drop 33).take 1) = some y2 := e2
    have e3 : DataW.trod enc Try.prog w base spare held n 3 ((cs.drop 34).take 1) = some y3 := e3
    have e4 : DataW.trod enc Try.prog w base spare held n 9 ((cs.drop 35).take 1) = some y4 := e4
    obtain ⟨z, hz⟩ := Oid.read_id e0
    obtain ⟨k, ha, _, _⟩ := DataW.trod_int Try.underlying3 e1
    obtain ⟨s, hs, _, _⟩ := DataW.trod_string Try.underlying9 e2
    obtain ⟨i, hi, _, _⟩ := DataW.trod_int Try.underlying3 e3
    obtain ⟨t, ht, _, _⟩ := DataW.trod_string Try.underlying9 e4
    refine ⟨⟨z, k, s, i, t⟩, ?_⟩
    rw [List.drop_zero] at hz
    have q : cs = cs.take 32 ++ ((cs.drop 32).take 1 ++ ((cs.drop 33).take 1 ++ ((cs.drop 34).take 1 ++ (cs.drop 35).take 1))) := by
      have g : ∀ k, k < cs.length → cs.drop k = (cs.drop k).take 1 ++ cs.drop (k + 1) := fun k hk => by rw [List.drop_eq_getElem_cons hk]; rfl
      have g4 : (cs.drop 35).take 1 = cs.drop 35 := List.take_of_length_le (by rw [List.length_drop]; omega)
      rw [g4, ← g 34 (by omega), ← g 33 (by omega), ← g 32 (by omega), List.take_append_drop]
    rw [q, hz, ha, hs, hi, ht]
    rfl
theorem open_mk {r : Reach} {b0 : Nat} {v : Value} {d : DataW H} {p : List MemPlace} (hv : Value.okWide Try.prog w r b0 74 v) (h : DataW.Trod enc Try.prog w base spare held 74 v d p) : ∃ y : Mk, v = .agg (mkf y).toArray := by
  obtain ⟨cs, rfl, hsz⟩ := okWide_struct Try.underlying74 hv
  obtain ⟨fuel, hf⟩ := h
  have c36 := c74
  obtain ⟨y, hy⟩ := read_mk (by show cs.toList.length = 36; rw [Array.length_toList]; omega) hf
  refine ⟨y, ?_⟩
  have hy' : cs.toList = mkf y := hy
  rw [← hy']
end
end Go.Proofs.Ytgaklngnfecdaaa.Rev
