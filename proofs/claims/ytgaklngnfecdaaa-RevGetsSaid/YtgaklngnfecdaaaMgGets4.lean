import Derived.Test.YtgaklngnfecdaaaMgGets3

/-
  The reference: a line.
-/
namespace Go.Proofs.Ytgaklngnfecdaaa.Rev
open Go.RowKit Zk Zx
open Oid (idf hexL idf_len readR)
open Tre (nmOk)
set_option linter.unusedVariables false
set_option linter.unusedSimpArgs false

def lineV (w s : List UInt8) : Value := match lineR w s with
  | none => .tuple #[.string ⟨#[]⟩, .string ⟨#[]⟩, .bool false]
  | some (a, b) => .tuple #[.string ⟨a.toArray⟩, .string ⟨b.toArray⟩, .bool true]
theorem lineV_no {w s : List UInt8} (h : lineR w s = none) : lineV w s = .tuple #[.string ⟨#[]⟩, .string ⟨#[]⟩, .bool false] := by unfold lineV; rw [h]
theorem lineV_yes {w s a b : List UInt8} (h : lineR w s = some (a, b)) : lineV w s = .tuple #[.string ⟨a.toArray⟩, .string ⟨b.toArray⟩, .bool true] := by unfold lineV; rw [h]
theorem take_no {c : UInt8} {s : List UInt8} {k : Nat} (hk : k < s.length) (h : c ∉ s.take k) (hn : g8 s k ≠ (c.toNat : Int)) : c ∉ s.take (k + 1) := by
  have e : g8 s k = ((s[k]).toNat : Int) := by simp [g8, List.getD_eq_getElem?_getD, List.getElem?_eq_getElem hk]
  rw [List.take_add_one, List.getElem?_eq_getElem hk]
  intro hm
  rcases List.mem_append.1 hm with hm | hm
  · exact h hm
  · have : c = s[k] := by simpa using hm
    exact hn (by rw [e, ← this])
theorem cut_at {c : UInt8} {s : List UInt8} {k : Nat} (hk : k < s.length) (h : c ∉ s.take k) (hn : g8 s k = (c.toNat : Int)) : cutF c s = some (s.take k, s.drop (k + 1)) := by
  have e : g8 s k = ((s[k]).toNat : Int) := by simp [g8, List.getD_eq_getElem?_getD, List.getElem?_eq_getElem hk]
  have e2 : s[k] = c := UInt8.toNat_inj.1 (by omega)
  have e3 : s = s.take k ++ c :: s.drop (k + 1) := by rw [← e2, List.getElem_cons_drop, List.take_append_drop]
  have := cutF_of (b := s.drop (k + 1)) h
  rw [← e3] at this
  exact this


set_option maxRecDepth 100000 in
theorem rline (s w : List UInt8) (w0 : World) (hl : s.length ≤ 100000) (hwl : w.length ≤ 10) :
    Calls Try.prog 84 #[.string ⟨s.toArray⟩, .string ⟨w.toArray⟩] w0 fun e w' => ∃ u, e = .returned u ∧ Like w0 w' ∧ u = lineV w s := by
  refine enter1 (env := [(0, .string ⟨s.toArray⟩), (1, .string ⟨w.toArray⟩)]) [.string ⟨s.toArray⟩, .string ⟨w.toArray⟩] Try.func84 rfl Try.ntmps84 rfl rfl ?_
  have hbs := bsz s
  have hbw := bsz w
  have S0 := St.start w0 noM
  refine T_seq fun K1 hK1 => ?_
  refine T_region ?_
  refine L_y (y_assign rfl) rfl ?_
  refine L_y (y_assign rfl) rfl ?_
  refine L_y (y_assign rfl) rfl ?_
  refine L_nil ?_
  refine hK1 _ _ ?_
  refine T_seq fun K2 hK2 => ?_
  refine T_region ?_
  refine L_y (y_assign rfl) rfl ?_
  refine L_nil ?_
  refine hK2 _ _ ?_
  refine T_seq fun K3 hK3 => ?_
  refine T_block ?_
  refine T_loop1 [(0, _), (1, _)] (fun (k : Nat) => [(7, .int .i64 (k : Int))]) (fun (k : Nat) => s.length - k) (fun (k : Nat) (w : World) => (k ≤ s.length ∧ (10 : UInt8) ∉ s.take k) ∧ St w0 noM [] w) 0 (Sub.cons rfl (by first | rfl | exact congrArg (Value.int _) (by omega)) (Sub.nil _)) (Sub.cons rfl rfl (Sub.cons rfl rfl (Sub.nil _))) ?_ ?_
  ·
    exact ⟨⟨by omega, by simp⟩, S0⟩
  ·
    intro k w1 hrel
    obtain ⟨⟨hk, hall⟩, S1⟩ := hrel
    refine T_seq fun K4 hK4 => ?_
    refine T_seq fun K5 hK5 => ?_
    refine T_region ?_
    refine L_y (y_move rfl) rfl ?_
    refine L_y (y_move rfl) rfl ?_
    refine L_y (y_lens Try.underlying9 rfl) rfl ?_
    refine L_y (y_lss rfl rfl) rfl ?_
    refine L_y (y_move rfl) rfl ?_
    refine L_split 12 rfl (fun h12 => ?_) (fun h12 => ?_)
    ·
      refine L_gyes rfl rfl ?_
      refine L_y (y_move rfl) rfl ?_
      refine L_gyes rfl rfl ?_
      refine L_y (y_move rfl) rfl ?_
      refine L_gyes rfl rfl ?_
      refine L_y (y_idxS Try.underlying9 rfl rfl inferInstance (by omega)) rfl ?_
      refine L_gyes rfl rfl ?_
      refine L_y (y_neq rfl rfl) rfl ?_
      refine L_y ((by first | exact y_pickT rfl rfl | exact y_pickF rfl rfl)) rfl ?_
      refine L_nil ?_
      refine hK5 _ _ ?_
      refine T_cond rfl (fun h17 => ?_) (fun h17 => ?_)
      ·
        refine T_skip ?_
        refine hK4 _ _ ?_
        refine T_block ?_
        refine T_region ?_
        refine L_y (y_move rfl) rfl ?_
        refine L_y (y_add rfl rfl (i64w (by omega))) rfl ?_
        refine L_y (y_assign rfl) rfl ?_
        refine L_nil ?_
        refine ⟨k + 1, by omega, ⟨⟨by omega, take_no (by omega) hall (fun e => absurd e (by first | assumption | exact fun e => by simp_all))⟩, S1⟩, ?_⟩
        exact (Sub.cons rfl (by first | rfl | exact congrArg (Value.int _) (by omega)) (Sub.cons rfl rfl (Sub.cons rfl rfl (Sub.nil _))))
      ·
        refine T_exit ?_
        refine hK3 _ _ ?_
        refine T_seq fun K6 hK6 => ?_
        refine T_seq fun K7 hK7 => ?_
        refine T_region ?_
        refine L_y (y_move rfl) rfl ?_
        refine L_y (y_move rfl) rfl ?_
        refine L_y (y_lens Try.underlying9 rfl) rfl ?_
        refine L_y (y_eql rfl rfl) rfl ?_
        refine L_y (y_move rfl) rfl ?_
        refine L_split 24 rfl (fun h24 => ?_) (fun h24 => ?_)
        ·
          refine L_gno rfl rfl rfl ?_
          refine L_gno rfl rfl rfl ?_
          refine L_gno rfl rfl rfl ?_
          refine L_gno rfl rfl rfl ?_
          refine L_gno rfl rfl rfl ?_
          refine L_y ((by first | exact y_pickT rfl rfl | exact y_pickF rfl rfl)) rfl ?_
          refine L_y (y_move rfl) rfl ?_
          refine L_gno rfl rfl rfl ?_
          refine L_gno rfl rfl rfl ?_
          refine L_gno rfl rfl rfl ?_
          refine L_gno rfl rfl rfl ?_
          refine L_gno rfl rfl rfl ?_
          refine L_gno rfl rfl rfl ?_
          refine L_gno rfl rfl rfl ?_
          refine L_gno rfl rfl rfl ?_
          refine L_y ((by first | exact y_pickT rfl rfl | exact y_pickF rfl rfl)) rfl ?_
          refine L_nil ?_
          refine hK7 _ _ ?_
          refine T_true rfl ?_
          refine T_seq fun K8 hK8 => ?_
          refine T_region ?_
          refine L_y (y_assign rfl) rfl ?_
          refine L_y (y_assign rfl) rfl ?_
          refine L_y (y_assign rfl) rfl ?_
          refine L_nil ?_
          refine hK8 _ _ ?_
          refine T_ret ?_
          repeat (first | with_reducible refine up_then ?_ | with_reducible refine up_in ?_)
          refine ret3 rfl rfl rfl rfl ?_
          have hc := cut_at (c := 10) (s := s) (k := k) (by omega) hall (Classical.byContradiction fun e => h17 e)
          first | exact absurd h24 (by omega) | exact ⟨_, rfl, S1.like0, (lineV_no (lineR_no hc (fun h => by have h9 := h.2; rw [List.length_take] at h9; omega))).symm⟩
        ·
          refine L_gyes rfl rfl ?_
          refine L_y (y_move rfl) rfl ?_
          refine L_gyes rfl rfl ?_
          refine L_y (y_move rfl) rfl ?_
          refine L_gyes rfl rfl ?_
          refine L_y (y_lens Try.underlying9 rfl) rfl ?_
          refine L_gyes rfl rfl ?_
          refine L_y (y_add rfl rfl (i64w (by omega))) rfl ?_
          refine L_gyes rfl rfl ?_
          refine L_y (y_lss rfl rfl) rfl ?_
          refine L_y ((by first | exact y_pickT rfl rfl | exact y_pickF rfl rfl)) rfl ?_
          refine L_y (y_move rfl) rfl ?_
          refine L_split 31 rfl (fun h31 => ?_) (fun h31 => ?_)
          ·
            refine L_gno rfl rfl rfl ?_
            refine L_gno rfl rfl rfl ?_
            refine L_gno rfl rfl rfl ?_
            refine L_gno rfl rfl rfl ?_
            refine L_gno rfl rfl rfl ?_
            refine L_gno rfl rfl rfl ?_
            refine L_gno rfl rfl rfl ?_
            refine L_gno rfl rfl rfl ?_
            refine L_y ((by first | exact y_pickT rfl rfl | exact y_pickF rfl rfl)) rfl ?_
            refine L_nil ?_
            refine hK7 _ _ ?_
            refine T_true rfl ?_
            refine T_seq fun K9 hK9 => ?_
            refine T_region ?_
            refine L_y (y_assign rfl) rfl ?_
            refine L_y (y_assign rfl) rfl ?_
            refine L_y (y_assign rfl) rfl ?_
            refine L_nil ?_
            refine hK9 _ _ ?_
            refine T_ret ?_
            repeat (first | with_reducible refine up_then ?_ | with_reducible refine up_in ?_)
            refine ret3 rfl rfl rfl rfl ?_
            have hc := cut_at (c := 10) (s := s) (k := k) (by omega) hall (Classical.byContradiction fun e => h17 e)
            first | exact absurd h24 (by omega) | exact ⟨_, rfl, S1.like0, (lineV_no (lineR_no hc (fun h => by have h9 := h.2; rw [List.length_take] at h9; omega))).symm⟩
          ·
            refine L_gyes rfl rfl ?_
            refine L_y (y_move rfl) rfl ?_
            refine L_gyes rfl rfl ?_
            refine L_y (y_move rfl) rfl ?_
            refine L_gyes rfl rfl ?_
            refine L_y (y_lens Try.underlying9 rfl) rfl ?_
            refine L_gyes rfl rfl ?_
            refine L_y (y_add rfl rfl (i64w (by omega))) rfl ?_
            refine L_gyes rfl rfl ?_
            refine L_y (y_ssliceH (u := w.length + 1) Try.underlying9 rfl rfl (Nt.mk (by omega)) (by omega)) rfl ?_
            refine L_gyes rfl rfl ?_
            refine L_y (y_move rfl) rfl ?_
            refine L_gyes rfl rfl ?_
            refine L_y (y_cat rfl rfl (by rw [bsz, bsz32]; omega)) rfl ?_
            rw [cat32]
            refine L_gyes rfl rfl ?_
            refine L_y (y_sneq rfl rfl) rfl ?_
            refine L_y ((by first | exact y_pickT rfl rfl | exact y_pickF rfl rfl)) rfl ?_
            refine L_nil ?_
            refine hK7 _ _ ?_
            refine T_cond rfl (fun h40 => ?_) (fun h40 => ?_)
            ·
              refine T_seq fun K10 hK10 => ?_
              refine T_region ?_
              refine L_y (y_assign rfl) rfl ?_
              refine L_y (y_assign rfl) rfl ?_
              refine L_y (y_assign rfl) rfl ?_
              refine L_nil ?_
              refine hK10 _ _ ?_
              refine T_ret ?_
              repeat (first | with_reducible refine up_then ?_ | with_reducible refine up_in ?_)
              refine ret3 rfl rfl rfl rfl ?_
              have hc := cut_at (c := 10) (s := s) (k := k) (by omega) hall (Classical.byContradiction fun e => h17 e)
              exact ⟨_, rfl, S1.like0, (lineV_no (lineR_no hc (fun h => h40 (by have h9 := (pre_iff s (w ++ [32])).2 h.1; rw [List.length_append] at h9; exact h9)))).symm⟩
            ·
              refine T_skip ?_
              refine hK6 _ _ ?_
              refine T_seq fun K11 hK11 => ?_
              refine T_drawnL [(0, true), (1, true), (2, true), (3, true), (4, true), (5, true), (6, true), (7, true), (8, true), (9, true), (10, true), (11, true), (12, true)] hmix (by kernel_rfl) fun w5 l5 => ?_
              have S5 := S1.like l5
              refine DL_y rfl (y_move rfl) rfl ?_
              refine DL_y rfl (y_move rfl) rfl ?_
              refine DL_y rfl (y_lens Try.underlying9 rfl) rfl ?_
              refine DL_y rfl (y_add rfl rfl (i64w (by omega))) rfl ?_
              refine DL_y rfl (y_move rfl) rfl ?_
              refine DL_y rfl (y_sslice (l := w.length + 1) (u := k) Try.underlying9 rfl rfl rfl (Nt.mk (by omega)) (Nt.mk (by omega)) (by omega) (by omega)) rfl ?_
              refine DL_y rfl (y_move rfl) rfl ?_
              refine DL_y rfl (y_move rfl) rfl ?_
              refine DL_y rfl (y_add rfl rfl (i64w (by omega))) rfl ?_
              refine DL_y rfl (y_ssliceL (l := k + 1) Try.underlying9 rfl rfl (Nt.mk (by omega)) (by omega)) rfl ?_
              refine DL_y rfl (y_assign rfl) rfl ?_
              refine DL_y rfl (y_assign rfl) rfl ?_
              refine DL_y rfl (y_assign rfl) rfl ?_
              refine DL_nil ?_
              refine hK11 _ _ ?_
              refine T_ret ?_
              repeat (first | with_reducible refine up_then ?_ | with_reducible refine up_in ?_)
              refine ret3 rfl rfl rfl rfl ?_
              have hc := cut_at (c := 10) (s := s) (k := k) (by omega) hall (Classical.byContradiction fun e => h17 e)
              have hp : preP s (w ++ [32]) := (pre_iff s (w ++ [32])).1 (by rw [List.length_append]; exact Classical.byContradiction fun e => h40 e)
              refine ⟨_, rfl, S5.like0, ?_⟩
              rw [lineV_yes (lineR_yes hc ⟨hp, by rw [List.length_take]; omega⟩), ext_list, ext_drop, List.drop_take]
    ·
      refine L_gno rfl rfl rfl ?_
      refine L_gno rfl rfl rfl ?_
      refine L_gno rfl rfl rfl ?_
      refine L_gno rfl rfl rfl ?_
      refine L_y ((by first | exact y_pickT rfl rfl | exact y_pickF rfl rfl)) rfl ?_
      refine L_nil ?_
      refine hK5 _ _ ?_
      refine T_false rfl ?_
      refine T_exit ?_
      refine hK3 _ _ ?_
      refine T_seq fun K12 hK12 => ?_
      refine T_seq fun K13 hK13 => ?_
      refine T_region ?_
      refine L_y (y_move rfl) rfl ?_
      refine L_y (y_move rfl) rfl ?_
      refine L_y (y_lens Try.underlying9 rfl) rfl ?_
      refine L_y (y_eql rfl rfl) rfl ?_
      refine L_y (y_move rfl) rfl ?_
      refine L_split 24 rfl (fun h24 => ?_) (fun h24 => ?_)
      ·
        refine L_gno rfl rfl rfl ?_
        refine L_gno rfl rfl rfl ?_
        refine L_gno rfl rfl rfl ?_
        refine L_gno rfl rfl rfl ?_
        refine L_gno rfl rfl rfl ?_
        refine L_y ((by first | exact y_pickT rfl rfl | exact y_pickF rfl rfl)) rfl ?_
        refine L_y (y_move rfl) rfl ?_
        refine L_gno rfl rfl rfl ?_
        refine L_gno rfl rfl rfl ?_
        refine L_gno rfl rfl rfl ?_
        refine L_gno rfl rfl rfl ?_
        refine L_gno rfl rfl rfl ?_
        refine L_gno rfl rfl rfl ?_
        refine L_gno rfl rfl rfl ?_
        refine L_gno rfl rfl rfl ?_
        refine L_y ((by first | exact y_pickT rfl rfl | exact y_pickF rfl rfl)) rfl ?_
        refine L_nil ?_
        refine hK13 _ _ ?_
        refine T_true rfl ?_
        refine T_seq fun K14 hK14 => ?_
        refine T_region ?_
        refine L_y (y_assign rfl) rfl ?_
        refine L_y (y_assign rfl) rfl ?_
        refine L_y (y_assign rfl) rfl ?_
        refine L_nil ?_
        refine hK14 _ _ ?_
        refine T_ret ?_
        repeat (first | with_reducible refine up_then ?_ | with_reducible refine up_in ?_)
        refine ret3 rfl rfl rfl rfl ?_
        have hke : k = s.length := by omega
        rw [hke, List.take_length] at hall
        first | exact ⟨_, rfl, S1.like0, (lineV_no (lineR_cut (cutF_no hall))).symm⟩
      ·
        refine L_gyes rfl rfl ?_
        refine L_y (y_move rfl) rfl ?_
        refine L_gyes rfl rfl ?_
        refine L_y (y_move rfl) rfl ?_
        refine L_gyes rfl rfl ?_
        refine L_y (y_lens Try.underlying9 rfl) rfl ?_
        refine L_gyes rfl rfl ?_
        refine L_y (y_add rfl rfl (i64w (by omega))) rfl ?_
        refine L_gyes rfl rfl ?_
        refine L_y (y_lss rfl rfl) rfl ?_
        refine L_y ((by first | exact y_pickT rfl rfl | exact y_pickF rfl rfl)) rfl ?_
        refine L_y (y_move rfl) rfl ?_
        refine L_split 31 rfl (fun h31 => ?_) (fun h31 => ?_)
        ·
          refine L_gno rfl rfl rfl ?_
          refine L_gno rfl rfl rfl ?_
          refine L_gno rfl rfl rfl ?_
          refine L_gno rfl rfl rfl ?_
          refine L_gno rfl rfl rfl ?_
          refine L_gno rfl rfl rfl ?_
          refine L_gno rfl rfl rfl ?_
          refine L_gno rfl rfl rfl ?_
          refine L_y ((by first | exact y_pickT rfl rfl | exact y_pickF rfl rfl)) rfl ?_
          refine L_nil ?_
          refine hK13 _ _ ?_
          refine T_true rfl ?_
          refine T_seq fun K15 hK15 => ?_
          refine T_region ?_
          refine L_y (y_assign rfl) rfl ?_
          refine L_y (y_assign rfl) rfl ?_
          refine L_y (y_assign rfl) rfl ?_
          refine L_nil ?_
          refine hK15 _ _ ?_
          refine T_ret ?_
          repeat (first | with_reducible refine up_then ?_ | with_reducible refine up_in ?_)
          refine ret3 rfl rfl rfl rfl ?_
          have hke : k = s.length := by omega
          rw [hke, List.take_length] at hall
          first | exact ⟨_, rfl, S1.like0, (lineV_no (lineR_cut (cutF_no hall))).symm⟩
        ·
          refine L_gyes rfl rfl ?_
          refine L_y (y_move rfl) rfl ?_
          refine L_gyes rfl rfl ?_
          refine L_y (y_move rfl) rfl ?_
          refine L_gyes rfl rfl ?_
          refine L_y (y_lens Try.underlying9 rfl) rfl ?_
          refine L_gyes rfl rfl ?_
          refine L_y (y_add rfl rfl (i64w (by omega))) rfl ?_
          refine L_gyes rfl rfl ?_
          refine L_y (y_ssliceH (u := w.length + 1) Try.underlying9 rfl rfl (Nt.mk (by omega)) (by omega)) rfl ?_
          refine L_gyes rfl rfl ?_
          refine L_y (y_move rfl) rfl ?_
          refine L_gyes rfl rfl ?_
          refine L_y (y_cat rfl rfl (by rw [bsz, bsz32]; omega)) rfl ?_
          rw [cat32]
          refine L_gyes rfl rfl ?_
          refine L_y (y_sneq rfl rfl) rfl ?_
          refine L_y ((by first | exact y_pickT rfl rfl | exact y_pickF rfl rfl)) rfl ?_
          refine L_nil ?_
          refine hK13 _ _ ?_
          refine T_cond rfl (fun h40 => ?_) (fun h40 => ?_)
          ·
            refine T_seq fun K16 hK16 => ?_
            refine T_region ?_
            refine L_y (y_assign rfl) rfl ?_
            refine L_y (y_assign rfl) rfl ?_
            refine L_y (y_assign rfl) rfl ?_
            refine L_nil ?_
            refine hK16 _ _ ?_
            refine T_ret ?_
            repeat (first | with_reducible refine up_then ?_ | with_reducible refine up_in ?_)
            refine ret3 rfl rfl rfl rfl ?_
            exact absurd (show (k : Int) = _ by omega) h24
          ·
            refine T_skip ?_
            refine hK12 _ _ ?_
            refine T_seq fun K17 hK17 => ?_
            refine T_drawnL [(0, true), (1, true), (2, true), (3, true), (4, true), (5, true), (6, true), (7, true), (8, true), (9, true), (10, true), (11, true), (12, true)] hmix (by kernel_rfl) fun w8 l8 => ?_
            have S8 := S1.like l8
            refine DL_y rfl (y_move rfl) rfl ?_
            refine DL_y rfl (y_move rfl) rfl ?_
            refine DL_y rfl (y_lens Try.underlying9 rfl) rfl ?_
            refine DL_y rfl (y_add rfl rfl (i64w (by omega))) rfl ?_
            refine DL_y rfl (y_move rfl) rfl ?_
            refine DL_y rfl (y_sslice (l := w.length + 1) (u := k) Try.underlying9 rfl rfl rfl (Nt.mk (by omega)) (Nt.mk (by omega)) (by omega) (by omega)) rfl ?_
            refine DL_y rfl (y_move rfl) rfl ?_
            refine DL_y rfl (y_move rfl) rfl ?_
            refine DL_y rfl (y_add rfl rfl (i64w (by omega))) rfl ?_
            refine DL_y rfl (y_ssliceL (l := k + 1) Try.underlying9 rfl rfl (Nt.mk (by omega)) (by omega)) rfl ?_
            refine DL_y rfl (y_assign rfl) rfl ?_
            refine DL_y rfl (y_assign rfl) rfl ?_
            refine DL_y rfl (y_assign rfl) rfl ?_
            refine DL_nil ?_
            refine hK17 _ _ ?_
            refine T_ret ?_
            repeat (first | with_reducible refine up_then ?_ | with_reducible refine up_in ?_)
            refine ret3 rfl rfl rfl rfl ?_
            exact absurd (show (k : Int) = _ by omega) h24
end Go.Proofs.Ytgaklngnfecdaaa.Rev


/-
  The reference: Get.
-/
namespace Go.Proofs.Ytgaklngnfecdaaa.Rev
open Go.RowKit Zk Zx
open Oid (idf hexL idf_len readR)
open Tre (nmOk)
set_option linter.unusedVariables false
set_option linter.unusedSimpArgs false

theorem lineV_b (w s : List UInt8) : ∃ a b f, lineV w s = .tuple #[.string ⟨a.toArray⟩, .string ⟨b.toArray⟩, .bool f] ∧ (f = true → lineR w s = some (a, b)) ∧ (f = false → lineR w s = none) ∧ b.length ≤ s.length ∧ (f = true → b.length < s.length) := by
  cases h : lineR w s with
  | none => exact ⟨[], [], false, lineV_no h, (fun e => by cases e), fun _ => rfl, Nat.zero_le _, (fun e => by cases e)⟩
  | some p =>
    have := lineR_len (a := p.1) (b := p.2) h
    exact ⟨p.1, p.2, true, lineV_yes h, fun _ => rfl, (fun e => by cases e), by omega, fun _ => by omega⟩
theorem rreadN (a : List UInt8) (w : World) : Calls Try.prog 85 #[.string ⟨a.toArray⟩] w fun e w' => ∃ u, e = .returned u ∧ Like w w' ∧ ∃ t : Oid.Id, t = ⟨(readR a).1, Oid.length_readR a⟩ ∧ u = .tuple #[.agg (idf t).toArray, .int .i64 (readR a).2] := (Oid.rread_any ⟨a.toArray⟩ w).mono fun e w' ⟨h1, h2⟩ => ⟨_, h1, h2, _, rfl, rfl⟩
theorem id_bad {w s a b : List UInt8} {f : Bool} (h1 : f = true → lineR w s = some (a, b)) (h0 : f = false → lineR w s = none) (h : f = false ∨ (readR a).2 ≠ 0) : idR w s = none := by
  cases f with
  | false => unfold idR; rw [h0 rfl]
  | true => unfold idR; rw [h1 rfl]; exact if_neg (h.resolve_left (fun e => by cases e))
theorem id_good {w s a b : List UInt8} {f : Bool} {t : Oid.Id} (ht : t = ⟨(readR a).1, Oid.length_readR a⟩) (h1 : f = true → lineR w s = some (a, b)) (hf : f = true) (h : (readR a).2 = 0) : idR w s = some (t, b) := by
  subst ht
  unfold idR; rw [h1 hf]; exact if_pos h
theorem numb_bad {w s a b : List UInt8} {f : Bool} (h1 : f = true → lineR w s = some (a, b)) (h0 : f = false → lineR w s = none) (h : f = false ∨ numOk a = false) : numbR w s = none := by
  cases f with
  | false => unfold numbR; rw [h0 rfl]
  | true => unfold numbR; rw [h1 rfl]; simp [h.resolve_left (fun e => by cases e)]
theorem numb_good {w s a b : List UInt8} {f : Bool} (h1 : f = true → lineR w s = some (a, b)) (hf : f = true) (h : numOk a = true) : numbR w s = some (numV a, b) := by
  unfold numbR; rw [h1 hf]; simp [h]
theorem pre1 (s : List UInt8) : preP s [10] ↔ (0 < s.length ∧ g8 s 0 = 10) := by
  unfold preP g8
  cases s with
  | nil => simp
  | cons x r =>
    show ([x] : List UInt8) = [10] ↔ (0 < r.length + 1 ∧ ((x.toNat : Int) = 10))
    constructor
    · intro h
      have hx : x = 10 := by simpa using h
      exact ⟨by omega, by rw [hx]; rfl⟩
    · intro h
      have hx : x = 10 := UInt8.toNat_inj.1 (by have h2 := h.2; have : (10 : UInt8).toNat = 10 := rfl; omega)
      rw [hx]
theorem get_out {w0 w : World} {s : List UInt8} (l : Like w0 w) (h : getR s = none) : ∃ u, Ending.returned (.tuple #[.agg (cmf zCm).toArray, .int .i64 12]) = .returned u ∧ Like w0 w ∧ ∃ A c, Fr w0 w 32 A (gval s).ps.length c ((gval s).ps.flatMap idf) ∧ u = .tuple #[.agg (cmf (cmOf (gval s) A (gval s).ps.length c)).toArray, .int .i64 (gcode s)] := by
  have hgo := go_none h
  rw [hgo.1, hgo.2]
  exact ⟨_, rfl, l, none, 0, fr_nil _ _ _, congrArg (fun x => Value.tuple #[.agg (cmf x).toArray, _]) zL_cm.symm⟩


theorem textR_n {s : List UInt8} (h : g8 s 0 ≠ 10) : textR s = none := by unfold textR; exact if_neg fun hp => h ((pre1 s).1 hp).2
theorem textR_e {s : List UInt8} (h : (⟨s.toArray⟩ : ByteArray) = ⟨#[]⟩) : textR s = none := by
  have hz : s = [] := by simpa using congrArg (fun b : ByteArray => b.data.toList) h
  rw [hz]
  rfl
theorem par7 {s : List UInt8} (h : preP s (wParent ++ [32])) : 7 ≤ s.length := by
  have h8 := congrArg List.length (show s.take 7 = wParent ++ [32] from h)
  rw [List.length_take] at h8
  have h7 : (wParent ++ [32]).length = 7 := rfl
  omega
theorem par_iff (s : List UInt8) : ((⟨s.toArray⟩ : ByteArray).extract 0 7 = ⟨#[112, 97, 114, 101, 110, 116, 32]⟩) ↔ preP s (wParent ++ [32]) := by
  have h := pre_iff s (wParent ++ [32])
  have e1 : (wParent ++ [32]).length = 7 := rfl
  have e2 : (wParent ++ [32]).toArray = #[112, 97, 114, 101, 110, 116, 32] := rfl
  rw [e1, e2] at h
  exact h


set_option maxRecDepth 100000 in
theorem rget (B : Option Addr) (m0 d : Nat) (s : List UInt8) (w0 : World) (hb : Rs w0 1 B m0 d (bL s)) (hl : s.length ≤ 2000) :
    Calls Try.prog 36 #[.slice B m0 d] w0 fun e w' => ∃ u, e = .returned u ∧ Like w0 w' ∧ ∃ A c, Fr w0 w' 32 A (gval s).ps.length c ((gval s).ps.flatMap idf) ∧ u = .tuple #[.agg (cmf (cmOf (gval s) A (gval s).ps.length c)).toArray, .int .i64 (gcode s)] := by
  refine enter1 (env := [(0, .slice B m0 d)]) [.slice B m0 d] Try.func36 rfl Try.ntmps36 rfl rfl ?_
  have S0 := St.start w0 noM
  refine T_seq fun K1 hK1 => ?_
  refine T_region ?_
  refine L_o (o_alloc zz26 S0 rfl fun b1 w1 hb1 S1 => ?_)
  refine L_y (y_assign rfl) rfl ?_
  refine L_nil ?_
  refine hK1 _ _ ?_
  refine T_seq fun K2 hK2 => ?_
  refine T_region ?_
  refine L_o (o_alloc zz26 S1 rfl fun b2 w2 hb2 S2 => ?_)
  have S3 : Zx.St w0 noM [blk b1 26 (cmf zCm).toArray, blk b2 26 (cmf zCm).toArray] w2 := S2.cast (by kernel_rfl)
  refine L_nil ?_
  refine hK2 _ _ ?_
  refine T_seq fun K3 hK3 => ?_
  refine T_region ?_
  refine L_y (y_move rfl) rfl ?_
  refine L_y (y_bstr Try.underlying27 Try.underlying5 Try.underlying9 rfl (by first | exact S3.rd hb)) rfl ?_
  refine L_o (o_call Try.func84 rfl rfl (rline s wTree w2 (by omega) (by decide)) rfl rfl ?_)
  rintro e4 w4 ⟨v4, rfl, l4, hu4⟩
  refine ⟨_, rfl, ?_⟩
  have S4 := S3.like l4
  obtain ⟨ta, s1, f1, hvf1, h1f1, h0f1, hlf1, hmf1⟩ := lineV_b wTree s
  rw [hvf1] at hu4
  subst hu4
  refine L_y (y_move rfl) rfl ?_
  refine L_y (y_extract rfl rfl) rfl ?_
  refine L_y (y_extract rfl rfl) rfl ?_
  refine L_y (y_extract rfl rfl) rfl ?_
  refine L_y (y_assign rfl) rfl ?_
  refine L_y (y_assign rfl) rfl ?_
  refine L_y (y_assign rfl) rfl ?_
  refine L_nil ?_
  refine hK3 _ _ ?_
  refine T_seq fun K4 hK4 => ?_
  refine T_region ?_
  refine L_y (y_move rfl) rfl ?_
  refine L_o (o_call Try.func85 rfl rfl (rreadN ta w4) rfl rfl ?_)
  rintro e5 w5 ⟨v5, rfl, l5, t, ht, rfl⟩
  refine ⟨_, rfl, ?_⟩
  have S5 := S4.like l5
  refine L_y (y_move rfl) rfl ?_
  refine L_y (y_extract rfl rfl) rfl ?_
  refine L_y (y_extract rfl rfl) rfl ?_
  refine L_o (o_alloc zz23 S5 rfl fun b6 w6 hb6 S6 => ?_)
  refine L_o (o_stW S6 2 rfl rfl rfl (by rw [List.size_toArray, idf_len]; exact sz23) (by rw [List.size_toArray, idf_len]; simp [Value.cells, idf_len]) (fun u hu => bL_one _ u (by rw [List.toList_toArray] at hu; exact hu)) fun w7 S7 => ?_)
  refine L_y (y_assign rfl) rfl ?_
  refine L_nil ?_
  refine hK4 _ _ ?_
  refine T_seq fun K5 hK5 => ?_
  refine T_seq fun K6 hK6 => ?_
  refine T_region ?_
  refine L_y (y_move rfl) rfl ?_
  refine L_y ((by first | exact y_notD rfl | exact y_not rfl)) rfl ?_
  refine L_y (y_move rfl) rfl ?_
  refine L_splitB 26 rfl (fun h26 => ?_) (fun h26 => ?_)
  ·
    refine L_gno rfl rfl rfl ?_
    refine L_gno rfl rfl rfl ?_
    refine L_y ((by first | exact y_pickT rfl rfl | exact y_pickF rfl rfl)) rfl ?_
    refine L_nil ?_
    refine hK6 _ _ ?_
    refine T_true rfl ?_
    refine T_seq fun K7 hK7 => ?_
    refine T_region ?_
    refine L_y (y_build rfl (show _ = some (cmf zCm).toArray by kernel_rfl)) rfl ?_
    refine L_o (o_stW S7 0 rfl rfl rfl (by rw [cmf_sz]; exact sz26) (by first | (rw [cmf_sz]; done) | (rw [cmf_sz]; rfl)) (fun u hu => cmf_one _ u (by rw [List.toList_toArray] at hu; exact hu)) fun w9 S9 => ?_)
    refine L_y (y_assign rfl) rfl ?_
    refine L_nil ?_
    refine hK7 _ _ ?_
    refine T_ret ?_
    repeat (first | with_reducible refine up_then ?_ | with_reducible refine up_in ?_)
    refine retct rfl rfl rfl (S9.blk 0 rfl) Try.underlying26 rfl (by rw [cmf_sz]; exact sz26) ?_
    exact get_out S9.like0 (g1 (id_bad h1f1 h0f1 (by first | exact .inl (by simpa using h26) | exact .inr h29)))
  ·
    refine L_gyes rfl rfl ?_
    refine L_y (y_move rfl) rfl ?_
    refine L_gyes rfl rfl ?_
    refine L_y (y_neq rfl rfl) rfl ?_
    refine L_y ((by first | exact y_pickT rfl rfl | exact y_pickF rfl rfl)) rfl ?_
    refine L_nil ?_
    refine hK6 _ _ ?_
    refine T_cond rfl (fun h29 => ?_) (fun h29 => ?_)
    ·
      refine T_seq fun K8 hK8 => ?_
      refine T_region ?_
      refine L_y (y_build rfl (show _ = some (cmf zCm).toArray by kernel_rfl)) rfl ?_
      refine L_o (o_stW S7 0 rfl rfl rfl (by rw [cmf_sz]; exact sz26) (by first | (rw [cmf_sz]; done) | (rw [cmf_sz]; rfl)) (fun u hu => cmf_one _ u (by rw [List.toList_toArray] at hu; exact hu)) fun w10 S10 => ?_)
      refine L_y (y_assign rfl) rfl ?_
      refine L_nil ?_
      refine hK8 _ _ ?_
      refine T_ret ?_
      repeat (first | with_reducible refine up_then ?_ | with_reducible refine up_in ?_)
      refine retct rfl rfl rfl (S10.blk 0 rfl) Try.underlying26 rfl (by rw [cmf_sz]; exact sz26) ?_
      exact get_out S10.like0 (g1 (id_bad h1f1 h0f1 (by first | exact .inl (by simpa using h26) | exact .inr h29)))
    ·
      have hid := id_good ht h1f1 (by simpa using h26) (Classical.byContradiction fun e => h29 e)
      have hl1 := hmf1 (by simpa using h26)
      refine T_skip ?_
      refine hK5 _ _ ?_
      refine T_seq fun K9 hK9 => ?_
      refine T_region ?_
      refine L_y (y_ldW Try.underlying23 rfl sz23 rfl (S7.blk 2 rfl) (⟨by rw [List.drop_zero]; exact List.take_of_length_le (by simp [idf_len]), by rw [idf_len]⟩ : _ = idf _ ∧ _)) rfl ?_
      refine L_y (y_fieldA 0 Try.underlying26 rfl sz23 rfl rfl rfl) rfl ?_
      refine L_o (o_stR S7 1 rfl rfl rfl (by rw [List.size_toArray, idf_len]; exact sz23) (by rw [List.size_toArray, idf_len, cmf_sz]; omega) (fun u hu => bL_one _ u (by rw [List.toList_toArray] at hu; exact hu)) fun w11 S11 => ?_)
      have S12 := S11.blkc 1 rfl (st_tree _ _)
      refine L_nil ?_
      refine hK9 _ _ ?_
      refine T_seq fun K10 hK10 => ?_
      refine T_block ?_
      refine T_loop7 [(2, _), (4, _), (8, _)] (fun (m : Nat) (s2 : List UInt8) (ps : List Oid.Id) (A : Option Addr) (n : Nat) (c : Nat) (q : List UInt8 × Bool × Int × Oid.Id) => [(5, .string ⟨q.1.toArray⟩), (6, .string ⟨s2.toArray⟩), (7, .bool q.2.1), (9, .int .i64 q.2.2.1)]) (fun (m : Nat) (s2 : List UInt8) (ps : List Oid.Id) (A : Option Addr) (n : Nat) (c : Nat) (q : List UInt8 × Bool × Int × Oid.Id) => m) (fun (m : Nat) (s2 : List UInt8) (ps : List Oid.Id) (A : Option Addr) (n : Nat) (c : Nat) (q : List UInt8 × Bool × Int × Oid.Id) (w : World) => (n = ps.length ∧ s2.length < m ∧ ps.length + s2.length ≤ 100000 ∧ parsR (s.length + 1) s1 = (parsR m s2).map fun q => (ps ++ q.1, q.2)) ∧ Zx.St w0 noM [blk b1 26 (cmf zCm).toArray, blk b2 26 (cmf (⟨t, A, n, c, [], ⟨#[]⟩, 0, ⟨#[]⟩⟩ : Cm)).toArray, blk b6 23 (idf q.2.2.2).toArray, row 23 32 A n c (ps.flatMap idf)] w) (s.length + 1) s1 [] none 0 0 (ta, f1, (readR ta).2, t) (Sub.cons rfl (by first | rfl | exact congrArg (Value.int _) (by omega)) (Sub.cons rfl (by first | rfl | exact congrArg (Value.int _) (by omega)) (Sub.cons rfl (by first | rfl | exact congrArg (Value.int _) (by omega)) (Sub.cons rfl (by first | rfl | exact congrArg (Value.int _) (by omega)) (Sub.nil _))))) (Sub.cons rfl rfl (Sub.cons rfl rfl (Sub.cons rfl rfl (Sub.nil _)))) ?_ ?_
      ·
        have S80 := S12.nilrow 23 32
        exact ⟨⟨rfl, by omega, by simp; omega, by cases parsR (s.length + 1) s1 <;> rfl⟩, S80⟩
      ·
        intro m s2 ps A n c q w13 hrel
        obtain ⟨⟨hn, hm, hb2, hps⟩, S13⟩ := hrel
        refine T_seq fun K11 hK11 => ?_
        refine T_seq fun K12 hK12 => ?_
        refine T_region ?_
        refine L_y (y_move rfl) rfl ?_
        refine L_y (y_lens Try.underlying9 rfl) rfl ?_
        refine L_y (y_geq rfl rfl) rfl ?_
        refine L_y (y_move rfl) rfl ?_
        refine L_split 36 rfl (fun h36 => ?_) (fun h36 => ?_)
        ·
          refine L_gyes rfl rfl ?_
          refine L_y (y_move rfl) rfl ?_
          refine L_gyes rfl rfl ?_
          refine L_y (y_ssliceH (u := 7) Try.underlying9 rfl rfl (Nt.mk (by omega)) (by omega)) rfl ?_
          refine L_gyes rfl rfl ?_
          refine L_y (y_seql rfl rfl) rfl ?_
          refine L_y ((by first | exact y_pickT rfl rfl | exact y_pickF rfl rfl)) rfl ?_
          refine L_nil ?_
          refine hK12 _ _ ?_
          refine T_cond rfl (fun h40 => ?_) (fun h40 => ?_)
          ·
            have h9 : preP s2 (wParent ++ [32]) := (par_iff s2).1 h40
            refine T_skip ?_
            refine hK11 _ _ ?_
            refine T_block ?_
            refine T_seq fun K13 hK13 => ?_
            obtain ⟨m, rfl⟩ : ∃ k, m = k + 1 := ⟨m - 1, by omega⟩
            refine T_region ?_
            refine L_y (y_move rfl) rfl ?_
            refine L_o (o_call Try.func84 rfl rfl (rline s2 wParent w13 (by omega) (by decide)) rfl rfl ?_)
            rintro e15 w15 ⟨v15, rfl, l15, hu15⟩
            refine ⟨_, rfl, ?_⟩
            have S15 := S13.like l15
            obtain ⟨tp, s3, f2, hvf2, h1f2, h0f2, hlf2, hmf2⟩ := lineV_b wParent s2
            rw [hvf2] at hu15
            subst hu15
            refine L_y (y_move rfl) rfl ?_
            refine L_y (y_extract rfl rfl) rfl ?_
            refine L_y (y_extract rfl rfl) rfl ?_
            refine L_y (y_extract rfl rfl) rfl ?_
            refine L_y (y_assign rfl) rfl ?_
            refine L_y (y_assign rfl) rfl ?_
            refine L_y (y_assign rfl) rfl ?_
            refine L_nil ?_
            refine hK13 _ _ ?_
            refine T_seq fun K14 hK14 => ?_
            refine T_region ?_
            refine L_y (y_move rfl) rfl ?_
            refine L_o (o_call Try.func85 rfl rfl (rreadN tp w15) rfl rfl ?_)
            rintro e16 w16 ⟨v16, rfl, l16, p, hp, rfl⟩
            refine ⟨_, rfl, ?_⟩
            have S16 := S15.like l16
            refine L_y (y_move rfl) rfl ?_
            refine L_y (y_extract rfl rfl) rfl ?_
            refine L_y (y_extract rfl rfl) rfl ?_
            refine L_o (o_stW S16 2 rfl rfl rfl (by rw [List.size_toArray, idf_len]; exact sz23) (by rw [List.size_toArray, idf_len]; simp [Value.cells, idf_len]) (fun u hu => bL_one _ u (by rw [List.toList_toArray] at hu; exact hu)) fun w17 S17 => ?_)
            refine L_y (y_assign rfl) rfl ?_
            refine L_nil ?_
            refine hK14 _ _ ?_
            refine T_seq fun K15 hK15 => ?_
            refine T_seq fun K16 hK16 => ?_
            refine T_region ?_
            refine L_y (y_move rfl) rfl ?_
            refine L_y ((by first | exact y_notD rfl | exact y_not rfl)) rfl ?_
            refine L_y (y_move rfl) rfl ?_
            refine L_splitB 54 rfl (fun h54 => ?_) (fun h54 => ?_)
            ·
              refine L_gno rfl rfl rfl ?_
              refine L_gno rfl rfl rfl ?_
              refine L_y ((by first | exact y_pickT rfl rfl | exact y_pickF rfl rfl)) rfl ?_
              refine L_nil ?_
              refine hK16 _ _ ?_
              refine T_true rfl ?_
              refine T_seq fun K17 hK17 => ?_
              refine T_region ?_
              refine L_y (y_build rfl (show _ = some (cmf zCm).toArray by kernel_rfl)) rfl ?_
              refine L_o (o_stW S17 0 rfl rfl rfl (by rw [cmf_sz]; exact sz26) (by first | (rw [cmf_sz]; done) | (rw [cmf_sz]; rfl)) (fun u hu => cmf_one _ u (by rw [List.toList_toArray] at hu; exact hu)) fun w19 S19 => ?_)
              refine L_y (y_assign rfl) rfl ?_
              refine L_nil ?_
              refine hK17 _ _ ?_
              refine T_ret ?_
              repeat (first | with_reducible refine up_then ?_ | with_reducible refine up_in ?_)
              refine retct rfl rfl rfl (S19.blk 0 rfl) Try.underlying26 rfl (by rw [cmf_sz]; exact sz26) ?_
              exact get_out S19.like0 (g2 hid (by rw [hps, parsR_bad h9 (id_bad h1f2 h0f2 (by first | exact .inl (by simpa using h54) | exact .inr h57))]; rfl))
            ·
              refine L_gyes rfl rfl ?_
              refine L_y (y_move rfl) rfl ?_
              refine L_gyes rfl rfl ?_
              refine L_y (y_neq rfl rfl) rfl ?_
              refine L_y ((by first | exact y_pickT rfl rfl | exact y_pickF rfl rfl)) rfl ?_
              refine L_nil ?_
              refine hK16 _ _ ?_
              refine T_cond rfl (fun h57 => ?_) (fun h57 => ?_)
              ·
                refine T_seq fun K18 hK18 => ?_
                refine T_region ?_
                refine L_y (y_build rfl (show _ = some (cmf zCm).toArray by kernel_rfl)) rfl ?_
                refine L_o (o_stW S17 0 rfl rfl rfl (by rw [cmf_sz]; exact sz26) (by first | (rw [cmf_sz]; done) | (rw [cmf_sz]; rfl)) (fun u hu => cmf_one _ u (by rw [List.toList_toArray] at hu; exact hu)) fun w20 S20 => ?_)
                refine L_y (y_assign rfl) rfl ?_
                refine L_nil ?_
                refine hK18 _ _ ?_
                refine T_ret ?_
                repeat (first | with_reducible refine up_then ?_ | with_reducible refine up_in ?_)
                refine retct rfl rfl rfl (S20.blk 0 rfl) Try.underlying26 rfl (by rw [cmf_sz]; exact sz26) ?_
                exact get_out S20.like0 (g2 hid (by rw [hps, parsR_bad h9 (id_bad h1f2 h0f2 (by first | exact .inl (by simpa using h54) | exact .inr h57))]; rfl))
              ·
                have hid4 := id_good hp h1f2 (by simpa using h54) (Classical.byContradiction fun e => h57 e)
                have hl4 := hmf2 (by simpa using h54)
                refine T_skip ?_
                refine hK15 _ _ ?_
                refine T_region ?_
                refine L_y (y_fieldA 32 Try.underlying26 rfl sz24 rfl rfl rfl) rfl ?_
                refine L_y (y_ldc Try.underlying24 rfl rfl (((S17.blk 1 rfl).cell _).trans (cm32 _))) rfl ?_
                refine L_y (y_ldW Try.underlying23 rfl sz23 rfl (S17.blk 2 rfl) (⟨by rw [List.drop_zero]; exact List.take_of_length_le (by simp [idf_len]), by rw [idf_len]⟩ : _ = idf _ ∧ _)) rfl ?_
                refine L_o (o_bsl (idf p) te24 zz23 S17 rfl rfl rfl (by simp [Value.cells, idf_len]) (by simp [Value.cells]) rfl rfl rfl fun b21 w21 S21 => ?_)
                refine L_o (o_app te24 S21 3 rfl rfl rfl (by first | exact S21.rd hb | exact S21.row 4 rfl) (fun u hu => bL_one _ u hu) rfl (by omega) (by omega) fun A22 c22 w22 S22 => ?_)
                have S22d := S22.drop (rs' := [_, _, _, _]) (.cons_cons _ (.cons_cons _ (.cons_cons _ (.cons_cons _ (.cons _ (.refl _))))))
                refine L_y (y_fieldA 32 Try.underlying26 rfl sz24 rfl rfl rfl) rfl ?_
                refine L_o (o_st1 S22d 1 rfl rfl rfl rfl sz24 (by rw [cmf_sz]; omega) fun w23 S23 => ?_)
                have S24 := S23.blkc 1 rfl (st32 _ _ _ _)
                refine L_nil ?_
                have S9 := S24.rowc 3 rfl (n' := n + 1) (xs' := (ps ++ [p]).flatMap idf) rfl (by rw [List.flatMap_append]; simp; rfl)
                refine ⟨m, s3, ps ++ [p], _, _, _, (tp, f2, (readR tp).2, p), by omega, ⟨⟨by rw [List.length_append, hn]; rfl, by omega, by rw [List.length_append]; simp only [List.length_cons, List.length_nil]; omega, by rw [hps, parsR_step h9 hid4, map_step]⟩, S9⟩, ?_⟩
                exact (Sub.cons rfl (by first | rfl | exact congrArg (Value.int _) (by omega)) (Sub.cons rfl (by first | rfl | exact congrArg (Value.int _) (by omega)) (Sub.cons rfl (by first | rfl | exact congrArg (Value.int _) (by omega)) (Sub.cons rfl (by first | rfl | exact congrArg (Value.int _) (by omega)) (Sub.cons rfl rfl (Sub.cons rfl rfl (Sub.cons rfl rfl (Sub.nil _))))))))
          ·
            refine T_exit ?_
            refine hK10 _ _ ?_
            refine T_seq fun K19 hK19 => ?_
            have hbs2 := bsz s2
            have h9 : ¬ preP s2 (wParent ++ [32]) := by first | exact fun h => h40 ((par_iff s2).2 h) | exact fun h => by have h8 := par7 h; omega
            have hp2 : parsR (s.length + 1) s1 = some (ps, s2) := by rw [hps, parsR_end h9]; simp
            refine T_region ?_
            refine L_y (y_move rfl) rfl ?_
            refine L_o (o_call Try.func84 rfl rfl (rline s2 wAuthor w13 (by omega) (by decide)) rfl rfl ?_)
            rintro e25 w25 ⟨v25, rfl, l25, hu25⟩
            refine ⟨_, rfl, ?_⟩
            have S25 := S13.like l25
            obtain ⟨au, s3, f3, hvf3, h1f3, h0f3, hlf3, hmf3⟩ := lineV_b wAuthor s2
            rw [hvf3] at hu25
            subst hu25
            refine L_y (y_move rfl) rfl ?_
            refine L_y (y_extract rfl rfl) rfl ?_
            refine L_y (y_extract rfl rfl) rfl ?_
            refine L_y (y_extract rfl rfl) rfl ?_
            refine L_y (y_fieldA 33 Try.underlying26 rfl sz9 rfl rfl rfl) rfl ?_
            refine L_o (o_st1 S25 1 rfl rfl rfl rfl sz9 (by rw [cmf_sz]; omega) fun w26 S26 => ?_)
            have S27 := S26.blkc 1 rfl (st33 _ _)
            refine L_y (y_assign rfl) rfl ?_
            refine L_y (y_assign rfl) rfl ?_
            refine L_nil ?_
            refine hK19 _ _ ?_
            refine T_seq fun K20 hK20 => ?_
            refine T_seq fun K21 hK21 => ?_
            refine T_region ?_
            refine L_y (y_move rfl) rfl ?_
            refine L_y ((by first | exact y_notD rfl | exact y_not rfl)) rfl ?_
            refine L_nil ?_
            refine hK21 _ _ ?_
            refine T_condB rfl (fun h73 => ?_) (fun h73 => ?_)
            ·
              refine T_seq fun K22 hK22 => ?_
              refine T_region ?_
              refine L_y (y_build rfl (show _ = some (cmf zCm).toArray by kernel_rfl)) rfl ?_
              refine L_o (o_stW S27 0 rfl rfl rfl (by rw [cmf_sz]; exact sz26) (by first | (rw [cmf_sz]; done) | (rw [cmf_sz]; rfl)) (fun u hu => cmf_one _ u (by rw [List.toList_toArray] at hu; exact hu)) fun w28 S28 => ?_)
              refine L_y (y_assign rfl) rfl ?_
              refine L_nil ?_
              refine hK22 _ _ ?_
              refine T_ret ?_
              repeat (first | with_reducible refine up_then ?_ | with_reducible refine up_in ?_)
              refine retct rfl rfl rfl (S28.blk 0 rfl) Try.underlying26 rfl (by rw [cmf_sz]; exact sz26) ?_
              exact get_out S28.like0 (g3 hid hp2 (h0f3 (by simpa using h73)))
            ·
              have hau := h1f3 (by simpa using h73)
              refine T_skip ?_
              refine hK20 _ _ ?_
              refine T_seq fun K23 hK23 => ?_
              refine T_region ?_
              refine L_y (y_move rfl) rfl ?_
              refine L_o (o_call Try.func84 rfl rfl (rline s3 wTime w26 (by omega) (by decide)) rfl rfl ?_)
              rintro e29 w29 ⟨v29, rfl, l29, hu29⟩
              refine ⟨_, rfl, ?_⟩
              have S29 := S27.like l29
              obtain ⟨tn, s4, f4, hvf4, h1f4, h0f4, hlf4, hmf4⟩ := lineV_b wTime s3
              rw [hvf4] at hu29
              subst hu29
              refine L_y (y_move rfl) rfl ?_
              refine L_y (y_extract rfl rfl) rfl ?_
              refine L_y (y_extract rfl rfl) rfl ?_
              refine L_y (y_extract rfl rfl) rfl ?_
              refine L_y (y_assign rfl) rfl ?_
              refine L_y (y_assign rfl) rfl ?_
              refine L_y (y_assign rfl) rfl ?_
              refine L_nil ?_
              refine hK23 _ _ ?_
              refine T_seq fun K24 hK24 => ?_
              refine T_region ?_
              refine L_y (y_move rfl) rfl ?_
              refine L_o (o_call Try.func17 rfl rfl (rnumber ⟨tn.toArray⟩ w29) rfl rfl ?_)
              rintro e30 w30 ⟨v30, rfl, l30, hu30⟩
              refine ⟨_, rfl, ?_⟩
              have S30 := S29.like l30
              obtain ⟨va, vb, hnv, hnc⟩ := numR_b tn
              have hnv2 : numR (⟨tn.toArray⟩ : ByteArray).data.toList = .tuple #[.int .i64 va, .int .i64 vb] := hnv
              rw [hnv2] at hu30
              subst hu30
              refine L_y (y_move rfl) rfl ?_
              refine L_y (y_extract rfl rfl) rfl ?_
              refine L_y (y_extract rfl rfl) rfl ?_
              refine L_y (y_assign rfl) rfl ?_
              refine L_y (y_assign rfl) rfl ?_
              refine L_nil ?_
              refine hK24 _ _ ?_
              refine T_seq fun K25 hK25 => ?_
              refine T_seq fun K26 hK26 => ?_
              refine T_region ?_
              refine L_y (y_move rfl) rfl ?_
              refine L_y ((by first | exact y_notD rfl | exact y_not rfl)) rfl ?_
              refine L_y (y_move rfl) rfl ?_
              refine L_splitB 88 rfl (fun h88 => ?_) (fun h88 => ?_)
              ·
                refine L_gno rfl rfl rfl ?_
                refine L_gno rfl rfl rfl ?_
                refine L_y ((by first | exact y_pickT rfl rfl | exact y_pickF rfl rfl)) rfl ?_
                refine L_y (y_move rfl) rfl ?_
                refine L_gno rfl rfl rfl ?_
                refine L_gno rfl rfl rfl ?_
                refine L_y ((by first | exact y_pickT rfl rfl | exact y_pickF rfl rfl)) rfl ?_
                refine L_y (y_move rfl) rfl ?_
                refine L_gno rfl rfl rfl ?_
                refine L_gno rfl rfl rfl ?_
                refine L_gno rfl rfl rfl ?_
                refine L_y ((by first | exact y_pickT rfl rfl | exact y_pickF rfl rfl)) rfl ?_
                refine L_nil ?_
                refine hK26 _ _ ?_
                refine T_true rfl ?_
                refine T_seq fun K27 hK27 => ?_
                refine T_region ?_
                refine L_y (y_build rfl (show _ = some (cmf zCm).toArray by kernel_rfl)) rfl ?_
                refine L_o (o_stW S30 0 rfl rfl rfl (by rw [cmf_sz]; exact sz26) (by first | (rw [cmf_sz]; done) | (rw [cmf_sz]; rfl)) (fun u hu => cmf_one _ u (by rw [List.toList_toArray] at hu; exact hu)) fun w32 S32 => ?_)
                refine L_y (y_assign rfl) rfl ?_
                refine L_nil ?_
                refine hK27 _ _ ?_
                refine T_ret ?_
                repeat (first | with_reducible refine up_then ?_ | with_reducible refine up_in ?_)
                refine retct rfl rfl rfl (S32.blk 0 rfl) Try.underlying26 rfl (by rw [cmf_sz]; exact sz26) ?_
                first | exact get_out S32.like0 (g4 hid hp2 hau (numb_bad h1f4 h0f4 (.inl (by simpa using h88)))) | exact get_out S32.like0 (g4 hid hp2 hau (numb_bad h1f4 h0f4 (.inr (hnc.resolve_left (fun h => h92 h.1)).2))) | exact get_out S32.like0 (g5 hid hp2 hau (numb_good h1f4 (by simpa using h88) (hnc.resolve_right (fun h => h92 (by omega))).2.1) (by first | exact textR_n h100 | exact textR_e h96))
              ·
                refine L_gyes rfl rfl ?_
                refine L_y (y_move rfl) rfl ?_
                refine L_gyes rfl rfl ?_
                refine L_y (y_neq rfl rfl) rfl ?_
                refine L_y ((by first | exact y_pickT rfl rfl | exact y_pickF rfl rfl)) rfl ?_
                refine L_y (y_move rfl) rfl ?_
                refine L_split 92 rfl (fun h92 => ?_) (fun h92 => ?_)
                ·
                  refine L_gno rfl rfl rfl ?_
                  refine L_gno rfl rfl rfl ?_
                  refine L_y ((by first | exact y_pickT rfl rfl | exact y_pickF rfl rfl)) rfl ?_
                  refine L_y (y_move rfl) rfl ?_
                  refine L_gno rfl rfl rfl ?_
                  refine L_gno rfl rfl rfl ?_
                  refine L_gno rfl rfl rfl ?_
                  refine L_y ((by first | exact y_pickT rfl rfl | exact y_pickF rfl rfl)) rfl ?_
                  refine L_nil ?_
                  refine hK26 _ _ ?_
                  refine T_true rfl ?_
                  refine T_seq fun K28 hK28 => ?_
                  refine T_region ?_
                  refine L_y (y_build rfl (show _ = some (cmf zCm).toArray by kernel_rfl)) rfl ?_
                  refine L_o (o_stW S30 0 rfl rfl rfl (by rw [cmf_sz]; exact sz26) (by first | (rw [cmf_sz]; done) | (rw [cmf_sz]; rfl)) (fun u hu => cmf_one _ u (by rw [List.toList_toArray] at hu; exact hu)) fun w34 S34 => ?_)
                  refine L_y (y_assign rfl) rfl ?_
                  refine L_nil ?_
                  refine hK28 _ _ ?_
                  refine T_ret ?_
                  repeat (first | with_reducible refine up_then ?_ | with_reducible refine up_in ?_)
                  refine retct rfl rfl rfl (S34.blk 0 rfl) Try.underlying26 rfl (by rw [cmf_sz]; exact sz26) ?_
                  first | exact get_out S34.like0 (g4 hid hp2 hau (numb_bad h1f4 h0f4 (.inl (by simpa using h88)))) | exact get_out S34.like0 (g4 hid hp2 hau (numb_bad h1f4 h0f4 (.inr (hnc.resolve_left (fun h => h92 h.1)).2))) | exact get_out S34.like0 (g5 hid hp2 hau (numb_good h1f4 (by simpa using h88) (hnc.resolve_right (fun h => h92 (by omega))).2.1) (by first | exact textR_n h100 | exact textR_e h96))
                ·
                  refine L_gyes rfl rfl ?_
                  refine L_y (y_move rfl) rfl ?_
                  refine L_gyes rfl rfl ?_
                  refine L_y (y_seql rfl rfl) rfl ?_
                  refine L_y ((by first | exact y_pickT rfl rfl | exact y_pickF rfl rfl)) rfl ?_
                  refine L_y (y_move rfl) rfl ?_
                  refine L_split 96 rfl (fun h96 => ?_) (fun h96 => ?_)
                  ·
                    refine L_gno rfl rfl rfl ?_
                    refine L_gno rfl rfl rfl ?_
                    refine L_gno rfl rfl rfl ?_
                    refine L_y ((by first | exact y_pickT rfl rfl | exact y_pickF rfl rfl)) rfl ?_
                    refine L_nil ?_
                    refine hK26 _ _ ?_
                    refine T_true rfl ?_
                    refine T_seq fun K29 hK29 => ?_
                    refine T_region ?_
                    refine L_y (y_build rfl (show _ = some (cmf zCm).toArray by kernel_rfl)) rfl ?_
                    refine L_o (o_stW S30 0 rfl rfl rfl (by rw [cmf_sz]; exact sz26) (by first | (rw [cmf_sz]; done) | (rw [cmf_sz]; rfl)) (fun u hu => cmf_one _ u (by rw [List.toList_toArray] at hu; exact hu)) fun w36 S36 => ?_)
                    refine L_y (y_assign rfl) rfl ?_
                    refine L_nil ?_
                    refine hK29 _ _ ?_
                    refine T_ret ?_
                    repeat (first | with_reducible refine up_then ?_ | with_reducible refine up_in ?_)
                    refine retct rfl rfl rfl (S36.blk 0 rfl) Try.underlying26 rfl (by rw [cmf_sz]; exact sz26) ?_
                    first | exact get_out S36.like0 (g4 hid hp2 hau (numb_bad h1f4 h0f4 (.inl (by simpa using h88)))) | exact get_out S36.like0 (g4 hid hp2 hau (numb_bad h1f4 h0f4 (.inr (hnc.resolve_left (fun h => h92 h.1)).2))) | exact get_out S36.like0 (g5 hid hp2 hau (numb_good h1f4 (by simpa using h88) (hnc.resolve_right (fun h => h92 (by omega))).2.1) (by first | exact textR_n h100 | exact textR_e h96))
                  ·
                    have h0s : 0 < s4.length := Nat.pos_of_ne_zero (fun e => h96 (by rw [List.eq_nil_of_length_eq_zero e]))
                    have hbs4 := bsz s4
                    refine L_gyes rfl rfl ?_
                    refine L_y (y_move rfl) rfl ?_
                    refine L_gyes rfl rfl ?_
                    refine L_y (y_idxS Try.underlying9 rfl rfl inferInstance (by omega)) rfl ?_
                    refine L_gyes rfl rfl ?_
                    refine L_y (y_neq rfl rfl) rfl ?_
                    refine L_y ((by first | exact y_pickT rfl rfl | exact y_pickF rfl rfl)) rfl ?_
                    refine L_nil ?_
                    refine hK26 _ _ ?_
                    refine T_cond rfl (fun h100 => ?_) (fun h100 => ?_)
                    ·
                      refine T_seq fun K30 hK30 => ?_
                      refine T_region ?_
                      refine L_y (y_build rfl (show _ = some (cmf zCm).toArray by kernel_rfl)) rfl ?_
                      refine L_o (o_stW S30 0 rfl rfl rfl (by rw [cmf_sz]; exact sz26) (by first | (rw [cmf_sz]; done) | (rw [cmf_sz]; rfl)) (fun u hu => cmf_one _ u (by rw [List.toList_toArray] at hu; exact hu)) fun w37 S37 => ?_)
                      refine L_y (y_assign rfl) rfl ?_
                      refine L_nil ?_
                      refine hK30 _ _ ?_
                      refine T_ret ?_
                      repeat (first | with_reducible refine up_then ?_ | with_reducible refine up_in ?_)
                      refine retct rfl rfl rfl (S37.blk 0 rfl) Try.underlying26 rfl (by rw [cmf_sz]; exact sz26) ?_
                      first | exact get_out S37.like0 (g4 hid hp2 hau (numb_bad h1f4 h0f4 (.inl (by simpa using h88)))) | exact get_out S37.like0 (g4 hid hp2 hau (numb_bad h1f4 h0f4 (.inr (hnc.resolve_left (fun h => h92 h.1)).2))) | exact get_out S37.like0 (g5 hid hp2 hau (numb_good h1f4 (by simpa using h88) (hnc.resolve_right (fun h => h92 (by omega))).2.1) (by first | exact textR_n h100 | exact textR_e h96))
                    ·
                      subst hn
                      obtain ⟨hvb, hok, rfl⟩ := hnc.resolve_right (fun h => h92 (by omega))
                      have hpx : preP s4 [10] := (pre1 s4).2 ⟨Nat.pos_of_ne_zero (fun e => h96 (by rw [List.eq_nil_of_length_eq_zero e])), Classical.byContradiction fun e => h100 e⟩
                      have h0s : 0 < s4.length := ((pre1 s4).1 hpx).1
                      have hg : getR s = some (⟨t, ps, au, numV tn, s4.drop 1⟩ : CmL) := g6 hid hp2 hau (numb_good h1f4 (by simpa using h88) hok) (by unfold textR; exact if_pos hpx)
                      refine T_skip ?_
                      refine hK25 _ _ ?_
                      refine T_seq fun K31 hK31 => ?_
                      refine T_region ?_
                      refine L_y (y_move rfl) rfl ?_
                      refine L_y (y_fieldA 34 Try.underlying26 rfl sz3 rfl rfl rfl) rfl ?_
                      refine L_o (o_st1 S30 1 rfl rfl rfl rfl sz3 (by rw [cmf_sz]; omega) fun w38 S38 => ?_)
                      have S39 := S38.blkc 1 rfl (st34 _ _)
                      refine L_nil ?_
                      refine hK31 _ _ ?_
                      refine T_seq fun K32 hK32 => ?_
                      refine T_region ?_
                      refine L_y (y_move rfl) rfl ?_
                      refine L_y (y_ssliceL (l := 1) Try.underlying9 rfl rfl (Nt.mk (by omega)) (by omega)) rfl ?_
                      rw [ext_drop]
                      refine L_y (y_fieldA 35 Try.underlying26 rfl sz9 rfl rfl rfl) rfl ?_
                      refine L_o (o_st1 S39 1 rfl rfl rfl rfl sz9 (by rw [cmf_sz]; omega) fun w40 S40 => ?_)
                      have S41 := S40.blkc 1 rfl (st35 _ _)
                      refine L_nil ?_
                      refine hK32 _ _ ?_
                      refine T_seq fun K33 hK33 => ?_
                      refine T_region ?_
                      refine L_y (y_ldW Try.underlying26 rfl sz26 rfl (S41.blk 1 rfl) (cm_whole _)) rfl ?_
                      refine L_o (o_call Try.func20 rfl rfl (rcheck (cmOf ⟨t, ps, au, numV tn, s4.drop 1⟩ A ps.length c) w40 (S41.row 3 rfl)) rfl rfl ?_)
                      rintro e42 w42 ⟨v42, rfl, l42, rfl⟩
                      refine ⟨_, rfl, ?_⟩
                      have S42 := S41.like l42
                      refine L_y (y_assign rfl) rfl ?_
                      refine L_nil ?_
                      refine hK33 _ _ ?_
                      refine T_seq fun K34 hK34 => ?_
                      refine T_seq fun K35 hK35 => ?_
                      refine T_region ?_
                      refine L_y (y_move rfl) rfl ?_
                      refine L_y (y_neq rfl rfl) rfl ?_
                      refine L_nil ?_
                      refine hK35 _ _ ?_
                      refine T_cond rfl (fun h110 => ?_) (fun h110 => ?_)
                      ·
                        refine T_seq fun K36 hK36 => ?_
                        refine T_region ?_
                        refine L_y (y_build rfl (show _ = some (cmf zCm).toArray by kernel_rfl)) rfl ?_
                        refine L_y (y_move rfl) rfl ?_
                        refine L_o (o_stW S42 0 rfl rfl rfl (by rw [cmf_sz]; exact sz26) (by first | (rw [cmf_sz]; done) | (rw [cmf_sz]; rfl)) (fun u hu => cmf_one _ u (by rw [List.toList_toArray] at hu; exact hu)) fun w43 S43 => ?_)
                        refine L_y (y_assign rfl) rfl ?_
                        refine L_nil ?_
                        refine hK36 _ _ ?_
                        refine T_ret ?_
                        repeat (first | with_reducible refine up_then ?_ | with_reducible refine up_in ?_)
                        refine retct rfl rfl rfl (S43.blk 0 rfl) Try.underlying26 rfl (by rw [cmf_sz]; exact sz26) ?_
                        have hgo := go_some hg
                        have h0 : ¬ chk (cmO (⟨t, ps, au, numV tn, s4.drop 1⟩ : CmL)) = 0 := fun e => h110 e
                        have hv : gval s = zL := by rw [hgo.2, if_neg h0]
                        rw [hv, hgo.1]
                        refine ⟨_, rfl, S43.like0, none, 0, fr_nil _ _ _, ?_⟩
                        exact congrArg (fun x => Value.tuple #[.agg (cmf x).toArray, _]) zL_cm.symm
                      ·
                        refine T_skip ?_
                        refine hK34 _ _ ?_
                        refine T_seq fun K37 hK37 => ?_
                        refine T_region ?_
                        refine L_y (y_ldW Try.underlying26 rfl sz26 rfl (S42.blk 1 rfl) (cm_whole _)) rfl ?_
                        refine L_o (o_stW S42 0 rfl rfl rfl (by rw [cmf_sz]; exact sz26) (by first | (rw [cmf_sz]; done) | (rw [cmf_sz]; rfl)) (fun u hu => cmf_one _ u (by rw [List.toList_toArray] at hu; exact hu)) fun w44 S44 => ?_)
                        refine L_y (y_assign rfl) rfl ?_
                        refine L_nil ?_
                        refine hK37 _ _ ?_
                        refine T_ret ?_
                        repeat (first | with_reducible refine up_then ?_ | with_reducible refine up_in ?_)
                        refine retct rfl rfl rfl (S44.blk 0 rfl) Try.underlying26 rfl (by rw [cmf_sz]; exact sz26) ?_
                        have hgo := go_some hg
                        have h0 : chk (cmO (⟨t, ps, au, numV tn, s4.drop 1⟩ : CmL)) = 0 := Classical.byContradiction fun e => h110 e
                        have hv : gval s = (⟨t, ps, au, numV tn, s4.drop 1⟩ : CmL) := by rw [hgo.2, if_pos h0]
                        rw [hv, hgo.1, h0]
                        exact ⟨_, rfl, S44.like0, A, c, Fr.of_own (S44.own 3 rfl), rfl⟩
        ·
          refine L_gno rfl rfl rfl ?_
          refine L_gno rfl rfl rfl ?_
          refine L_gno rfl rfl rfl ?_
          refine L_y ((by first | exact y_pickT rfl rfl | exact y_pickF rfl rfl)) rfl ?_
          refine L_nil ?_
          refine hK12 _ _ ?_
          refine T_false rfl ?_
          refine T_exit ?_
          refine hK10 _ _ ?_
          refine T_seq fun K38 hK38 => ?_
          have hbs2 := bsz s2
          have h9 : ¬ preP s2 (wParent ++ [32]) := by first | exact fun h => h40 ((par_iff s2).2 h) | exact fun h => by have h8 := par7 h; omega
          have hp2 : parsR (s.length + 1) s1 = some (ps, s2) := by rw [hps, parsR_end h9]; simp
          refine T_region ?_
          refine L_y (y_move rfl) rfl ?_
          refine L_o (o_call Try.func84 rfl rfl (rline s2 wAuthor w13 (by omega) (by decide)) rfl rfl ?_)
          rintro e45 w45 ⟨v45, rfl, l45, hu45⟩
          refine ⟨_, rfl, ?_⟩
          have S45 := S13.like l45
          obtain ⟨au, s3, f3, hvf3, h1f3, h0f3, hlf3, hmf3⟩ := lineV_b wAuthor s2
          rw [hvf3] at hu45
          subst hu45
          refine L_y (y_move rfl) rfl ?_
          refine L_y (y_extract rfl rfl) rfl ?_
          refine L_y (y_extract rfl rfl) rfl ?_
          refine L_y (y_extract rfl rfl) rfl ?_
          refine L_y (y_fieldA 33 Try.underlying26 rfl sz9 rfl rfl rfl) rfl ?_
          refine L_o (o_st1 S45 1 rfl rfl rfl rfl sz9 (by rw [cmf_sz]; omega) fun w46 S46 => ?_)
          have S47 := S46.blkc 1 rfl (st33 _ _)
          refine L_y (y_assign rfl) rfl ?_
          refine L_y (y_assign rfl) rfl ?_
          refine L_nil ?_
          refine hK38 _ _ ?_
          refine T_seq fun K39 hK39 => ?_
          refine T_seq fun K40 hK40 => ?_
          refine T_region ?_
          refine L_y (y_move rfl) rfl ?_
          refine L_y ((by first | exact y_notD rfl | exact y_not rfl)) rfl ?_
          refine L_nil ?_
          refine hK40 _ _ ?_
          refine T_condB rfl (fun h73 => ?_) (fun h73 => ?_)
          ·
            refine T_seq fun K41 hK41 => ?_
            refine T_region ?_
            refine L_y (y_build rfl (show _ = some (cmf zCm).toArray by kernel_rfl)) rfl ?_
            refine L_o (o_stW S47 0 rfl rfl rfl (by rw [cmf_sz]; exact sz26) (by first | (rw [cmf_sz]; done) | (rw [cmf_sz]; rfl)) (fun u hu => cmf_one _ u (by rw [List.toList_toArray] at hu; exact hu)) fun w48 S48 => ?_)
            refine L_y (y_assign rfl) rfl ?_
            refine L_nil ?_
            refine hK41 _ _ ?_
            refine T_ret ?_
            repeat (first | with_reducible refine up_then ?_ | with_reducible refine up_in ?_)
            refine retct rfl rfl rfl (S48.blk 0 rfl) Try.underlying26 rfl (by rw [cmf_sz]; exact sz26) ?_
            exact get_out S48.like0 (g3 hid hp2 (h0f3 (by simpa using h73)))
          ·
            have hau := h1f3 (by simpa using h73)
            refine T_skip ?_
            refine hK39 _ _ ?_
            refine T_seq fun K42 hK42 => ?_
            refine T_region ?_
            refine L_y (y_move rfl) rfl ?_
            refine L_o (o_call Try.func84 rfl rfl (rline s3 wTime w46 (by omega) (by decide)) rfl rfl ?_)
            rintro e49 w49 ⟨v49, rfl, l49, hu49⟩
            refine ⟨_, rfl, ?_⟩
            have S49 := S47.like l49
            obtain ⟨tn, s4, f4, hvf4, h1f4, h0f4, hlf4, hmf4⟩ := lineV_b wTime s3
            rw [hvf4] at hu49
            subst hu49
            refine L_y (y_move rfl) rfl ?_
            refine L_y (y_extract rfl rfl) rfl ?_
            refine L_y (y_extract rfl rfl) rfl ?_
            refine L_y (y_extract rfl rfl) rfl ?_
            refine L_y (y_assign rfl) rfl ?_
            refine L_y (y_assign rfl) rfl ?_
            refine L_y (y_assign rfl) rfl ?_
            refine L_nil ?_
            refine hK42 _ _ ?_
            refine T_seq fun K43 hK43 => ?_
            refine T_region ?_
            refine L_y (y_move rfl) rfl ?_
            refine L_o (o_call Try.func17 rfl rfl (rnumber ⟨tn.toArray⟩ w49) rfl rfl ?_)
            rintro e50 w50 ⟨v50, rfl, l50, hu50⟩
            refine ⟨_, rfl, ?_⟩
            have S50 := S49.like l50
            obtain ⟨va, vb, hnv, hnc⟩ := numR_b tn
            have hnv2 : numR (⟨tn.toArray⟩ : ByteArray).data.toList = .tuple #[.int .i64 va, .int .i64 vb] := hnv
            rw [hnv2] at hu50
            subst hu50
            refine L_y (y_move rfl) rfl ?_
            refine L_y (y_extract rfl rfl) rfl ?_
            refine L_y (y_extract rfl rfl) rfl ?_
            refine L_y (y_assign rfl) rfl ?_
            refine L_y (y_assign rfl) rfl ?_
            refine L_nil ?_
            refine hK43 _ _ ?_
            refine T_seq fun K44 hK44 => ?_
            refine T_seq fun K45 hK45 => ?_
            refine T_region ?_
            refine L_y (y_move rfl) rfl ?_
            refine L_y ((by first | exact y_notD rfl | exact y_not rfl)) rfl ?_
            refine L_y (y_move rfl) rfl ?_
            refine L_splitB 88 rfl (fun h88 => ?_) (fun h88 => ?_)
            ·
              refine L_gno rfl rfl rfl ?_
              refine L_gno rfl rfl rfl ?_
              refine L_y ((by first | exact y_pickT rfl rfl | exact y_pickF rfl rfl)) rfl ?_
              refine L_y (y_move rfl) rfl ?_
              refine L_gno rfl rfl rfl ?_
              refine L_gno rfl rfl rfl ?_
              refine L_y ((by first | exact y_pickT rfl rfl | exact y_pickF rfl rfl)) rfl ?_
              refine L_y (y_move rfl) rfl ?_
              refine L_gno rfl rfl rfl ?_
              refine L_gno rfl rfl rfl ?_
              refine L_gno rfl rfl rfl ?_
              refine L_y ((by first | exact y_pickT rfl rfl | exact y_pickF rfl rfl)) rfl ?_
              refine L_nil ?_
              refine hK45 _ _ ?_
              refine T_true rfl ?_
              refine T_seq fun K46 hK46 => ?_
              refine T_region ?_
              refine L_y (y_build rfl (show _ = some (cmf zCm).toArray by kernel_rfl)) rfl ?_
              refine L_o (o_stW S50 0 rfl rfl rfl (by rw [cmf_sz]; exact sz26) (by first | (rw [cmf_sz]; done) | (rw [cmf_sz]; rfl)) (fun u hu => cmf_one _ u (by rw [List.toList_toArray] at hu; exact hu)) fun w52 S52 => ?_)
              refine L_y (y_assign rfl) rfl ?_
              refine L_nil ?_
              refine hK46 _ _ ?_
              refine T_ret ?_
              repeat (first | with_reducible refine up_then ?_ | with_reducible refine up_in ?_)
              refine retct rfl rfl rfl (S52.blk 0 rfl) Try.underlying26 rfl (by rw [cmf_sz]; exact sz26) ?_
              first | exact get_out S52.like0 (g4 hid hp2 hau (numb_bad h1f4 h0f4 (.inl (by simpa using h88)))) | exact get_out S52.like0 (g4 hid hp2 hau (numb_bad h1f4 h0f4 (.inr (hnc.resolve_left (fun h => h92 h.1)).2))) | exact get_out S52.like0 (g5 hid hp2 hau (numb_good h1f4 (by simpa using h88) (hnc.resolve_right (fun h => h92 (by omega))).2.1) (by first | exact textR_n h100 | exact textR_e h96))
            ·
              refine L_gyes rfl rfl ?_
              refine L_y (y_move rfl) rfl ?_
              refine L_gyes rfl rfl ?_
              refine L_y (y_neq rfl rfl) rfl ?_
              refine L_y ((by first | exact y_pickT rfl rfl | exact y_pickF rfl rfl)) rfl ?_
              refine L_y (y_move rfl) rfl ?_
              refine L_split 92 rfl (fun h92 => ?_) (fun h92 => ?_)
              ·
                refine L_gno rfl rfl rfl ?_
                refine L_gno rfl rfl rfl ?_
                refine L_y ((by first | exact y_pickT rfl rfl | exact y_pickF rfl rfl)) rfl ?_
                refine L_y (y_move rfl) rfl ?_
                refine L_gno rfl rfl rfl ?_
                refine L_gno rfl rfl rfl ?_
                refine L_gno rfl rfl rfl ?_
                refine L_y ((by first | exact y_pickT rfl rfl | exact y_pickF rfl rfl)) rfl ?_
                refine L_nil ?_
                refine hK45 _ _ ?_
                refine T_true rfl ?_
                refine T_seq fun K47 hK47 => ?_
                refine T_region ?_
                refine L_y (y_build rfl (show _ = some (cmf zCm).toArray by kernel_rfl)) rfl ?_
                refine L_o (o_stW S50 0 rfl rfl rfl (by rw [cmf_sz]; exact sz26) (by first | (rw [cmf_sz]; done) | (rw [cmf_sz]; rfl)) (fun u hu => cmf_one _ u (by rw [List.toList_toArray] at hu; exact hu)) fun w54 S54 => ?_)
                refine L_y (y_assign rfl) rfl ?_
                refine L_nil ?_
                refine hK47 _ _ ?_
                refine T_ret ?_
                repeat (first | with_reducible refine up_then ?_ | with_reducible refine up_in ?_)
                refine retct rfl rfl rfl (S54.blk 0 rfl) Try.underlying26 rfl (by rw [cmf_sz]; exact sz26) ?_
                first | exact get_out S54.like0 (g4 hid hp2 hau (numb_bad h1f4 h0f4 (.inl (by simpa using h88)))) | exact get_out S54.like0 (g4 hid hp2 hau (numb_bad h1f4 h0f4 (.inr (hnc.resolve_left (fun h => h92 h.1)).2))) | exact get_out S54.like0 (g5 hid hp2 hau (numb_good h1f4 (by simpa using h88) (hnc.resolve_right (fun h => h92 (by omega))).2.1) (by first | exact textR_n h100 | exact textR_e h96))
              ·
                refine L_gyes rfl rfl ?_
                refine L_y (y_move rfl) rfl ?_
                refine L_gyes rfl rfl ?_
                refine L_y (y_seql rfl rfl) rfl ?_
                refine L_y ((by first | exact y_pickT rfl rfl | exact y_pickF rfl rfl)) rfl ?_
                refine L_y (y_move rfl) rfl ?_
                refine L_split 96 rfl (fun h96 => ?_) (fun h96 => ?_)
                ·
                  refine L_gno rfl rfl rfl ?_
                  refine L_gno rfl rfl rfl ?_
                  refine L_gno rfl rfl rfl ?_
                  refine L_y ((by first | exact y_pickT rfl rfl | exact y_pickF rfl rfl)) rfl ?_
                  refine L_nil ?_
                  refine hK45 _ _ ?_
                  refine T_true rfl ?_
                  refine T_seq fun K48 hK48 => ?_
                  refine T_region ?_
                  refine L_y (y_build rfl (show _ = some (cmf zCm).toArray by kernel_rfl)) rfl ?_
                  refine L_o (o_stW S50 0 rfl rfl rfl (by rw [cmf_sz]; exact sz26) (by first | (rw [cmf_sz]; done) | (rw [cmf_sz]; rfl)) (fun u hu => cmf_one _ u (by rw [List.toList_toArray] at hu; exact hu)) fun w56 S56 => ?_)
                  refine L_y (y_assign rfl) rfl ?_
                  refine L_nil ?_
                  refine hK48 _ _ ?_
                  refine T_ret ?_
                  repeat (first | with_reducible refine up_then ?_ | with_reducible refine up_in ?_)
                  refine retct rfl rfl rfl (S56.blk 0 rfl) Try.underlying26 rfl (by rw [cmf_sz]; exact sz26) ?_
                  first | exact get_out S56.like0 (g4 hid hp2 hau (numb_bad h1f4 h0f4 (.inl (by simpa using h88)))) | exact get_out S56.like0 (g4 hid hp2 hau (numb_bad h1f4 h0f4 (.inr (hnc.resolve_left (fun h => h92 h.1)).2))) | exact get_out S56.like0 (g5 hid hp2 hau (numb_good h1f4 (by simpa using h88) (hnc.resolve_right (fun h => h92 (by omega))).2.1) (by first | exact textR_n h100 | exact textR_e h96))
                ·
                  have h0s : 0 < s4.length := Nat.pos_of_ne_zero (fun e => h96 (by rw [List.eq_nil_of_length_eq_zero e]))
                  have hbs4 := bsz s4
                  refine L_gyes rfl rfl ?_
                  refine L_y (y_move rfl) rfl ?_
                  refine L_gyes rfl rfl ?_
                  refine L_y (y_idxS Try.underlying9 rfl rfl inferInstance (by omega)) rfl ?_
                  refine L_gyes rfl rfl ?_
                  refine L_y (y_neq rfl rfl) rfl ?_
                  refine L_y ((by first | exact y_pickT rfl rfl | exact y_pickF rfl rfl)) rfl ?_
                  refine L_nil ?_
                  refine hK45 _ _ ?_
                  refine T_cond rfl (fun h100 => ?_) (fun h100 => ?_)
                  ·
                    refine T_seq fun K49 hK49 => ?_
                    refine T_region ?_
                    refine L_y (y_build rfl (show _ = some (cmf zCm).toArray by kernel_rfl)) rfl ?_
                    refine L_o (o_stW S50 0 rfl rfl rfl (by rw [cmf_sz]; exact sz26) (by first | (rw [cmf_sz]; done) | (rw [cmf_sz]; rfl)) (fun u hu => cmf_one _ u (by rw [List.toList_toArray] at hu; exact hu)) fun w57 S57 => ?_)
                    refine L_y (y_assign rfl) rfl ?_
                    refine L_nil ?_
                    refine hK49 _ _ ?_
                    refine T_ret ?_
                    repeat (first | with_reducible refine up_then ?_ | with_reducible refine up_in ?_)
                    refine retct rfl rfl rfl (S57.blk 0 rfl) Try.underlying26 rfl (by rw [cmf_sz]; exact sz26) ?_
                    first | exact get_out S57.like0 (g4 hid hp2 hau (numb_bad h1f4 h0f4 (.inl (by simpa using h88)))) | exact get_out S57.like0 (g4 hid hp2 hau (numb_bad h1f4 h0f4 (.inr (hnc.resolve_left (fun h => h92 h.1)).2))) | exact get_out S57.like0 (g5 hid hp2 hau (numb_good h1f4 (by simpa using h88) (hnc.resolve_right (fun h => h92 (by omega))).2.1) (by first | exact textR_n h100 | exact textR_e h96))
                  ·
                    subst hn
                    obtain ⟨hvb, hok, rfl⟩ := hnc.resolve_right (fun h => h92 (by omega))
                    have hpx : preP s4 [10] := (pre1 s4).2 ⟨Nat.pos_of_ne_zero (fun e => h96 (by rw [List.eq_nil_of_length_eq_zero e])), Classical.byContradiction fun e => h100 e⟩
                    have h0s : 0 < s4.length := ((pre1 s4).1 hpx).1
                    have hg : getR s = some (⟨t, ps, au, numV tn, s4.drop 1⟩ : CmL) := g6 hid hp2 hau (numb_good h1f4 (by simpa using h88) hok) (by unfold textR; exact if_pos hpx)
                    refine T_skip ?_
                    refine hK44 _ _ ?_
                    refine T_seq fun K50 hK50 => ?_
                    refine T_region ?_
                    refine L_y (y_move rfl) rfl ?_
                    refine L_y (y_fieldA 34 Try.underlying26 rfl sz3 rfl rfl rfl) rfl ?_
                    refine L_o (o_st1 S50 1 rfl rfl rfl rfl sz3 (by rw [cmf_sz]; omega) fun w58 S58 => ?_)
                    have S59 := S58.blkc 1 rfl (st34 _ _)
                    refine L_nil ?_
                    refine hK50 _ _ ?_
                    refine T_seq fun K51 hK51 => ?_
                    refine T_region ?_
                    refine L_y (y_move rfl) rfl ?_
                    refine L_y (y_ssliceL (l := 1) Try.underlying9 rfl rfl (Nt.mk (by omega)) (by omega)) rfl ?_
                    rw [ext_drop]
                    refine L_y (y_fieldA 35 Try.underlying26 rfl sz9 rfl rfl rfl) rfl ?_
                    refine L_o (o_st1 S59 1 rfl rfl rfl rfl sz9 (by rw [cmf_sz]; omega) fun w60 S60 => ?_)
                    have S61 := S60.blkc 1 rfl (st35 _ _)
                    refine L_nil ?_
                    refine hK51 _ _ ?_
                    refine T_seq fun K52 hK52 => ?_
                    refine T_region ?_
                    refine L_y (y_ldW Try.underlying26 rfl sz26 rfl (S61.blk 1 rfl) (cm_whole _)) rfl ?_
                    refine L_o (o_call Try.func20 rfl rfl (rcheck (cmOf ⟨t, ps, au, numV tn, s4.drop 1⟩ A ps.length c) w60 (S61.row 3 rfl)) rfl rfl ?_)
                    rintro e62 w62 ⟨v62, rfl, l62, rfl⟩
                    refine ⟨_, rfl, ?_⟩
                    have S62 := S61.like l62
                    refine L_y (y_assign rfl) rfl ?_
                    refine L_nil ?_
                    refine hK52 _ _ ?_
                    refine T_seq fun K53 hK53 => ?_
                    refine T_seq fun K54 hK54 => ?_
                    refine T_region ?_
                    refine L_y (y_move rfl) rfl ?_
                    refine L_y (y_neq rfl rfl) rfl ?_
                    refine L_nil ?_
                    refine hK54 _ _ ?_
                    refine T_cond rfl (fun h110 => ?_) (fun h110 => ?_)
                    ·
                      refine T_seq fun K55 hK55 => ?_
                      refine T_region ?_
                      refine L_y (y_build rfl (show _ = some (cmf zCm).toArray by kernel_rfl)) rfl ?_
                      refine L_y (y_move rfl) rfl ?_
                      refine L_o (o_stW S62 0 rfl rfl rfl (by rw [cmf_sz]; exact sz26) (by first | (rw [cmf_sz]; done) | (rw [cmf_sz]; rfl)) (fun u hu => cmf_one _ u (by rw [List.toList_toArray] at hu; exact hu)) fun w63 S63 => ?_)
                      refine L_y (y_assign rfl) rfl ?_
                      refine L_nil ?_
                      refine hK55 _ _ ?_
                      refine T_ret ?_
                      repeat (first | with_reducible refine up_then ?_ | with_reducible refine up_in ?_)
                      refine retct rfl rfl rfl (S63.blk 0 rfl) Try.underlying26 rfl (by rw [cmf_sz]; exact sz26) ?_
                      have hgo := go_some hg
                      have h0 : ¬ chk (cmO (⟨t, ps, au, numV tn, s4.drop 1⟩ : CmL)) = 0 := fun e => h110 e
                      have hv : gval s = zL := by rw [hgo.2, if_neg h0]
                      rw [hv, hgo.1]
                      refine ⟨_, rfl, S63.like0, none, 0, fr_nil _ _ _, ?_⟩
                      exact congrArg (fun x => Value.tuple #[.agg (cmf x).toArray, _]) zL_cm.symm
                    ·
                      refine T_skip ?_
                      refine hK53 _ _ ?_
                      refine T_seq fun K56 hK56 => ?_
                      refine T_region ?_
                      refine L_y (y_ldW Try.underlying26 rfl sz26 rfl (S62.blk 1 rfl) (cm_whole _)) rfl ?_
                      refine L_o (o_stW S62 0 rfl rfl rfl (by rw [cmf_sz]; exact sz26) (by first | (rw [cmf_sz]; done) | (rw [cmf_sz]; rfl)) (fun u hu => cmf_one _ u (by rw [List.toList_toArray] at hu; exact hu)) fun w64 S64 => ?_)
                      refine L_y (y_assign rfl) rfl ?_
                      refine L_nil ?_
                      refine hK56 _ _ ?_
                      refine T_ret ?_
                      repeat (first | with_reducible refine up_then ?_ | with_reducible refine up_in ?_)
                      refine retct rfl rfl rfl (S64.blk 0 rfl) Try.underlying26 rfl (by rw [cmf_sz]; exact sz26) ?_
                      have hgo := go_some hg
                      have h0 : chk (cmO (⟨t, ps, au, numV tn, s4.drop 1⟩ : CmL)) = 0 := Classical.byContradiction fun e => h110 e
                      have hv : gval s = (⟨t, ps, au, numV tn, s4.drop 1⟩ : CmL) := by rw [hgo.2, if_pos h0]
                      rw [hv, hgo.1, h0]
                      exact ⟨_, rfl, S64.like0, A, c, Fr.of_own (S64.own 3 rfl), rfl⟩
end Go.Proofs.Ytgaklngnfecdaaa.Rev


/-
  Same.
-/
namespace Go.Proofs.Ytgaklngnfecdaaa.Rev
open Go.RowKit Zk Zx
open Oid (idf hexL idf_len readR)
open Tre (nmOk)
set_option linter.unusedVariables false
set_option linter.unusedSimpArgs false

/-- Are two commits one? -/
def sameB (x y : Cm) : Bool := decide (x.tr = y.tr) && (decide (x.ps = y.ps) && (decide (x.au = y.au) && (decide (x.tm = y.tm) && decide (x.tx = y.tx))))
theorem tr_ne {x y : Cm} (h : ¬ x.tr.l = y.tr.l) : decide (x.tr = y.tr) = false := decide_eq_false fun e => h (by rw [e])
theorem tr_eq {x y : Cm} (h : x.tr.l = y.tr.l) : decide (x.tr = y.tr) = true := decide_eq_true (Oid.Id.ext h)
theorem all_take {l k : List Oid.Id} {i : Nat} (h : l.take i = k.take i) (h1 : l.length ≤ i) (h2 : k.length ≤ i) : l = k := by
  rwa [List.take_of_length_le h1, List.take_of_length_le h2] at h
theorem ps_take {l k : List Oid.Id} {i : Nat} {p q : Oid.Id} (hl : l[i]? = some p) (hk : k[i]? = some q) (h : l.take i = k.take i) (he : p = q) : l.take (i + 1) = k.take (i + 1) := by
  rw [List.take_add_one, List.take_add_one, hl, hk, h, he]


set_option maxRecDepth 100000 in
theorem rsame (x y : Cm) (w0 : World) (hx : Rs w0 32 x.A x.n x.c (x.ps.flatMap idf)) (hy : Rs w0 32 y.A y.n y.c (y.ps.flatMap idf)) :
    Calls Try.prog 37 #[.agg (cmf x).toArray, .agg (cmf y).toArray] w0 fun e w' => ∃ u, e = .returned u ∧ Like w0 w' ∧ u = .bool (sameB x y) := by
  refine enter1 (env := [(0, .agg (cmf x).toArray), (1, .agg (cmf y).toArray)]) [.agg (cmf x).toArray, .agg (cmf y).toArray] Try.func37 rfl Try.ntmps37 rfl rfl ?_
  have S0 := St.start w0 noM
  refine T_seq fun K1 hK1 => ?_
  refine T_region ?_
  refine L_o (o_box rfl S0 rfl fun b1 w1 hb1 S1 => ?_)
  refine L_o (o_box rfl S1 rfl fun b2 w2 hb2 S2 => ?_)
  refine L_y (y_assign rfl) rfl ?_
  refine L_nil ?_
  refine hK1 _ _ ?_
  refine T_seq fun K2 hK2 => ?_
  refine T_region ?_
  refine L_y (y_fieldA 0 Try.underlying26 rfl sz23 rfl rfl rfl) rfl ?_
  refine L_y (y_ldW Try.underlying23 rfl sz23 rfl (S2.blk 0 rfl) (cm_tr x)) rfl ?_
  refine L_y (y_fieldA 0 Try.underlying26 rfl sz23 rfl rfl rfl) rfl ?_
  refine L_y (y_ldW Try.underlying23 rfl sz23 rfl (S2.blk 1 rfl) (cm_tr y)) rfl ?_
  refine L_y (y_eqB Try.underlying23 Try.underlying5 sz5 (by kernel_rfl) rfl rfl (Oid.Id.h _) (Oid.Id.h _)) rfl ?_
  refine L_y (y_move rfl) rfl ?_
  refine L_split 10 rfl (fun h10 => ?_) (fun h10 => ?_)
  ·
    refine L_gyes rfl rfl ?_
    refine L_y (y_fieldA 32 Try.underlying26 rfl sz24 rfl rfl rfl) rfl ?_
    refine L_gyes rfl rfl ?_
    refine L_y (y_ldc Try.underlying24 rfl rfl (((S2.blk 0 rfl).cell _).trans (cm32 x))) rfl ?_
    refine L_gyes rfl rfl ?_
    refine L_y (y_fieldA 32 Try.underlying26 rfl sz24 rfl rfl rfl) rfl ?_
    refine L_gyes rfl rfl ?_
    refine L_y (y_ldc Try.underlying24 rfl rfl (((S2.blk 1 rfl).cell _).trans (cm32 y))) rfl ?_
    refine L_gyes rfl rfl ?_
    refine L_o (o_call Try.func47 rfl rfl (Oid.rsameI _ _ _ x.ps _ _ _ y.ps w2 (S2.rd hx) (S2.rd hy)) rfl rfl ?_)
    rintro e4 w4 ⟨v4, rfl, l4, rfl⟩
    refine ⟨_, rfl, ?_⟩
    have S4 := S2.like l4
    refine L_y ((by first | exact y_pickT rfl rfl | exact y_pickF rfl rfl)) rfl ?_
    refine L_y (y_move rfl) rfl ?_
    refine L_split 17 rfl (fun h17 => ?_) (fun h17 => ?_)
    ·
      refine L_gyes rfl rfl ?_
      refine L_y (y_fieldA 33 Try.underlying26 rfl sz9 rfl rfl rfl) rfl ?_
      refine L_gyes rfl rfl ?_
      refine L_y (y_ldc Try.underlying9 rfl rfl (((S4.blk 0 rfl).cell _).trans (cm33 x))) rfl ?_
      refine L_gyes rfl rfl ?_
      refine L_y (y_fieldA 33 Try.underlying26 rfl sz9 rfl rfl rfl) rfl ?_
      refine L_gyes rfl rfl ?_
      refine L_y (y_ldc Try.underlying9 rfl rfl (((S4.blk 1 rfl).cell _).trans (cm33 y))) rfl ?_
      refine L_gyes rfl rfl ?_
      refine L_y (y_seql rfl rfl) rfl ?_
      refine L_y ((by first | exact y_pickT rfl rfl | exact y_pickF rfl rfl)) rfl ?_
      refine L_y (y_move rfl) rfl ?_
      refine L_split 24 rfl (fun h24 => ?_) (fun h24 => ?_)
      ·
        refine L_gyes rfl rfl ?_
        refine L_y (y_fieldA 34 Try.underlying26 rfl sz3 rfl rfl rfl) rfl ?_
        refine L_gyes rfl rfl ?_
        refine L_y (y_ldc Try.underlying3 rfl rfl (((S4.blk 0 rfl).cell _).trans (cm34 x))) rfl ?_
        refine L_gyes rfl rfl ?_
        refine L_y (y_fieldA 34 Try.underlying26 rfl sz3 rfl rfl rfl) rfl ?_
        refine L_gyes rfl rfl ?_
        refine L_y (y_ldc Try.underlying3 rfl rfl (((S4.blk 1 rfl).cell _).trans (cm34 y))) rfl ?_
        refine L_gyes rfl rfl ?_
        refine L_y (y_eql rfl rfl) rfl ?_
        refine L_y ((by first | exact y_pickT rfl rfl | exact y_pickF rfl rfl)) rfl ?_
        refine L_y (y_move rfl) rfl ?_
        refine L_split 31 rfl (fun h31 => ?_) (fun h31 => ?_)
        ·
          refine L_gyes rfl rfl ?_
          refine L_y (y_fieldA 35 Try.underlying26 rfl sz9 rfl rfl rfl) rfl ?_
          refine L_gyes rfl rfl ?_
          refine L_y (y_ldc Try.underlying9 rfl rfl (((S4.blk 0 rfl).cell _).trans (cm35 x))) rfl ?_
          refine L_gyes rfl rfl ?_
          refine L_y (y_fieldA 35 Try.underlying26 rfl sz9 rfl rfl rfl) rfl ?_
          refine L_gyes rfl rfl ?_
          refine L_y (y_ldc Try.underlying9 rfl rfl (((S4.blk 1 rfl).cell _).trans (cm35 y))) rfl ?_
          refine L_gyes rfl rfl ?_
          refine L_y (y_seql rfl rfl) rfl ?_
          refine L_y ((by first | exact y_pickT rfl rfl | exact y_pickF rfl rfl)) rfl ?_
          refine L_y (y_assign rfl) rfl ?_
          refine L_nil ?_
          refine hK2 _ _ ?_
          refine T_ret ?_
          repeat (first | with_reducible refine up_then ?_ | with_reducible refine up_in ?_)
          refine ret1 rfl rfl ?_
          exact ⟨_, rfl, S4.like0, congrArg Value.bool (by unfold sameB; first | rw [tr_ne h10, Bool.false_and] | simp [tr_eq h10, h17, h24, h31] | simp [tr_eq h10, h17, h24] | simp [tr_eq h10, h17] | simp [tr_eq h10])⟩
        ·
          refine L_gno rfl rfl rfl ?_
          refine L_gno rfl rfl rfl ?_
          refine L_gno rfl rfl rfl ?_
          refine L_gno rfl rfl rfl ?_
          refine L_gno rfl rfl rfl ?_
          refine L_y ((by first | exact y_pickT rfl rfl | exact y_pickF rfl rfl)) rfl ?_
          refine L_y (y_assign rfl) rfl ?_
          refine L_nil ?_
          refine hK2 _ _ ?_
          refine T_ret ?_
          repeat (first | with_reducible refine up_then ?_ | with_reducible refine up_in ?_)
          refine ret1 rfl rfl ?_
          exact ⟨_, rfl, S4.like0, congrArg Value.bool (by unfold sameB; first | rw [tr_ne h10, Bool.false_and] | simp [tr_eq h10, h17, h24, h31] | simp [tr_eq h10, h17, h24] | simp [tr_eq h10, h17] | simp [tr_eq h10])⟩
      ·
        refine L_gno rfl rfl rfl ?_
        refine L_gno rfl rfl rfl ?_
        refine L_gno rfl rfl rfl ?_
        refine L_gno rfl rfl rfl ?_
        refine L_gno rfl rfl rfl ?_
        refine L_y ((by first | exact y_pickT rfl rfl | exact y_pickF rfl rfl)) rfl ?_
        refine L_y (y_move rfl) rfl ?_
        refine L_gno rfl rfl rfl ?_
        refine L_gno rfl rfl rfl ?_
        refine L_gno rfl rfl rfl ?_
        refine L_gno rfl rfl rfl ?_
        refine L_gno rfl rfl rfl ?_
        refine L_y ((by first | exact y_pickT rfl rfl | exact y_pickF rfl rfl)) rfl ?_
        refine L_y (y_assign rfl) rfl ?_
        refine L_nil ?_
        refine hK2 _ _ ?_
        refine T_ret ?_
        repeat (first | with_reducible refine up_then ?_ | with_reducible refine up_in ?_)
        refine ret1 rfl rfl ?_
        exact ⟨_, rfl, S4.like0, congrArg Value.bool (by unfold sameB; first | rw [tr_ne h10, Bool.false_and] | simp [tr_eq h10, h17, h24, h31] | simp [tr_eq h10, h17, h24] | simp [tr_eq h10, h17] | simp [tr_eq h10])⟩
    ·
      refine L_gno rfl rfl rfl ?_
      refine L_gno rfl rfl rfl ?_
      refine L_gno rfl rfl rfl ?_
      refine L_gno rfl rfl rfl ?_
      refine L_gno rfl rfl rfl ?_
      refine L_y ((by first | exact y_pickT rfl rfl | exact y_pickF rfl rfl)) rfl ?_
      refine L_y (y_move rfl) rfl ?_
      refine L_gno rfl rfl rfl ?_
      refine L_gno rfl rfl rfl ?_
      refine L_gno rfl rfl rfl ?_
      refine L_gno rfl rfl rfl ?_
      refine L_gno rfl rfl rfl ?_
      refine L_y ((by first | exact y_pickT rfl rfl | exact y_pickF rfl rfl)) rfl ?_
      refine L_y (y_move rfl) rfl ?_
      refine L_gno rfl rfl rfl ?_
      refine L_gno rfl rfl rfl ?_
      refine L_gno rfl rfl rfl ?_
      refine L_gno rfl rfl rfl ?_
      refine L_gno rfl rfl rfl ?_
      refine L_y ((by first | exact y_pickT rfl rfl | exact y_pickF rfl rfl)) rfl ?_
      refine L_y (y_assign rfl) rfl ?_
      refine L_nil ?_
      refine hK2 _ _ ?_
      refine T_ret ?_
      repeat (first | with_reducible refine up_then ?_ | with_reducible refine up_in ?_)
      refine ret1 rfl rfl ?_
      exact ⟨_, rfl, S4.like0, congrArg Value.bool (by unfold sameB; first | rw [tr_ne h10, Bool.false_and] | simp [tr_eq h10, h17, h24, h31] | simp [tr_eq h10, h17, h24] | simp [tr_eq h10, h17] | simp [tr_eq h10])⟩
  ·
    refine L_gno rfl rfl rfl ?_
    refine L_gno rfl rfl rfl ?_
    refine L_gno rfl rfl rfl ?_
    refine L_gno rfl rfl rfl ?_
    refine L_gno rfl rfl rfl ?_
    refine L_y ((by first | exact y_pickT rfl rfl | exact y_pickF rfl rfl)) rfl ?_
    refine L_y (y_move rfl) rfl ?_
    refine L_gno rfl rfl rfl ?_
    refine L_gno rfl rfl rfl ?_
    refine L_gno rfl rfl rfl ?_
    refine L_gno rfl rfl rfl ?_
    refine L_gno rfl rfl rfl ?_
    refine L_y ((by first | exact y_pickT rfl rfl | exact y_pickF rfl rfl)) rfl ?_
    refine L_y (y_move rfl) rfl ?_
    refine L_gno rfl rfl rfl ?_
    refine L_gno rfl rfl rfl ?_
    refine L_gno rfl rfl rfl ?_
    refine L_gno rfl rfl rfl ?_
    refine L_gno rfl rfl rfl ?_
    refine L_y ((by first | exact y_pickT rfl rfl | exact y_pickF rfl rfl)) rfl ?_
    refine L_y (y_move rfl) rfl ?_
    refine L_gno rfl rfl rfl ?_
    refine L_gno rfl rfl rfl ?_
    refine L_gno rfl rfl rfl ?_
    refine L_gno rfl rfl rfl ?_
    refine L_gno rfl rfl rfl ?_
    refine L_y ((by first | exact y_pickT rfl rfl | exact y_pickF rfl rfl)) rfl ?_
    refine L_y (y_assign rfl) rfl ?_
    refine L_nil ?_
    refine hK2 _ _ ?_
    refine T_ret ?_
    repeat (first | with_reducible refine up_then ?_ | with_reducible refine up_in ?_)
    refine ret1 rfl rfl ?_
    exact ⟨_, rfl, S2.like0, congrArg Value.bool (by unfold sameB; first | rw [tr_ne h10, Bool.false_and] | simp [tr_eq h10, h17, h24, h31] | simp [tr_eq h10, h17, h24] | simp [tr_eq h10, h17] | simp [tr_eq h10])⟩


set_option maxRecDepth 100000 in
theorem equal (A : Option Addr) (n c : Nat) (l : List Oid.Id) (B : Option Addr) (m d : Nat) (r : List Oid.Id) (w0 : World) (hl : Rs w0 32 A n c (l.flatMap idf)) (hr : Rs w0 32 B m d (r.flatMap idf)) :
    Calls Try.prog 86 #[.slice A n c, .slice B m d] w0 fun e w' => ∃ u, e = .returned u ∧ Like w0 w' ∧ u = .bool (decide (l = r)) := by
  refine enter1 (env := [(0, .slice A n c), (1, .slice B m d)]) [.slice A n c, .slice B m d] Try.func86 rfl Try.ntmps86 rfl rfl ?_
  have hn := Oid.ids_n hl; have hm := Oid.ids_n hr; have hcap := hl.cap; have hmax := hl.max; have hcap2 := hr.cap; have hmax2 := hr.max
  have S0 := St.start w0 noM
  refine T_seq fun K1 hK1 => ?_
  refine T_region ?_
  refine L_y (y_assign rfl) rfl ?_
  refine L_nil ?_
  refine hK1 _ _ ?_
  refine T_seq fun K2 hK2 => ?_
  refine T_seq fun K3 hK3 => ?_
  refine T_region ?_
  refine L_y (y_move rfl) rfl ?_
  refine L_y (y_len Try.underlying24 rfl) rfl ?_
  refine L_y (y_move rfl) rfl ?_
  refine L_y (y_len Try.underlying24 rfl) rfl ?_
  refine L_y (y_neq rfl rfl) rfl ?_
  refine L_nil ?_
  refine hK3 _ _ ?_
  refine T_cond rfl (fun h10 => ?_) (fun h10 => ?_)
  ·
    refine T_seq fun K4 hK4 => ?_
    refine T_region ?_
    refine L_y (y_assign rfl) rfl ?_
    refine L_nil ?_
    refine hK4 _ _ ?_
    refine T_ret ?_
    repeat (first | with_reducible refine up_then ?_ | with_reducible refine up_in ?_)
    refine ret1 rfl rfl ?_
    exact ⟨_, rfl, S0.like0, congrArg Value.bool (by first | exact (decide_eq_false (fun e => h24 (by rw [e, hq] at hp; cases hp; rfl))).symm | exact (decide_eq_true (all_take htk (by omega) (by omega))).symm | exact (decide_eq_false (fun e => h10 (by rw [hn, hm, e]))).symm)⟩
  ·
    refine T_skip ?_
    refine hK2 _ _ ?_
    refine T_seq fun K5 hK5 => ?_
    refine T_seq fun K6 hK6 => ?_
    refine T_region ?_
    refine L_y (y_move rfl) rfl ?_
    refine L_y (y_len Try.underlying24 rfl) rfl ?_
    refine L_y (y_move rfl) rfl ?_
    refine L_nil ?_
    refine hK6 _ _ ?_
    refine T_block ?_
    refine T_loop1 [(0, _), (1, _), (12, _)] (fun (k : Nat) => [(13, .int .i64 (k : Int))]) (fun (k : Nat) => l.length - k) (fun (k : Nat) (w : World) => (k ≤ l.length ∧ l.take k = r.take k) ∧ St w0 noM [] w) 0 (Sub.cons rfl (by first | rfl | exact congrArg (Value.int _) (by omega)) (Sub.nil _)) (Sub.cons rfl rfl (Sub.cons rfl rfl (Sub.cons rfl rfl (Sub.nil _)))) ?_ ?_
    ·
      exact ⟨⟨by omega, by simp⟩, S0⟩
    ·
      intro k w1 hrel
      obtain ⟨⟨hk, htk⟩, S1⟩ := hrel
      refine T_seq fun K7 hK7 => ?_
      refine T_region ?_
      refine L_y (y_lss rfl rfl) rfl ?_
      refine L_nil ?_
      refine hK7 _ _ ?_
      refine T_seq fun K8 hK8 => ?_
      refine T_cond rfl (fun h14 => ?_) (fun h14 => ?_)
      ·
        obtain ⟨p, hp⟩ : ∃ p, l[k]? = some p := ⟨_, List.getElem?_eq_getElem (by omega)⟩
        obtain ⟨q, hq⟩ : ∃ q, r[k]? = some q := ⟨_, List.getElem?_eq_getElem (by omega)⟩
        refine T_skip ?_
        refine hK8 _ _ ?_
        refine T_seq fun K9 hK9 => ?_
        refine T_block ?_
        refine T_seq fun K10 hK10 => ?_
        refine T_region ?_
        refine L_y (y_move rfl) rfl ?_
        refine L_y (y_assign rfl) rfl ?_
        refine L_nil ?_
        refine hK10 _ _ ?_
        refine T_seq fun K11 hK11 => ?_
        refine T_drawnL [(0, true), (1, true), (2, true), (3, true), (4, true), (5, true), (6, true), (7, true), (8, true)] hmix (by kernel_rfl) fun w2 l2 => ?_
        have S2 := S1.like l2
        refine DL_y rfl (y_move rfl) rfl ?_
        refine DL_y rfl (y_move rfl) rfl ?_
        refine DL_y rfl (y_idx Try.underlying24 sz23 rfl rfl (S2.rd hl) inferInstance (by omega)) rfl ?_
        refine DL_y rfl (y_ldp (f := idf) idf_len Try.underlying23 rfl sz23 rfl (S2.rd hl) (by omega) hp) rfl ?_
        refine DL_y rfl (y_move rfl) rfl ?_
        refine DL_y rfl (y_move rfl) rfl ?_
        refine DL_y rfl (y_idx Try.underlying24 sz23 rfl rfl (S2.rd hr) inferInstance (by omega)) rfl ?_
        refine DL_y rfl (y_ldp (f := idf) idf_len Try.underlying23 rfl sz23 rfl (S2.rd hr) (by omega) hq) rfl ?_
        refine DL_y rfl (y_neB Try.underlying23 Try.underlying5 sz5 (by kernel_rfl) rfl rfl (Oid.Id.h _) (Oid.Id.h _)) rfl ?_
        refine DL_nil ?_
        refine hK11 _ _ ?_
        refine T_cond rfl (fun h24 => ?_) (fun h24 => ?_)
        ·
          refine T_seq fun K12 hK12 => ?_
          refine T_region ?_
          refine L_y (y_assign rfl) rfl ?_
          refine L_nil ?_
          refine hK12 _ _ ?_
          refine T_ret ?_
          repeat (first | with_reducible refine up_then ?_ | with_reducible refine up_in ?_)
          refine ret1 rfl rfl ?_
          exact ⟨_, rfl, S2.like0, congrArg Value.bool (by first | exact (decide_eq_false (fun e => h24 (by rw [e, hq] at hp; cases hp; rfl))).symm | exact (decide_eq_true (all_take htk (by omega) (by omega))).symm | exact (decide_eq_false (fun e => h10 (by rw [hn, hm, e]))).symm)⟩
        ·
          refine T_skip ?_
          refine hK9 _ _ ?_
          refine T_region ?_
          refine L_y (y_add rfl rfl (i64w (by omega))) rfl ?_
          refine L_y (y_move rfl) rfl ?_
          refine L_nil ?_
          refine ⟨k + 1, by omega, ⟨⟨by omega, ps_take hp hq htk (Oid.Id.ext (Classical.byContradiction fun e => h24 e))⟩, S2⟩, ?_⟩
          exact (Sub.cons rfl (by first | rfl | exact congrArg (Value.int _) (by omega)) (Sub.cons rfl rfl (Sub.cons rfl rfl (Sub.cons rfl rfl (Sub.nil _)))))
      ·
        refine T_exit ?_
        refine hK5 _ _ ?_
        refine T_seq fun K13 hK13 => ?_
        refine T_region ?_
        refine L_y (y_assign rfl) rfl ?_
        refine L_nil ?_
        refine hK13 _ _ ?_
        refine T_ret ?_
        repeat (first | with_reducible refine up_then ?_ | with_reducible refine up_in ?_)
        refine ret1 rfl rfl ?_
        exact ⟨_, rfl, S1.like0, congrArg Value.bool (by first | exact (decide_eq_false (fun e => h24 (by rw [e, hq] at hp; cases hp; rfl))).symm | exact (decide_eq_true (all_take htk (by omega) (by omega))).symm | exact (decide_eq_false (fun e => h10 (by rw [hn, hm, e]))).symm)⟩


set_option maxRecDepth 100000 in
theorem same (x y : Cm) (w0 : World) (hx : Rs w0 32 x.A x.n x.c (x.ps.flatMap idf)) (hy : Rs w0 32 y.A y.n y.c (y.ps.flatMap idf)) :
    Calls Try.prog 38 #[.agg (cmf x).toArray, .agg (cmf y).toArray] w0 fun e w' => ∃ u, e = .returned u ∧ Like w0 w' ∧ u = .bool (sameB x y) := by
  refine enter1 (env := [(0, .agg (cmf x).toArray), (1, .agg (cmf y).toArray)]) [.agg (cmf x).toArray, .agg (cmf y).toArray] Try.func38 rfl Try.ntmps38 rfl rfl ?_
  have S0 := St.start w0 noM
  refine T_seq fun K1 hK1 => ?_
  refine T_region ?_
  refine L_o (o_box rfl S0 rfl fun b1 w1 hb1 S1 => ?_)
  refine L_o (o_box rfl S1 rfl fun b2 w2 hb2 S2 => ?_)
  refine L_y (y_assign rfl) rfl ?_
  refine L_nil ?_
  refine hK1 _ _ ?_
  refine T_seq fun K2 hK2 => ?_
  refine T_region ?_
  refine L_y (y_fieldA 0 Try.underlying26 rfl sz23 rfl rfl rfl) rfl ?_
  refine L_y (y_ldW Try.underlying23 rfl sz23 rfl (S2.blk 0 rfl) (cm_tr x)) rfl ?_
  refine L_y (y_fieldA 0 Try.underlying26 rfl sz23 rfl rfl rfl) rfl ?_
  refine L_y (y_ldW Try.underlying23 rfl sz23 rfl (S2.blk 1 rfl) (cm_tr y)) rfl ?_
  refine L_y (y_eqB Try.underlying23 Try.underlying5 sz5 (by kernel_rfl) rfl rfl (Oid.Id.h _) (Oid.Id.h _)) rfl ?_
  refine L_y (y_move rfl) rfl ?_
  refine L_split 10 rfl (fun h10 => ?_) (fun h10 => ?_)
  ·
    refine L_gyes rfl rfl ?_
    refine L_y (y_fieldA 32 Try.underlying26 rfl sz24 rfl rfl rfl) rfl ?_
    refine L_gyes rfl rfl ?_
    refine L_y (y_ldc Try.underlying24 rfl rfl (((S2.blk 0 rfl).cell _).trans (cm32 x))) rfl ?_
    refine L_gyes rfl rfl ?_
    refine L_y (y_fieldA 32 Try.underlying26 rfl sz24 rfl rfl rfl) rfl ?_
    refine L_gyes rfl rfl ?_
    refine L_y (y_ldc Try.underlying24 rfl rfl (((S2.blk 1 rfl).cell _).trans (cm32 y))) rfl ?_
    refine L_gyes rfl rfl ?_
    refine L_o (o_call Try.func86 rfl rfl (equal _ _ _ x.ps _ _ _ y.ps w2 (S2.rd hx) (S2.rd hy)) rfl rfl ?_)
    rintro e4 w4 ⟨v4, rfl, l4, rfl⟩
    refine ⟨_, rfl, ?_⟩
    have S4 := S2.like l4
    refine L_y ((by first | exact y_pickT rfl rfl | exact y_pickF rfl rfl)) rfl ?_
    refine L_y (y_move rfl) rfl ?_
    refine L_split 17 rfl (fun h17 => ?_) (fun h17 => ?_)
    ·
      refine L_gyes rfl rfl ?_
      refine L_y (y_fieldA 33 Try.underlying26 rfl sz9 rfl rfl rfl) rfl ?_
      refine L_gyes rfl rfl ?_
      refine L_y (y_ldc Try.underlying9 rfl rfl (((S4.blk 0 rfl).cell _).trans (cm33 x))) rfl ?_
      refine L_gyes rfl rfl ?_
      refine L_y (y_fieldA 33 Try.underlying26 rfl sz9 rfl rfl rfl) rfl ?_
      refine L_gyes rfl rfl ?_
      refine L_y (y_ldc Try.underlying9 rfl rfl (((S4.blk 1 rfl).cell _).trans (cm33 y))) rfl ?_
      refine L_gyes rfl rfl ?_
      refine L_y (y_seql rfl rfl) rfl ?_
      refine L_y ((by first | exact y_pickT rfl rfl | exact y_pickF rfl rfl)) rfl ?_
      refine L_y (y_move rfl) rfl ?_
      refine L_split 24 rfl (fun h24 => ?_) (fun h24 => ?_)
      ·
        refine L_gyes rfl rfl ?_
        refine L_y (y_fieldA 34 Try.underlying26 rfl sz3 rfl rfl rfl) rfl ?_
        refine L_gyes rfl rfl ?_
        refine L_y (y_ldc Try.underlying3 rfl rfl (((S4.blk 0 rfl).cell _).trans (cm34 x))) rfl ?_
        refine L_gyes rfl rfl ?_
        refine L_y (y_fieldA 34 Try.underlying26 rfl sz3 rfl rfl rfl) rfl ?_
        refine L_gyes rfl rfl ?_
        refine L_y (y_ldc Try.underlying3 rfl rfl (((S4.blk 1 rfl).cell _).trans (cm34 y))) rfl ?_
        refine L_gyes rfl rfl ?_
        refine L_y (y_eql rfl rfl) rfl ?_
        refine L_y ((by first | exact y_pickT rfl rfl | exact y_pickF rfl rfl)) rfl ?_
        refine L_y (y_move rfl) rfl ?_
        refine L_split 31 rfl (fun h31 => ?_) (fun h31 => ?_)
        ·
          refine L_gyes rfl rfl ?_
          refine L_y (y_fieldA 35 Try.underlying26 rfl sz9 rfl rfl rfl) rfl ?_
          refine L_gyes rfl rfl ?_
          refine L_y (y_ldc Try.underlying9 rfl rfl (((S4.blk 0 rfl).cell _).trans (cm35 x))) rfl ?_
          refine L_gyes rfl rfl ?_
          refine L_y (y_fieldA 35 Try.underlying26 rfl sz9 rfl rfl rfl) rfl ?_
          refine L_gyes rfl rfl ?_
          refine L_y (y_ldc Try.underlying9 rfl rfl (((S4.blk 1 rfl).cell _).trans (cm35 y))) rfl ?_
          refine L_gyes rfl rfl ?_
          refine L_y (y_seql rfl rfl) rfl ?_
          refine L_y ((by first | exact y_pickT rfl rfl | exact y_pickF rfl rfl)) rfl ?_
          refine L_y (y_assign rfl) rfl ?_
          refine L_nil ?_
          refine hK2 _ _ ?_
          refine T_ret ?_
          repeat (first | with_reducible refine up_then ?_ | with_reducible refine up_in ?_)
          refine ret1 rfl rfl ?_
          exact ⟨_, rfl, S4.like0, congrArg Value.bool (by unfold sameB; first | rw [tr_ne h10, Bool.false_and] | simp [tr_eq h10, h17, h24, h31] | simp [tr_eq h10, h17, h24] | simp [tr_eq h10, h17] | simp [tr_eq h10])⟩
        ·
          refine L_gno rfl rfl rfl ?_
          refine L_gno rfl rfl rfl ?_
          refine L_gno rfl rfl rfl ?_
          refine L_gno rfl rfl rfl ?_
          refine L_gno rfl rfl rfl ?_
          refine L_y ((by first | exact y_pickT rfl rfl | exact y_pickF rfl rfl)) rfl ?_
          refine L_y (y_assign rfl) rfl ?_
          refine L_nil ?_
          refine hK2 _ _ ?_
          refine T_ret ?_
          repeat (first | with_reducible refine up_then ?_ | with_reducible refine up_in ?_)
          refine ret1 rfl rfl ?_
          exact ⟨_, rfl, S4.like0, congrArg Value.bool (by unfold sameB; first | rw [tr_ne h10, Bool.false_and] | simp [tr_eq h10, h17, h24, h31] | simp [tr_eq h10, h17, h24] | simp [tr_eq h10, h17] | simp [tr_eq h10])⟩
      ·
        refine L_gno rfl rfl rfl ?_
        refine L_gno rfl rfl rfl ?_
        refine L_gno rfl rfl rfl ?_
        refine L_gno rfl rfl rfl ?_
        refine L_gno rfl rfl rfl ?_
        refine L_y ((by first | exact y_pickT rfl rfl | exact y_pickF rfl rfl)) rfl ?_
        refine L_y (y_move rfl) rfl ?_
        refine L_gno rfl rfl rfl ?_
        refine L_gno rfl rfl rfl ?_
        refine L_gno rfl rfl rfl ?_
        refine L_gno rfl rfl rfl ?_
        refine L_gno rfl rfl rfl ?_
        refine L_y ((by first | exact y_pickT rfl rfl | exact y_pickF rfl rfl)) rfl ?_
        refine L_y (y_assign rfl) rfl ?_
        refine L_nil ?_
        refine hK2 _ _ ?_
        refine T_ret ?_
        repeat (first | with_reducible refine up_then ?_ | with_reducible refine up_in ?_)
        refine ret1 rfl rfl ?_
        exact ⟨_, rfl, S4.like0, congrArg Value.bool (by unfold sameB; first | rw [tr_ne h10, Bool.false_and] | simp [tr_eq h10, h17, h24, h31] | simp [tr_eq h10, h17, h24] | simp [tr_eq h10, h17] | simp [tr_eq h10])⟩
    ·
      refine L_gno rfl rfl rfl ?_
      refine L_gno rfl rfl rfl ?_
      refine L_gno rfl rfl rfl ?_
      refine L_gno rfl rfl rfl ?_
      refine L_gno rfl rfl rfl ?_
      refine L_y ((by first | exact y_pickT rfl rfl | exact y_pickF rfl rfl)) rfl ?_
      refine L_y (y_move rfl) rfl ?_
      refine L_gno rfl rfl rfl ?_
      refine L_gno rfl rfl rfl ?_
      refine L_gno rfl rfl rfl ?_
      refine L_gno rfl rfl rfl ?_
      refine L_gno rfl rfl rfl ?_
      refine L_y ((by first | exact y_pickT rfl rfl | exact y_pickF rfl rfl)) rfl ?_
      refine L_y (y_move rfl) rfl ?_
      refine L_gno rfl rfl rfl ?_
      refine L_gno rfl rfl rfl ?_
      refine L_gno rfl rfl rfl ?_
      refine L_gno rfl rfl rfl ?_
      refine L_gno rfl rfl rfl ?_
      refine L_y ((by first | exact y_pickT rfl rfl | exact y_pickF rfl rfl)) rfl ?_
      refine L_y (y_assign rfl) rfl ?_
      refine L_nil ?_
      refine hK2 _ _ ?_
      refine T_ret ?_
      repeat (first | with_reducible refine up_then ?_ | with_reducible refine up_in ?_)
      refine ret1 rfl rfl ?_
      exact ⟨_, rfl, S4.like0, congrArg Value.bool (by unfold sameB; first | rw [tr_ne h10, Bool.false_and] | simp [tr_eq h10, h17, h24, h31] | simp [tr_eq h10, h17, h24] | simp [tr_eq h10, h17] | simp [tr_eq h10])⟩
  ·
    refine L_gno rfl rfl rfl ?_
    refine L_gno rfl rfl rfl ?_
    refine L_gno rfl rfl rfl ?_
    refine L_gno rfl rfl rfl ?_
    refine L_gno rfl rfl rfl ?_
    refine L_y ((by first | exact y_pickT rfl rfl | exact y_pickF rfl rfl)) rfl ?_
    refine L_y (y_move rfl) rfl ?_
    refine L_gno rfl rfl rfl ?_
    refine L_gno rfl rfl rfl ?_
    refine L_gno rfl rfl rfl ?_
    refine L_gno rfl rfl rfl ?_
    refine L_gno rfl rfl rfl ?_
    refine L_y ((by first | exact y_pickT rfl rfl | exact y_pickF rfl rfl)) rfl ?_
    refine L_y (y_move rfl) rfl ?_
    refine L_gno rfl rfl rfl ?_
    refine L_gno rfl rfl rfl ?_
    refine L_gno rfl rfl rfl ?_
    refine L_gno rfl rfl rfl ?_
    refine L_gno rfl rfl rfl ?_
    refine L_y ((by first | exact y_pickT rfl rfl | exact y_pickF rfl rfl)) rfl ?_
    refine L_y (y_move rfl) rfl ?_
    refine L_gno rfl rfl rfl ?_
    refine L_gno rfl rfl rfl ?_
    refine L_gno rfl rfl rfl ?_
    refine L_gno rfl rfl rfl ?_
    refine L_gno rfl rfl rfl ?_
    refine L_y ((by first | exact y_pickT rfl rfl | exact y_pickF rfl rfl)) rfl ?_
    refine L_y (y_assign rfl) rfl ?_
    refine L_nil ?_
    refine hK2 _ _ ?_
    refine T_ret ?_
    repeat (first | with_reducible refine up_then ?_ | with_reducible refine up_in ?_)
    refine ret1 rfl rfl ?_
    exact ⟨_, rfl, S2.like0, congrArg Value.bool (by unfold sameB; first | rw [tr_ne h10, Bool.false_and] | simp [tr_eq h10, h17, h24, h31] | simp [tr_eq h10, h17, h24] | simp [tr_eq h10, h17] | simp [tr_eq h10])⟩
end Go.Proofs.Ytgaklngnfecdaaa.Rev


/-
  The law RevGets.
-/
namespace Go.Proofs.Ytgaklngnfecdaaa.Rev
open Go.RowKit Zk Zx
open Oid (idf hexL idf_len readR)
open Tre (nmOk)
set_option linter.unusedVariables false
set_option linter.unusedSimpArgs false

theorem sameB_cm (y : CmL) (A B : Option Addr) (n c m d : Nat) : sameB (cmOf y A n c) (cmOf y B m d) = true := by simp [sameB, cmOf]


set_option maxRecDepth 100000 in
theorem gets (B : Option Addr) (m d : Nat) (s : List UInt8) (w0 : World) (hb : Rs w0 1 B m d (bL s)) :
    Calls Try.prog 7 #[.slice B m d] w0 fun e w' => ∃ u, e = .returned u ∧ Like w0 w' ∧ u = .bool true := by
  refine enter1 (env := [(0, .slice B m d)]) [.slice B m d] Try.func7 rfl Try.ntmps7 rfl rfl ?_
  have hm := hb.lenb; have hcap := hb.cap; have hmax := hb.max
  have S0 := St.start w0 noM
  refine T_seq fun K1 hK1 => ?_
  refine T_region ?_
  refine L_y (y_assign rfl) rfl ?_
  refine L_nil ?_
  refine hK1 _ _ ?_
  refine T_seq fun K2 hK2 => ?_
  refine T_seq fun K3 hK3 => ?_
  refine T_region ?_
  refine L_y (y_move rfl) rfl ?_
  refine L_y (y_len Try.underlying27 rfl) rfl ?_
  refine L_y (y_gtr rfl rfl) rfl ?_
  refine L_nil ?_
  refine hK3 _ _ ?_
  refine T_cond rfl (fun h10 => ?_) (fun h10 => ?_)
  ·
    refine T_seq fun K4 hK4 => ?_
    refine T_region ?_
    refine L_o (o_call Try.func23 rfl rfl (works w0) rfl rfl ?_)
    rintro e1 w1 ⟨v1, rfl, l1, rfl⟩
    refine ⟨_, rfl, ?_⟩
    have S1 := S0.like l1
    refine L_y (y_assign rfl) rfl ?_
    refine L_nil ?_
    refine hK4 _ _ ?_
    refine T_ret ?_
    repeat (first | with_reducible refine up_then ?_ | with_reducible refine up_in ?_)
    refine ret1 rfl rfl ?_
    exact ⟨_, rfl, S1.like0, rfl⟩
  ·
    refine T_skip ?_
    refine hK2 _ _ ?_
    refine T_seq fun K5 hK5 => ?_
    refine T_region ?_
    refine L_o (o_bsl0 te27 S0 rfl fun b2 w2 l2 S2 => ?_)
    refine L_y (y_move rfl) rfl ?_
    refine L_o (o_app te27 S2 0 rfl rfl rfl (by first | exact S2.rd hb | exact S2.row 0 rfl) (by first | exact bL_one _ | exact iL_one _ | (intro u hu; simp at hu; subst hu; rfl) | (simp; done) | (simp [Value.oneCell']; done)) rfl (by omega) (by omega) fun A3 c3 w3 S3 => ?_)
    refine L_y (y_assign rfl) rfl ?_
    refine L_nil ?_
    refine hK5 _ _ ?_
    refine T_seq fun K6 hK6 => ?_
    refine T_region ?_
    refine L_y (y_move rfl) rfl ?_
    refine L_o (o_call Try.func35 rfl rfl (get _ _ _ s w3 (S3.row 0 rfl) (by omega)) rfl rfl ?_)
    rintro e4 w4 ⟨v4, rfl, l4, A1, c1, hf4, rfl⟩
    refine ⟨_, rfl, ?_⟩
    have S4 := S3.adoptF l4 hf4
    refine L_y (y_move rfl) rfl ?_
    refine L_y (y_extract rfl rfl) rfl ?_
    refine L_y (y_extract rfl rfl) rfl ?_
    refine L_o (o_alloc zz26 S4 rfl fun b5 w5 hb5 S5 => ?_)
    refine L_o (o_stW S5 2 rfl rfl rfl (by rw [cmf_sz]; exact sz26) (by first | (rw [cmf_sz]; done) | (rw [cmf_sz]; rfl)) (fun u hu => cmf_one _ u (by rw [List.toList_toArray] at hu; exact hu)) fun w6 S6 => ?_)
    refine L_y (y_assign rfl) rfl ?_
    refine L_nil ?_
    refine hK6 _ _ ?_
    refine T_seq fun K7 hK7 => ?_
    refine T_region ?_
    refine L_y (y_move rfl) rfl ?_
    refine L_o (o_call Try.func36 rfl rfl (rget _ _ _ s w6 (S6.rd hb) (by omega)) rfl rfl ?_)
    rintro e7 w7 ⟨v7, rfl, l7, A2, c2, hf7, rfl⟩
    refine ⟨_, rfl, ?_⟩
    have S7 := S6.adoptF l7 hf7
    refine L_y (y_move rfl) rfl ?_
    refine L_y (y_extract rfl rfl) rfl ?_
    refine L_y (y_extract rfl rfl) rfl ?_
    refine L_o (o_alloc zz26 S7 rfl fun b8 w8 hb8 S8 => ?_)
    refine L_o (o_stW S8 4 rfl rfl rfl (by rw [cmf_sz]; exact sz26) (by first | (rw [cmf_sz]; done) | (rw [cmf_sz]; rfl)) (fun u hu => cmf_one _ u (by rw [List.toList_toArray] at hu; exact hu)) fun w9 S9 => ?_)
    refine L_y (y_assign rfl) rfl ?_
    refine L_nil ?_
    refine hK7 _ _ ?_
    refine T_seq fun K8 hK8 => ?_
    refine T_region ?_
    refine L_y (y_ldW Try.underlying26 rfl sz26 rfl (S9.blk 2 rfl) (cm_whole _)) rfl ?_
    refine L_y (y_ldW Try.underlying26 rfl sz26 rfl (S9.blk 4 rfl) (cm_whole _)) rfl ?_
    refine L_o (o_call Try.func37 rfl rfl (rsame (cmOf (gval s) A1 _ c1) (cmOf (gval s) A2 _ c2) w9 (S9.fix 1 rfl) (S9.fix 3 rfl)) rfl rfl ?_)
    rintro e10 w10 ⟨v10, rfl, l10, hu10⟩
    refine ⟨_, rfl, ?_⟩
    have S10 := S9.like l10
    rw [sameB_cm] at hu10
    subst hu10
    refine L_y (y_move rfl) rfl ?_
    refine L_splitB 28 rfl (fun h28 => ?_) (fun h28 => ?_)
    ·
      refine L_gyes rfl rfl ?_
      refine L_y (y_move rfl) rfl ?_
      refine L_gyes rfl rfl ?_
      refine L_y (y_move rfl) rfl ?_
      refine L_gyes rfl rfl ?_
      refine L_y (y_eql rfl rfl) rfl ?_
      refine L_y ((by first | exact y_pickT rfl rfl | exact y_pickF rfl rfl)) rfl ?_
      refine L_y (y_move rfl) rfl ?_
      refine L_split 33 rfl (fun h33 => ?_) (fun h33 => ?_)
      ·
        refine L_gyes rfl rfl ?_
        refine L_y (y_move rfl) rfl ?_
        refine L_gyes rfl rfl ?_
        refine L_y (y_move rfl) rfl ?_
        refine L_gyes rfl rfl ?_
        refine L_o (o_call Try.func18 rfl rfl (Oct.same _ _ _ _ _ _ s s w10 (S10.row 0 rfl) (S10.rd hb)) rfl rfl ?_)
        rintro e13 w13 ⟨v13, rfl, l13, rfl⟩
        refine ⟨_, rfl, ?_⟩
        have S13 := S10.like l13
        refine L_y ((by first | exact y_pickT rfl rfl | exact y_pickF rfl rfl)) rfl ?_
        refine L_y (y_move rfl) rfl ?_
        refine L_split 38 rfl (fun h38 => ?_) (fun h38 => ?_)
        ·
          refine L_gyes rfl rfl ?_
          refine L_o (o_call Try.func23 rfl rfl (works w13) rfl rfl ?_)
          rintro e15 w15 ⟨v15, rfl, l15, rfl⟩
          refine ⟨_, rfl, ?_⟩
          have S15 := S13.like l15
          refine L_y ((by first | exact y_pickT rfl rfl | exact y_pickF rfl rfl)) rfl ?_
          refine L_y (y_assign rfl) rfl ?_
          refine L_nil ?_
          refine hK8 _ _ ?_
          refine T_ret ?_
          repeat (first | with_reducible refine up_then ?_ | with_reducible refine up_in ?_)
          refine ret1 rfl rfl ?_
          exact ⟨_, rfl, S15.like0, rfl⟩
        ·
          exact absurd rfl h38
      ·
        exact absurd rfl h33
    ·
      cases h28


theorem gets_law (B : Option Addr) (m d : Nat) (s : List UInt8) (w0 : World) (hb : Rs w0 1 B m d (bL s)) :
    Calls Try.prog 7 #[.slice B m d] w0 fun e w' => e = .returned (.bool true) ∧ Below w0.heap.size w0 w' :=
  (gets B m d s w0 hb).mono fun e w' ⟨u, h1, h2, h3⟩ => by subst h3; exact ⟨h1, h2⟩
end Go.Proofs.Ytgaklngnfecdaaa.Rev
