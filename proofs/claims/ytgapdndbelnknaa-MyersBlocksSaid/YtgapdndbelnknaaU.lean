/-
  The program: Blocks.
-/
import Derived.Test.YtgapdndbelnknaaT
namespace Go.Proofs.Ytgapdndbelnknaa
open Go.RowKit Zk Zx
set_option linter.unusedVariables false
set_option linter.unusedSimpArgs false

set_option maxRecDepth 100000 in
theorem fblocks (A B : Option Addr) (n ca m cb : Nat) (la lb : List Int) (w0 : World) (ha : Rs w0 1 A n ca (iL la)) (hb : Rs w0 1 B m cb (iL lb)) (hn : n ≤ 800) (hm : m ≤ 800) :
    Calls Try.prog 16 #[.slice A n ca, .slice B m cb] w0 fun e w' => ∃ u, e = .returned u ∧ Like w0 w' ∧ ∃ A c q, u = .tuple #[.slice A q c, .int .i64 0] ∧ w'.ownsRow w0.heap.size 52 4 (.slice A q c) q ((hunksF 0 0 (keepT la lb 0 0 ++ [(n, m)])).flatMap hf) := by
  refine enter1 (env := [(0, .slice A n ca), (1, .slice B m cb)]) [.slice A n ca, .slice B m cb] Try.func16 rfl Try.ntmps16 rfl rfl ?_
  have hla := lenI ha; have hlb := lenI hb; have S0 := St.start w0 noM
  refine T_seq fun K1 hK1 => ?_
  refine T_region ?_
  refine L_y (y_assign rfl) rfl ?_
  refine L_y (y_assign rfl) rfl ?_
  refine L_nil ?_
  refine hK1 _ _ ?_
  refine T_seq fun K2 hK2 => ?_
  refine T_region ?_
  refine L_y (y_move rfl) rfl ?_
  refine L_y (y_move rfl) rfl ?_
  refine L_o (o_call Try.func9 rfl rfl (fdiff A B n ca m cb la lb w0 (S0.rd ha) (S0.rd hb) (by omega) (by omega)) rfl rfl ?_)
  rintro e1 w1 ⟨v1, rfl, l1, AR, mR, cR, rfl, O1⟩
  refine ⟨_, rfl, ?_⟩
  have S1 := S0.adopt l1 O1
  have hmR := pf_n (S1.row 0 rfl)
  have hk1 := keep_len la lb _ 0 0 rfl (Nat.zero_le _) (Nat.zero_le _)
  obtain ⟨hk2, hk3⟩ := keep_ok la lb _ 0 0 rfl
  have hbd : ∀ p ∈ keepT la lb 0 0 ++ [(n, m)], p.1 ≤ 4096 ∧ p.2 ≤ 4096 := fun p hp => by rcases List.mem_append.1 hp with hp | hp; (obtain ⟨q1, q2, q3, q4, q5⟩ := hk2 p hp; exact ⟨by omega, by omega⟩); (obtain rfl := List.mem_singleton.1 hp; exact ⟨by omega, by omega⟩)
  refine L_y (y_move rfl) rfl ?_
  refine L_y (y_extract rfl rfl) rfl ?_
  refine L_y (y_extract rfl rfl) rfl ?_
  refine L_y (y_assign rfl) rfl ?_
  refine L_y (y_assign rfl) rfl ?_
  refine L_nil ?_
  refine hK2 _ _ ?_
  refine T_seq fun K3 hK3 => ?_
  refine T_seq fun K4 hK4 => ?_
  refine T_region ?_
  refine L_y (y_move rfl) rfl ?_
  refine L_y (y_neq rfl rfl) rfl ?_
  refine L_nil ?_
  refine hK4 _ _ ?_
  refine T_false rfl ?_
  refine T_skip ?_
  refine hK3 _ _ ?_
  refine T_seq fun K5 hK5 => ?_
  refine T_region ?_
  have S2 := S1.nilrow 52 4
  refine L_y (y_assign rfl) rfl ?_
  refine L_nil ?_
  refine hK5 _ _ ?_
  refine T_seq fun K6 hK6 => ?_
  refine T_region ?_
  refine L_y (y_assign rfl) rfl ?_
  refine L_y (y_assign rfl) rfl ?_
  refine L_nil ?_
  refine hK6 _ _ ?_
  refine T_seq fun K7 hK7 => ?_
  refine T_seq fun K8 hK8 => ?_
  refine T_region ?_
  refine L_y (y_move rfl) rfl ?_
  refine L_y (y_move rfl) rfl ?_
  refine L_y (y_len Try.underlying22 rfl) rfl ?_
  refine L_y (y_move rfl) rfl ?_
  refine L_y (y_len Try.underlying22 rfl) rfl ?_
  refine L_y (y_build rfl (show _ = some #[Value.int .i64 (n : Int), Value.int .i64 (m : Int)] by kernel_rfl)) rfl ?_
  refine L_o (o_bsl [_, _] te25 zz36 S2 rfl rfl rfl rfl rfl rfl rfl rfl fun b3 w3 S3 => ?_)
  refine L_o (o_app te25 S3 0 rfl rfl rfl (by first | exact S3.row 0 rfl | exact S3.row 1 rfl | exact S3.row 2 rfl) (fun u hu => pf_one [(n, m)] u hu) rfl (by omega) (by omega) fun A4 c4 w4 S4 => ?_)
  have S4d := S4.drop (rs' := [_, _]) (.cons_cons _ (.cons_cons _ (.cons _ (.refl _))))
  have S80 := S4d.rowc 0 rfl (n' := mR + 1) (xs' := (keepT la lb 0 0 ++ [(n, m)]).flatMap pf) rfl (by rw [List.flatMap_append])
  have hpn : (keepT la lb 0 0 ++ [(n, m)]).length = mR + 1 := by rw [List.length_append]; simp only [List.length_cons, List.length_nil]; omega
  refine L_y (y_len Try.underlying25 rfl) rfl ?_
  refine L_y (y_move rfl) rfl ?_
  refine L_nil ?_
  refine hK8 _ _ ?_
  refine T_block ?_
  refine T_loop6 [(29, _), (30, _)] (fun (k : Nat) (a : Int) (b : Int) (A1 : Option Addr) (c1 : Nat) (hs : List HK) => [(8, .slice A1 hs.length c1), (9, .int .i64 a), (10, .int .i64 b), (31, .int .i64 (k : Int))]) (fun (k : Nat) (a : Int) (b : Int) (A1 : Option Addr) (c1 : Nat) (hs : List HK) => mR + 1 - k) (fun (k : Nat) (a : Int) (b : Int) (A1 : Option Addr) (c1 : Nat) (hs : List HK) (w : World) => (k ≤ mR + 1 ∧ 0 ≤ a ∧ a ≤ 4097 ∧ 0 ≤ b ∧ b ≤ 4097 ∧ hs.length ≤ k ∧ hs ++ hunksF a b ((keepT la lb 0 0 ++ [(n, m)]).drop k) = hunksF 0 0 (keepT la lb 0 0 ++ [(n, m)])) ∧ St w0 noM [row 36 2 A4 (mR + 1) c4 ((keepT la lb 0 0 ++ [(n, m)]).flatMap pf), row 52 4 A1 hs.length c1 (hs.flatMap hf)] w) 0 0 0 none 0 [] (Sub.cons rfl (by first | rfl | exact congrArg (Value.int _) (by omega)) (Sub.cons rfl (by first | rfl | exact congrArg (Value.int _) (by omega)) (Sub.cons rfl (by first | rfl | exact congrArg (Value.int _) (by omega)) (Sub.cons rfl (by first | rfl | exact congrArg (Value.int _) (by omega)) (Sub.nil _))))) (Sub.cons rfl rfl (Sub.cons rfl rfl (Sub.nil _))) ?_ ?_
  ·
    exact ⟨⟨Nat.zero_le _, by omega, by omega, by omega, by omega, Nat.le_refl _, rfl⟩, S80⟩
  ·
    intro k a b A1 c1 hs w5 hrel
    obtain ⟨⟨hk, ha0, ha1, hb0, hb1, hhl, hhs⟩, S5⟩ := hrel
    refine T_seq fun K9 hK9 => ?_
    refine T_region ?_
    refine L_y (y_lss rfl rfl) rfl ?_
    refine L_nil ?_
    refine hK9 _ _ ?_
    refine T_seq fun K10 hK10 => ?_
    refine T_cond rfl (fun h32 => ?_) (fun h32 => ?_)
    ·
      obtain ⟨p, hp⟩ : ∃ p, (keepT la lb 0 0 ++ [(n, m)])[k]? = some p := ⟨_, List.getElem?_eq_getElem (by omega)⟩
      have hpg := pf_get (keepT la lb 0 0 ++ [(n, m)]) k p hp
      obtain ⟨hp1, hp2⟩ := hbd p (List.mem_of_getElem? hp)
      refine T_skip ?_
      refine hK10 _ _ ?_
      refine T_seq fun K11 hK11 => ?_
      refine T_block ?_
      refine T_seq fun K12 hK12 => ?_
      refine T_region ?_
      refine L_y (y_idx Try.underlying25 sz36 rfl rfl (S5.row 0 rfl) inferInstance (by omega)) rfl ?_
      refine L_y (y_ldp (f := pf) (l := (keepT la lb 0 0 ++ [(n, m)])) (fun _ => rfl) Try.underlying36 rfl sz36 rfl (S5.row 0 rfl) (by omega) hp) rfl ?_
      refine L_o (o_alloc zz36 S5 rfl fun b6 w6 hb6 S6 => ?_)
      refine L_o (o_stW S6 2 rfl rfl rfl sz36 rfl (fun u hu => pf_one [p] u hu) fun w7 S7 => ?_)
      refine L_nil ?_
      refine hK12 _ _ ?_
      refine T_seq fun K13 hK13 => ?_
      refine T_seq fun K14 hK14 => ?_
      refine T_region ?_
      refine L_y (y_fieldA 0 Try.underlying36 rfl sz3 rfl rfl rfl) rfl ?_
      refine L_y (y_ldc Try.underlying3 rfl rfl (((S7.blk 2 rfl).cell _).trans (by rfl))) rfl ?_
      refine L_y (y_move rfl) rfl ?_
      refine L_y (y_gtr rfl rfl) rfl ?_
      refine L_y (y_move rfl) rfl ?_
      refine L_split 39 rfl (fun h39 => ?_) (fun h39 => ?_)
      ·
        refine L_gno rfl rfl rfl ?_
        refine L_gno rfl rfl rfl ?_
        refine L_gno rfl rfl rfl ?_
        refine L_gno rfl rfl rfl ?_
        refine L_y ((by first | exact y_pickT rfl rfl | exact y_pickF rfl rfl)) rfl ?_
        refine L_nil ?_
        refine hK14 _ _ ?_
        refine T_true rfl ?_
        refine T_region ?_
        refine L_y (y_move rfl) rfl ?_
        refine L_y (y_move rfl) rfl ?_
        refine L_y (y_fieldA 0 Try.underlying36 rfl sz3 rfl rfl rfl) rfl ?_
        refine L_y (y_ldc Try.underlying3 rfl rfl (((S7.blk 2 rfl).cell _).trans (by rfl))) rfl ?_
        refine L_y (y_move rfl) rfl ?_
        refine L_y (y_sub rfl rfl (i64w (by omega))) rfl ?_
        refine L_y (y_move rfl) rfl ?_
        refine L_y (y_fieldA 1 Try.underlying36 rfl sz3 rfl rfl rfl) rfl ?_
        refine L_y (y_ldc Try.underlying3 rfl rfl (((S7.blk 2 rfl).cell _).trans (by rfl))) rfl ?_
        refine L_y (y_move rfl) rfl ?_
        refine L_y (y_sub rfl rfl (i64w (by omega))) rfl ?_
        refine L_y (y_build rfl (show _ = some #[Value.int .i64 a, Value.int .i64 ((p.1 : Int) - a), Value.int .i64 b, Value.int .i64 ((p.2 : Int) - b)] by kernel_rfl)) rfl ?_
        refine L_o (o_bsl [_, _, _, _] te38 zz52 S7 rfl rfl rfl rfl rfl rfl rfl rfl fun b9 w9 S9 => ?_)
        refine L_o (o_app te38 S9 1 rfl rfl rfl (by first | exact S9.row 0 rfl | exact S9.row 1 rfl | exact S9.row 3 rfl) (fun u hu => hf_one [⟨a, (p.1 : Int) - a, b, (p.2 : Int) - b⟩] u hu) rfl (by omega) (by omega) fun A10 c10 w10 S10 => ?_)
        have S10d := S10.drop (rs' := [_, _, _]) (.cons_cons _ (.cons_cons _ (.cons_cons _ (.cons _ (.refl _)))))
        refine L_y (y_assign rfl) rfl ?_
        refine L_nil ?_
        refine hK13 _ _ ?_
        refine T_drawnL [(0, true), (1, true), (2, true), (3, true), (4, true), (5, true), (6, true), (7, true)] hmix (by kernel_rfl) fun w11 l11 => ?_
        have S11 := S10d.like l11
        refine DL_y rfl (y_fieldA 0 Try.underlying36 rfl sz3 rfl rfl rfl) rfl ?_
        refine DL_y rfl (y_ldc Try.underlying3 rfl rfl (((S11.blk 2 rfl).cell _).trans (by rfl))) rfl ?_
        refine DL_y rfl (y_add rfl rfl (i64w (by omega))) rfl ?_
        refine DL_y rfl (y_fieldA 1 Try.underlying36 rfl sz3 rfl rfl rfl) rfl ?_
        refine DL_y rfl (y_ldc Try.underlying3 rfl rfl (((S11.blk 2 rfl).cell _).trans (by rfl))) rfl ?_
        refine DL_y rfl (y_add rfl rfl (i64w (by omega))) rfl ?_
        refine DL_y rfl (y_assign rfl) rfl ?_
        refine DL_y rfl (y_assign rfl) rfl ?_
        refine DL_nil ?_
        refine hK11 _ _ ?_
        refine T_region ?_
        refine L_y (y_add rfl rfl (i64w (by omega))) rfl ?_
        refine L_y (y_move rfl) rfl ?_
        refine L_nil ?_
        have hat := hunks_at hp a b
        rw [if_pos (by omega)] at hat
        have S91 := S11.rowc 1 rfl (n' := (hs ++ [⟨a, (p.1 : Int) - a, b, (p.2 : Int) - b⟩] : List HK).length) (xs' := (hs ++ [⟨a, (p.1 : Int) - a, b, (p.2 : Int) - b⟩] : List HK).flatMap hf) (by simp) (by rw [List.flatMap_append])
        have S92 := S91.drop (rs' := [_, _]) (.cons_cons _ (.cons_cons _ (.cons _ (.refl _))))
        refine ⟨k + 1, (p.1 : Int) + 1, (p.2 : Int) + 1, _, _, hs ++ [(⟨a, (p.1 : Int) - a, b, (p.2 : Int) - b⟩ : HK)], by omega, ⟨⟨by omega, by omega, by omega, by omega, by omega, by rw [List.length_append]; simp only [List.length_cons, List.length_nil]; omega, by rw [← hhs, hat, List.append_assoc]⟩, S92⟩, ?_⟩
        exact (Sub.cons rfl (by first | rfl | (rw [List.length_append]; rfl)) (Sub.cons rfl (by first | rfl | exact congrArg (Value.int _) (by omega)) (Sub.cons rfl (by first | rfl | exact congrArg (Value.int _) (by omega)) (Sub.cons rfl (by first | rfl | exact congrArg (Value.int _) (by omega)) (Sub.cons rfl rfl (Sub.cons rfl rfl (Sub.nil _)))))))
      ·
        refine L_gyes rfl rfl ?_
        refine L_y (y_fieldA 1 Try.underlying36 rfl sz3 rfl rfl rfl) rfl ?_
        refine L_gyes rfl rfl ?_
        refine L_y (y_ldc Try.underlying3 rfl rfl (((S7.blk 2 rfl).cell _).trans (by rfl))) rfl ?_
        refine L_gyes rfl rfl ?_
        refine L_y (y_move rfl) rfl ?_
        refine L_gyes rfl rfl ?_
        refine L_y (y_gtr rfl rfl) rfl ?_
        refine L_y ((by first | exact y_pickT rfl rfl | exact y_pickF rfl rfl)) rfl ?_
        refine L_nil ?_
        refine hK14 _ _ ?_
        refine T_cond rfl (fun h44 => ?_) (fun h44 => ?_)
        ·
          refine T_region ?_
          refine L_y (y_move rfl) rfl ?_
          refine L_y (y_move rfl) rfl ?_
          refine L_y (y_fieldA 0 Try.underlying36 rfl sz3 rfl rfl rfl) rfl ?_
          refine L_y (y_ldc Try.underlying3 rfl rfl (((S7.blk 2 rfl).cell _).trans (by rfl))) rfl ?_
          refine L_y (y_move rfl) rfl ?_
          refine L_y (y_sub rfl rfl (i64w (by omega))) rfl ?_
          refine L_y (y_move rfl) rfl ?_
          refine L_y (y_fieldA 1 Try.underlying36 rfl sz3 rfl rfl rfl) rfl ?_
          refine L_y (y_ldc Try.underlying3 rfl rfl (((S7.blk 2 rfl).cell _).trans (by rfl))) rfl ?_
          refine L_y (y_move rfl) rfl ?_
          refine L_y (y_sub rfl rfl (i64w (by omega))) rfl ?_
          refine L_y (y_build rfl (show _ = some #[Value.int .i64 a, Value.int .i64 ((p.1 : Int) - a), Value.int .i64 b, Value.int .i64 ((p.2 : Int) - b)] by kernel_rfl)) rfl ?_
          refine L_o (o_bsl [_, _, _, _] te38 zz52 S7 rfl rfl rfl rfl rfl rfl rfl rfl fun b12 w12 S12 => ?_)
          refine L_o (o_app te38 S12 1 rfl rfl rfl (by first | exact S12.row 0 rfl | exact S12.row 1 rfl | exact S12.row 3 rfl) (fun u hu => hf_one [⟨a, (p.1 : Int) - a, b, (p.2 : Int) - b⟩] u hu) rfl (by omega) (by omega) fun A13 c13 w13 S13 => ?_)
          have S13d := S13.drop (rs' := [_, _, _]) (.cons_cons _ (.cons_cons _ (.cons_cons _ (.cons _ (.refl _)))))
          refine L_y (y_assign rfl) rfl ?_
          refine L_nil ?_
          refine hK13 _ _ ?_
          refine T_drawnL [(0, true), (1, true), (2, true), (3, true), (4, true), (5, true), (6, true), (7, true)] hmix (by kernel_rfl) fun w14 l14 => ?_
          have S14 := S13d.like l14
          refine DL_y rfl (y_fieldA 0 Try.underlying36 rfl sz3 rfl rfl rfl) rfl ?_
          refine DL_y rfl (y_ldc Try.underlying3 rfl rfl (((S14.blk 2 rfl).cell _).trans (by rfl))) rfl ?_
          refine DL_y rfl (y_add rfl rfl (i64w (by omega))) rfl ?_
          refine DL_y rfl (y_fieldA 1 Try.underlying36 rfl sz3 rfl rfl rfl) rfl ?_
          refine DL_y rfl (y_ldc Try.underlying3 rfl rfl (((S14.blk 2 rfl).cell _).trans (by rfl))) rfl ?_
          refine DL_y rfl (y_add rfl rfl (i64w (by omega))) rfl ?_
          refine DL_y rfl (y_assign rfl) rfl ?_
          refine DL_y rfl (y_assign rfl) rfl ?_
          refine DL_nil ?_
          refine hK11 _ _ ?_
          refine T_region ?_
          refine L_y (y_add rfl rfl (i64w (by omega))) rfl ?_
          refine L_y (y_move rfl) rfl ?_
          refine L_nil ?_
          have hat := hunks_at hp a b
          rw [if_pos (by omega)] at hat
          have S91 := S14.rowc 1 rfl (n' := (hs ++ [⟨a, (p.1 : Int) - a, b, (p.2 : Int) - b⟩] : List HK).length) (xs' := (hs ++ [⟨a, (p.1 : Int) - a, b, (p.2 : Int) - b⟩] : List HK).flatMap hf) (by simp) (by rw [List.flatMap_append])
          have S92 := S91.drop (rs' := [_, _]) (.cons_cons _ (.cons_cons _ (.cons _ (.refl _))))
          refine ⟨k + 1, (p.1 : Int) + 1, (p.2 : Int) + 1, _, _, hs ++ [(⟨a, (p.1 : Int) - a, b, (p.2 : Int) - b⟩ : HK)], by omega, ⟨⟨by omega, by omega, by omega, by omega, by omega, by rw [List.length_append]; simp only [List.length_cons, List.length_nil]; omega, by rw [← hhs, hat, List.append_assoc]⟩, S92⟩, ?_⟩
          exact (Sub.cons rfl (by first | rfl | (rw [List.length_append]; rfl)) (Sub.cons rfl (by first | rfl | exact congrArg (Value.int _) (by omega)) (Sub.cons rfl (by first | rfl | exact congrArg (Value.int _) (by omega)) (Sub.cons rfl (by first | rfl | exact congrArg (Value.int _) (by omega)) (Sub.cons rfl rfl (Sub.cons rfl rfl (Sub.nil _)))))))
        ·
          refine T_skip ?_
          refine hK13 _ _ ?_
          refine T_drawnL [(0, true), (1, true), (2, true), (3, true), (4, true), (5, true), (6, true), (7, true)] hmix (by kernel_rfl) fun w15 l15 => ?_
          have S15 := S7.like l15
          refine DL_y rfl (y_fieldA 0 Try.underlying36 rfl sz3 rfl rfl rfl) rfl ?_
          refine DL_y rfl (y_ldc Try.underlying3 rfl rfl (((S15.blk 2 rfl).cell _).trans (by rfl))) rfl ?_
          refine DL_y rfl (y_add rfl rfl (i64w (by omega))) rfl ?_
          refine DL_y rfl (y_fieldA 1 Try.underlying36 rfl sz3 rfl rfl rfl) rfl ?_
          refine DL_y rfl (y_ldc Try.underlying3 rfl rfl (((S15.blk 2 rfl).cell _).trans (by rfl))) rfl ?_
          refine DL_y rfl (y_add rfl rfl (i64w (by omega))) rfl ?_
          refine DL_y rfl (y_assign rfl) rfl ?_
          refine DL_y rfl (y_assign rfl) rfl ?_
          refine DL_nil ?_
          refine hK11 _ _ ?_
          refine T_region ?_
          refine L_y (y_add rfl rfl (i64w (by omega))) rfl ?_
          refine L_y (y_move rfl) rfl ?_
          refine L_nil ?_
          have hat := hunks_at hp a b
          rw [if_neg (by omega), List.nil_append] at hat
          have S92 := S15.drop (rs' := [_, _]) (.cons_cons _ (.cons_cons _ (.cons _ (.refl _))))
          refine ⟨k + 1, (p.1 : Int) + 1, (p.2 : Int) + 1, A1, c1, hs, by omega, ⟨⟨by omega, by omega, by omega, by omega, by omega, by omega, by rw [← hhs, hat]⟩, S92⟩, ?_⟩
          exact (Sub.cons rfl (by first | rfl | (rw [List.length_append]; rfl)) (Sub.cons rfl (by first | rfl | exact congrArg (Value.int _) (by omega)) (Sub.cons rfl (by first | rfl | exact congrArg (Value.int _) (by omega)) (Sub.cons rfl (by first | rfl | exact congrArg (Value.int _) (by omega)) (Sub.cons rfl rfl (Sub.cons rfl rfl (Sub.nil _)))))))
    ·
      refine T_exit ?_
      refine hK7 _ _ ?_
      refine T_seq fun K15 hK15 => ?_
      refine T_region ?_
      refine L_y (y_move rfl) rfl ?_
      refine L_y (y_assign rfl) rfl ?_
      refine L_y (y_assign rfl) rfl ?_
      refine L_nil ?_
      refine hK15 _ _ ?_
      refine T_ret ?_
      repeat (first | with_reducible refine up_then ?_ | with_reducible refine up_in ?_)
      refine ret2 rfl rfl rfl ?_
      have he : hs = hunksF 0 0 (keepT la lb 0 0 ++ [(n, m)]) := by rw [← hhs, List.drop_eq_nil_of_le (by omega), hunksF, List.append_nil]
      exact ⟨_, rfl, S5.like0, _, _, _, rfl, by rw [← he]; exact S5.own 1 rfl⟩


set_option maxRecDepth 100000 in
theorem fblocksL (A B : Option Addr) (n ca m cb : Nat) (la lb : List Int) (w0 : World) (ha : Rs w0 1 A n ca (iL la)) (hb : Rs w0 1 B m cb (iL lb)) (hlong : 800 < n ∨ 800 < m) :
    Calls Try.prog 16 #[.slice A n ca, .slice B m cb] w0 fun e w' => ∃ u, e = .returned u ∧ Like w0 w' ∧ u = .tuple #[.slice none 0 0, .int .i64 3] := by
  refine enter1 (env := [(0, .slice A n ca), (1, .slice B m cb)]) [.slice A n ca, .slice B m cb] Try.func16 rfl Try.ntmps16 rfl rfl ?_
  have hla := lenI ha; have hlb := lenI hb; have S0 := St.start w0 noM
  refine T_seq fun K1 hK1 => ?_
  refine T_region ?_
  refine L_y (y_assign rfl) rfl ?_
  refine L_y (y_assign rfl) rfl ?_
  refine L_nil ?_
  refine hK1 _ _ ?_
  refine T_seq fun K2 hK2 => ?_
  refine T_region ?_
  refine L_y (y_move rfl) rfl ?_
  refine L_y (y_move rfl) rfl ?_
  refine L_o (o_call Try.func9 rfl rfl (fdiffL A B n ca m cb la lb w0 (S0.rd ha) (S0.rd hb) hlong) rfl rfl ?_)
  rintro e1 w1 ⟨v1, rfl, l1, rfl⟩
  refine ⟨_, rfl, ?_⟩
  have S1 := S0.like l1
  refine L_y (y_move rfl) rfl ?_
  refine L_y (y_extract rfl rfl) rfl ?_
  refine L_y (y_extract rfl rfl) rfl ?_
  refine L_y (y_assign rfl) rfl ?_
  refine L_y (y_assign rfl) rfl ?_
  refine L_nil ?_
  refine hK2 _ _ ?_
  refine T_seq fun K3 hK3 => ?_
  refine T_seq fun K4 hK4 => ?_
  refine T_region ?_
  refine L_y (y_move rfl) rfl ?_
  refine L_y (y_neq rfl rfl) rfl ?_
  refine L_nil ?_
  refine hK4 _ _ ?_
  refine T_true rfl ?_
  refine T_seq fun K5 hK5 => ?_
  refine T_region ?_
  refine L_y (y_move rfl) rfl ?_
  refine L_y (y_assign rfl) rfl ?_
  refine L_y (y_assign rfl) rfl ?_
  refine L_nil ?_
  refine hK5 _ _ ?_
  refine T_ret ?_
  repeat (first | with_reducible refine up_then ?_ | with_reducible refine up_in ?_)
  refine ret2 rfl rfl rfl ?_
  exact ⟨_, rfl, S1.like0, rfl⟩
end Go.Proofs.Ytgapdndbelnknaa
