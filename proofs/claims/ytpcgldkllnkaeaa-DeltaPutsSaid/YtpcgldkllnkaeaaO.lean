/-
  The law DeltaApplies.
-/
import Derived.Test.YtpcgldkllnkaeaaN
namespace Go.Proofs.Ytpcgldkllnkaeaa
open Go.RowKit Zk Zx
set_option linter.unusedVariables false
set_option linter.unusedSimpArgs false

theorem papplyL {L : List OV} (A : Option Addr) (n c : Nat) (a : List UInt8) (B : Option Addr) (m d : Nat) (l : List OP) (b t : Int) (w0 : World) (ha : Rs w0 1 A n c (bL a)) (hl : Rs w0 4 B m d (l.flatMap opf)) (hok : OkO w0 l) (hL : l.map OP.v = L) :
    Calls Try.prog 12 #[.slice A n c, .agg (scA b t B m d)] w0 fun e w' => ∃ u, e = .returned u ∧ Like w0 w' ∧ ∃ A' c', u = .tuple #[.slice A' (aplR a b t L).1.length c', .int .i64 (aplR a b t L).2] ∧ w'.ownsRow w0.heap.size 5 1 (.slice A' (aplR a b t L).1.length c') (aplR a b t L).1.length (bL (aplR a b t L).1) := by
  subst hL; exact papply A n c a B m d l b t w0 ha hl hok
theorem rapplyL {L : List OV} (A : Option Addr) (n c : Nat) (a : List UInt8) (B : Option Addr) (m d : Nat) (l : List OP) (b t : Int) (w0 : World) (ha : Rs w0 1 A n c (bL a)) (hl : Rs w0 4 B m d (l.flatMap opf)) (hok : OkO w0 l) (hL : l.map OP.v = L) :
    Calls Try.prog 13 #[.slice A n c, .agg (scA b t B m d)] w0 fun e w' => ∃ u, e = .returned u ∧ Like w0 w' ∧ ∃ A' c', u = .tuple #[.slice A' (aplR a b t L).1.length c', .int .i64 (aplR a b t L).2] ∧ w'.ownsRow w0.heap.size 5 1 (.slice A' (aplR a b t L).1.length c') (aplR a b t L).1.length (bL (aplR a b t L).1) := by
  subst hL; exact rapply A n c a B m d l b t w0 ha hl hok
theorem psameT (A : Option Addr) (n c : Nat) (l : List OP) (b t : Int) (B : Option Addr) (m d : Nat) (k : List OP) (w0 : World) (hl : Rs w0 4 A n c (l.flatMap opf)) (hok : OkO w0 l) (hk : Rs w0 4 B m d (k.flatMap opf)) (hok2 : OkO w0 k) (e : l.map OP.v = k.map OP.v) :
    Calls Try.prog 15 #[.agg (scA b t A n c), .agg (scA b t B m d)] w0 fun e w' => ∃ u, e = .returned u ∧ Like w0 w' ∧ u = .bool true :=
  (psame A n c l b t B m d k b t w0 hl hok hk hok2).mono fun e' w' ⟨u, h1, h2, h3⟩ => ⟨u, h1, h2, by rw [h3, decide_eq_true ⟨rfl, rfl, e⟩]⟩
theorem same1T (A B : Option Addr) (n c m d : Nat) (a : List UInt8) (w0 : World) (ha : Rs w0 1 A n c (bL a)) (hb : Rs w0 1 B m d (bL a)) :
    Calls Try.prog 14 #[.slice A n c, .slice B m d] w0 fun e w' => ∃ u, e = .returned u ∧ Like w0 w' ∧ u = .bool true :=
  (same1 A B n c m d a a w0 ha hb).mono fun e w' ⟨u, h1, h2, h3⟩ => ⟨u, h1, h2, by rw [h3, decide_eq_true rfl]⟩


set_option maxRecDepth 100000 in
theorem lapplies (A : Option Addr) (n c : Nat) (a : List UInt8) (B : Option Addr) (m d : Nat) (l : List OP) (b t : Int) (w0 : World) (ha : Rs w0 1 A n c (bL a)) (hl : Rs w0 4 B m d (l.flatMap opf)) (hok : OkO w0 l) (hbig : ∀ o ∈ l, o.p.n ≤ 70368744177000) :
    Calls Try.prog 3 #[.slice A n c, .agg (scA b t B m d)] w0 fun e w' => ∃ u, e = .returned u ∧ Like w0 w' ∧ u = .bool true := by
  refine enter1 (env := [(0, .slice A n c), (1, .agg (scA b t B m d))]) [.slice A n c, .agg (scA b t B m d)] Try.func3 rfl Try.ntmps3 rfl rfl ?_
  have hm := ops_n hl; have hcapm := hl.cap; have hmaxm := hl.max; have hn := ha.lenb; have hcap := ha.cap; have hmax := ha.max; have S0 := St.start w0 noM
  refine T_seq fun K1 hK1 => ?_
  refine T_region ?_
  refine L_o (o_box rfl S0 rfl fun b1 w1 hb1 S1 => ?_)
  refine L_y (y_assign rfl) rfl ?_
  refine L_nil ?_
  refine hK1 _ _ ?_
  refine T_seq fun K2 hK2 => ?_
  refine T_seq fun K3 hK3 => ?_
  refine T_region ?_
  refine L_y (y_fieldA 2 Try.underlying25 rfl sz23 rfl rfl rfl) rfl ?_
  refine L_y (y_ldc Try.underlying23 rfl rfl (((S1.blk 0 rfl).cell _).trans (by rfl))) rfl ?_
  refine L_y (y_len Try.underlying23 rfl) rfl ?_
  refine L_y (y_gtr rfl rfl) rfl ?_
  refine L_y (y_move rfl) rfl ?_
  refine L_split 17 rfl (fun h17 => ?_) (fun h17 => ?_)
  ·
    refine L_gno rfl rfl rfl ?_
    refine L_gno rfl rfl rfl ?_
    refine L_gno rfl rfl rfl ?_
    refine L_y ((by first | exact y_pickT rfl rfl | exact y_pickF rfl rfl)) rfl ?_
    refine L_nil ?_
    refine hK3 _ _ ?_
    refine T_true rfl ?_
    refine T_seq fun K4 hK4 => ?_
    refine T_region ?_
    refine L_o (o_call Try.func9 rfl rfl (works w1) rfl rfl ?_)
    rintro e3 w3 ⟨v3, rfl, l3, rfl⟩
    refine ⟨_, rfl, ?_⟩
    have S3 := S1.like l3
    refine L_y (y_assign rfl) rfl ?_
    refine L_nil ?_
    refine hK4 _ _ ?_
    refine T_ret ?_
    repeat (first | with_reducible refine up_then ?_ | with_reducible refine up_in ?_)
    refine ret1 rfl rfl ?_
    first | exact ⟨_, rfl, S3.like0, rfl⟩ | exact ⟨_, rfl, Like.trans lk S3.like0, rfl⟩
  ·
    refine L_gyes rfl rfl ?_
    refine L_y (y_move rfl) rfl ?_
    refine L_gyes rfl rfl ?_
    refine L_y (y_len Try.underlying22 rfl) rfl ?_
    refine L_gyes rfl rfl ?_
    refine L_y (y_gtr rfl rfl) rfl ?_
    refine L_y ((by first | exact y_pickT rfl rfl | exact y_pickF rfl rfl)) rfl ?_
    refine L_nil ?_
    refine hK3 _ _ ?_
    refine T_cond rfl (fun h21 => ?_) (fun h21 => ?_)
    ·
      refine T_seq fun K5 hK5 => ?_
      refine T_region ?_
      refine L_o (o_call Try.func9 rfl rfl (works w1) rfl rfl ?_)
      rintro e4 w4 ⟨v4, rfl, l4, rfl⟩
      refine ⟨_, rfl, ?_⟩
      have S4 := S1.like l4
      refine L_y (y_assign rfl) rfl ?_
      refine L_nil ?_
      refine hK5 _ _ ?_
      refine T_ret ?_
      repeat (first | with_reducible refine up_then ?_ | with_reducible refine up_in ?_)
      refine ret1 rfl rfl ?_
      first | exact ⟨_, rfl, S4.like0, rfl⟩ | exact ⟨_, rfl, Like.trans lk S4.like0, rfl⟩
    ·
      refine T_skip ?_
      refine hK2 _ _ ?_
      refine T_seq fun K6 hK6 => ?_
      refine T_region ?_
      refine L_y (y_ldW Try.underlying25 rfl sz25 rfl (S1.blk 0 rfl) (show _ = (scA b t B m d).toList ∧ _ from ⟨rfl, rfl⟩)) rfl ?_
      refine L_o (o_call Try.func11 rfl rfl (plain B m d l b t w1 (S1.rd hl) (hok.like S1.like0) (by omega)) rfl rfl ?_)
      rintro e5 w5 ⟨v5, rfl, l5, A24, c24, rfl, O5⟩
      refine ⟨_, rfl, ?_⟩
      have S5 := S1.adopt l5 O5
      refine L_o (o_call Try.func10 rfl rfl (pown A24 m c24 l b t w5 (S5.row 1 rfl) (hok.like S5.like0) (by omega) hbig) rfl rfl ?_)
      rintro e6 w6 ⟨v6, rfl, l6, A25, c25, qs, rfl, hQ, hokQ, hqv⟩
      refine ⟨_, rfl, ?_⟩
      have S6 := S5.like l6
      have lk := S6.like0
      have ha2 := ha.like lk
      have hl2 := hl.like lk
      have hok3 := hok.like lk
      have hbx := S6.blk 0 rfl
      have S90 := St.start w6 noM
      refine L_o (o_alloc zz25 S90 rfl fun b7 w7 hb7 S7 => ?_)
      refine L_o (o_stW S7 0 rfl rfl rfl sz25 rfl (scA_one _ _ _ _ _) fun w8 S8 => ?_)
      refine L_nil ?_
      refine hK6 _ _ ?_
      refine T_seq fun K7 hK7 => ?_
      refine T_region ?_
      refine L_y (y_move rfl) rfl ?_
      refine L_y (y_ldW Try.underlying25 rfl sz25 rfl (S8.blk 0 rfl) (show _ = (scA b t A25 m c25).toList ∧ _ from ⟨rfl, rfl⟩)) rfl ?_
      refine L_o (o_call Try.func12 rfl rfl (papplyL A n c a A25 m c25 qs b t w8 (S8.rd ha2) (S8.rd hQ) (hokQ.like S8.like0) hqv) rfl rfl ?_)
      rintro e9 w9 ⟨v9, rfl, l9, A29, c29, rfl, O9⟩
      refine ⟨_, rfl, ?_⟩
      have S9 := S8.adopt l9 O9
      have hxm := (S9.row 1 rfl).max; have hxc := (S9.row 1 rfl).cap
      refine L_y (y_move rfl) rfl ?_
      refine L_y (y_extract rfl rfl) rfl ?_
      refine L_y (y_extract rfl rfl) rfl ?_
      refine L_y (y_assign rfl) rfl ?_
      refine L_y (y_assign rfl) rfl ?_
      refine L_nil ?_
      refine hK7 _ _ ?_
      refine T_seq fun K8 hK8 => ?_
      refine T_region ?_
      refine L_y (y_move rfl) rfl ?_
      refine L_y (y_ldW Try.underlying25 rfl sz25 rfl (S9.rdB hbx) (show _ = (scA b t B m d).toList ∧ _ from ⟨rfl, rfl⟩)) rfl ?_
      refine L_o (o_call Try.func11 rfl rfl (plain B m d l b t w9 (S9.rd hl2) (hok3.like S9.like0) (by omega)) rfl rfl ?_)
      rintro e10 w10 ⟨v10, rfl, l10, A35, c35, rfl, O10⟩
      refine ⟨_, rfl, ?_⟩
      have S10 := S9.adopt l10 O10
      refine L_o (o_call Try.func13 rfl rfl (rapplyL A n c a A35 m c35 l b t w10 (S10.rd ha2) (S10.row 2 rfl) (hok3.like S10.like0) rfl) rfl rfl ?_)
      rintro e11 w11 ⟨v11, rfl, l11, A36, c36, rfl, O11⟩
      refine ⟨_, rfl, ?_⟩
      have S11 := S10.adopt l11 O11
      refine L_y (y_move rfl) rfl ?_
      refine L_y (y_extract rfl rfl) rfl ?_
      refine L_y (y_extract rfl rfl) rfl ?_
      refine L_y (y_assign rfl) rfl ?_
      refine L_y (y_assign rfl) rfl ?_
      refine L_nil ?_
      refine hK8 _ _ ?_
      refine T_seq fun K9 hK9 => ?_
      refine T_seq fun K10 hK10 => ?_
      refine T_drawnL [(0, true), (1, true), (2, false), (3, true), (4, true), (5, true), (6, true), (7, true), (8, true), (9, true), (10, true), (11, true), (12, false), (13, false), (14, true), (15, true)] hmix (by kernel_rfl) fun w12 l12 => ?_
      have S12 := S11.like l12
      refine DL_y rfl (y_move rfl) rfl ?_
      refine DL_y rfl (y_move rfl) rfl ?_
      refine DL_o rfl (o_call Try.func14 rfl rfl (same1T A29 A36 _ c29 _ c36 (aplR a b t (l.map OP.v)).1 w12 (S12.row 1 rfl) (S12.row 3 rfl)) rfl rfl ?_)
      rintro e13 w13 ⟨v13, rfl, l13, rfl⟩
      refine ⟨_, rfl, l13, ?_⟩
      have S13 := S12.like l13
      have q13 := l13
      refine DL_y rfl ((by first | exact y_notD rfl | exact y_not rfl)) rfl ?_
      refine DL_y rfl (y_move rfl) rfl ?_
      refine DL_splitB 43 rfl (fun h43 => ?_) (fun h43 => ?_)
      ·
        cases h43
      ·
        refine DL_gyes rfl rfl rfl (y_move rfl) rfl ?_
        refine DL_gyes rfl rfl rfl (y_move rfl) rfl ?_
        refine DL_gyes rfl rfl rfl (y_neq rfl rfl) rfl ?_
        refine DL_y rfl ((by first | exact y_pickT rfl rfl | exact y_pickF rfl rfl)) rfl ?_
        refine DL_y rfl (y_move rfl) rfl ?_
        refine DL_split 48 rfl (fun h48 => ?_) (fun h48 => ?_)
        ·
          exact absurd rfl h48
        ·
          refine DL_gyes rfl rfl rfl (y_ldW Try.underlying25 rfl sz25 rfl (S12.blk 0 rfl) (show _ = (scA b t A25 m c25).toList ∧ _ from ⟨rfl, rfl⟩)) rfl ?_
          refine DL_gyes rfl rfl rfl (y_ldW Try.underlying25 rfl sz25 rfl (S12.rdB hbx) (show _ = (scA b t B m d).toList ∧ _ from ⟨rfl, rfl⟩)) rfl ?_
          refine DL_ogyes rfl rfl rfl (o_call Try.func11 rfl rfl (plain B m d l b t w13 (S13.rd hl2) (hok3.like S13.like0) (by omega)) rfl rfl ?_)
          rintro e14 w14 ⟨v14, rfl, l14, A51, c51, rfl, O14⟩
          refine ⟨_, rfl, (Like.trans q13 l14), ?_⟩
          have S14 := S13.adopt l14 O14
          have q14 := (Like.trans q13 l14)
          refine DL_ogyes rfl rfl rfl (o_call Try.func15 rfl rfl (psameT A25 m c25 qs b t A51 m c51 l w14 (S14.rd hQ) (hokQ.like S14.like0) (S14.row 4 rfl) (hok3.like S14.like0) hqv) rfl rfl ?_)
          rintro e15 w15 ⟨v15, rfl, l15, rfl⟩
          refine ⟨_, rfl, (Like.trans q14 l15), ?_⟩
          have S15 := S14.like l15
          have q15 := (Like.trans q14 l15)
          refine DL_gyes rfl rfl rfl ((by first | exact y_notD rfl | exact y_not rfl)) rfl ?_
          refine DL_y rfl ((by first | exact y_pickT rfl rfl | exact y_pickF rfl rfl)) rfl ?_
          refine DL_nil ?_
          refine hK10 _ _ ?_
          refine T_condB rfl (fun h54 => ?_) (fun h54 => ?_)
          ·
            cases h54
          ·
            refine T_skip ?_
            refine hK9 _ _ ?_
            refine T_seq fun K11 hK11 => ?_
            refine T_seq fun K12 hK12 => ?_
            refine T_region ?_
            refine L_y (y_assign rfl) rfl ?_
            refine L_nil ?_
            refine hK12 _ _ ?_
            refine T_block ?_
            refine T_loop2 [(0, _), (3, _), (5, _), (6, _), (8, _)] (fun (k : Nat) (ys : List Value) => [(10, .int .i64 (k : Int))]) (fun (k : Nat) (ys : List Value) => (aplR a b t (l.map OP.v)).1.length - k) (fun (k : Nat) (ys : List Value) (w : World) => (k ≤ (aplR a b t (l.map OP.v)).1.length ∧ ys.length = (aplR a b t (l.map OP.v)).1.length ∧ ∀ j, k ≤ j → j < (aplR a b t (l.map OP.v)).1.length → ys[j]? = (bL (aplR a b t (l.map OP.v)).1)[j]?) ∧ St w6 noM [blk b7 25 (scA b t A25 m c25), row 5 1 A29 (aplR a b t (l.map OP.v)).1.length c29 ys, row 5 1 A36 (aplR a b t (l.map OP.v)).1.length c36 (bL (aplR a b t (l.map OP.v)).1)] w) 0 (bL (aplR a b t (l.map OP.v)).1) (Sub.cons rfl (by first | rfl | exact congrArg (Value.int _) (by omega)) (Sub.nil _)) (Sub.cons rfl rfl (Sub.cons rfl rfl (Sub.cons rfl rfl (Sub.cons rfl rfl (Sub.cons rfl rfl (Sub.nil _)))))) ?_ ?_
            ·
              have S9 := S15.sel [0, 1, 3] (by decide)
              exact ⟨⟨Nat.zero_le _, length_bL _, fun j h1 h2 => rfl⟩, S9⟩
            ·
              intro k ys w16 hrel
              obtain ⟨⟨hk, hyl, hys⟩, S16⟩ := hrel
              refine T_seq fun K13 hK13 => ?_
              refine T_seq fun K14 hK14 => ?_
              refine T_region ?_
              refine L_y (y_move rfl) rfl ?_
              refine L_y (y_move rfl) rfl ?_
              refine L_y (y_len Try.underlying22 rfl) rfl ?_
              refine L_y (y_lss rfl rfl) rfl ?_
              refine L_nil ?_
              refine hK14 _ _ ?_
              refine T_cond rfl (fun h58 => ?_) (fun h58 => ?_)
              ·
                have hyk : ys[k]? = some (.int .u8 (g8 (aplR a b t (l.map OP.v)).1 k)) := (hys k (Nat.le_refl _) (by omega)).trans (bL_g8 _ _ (by omega))
                refine T_skip ?_
                refine hK13 _ _ ?_
                refine T_seq fun K15 hK15 => ?_
                refine T_block ?_
                refine T_region ?_
                refine L_y (y_move rfl) rfl ?_
                refine L_y (y_move rfl) rfl ?_
                refine L_y (y_idx Try.underlying22 sz5 rfl rfl (S16.row 1 rfl) (Nt.mk (by omega) : Nt _ (k)) (by omega)) rfl ?_
                refine L_y (y_ldr Try.underlying5 rfl rfl (S16.row 1 rfl) hyk) rfl ?_
                refine L_y (y_bits rfl rfl rfl rfl) rfl ?_
                refine L_y (y_idx Try.underlying22 sz5 rfl rfl (S16.row 1 rfl) (Nt.mk (by omega) : Nt _ (k)) (by omega)) rfl ?_
                refine L_o (o_strow S16 1 rfl rfl rfl rfl sz5 (by omega) fun w17 S17 => ?_)
                refine L_nil ?_
                refine hK15 _ _ ?_
                refine T_region ?_
                refine L_y (y_move rfl) rfl ?_
                refine L_y (y_add rfl rfl (i64w (by omega))) rfl ?_
                refine L_y (y_assign rfl) rfl ?_
                refine L_nil ?_
                refine ⟨k + 1, _, by omega, ⟨⟨by omega, (List.length_set).trans hyl, fun j h1 h2 => by rw [List.getElem?_set_ne (by omega)]; exact hys j (by omega) h2⟩, S17⟩, ?_⟩
                exact (Sub.cons rfl (by first | rfl | exact congrArg (Value.int _) (by omega)) (Sub.cons rfl rfl (Sub.cons rfl rfl (Sub.cons rfl rfl (Sub.cons rfl rfl (Sub.cons rfl rfl (Sub.nil _)))))))
              ·
                refine T_exit ?_
                refine hK11 _ _ ?_
                refine T_seq fun K16 hK16 => ?_
                refine T_region ?_
                refine L_y (y_move rfl) rfl ?_
                refine L_y (y_ldW Try.underlying25 rfl sz25 rfl (S16.rdB hbx) (show _ = (scA b t B m d).toList ∧ _ from ⟨rfl, rfl⟩)) rfl ?_
                refine L_o (o_call Try.func11 rfl rfl (plain B m d l b t w16 (S16.rd hl2) (hok3.like S16.like0) (by omega)) rfl rfl ?_)
                rintro e18 w18 ⟨v18, rfl, l18, A70, c70, rfl, O18⟩
                refine ⟨_, rfl, ?_⟩
                have S18 := S16.adopt l18 O18
                refine L_o (o_call Try.func13 rfl rfl (rapplyL A n c a A70 m c70 l b t w18 (S18.rd ha2) (S18.row 3 rfl) (hok3.like S18.like0) rfl) rfl rfl ?_)
                rintro e19 w19 ⟨v19, rfl, l19, A71, c71, rfl, O19⟩
                refine ⟨_, rfl, ?_⟩
                have S19 := S18.adopt l19 O19
                refine L_y (y_move rfl) rfl ?_
                refine L_y (y_extract rfl rfl) rfl ?_
                refine L_y (y_extract rfl rfl) rfl ?_
                refine L_y (y_assign rfl) rfl ?_
                refine L_y (y_assign rfl) rfl ?_
                refine L_nil ?_
                refine hK16 _ _ ?_
                refine T_seq fun K17 hK17 => ?_
                refine T_drawnL [(0, true), (1, true), (2, false), (3, true), (4, true), (5, true), (6, false), (7, false), (8, true), (9, true), (10, false), (11, true), (12, true)] hmix (by kernel_rfl) fun w20 l20 => ?_
                have S20 := S19.like l20
                refine DL_y rfl (y_move rfl) rfl ?_
                refine DL_y rfl (y_move rfl) rfl ?_
                refine DL_o rfl (o_call Try.func14 rfl rfl (same1T A71 A36 _ c71 _ c36 (aplR a b t (l.map OP.v)).1 w20 (S20.row 4 rfl) (S20.row 2 rfl)) rfl rfl ?_)
                rintro e21 w21 ⟨v21, rfl, l21, rfl⟩
                refine ⟨_, rfl, l21, ?_⟩
                have S21 := S20.like l21
                have q21 := l21
                refine DL_y rfl (y_move rfl) rfl ?_
                refine DL_splitB 77 rfl (fun h77 => ?_) (fun h77 => ?_)
                ·
                  refine DL_gyes rfl rfl rfl (y_ldW Try.underlying25 rfl sz25 rfl (S20.blk 0 rfl) (show _ = (scA b t A25 m c25).toList ∧ _ from ⟨rfl, rfl⟩)) rfl ?_
                  refine DL_gyes rfl rfl rfl (y_ldW Try.underlying25 rfl sz25 rfl (S20.rdB hbx) (show _ = (scA b t B m d).toList ∧ _ from ⟨rfl, rfl⟩)) rfl ?_
                  refine DL_ogyes rfl rfl rfl (o_call Try.func11 rfl rfl (plain B m d l b t w21 (S21.rd hl2) (hok3.like S21.like0) (by omega)) rfl rfl ?_)
                  rintro e22 w22 ⟨v22, rfl, l22, A80, c80, rfl, O22⟩
                  refine ⟨_, rfl, (Like.trans q21 l22), ?_⟩
                  have S22 := S21.adopt l22 O22
                  have q22 := (Like.trans q21 l22)
                  refine DL_ogyes rfl rfl rfl (o_call Try.func15 rfl rfl (psameT A25 m c25 qs b t A80 m c80 l w22 (S22.rd hQ) (hokQ.like S22.like0) (S22.row 5 rfl) (hok3.like S22.like0) hqv) rfl rfl ?_)
                  rintro e23 w23 ⟨v23, rfl, l23, rfl⟩
                  refine ⟨_, rfl, (Like.trans q22 l23), ?_⟩
                  have S23 := S22.like l23
                  have q23 := (Like.trans q22 l23)
                  refine DL_y rfl ((by first | exact y_pickT rfl rfl | exact y_pickF rfl rfl)) rfl ?_
                  refine DL_y rfl (y_move rfl) rfl ?_
                  refine DL_splitB 83 rfl (fun h83 => ?_) (fun h83 => ?_)
                  ·
                    refine DL_ogyes rfl rfl rfl (o_call Try.func9 rfl rfl (works w23) rfl rfl ?_)
                    rintro e24 w24 ⟨v24, rfl, l24, rfl⟩
                    refine ⟨_, rfl, (Like.trans q23 l24), ?_⟩
                    have S24 := S23.like l24
                    have q24 := (Like.trans q23 l24)
                    refine DL_y rfl ((by first | exact y_pickT rfl rfl | exact y_pickF rfl rfl)) rfl ?_
                    refine DL_y rfl (y_assign rfl) rfl ?_
                    refine DL_nil ?_
                    refine hK17 _ _ ?_
                    refine T_ret ?_
                    repeat (first | with_reducible refine up_then ?_ | with_reducible refine up_in ?_)
                    refine ret1 rfl rfl ?_
                    first | exact ⟨_, rfl, S24.like0, rfl⟩ | exact ⟨_, rfl, Like.trans lk S24.like0, rfl⟩
                  ·
                    cases h83
                ·
                  cases h77
end Go.Proofs.Ytpcgldkllnkaeaa
