/-
  The law OidLists.
-/
import Derived.Test.YtblbcmkhgjlpcaaY
namespace Go.Proofs.Ytblbcmkhgjlpcaa
open Go.RowKit Zk Zx
set_option linter.unusedVariables false
set_option linter.unusedSimpArgs false

theorem find_ex (l : List Id) (x : Id) : ∃ (a : Nat) (b : Bool), ∀ u : Value, ((ris l = false ∧ u = .tuple #[.int .i64 0, .bool false]) ∨ (ris l = true ∧ ∃ k, posOk l x k ∧ u = .tuple #[.int .i64 (k : Int), .bool (decide (l[k]? = some x))])) → u = .tuple #[.int .i64 (a : Int), .bool b] := by
  cases hr : ris l with
  | false => exact ⟨0, false, fun u h => by rcases h with ⟨_, h⟩ | ⟨h, _⟩; exact h; cases h⟩
  | true =>
    obtain ⟨k, hk⟩ := pos_ex hr x
    exact ⟨k, decide (l[k]? = some x), fun u h => by
      rcases h with ⟨h, _⟩ | ⟨_, m, hm, h⟩
      · cases h
      · rw [hk.uniq hm]; exact h⟩
abbrev FE (l : List Id) (x : Id) (a : Nat) (b : Bool) : Prop := ∀ u : Value, ((ris l = false ∧ u = .tuple #[.int .i64 0, .bool false]) ∨ (ris l = true ∧ ∃ k, posOk l x k ∧ u = .tuple #[.int .i64 (k : Int), .bool (decide (l[k]? = some x))])) → u = .tuple #[.int .i64 (a : Int), .bool b]
theorem pfindE (A : Option Addr) (n c : Nat) (l : List Id) (x : Id) (w0 : World) (hl : Rs w0 32 A n c (l.flatMap idf)) {a : Nat} {b : Bool} (he : FE l x a b) : Calls Try.prog 28 #[.slice A n c, .agg (bA x.l)] w0 fun e w' => ∃ u, e = .returned u ∧ Like w0 w' ∧ u = .tuple #[.int .i64 (a : Int), .bool b] :=
  (pfind A n c l x w0 hl).mono fun e w' ⟨u, h1, h2, h3⟩ => ⟨u, h1, h2, he u h3⟩
theorem rfindE (A : Option Addr) (n c : Nat) (l : List Id) (x : Id) (w0 : World) (hl : Rs w0 32 A n c (l.flatMap idf)) {a : Nat} {b : Bool} (he : FE l x a b) : Calls Try.prog 29 #[.slice A n c, .agg (bA x.l)] w0 fun e w' => ∃ u, e = .returned u ∧ Like w0 w' ∧ u = .tuple #[.int .i64 (a : Int), .bool b] :=
  (rfind A n c l x w0 hl).mono fun e w' ⟨u, h1, h2, h3⟩ => ⟨u, h1, h2, he u h3⟩
theorem y_beqq {P : Program} {S : World → Prop} {env : Env} {dst : Option Tmp} {ty : TypeId} {pos : String} {after : Array Edge} {g : Option (Nat × Bool)} {x y : Operand} {t u : TypeId} {a b : Bool} (ht : P.underlying t = some .bool) (hx : ev env x = some (.bool a)) (hy : ev env y = some (.bool b)) : Y P S env ⟨dst, .binOp .eql t x y u, ty, pos, after, g⟩ (.bool (a == b)) := fun N c w ha _ => by
  simp only [execOp, ha.eval hx, ha.eval hy, eqGuard, ne_eq, not_true_eq_false, Bool.not_true, Bool.false_eq_true, if_false, Sem.run_bind, Sem.run_pure, Result.andThen_ok, run_eql_bool w t a b ht]
theorem bool_ne (b : Bool) : (!(b == b)) = false := by cases b <;> rfl
theorem bool_eq (b : Bool) : (b == b) = true := by cases b <;> rfl


set_option maxRecDepth 100000 in
theorem rsameI (A : Option Addr) (n c : Nat) (l : List Id) (B : Option Addr) (m d : Nat) (k : List Id) (w0 : World) (hl : Rs w0 32 A n c (l.flatMap idf)) (hk : Rs w0 32 B m d (k.flatMap idf)) :
    Calls Try.prog 30 #[.slice A n c, .slice B m d] w0 fun e w' => ∃ u, e = .returned u ∧ Like w0 w' ∧ u = .bool (decide (l = k)) := by
  refine enter1 (env := [(0, .slice A n c), (1, .slice B m d)]) [.slice A n c, .slice B m d] Try.func30 rfl Try.ntmps30 rfl rfl ?_
  have hn := ids_n hl; have hcap := hl.cap; have hmax := hl.max; have S0 := St.start w0 noM; have hm := ids_n hk; have hcap2 := hk.cap; have hmax2 := hk.max
  refine T_seq fun K1 hK1 => ?_
  refine T_region ?_
  refine L_y (y_assign rfl) rfl ?_
  refine L_nil ?_
  refine hK1 _ _ ?_
  refine T_seq fun K2 hK2 => ?_
  refine T_seq fun K3 hK3 => ?_
  refine T_region ?_
  refine L_y (y_move rfl) rfl ?_
  refine L_y (y_len Try.underlying44 rfl) rfl ?_
  refine L_y (y_move rfl) rfl ?_
  refine L_y (y_len Try.underlying44 rfl) rfl ?_
  refine L_y (y_neq rfl rfl) rfl ?_
  refine L_nil ?_
  refine hK3 _ _ ?_
  refine T_cond rfl (fun h10 => ?_) (fun h10 => ?_)
  ·
    refine T_seq fun K4 hK4 => ?_
    refine T_region ?_
    refine L_y (y_assign rfl) rfl ?_
    refine L_nil ?_
    refine hK4 _ _ ?_
    refine T_ret ?_
    repeat (first | with_reducible refine up_then ?_ | with_reducible refine up_in ?_)
    refine ret1 rfl rfl ?_
    first | exact ⟨_, rfl, S0.like0, congrArg Value.bool (decide_eq_false fun e => h25 (by rw [e] at hx; rw [hx] at hy; rw [Option.some.inj hy])).symm⟩ | exact ⟨_, rfl, S0.like0, congrArg Value.bool (decide_eq_false fun e => h10 (by rw [hn, hm, e])).symm⟩ | exact ⟨_, rfl, S0.like0, congrArg Value.bool (decide_eq_true (by rwa [List.take_of_length_le (by omega), List.take_of_length_le (by omega)] at heq)).symm⟩
  ·
    refine T_skip ?_
    refine hK2 _ _ ?_
    refine T_seq fun K5 hK5 => ?_
    refine T_seq fun K6 hK6 => ?_
    refine T_region ?_
    refine L_y (y_assign rfl) rfl ?_
    refine L_nil ?_
    refine hK6 _ _ ?_
    refine T_block ?_
    refine T_loop1 [(0, _), (1, _)] (fun (i : Nat) => [(5, .int .i64 (i : Int))]) (fun (i : Nat) => n - i) (fun (i : Nat) (w : World) => (i ≤ n ∧ l.take i = k.take i) ∧ St w0 noM [] w) 0 (Sub.cons rfl (by first | rfl | exact congrArg (Value.int _) (by omega)) (Sub.nil _)) (Sub.cons rfl rfl (Sub.cons rfl rfl (Sub.nil _))) ?_ ?_
    ·
      exact ⟨⟨Nat.zero_le _, rfl⟩, S0⟩
    ·
      intro i w1 hrel
      obtain ⟨⟨hi, heq⟩, S1⟩ := hrel
      refine T_seq fun K7 hK7 => ?_
      refine T_seq fun K8 hK8 => ?_
      refine T_region ?_
      refine L_y (y_move rfl) rfl ?_
      refine L_y (y_move rfl) rfl ?_
      refine L_y (y_len Try.underlying44 rfl) rfl ?_
      refine L_y (y_lss rfl rfl) rfl ?_
      refine L_nil ?_
      refine hK8 _ _ ?_
      refine T_cond rfl (fun h14 => ?_) (fun h14 => ?_)
      ·
        obtain ⟨x, hx⟩ : ∃ x, l[i]? = some x := ⟨_, List.getElem?_eq_getElem (by omega)⟩
        obtain ⟨y, hy⟩ : ∃ y, k[i]? = some y := ⟨_, List.getElem?_eq_getElem (by omega)⟩
        refine T_skip ?_
        refine hK7 _ _ ?_
        refine T_seq fun K9 hK9 => ?_
        refine T_block ?_
        refine T_seq fun K10 hK10 => ?_
        refine T_drawnL [(0, true), (1, true), (2, true), (3, true), (4, true), (5, true), (6, true), (7, true), (8, true)] hmix (by kernel_rfl) fun w2 l2 => ?_
        have S2 := S1.like l2
        refine DL_y rfl (y_move rfl) rfl ?_
        refine DL_y rfl (y_move rfl) rfl ?_
        refine DL_y rfl (y_idx Try.underlying44 sz23 rfl rfl (S2.rd hl) (Nt.mk (by omega) : Nt _ (i)) (by omega)) rfl ?_
        refine DL_y rfl (y_ldp (f := idf) idf_len Try.underlying23 rfl sz23 rfl (S2.rd hl) (by omega) hx) rfl ?_
        refine DL_y rfl (y_move rfl) rfl ?_
        refine DL_y rfl (y_move rfl) rfl ?_
        refine DL_y rfl (y_idx Try.underlying44 sz23 rfl rfl (S2.rd hk) (Nt.mk (by omega) : Nt _ (i)) (by omega)) rfl ?_
        refine DL_y rfl (y_ldp (f := idf) idf_len Try.underlying23 rfl sz23 rfl (S2.rd hk) (by omega) hy) rfl ?_
        refine DL_y rfl (y_neB Try.underlying23 Try.underlying5 sz5 (by kernel_rfl) rfl rfl x.h y.h) rfl ?_
        refine DL_nil ?_
        refine hK10 _ _ ?_
        refine T_cond rfl (fun h25 => ?_) (fun h25 => ?_)
        ·
          refine T_seq fun K11 hK11 => ?_
          refine T_region ?_
          refine L_y (y_assign rfl) rfl ?_
          refine L_nil ?_
          refine hK11 _ _ ?_
          refine T_ret ?_
          repeat (first | with_reducible refine up_then ?_ | with_reducible refine up_in ?_)
          refine ret1 rfl rfl ?_
          first | exact ⟨_, rfl, S2.like0, congrArg Value.bool (decide_eq_false fun e => h25 (by rw [e] at hx; rw [hx] at hy; rw [Option.some.inj hy])).symm⟩ | exact ⟨_, rfl, S2.like0, congrArg Value.bool (decide_eq_false fun e => h10 (by rw [hn, hm, e])).symm⟩ | exact ⟨_, rfl, S2.like0, congrArg Value.bool (decide_eq_true (by rwa [List.take_of_length_le (by omega), List.take_of_length_le (by omega)] at heq)).symm⟩
        ·
          refine T_skip ?_
          refine hK9 _ _ ?_
          refine T_region ?_
          refine L_y (y_move rfl) rfl ?_
          refine L_y (y_add rfl rfl (i64w (by omega))) rfl ?_
          refine L_y (y_assign rfl) rfl ?_
          refine L_nil ?_
          refine ⟨i + 1, by omega, ⟨⟨by omega, by rw [take1 hx, take1 hy, heq, Id.ext (Decidable.byContradiction h25)]⟩, S2⟩, ?_⟩
          exact (Sub.cons rfl (by first | rfl | exact congrArg (Value.int _) (by omega)) (Sub.cons rfl rfl (Sub.cons rfl rfl (Sub.nil _))))
      ·
        refine T_exit ?_
        refine hK5 _ _ ?_
        refine T_seq fun K12 hK12 => ?_
        refine T_region ?_
        refine L_y (y_assign rfl) rfl ?_
        refine L_nil ?_
        refine hK12 _ _ ?_
        refine T_ret ?_
        repeat (first | with_reducible refine up_then ?_ | with_reducible refine up_in ?_)
        refine ret1 rfl rfl ?_
        first | exact ⟨_, rfl, S1.like0, congrArg Value.bool (decide_eq_false fun e => h25 (by rw [e] at hx; rw [hx] at hy; rw [Option.some.inj hy])).symm⟩ | exact ⟨_, rfl, S1.like0, congrArg Value.bool (decide_eq_false fun e => h10 (by rw [hn, hm, e])).symm⟩ | exact ⟨_, rfl, S1.like0, congrArg Value.bool (decide_eq_true (by rwa [List.take_of_length_le (by omega), List.take_of_length_le (by omega)] at heq)).symm⟩


theorem rsameT (A B : Option Addr) (n c m d : Nat) (l : List Id) (w0 : World) (hl : Rs w0 32 A n c (l.flatMap idf)) (hk : Rs w0 32 B m d (l.flatMap idf)) : Calls Try.prog 30 #[.slice A n c, .slice B m d] w0 fun e w' => ∃ u, e = .returned u ∧ Like w0 w' ∧ u = .bool true :=
  (rsameI A n c l B m d l w0 hl hk).mono fun e w' ⟨u, h1, h2, h3⟩ => ⟨u, h1, h2, by rw [h3, decide_eq_true rfl]⟩


set_option maxRecDepth 100000 in
theorem lists (A : Option Addr) (n c : Nat) (l : List Id) (x : Id) (w0 : World) (hl : Rs w0 32 A n c (l.flatMap idf)) :
    Calls Try.prog 8 #[.slice A n c, .agg (bA x.l)] w0 fun e w' => ∃ u, e = .returned u ∧ Like w0 w' ∧ u = .bool true := by
  refine enter1 (env := [(0, .slice A n c), (1, .agg (bA x.l))]) [.slice A n c, .agg (bA x.l)] Try.func8 rfl Try.ntmps8 rfl rfl ?_
  have hn := ids_n hl; have hcap := hl.cap; have hmax := hl.max; have S0 := St.start w0 noM; obtain ⟨fa, fb, hfe⟩ := find_ex l x
  refine T_seq fun K1 hK1 => ?_
  refine T_region ?_
  refine L_o (o_box rfl S0 rfl fun b1 w1 hb1 S1 => ?_)
  refine L_y (y_assign rfl) rfl ?_
  refine L_nil ?_
  refine hK1 _ _ ?_
  refine T_seq fun K2 hK2 => ?_
  refine T_seq fun K3 hK3 => ?_
  refine T_region ?_
  refine L_y (y_move rfl) rfl ?_
  refine L_y (y_len Try.underlying44 rfl) rfl ?_
  refine L_y (y_gtr rfl rfl) rfl ?_
  refine L_nil ?_
  refine hK3 _ _ ?_
  refine T_cond rfl (fun h17 => ?_) (fun h17 => ?_)
  ·
    refine T_seq fun K4 hK4 => ?_
    refine T_region ?_
    refine L_o (o_call Try.func15 rfl rfl (cWorks w1) rfl rfl ?_)
    rintro e2 w2 ⟨v2, rfl, l2, rfl⟩
    refine ⟨_, rfl, ?_⟩
    have S2 := S1.like l2
    refine L_y (y_assign rfl) rfl ?_
    refine L_nil ?_
    refine hK4 _ _ ?_
    refine T_ret ?_
    repeat (first | with_reducible refine up_then ?_ | with_reducible refine up_in ?_)
    refine ret1 rfl rfl ?_
    first | exact ⟨_, rfl, S2.like0, rfl⟩ | exact ⟨_, rfl, Like.trans lk3 S2.like0, rfl⟩
  ·
    refine T_skip ?_
    refine hK2 _ _ ?_
    refine T_seq fun K5 hK5 => ?_
    refine T_region ?_
    refine L_o (o_bsl0 te44 S1 rfl fun b3 w3 l3 S3 => ?_)
    refine L_y (y_move rfl) rfl ?_
    refine L_o (o_app te44 S3 1 rfl rfl rfl (S3.rd hl) (ids_one _) rfl (by omega) (by omega) fun A4 c4 w4 S4 => ?_)
    refine L_y (y_assign rfl) rfl ?_
    refine L_nil ?_
    refine hK5 _ _ ?_
    refine T_seq fun K6 hK6 => ?_
    have hl2 := S4.rd hl
    have ho2 := (S4.row 1 rfl)
    have lk2 := S4.like0
    have hbx2 := (S4.blk 0 rfl)
    refine T_region ?_
    refine L_y (y_move rfl) rfl ?_
    refine L_o (o_call Try.func27 rfl rfl (psorted A4 (0 + n) c4 l w4 ho2 (by omega)) rfl rfl ?_)
    rintro e5 w5 ⟨v5, rfl, l5, AS, m, cS, s, rfl, hS, hr, hsm⟩
    refine ⟨_, rfl, ?_⟩
    have S5 := S4.like l5
    have hl3 := hl2.like l5
    have ho3 := ho2.like l5
    have lk3 := Like.trans lk2 l5
    have hbx := hbx2.below l5 hbx2.lt
    have hms := ids_n hS
    have hcs := hS.cap
    have hmx2 := ho3.max
    have S90 := St.start w5 noM
    obtain ⟨ga, gb, hfs⟩ := find_ex s x
    refine L_y (y_assign rfl) rfl ?_
    refine L_nil ?_
    refine hK6 _ _ ?_
    refine T_seq fun K7 hK7 => ?_
    refine T_region ?_
    refine L_y (y_move rfl) rfl ?_
    refine L_y (y_ldW Try.underlying23 rfl sz23 rfl (S90.rdB hbx) (whole32 x)) rfl ?_
    refine L_o (o_call Try.func28 rfl rfl (pfindE A4 (0 + n) c4 l x w5 (S90.rd ho3) hfe) rfl rfl ?_)
    rintro e6 w6 ⟨v6, rfl, l6, rfl⟩
    refine ⟨_, rfl, ?_⟩
    have S6 := S90.like l6
    refine L_y (y_move rfl) rfl ?_
    refine L_y (y_extract rfl rfl) rfl ?_
    refine L_y (y_extract rfl rfl) rfl ?_
    refine L_y (y_assign rfl) rfl ?_
    refine L_y (y_assign rfl) rfl ?_
    refine L_nil ?_
    refine hK7 _ _ ?_
    refine T_seq fun K8 hK8 => ?_
    refine T_region ?_
    refine L_y (y_move rfl) rfl ?_
    refine L_y (y_ldW Try.underlying23 rfl sz23 rfl (S6.rdB hbx) (whole32 x)) rfl ?_
    refine L_o (o_call Try.func29 rfl rfl (rfindE A n c l x w6 (S6.rd hl3) hfe) rfl rfl ?_)
    rintro e7 w7 ⟨v7, rfl, l7, rfl⟩
    refine ⟨_, rfl, ?_⟩
    have S7 := S6.like l7
    refine L_y (y_move rfl) rfl ?_
    refine L_y (y_extract rfl rfl) rfl ?_
    refine L_y (y_extract rfl rfl) rfl ?_
    refine L_y (y_assign rfl) rfl ?_
    refine L_y (y_assign rfl) rfl ?_
    refine L_nil ?_
    refine hK8 _ _ ?_
    refine T_seq fun K9 hK9 => ?_
    refine T_seq fun K10 hK10 => ?_
    refine T_region ?_
    refine L_y (y_move rfl) rfl ?_
    refine L_y (y_move rfl) rfl ?_
    refine L_o (o_call Try.func30 rfl rfl (rsameT A4 A (0 + n) c4 n c l w7 (S7.rd ho3) (S7.rd hl3)) rfl rfl ?_)
    rintro e8 w8 ⟨v8, rfl, l8, rfl⟩
    refine ⟨_, rfl, ?_⟩
    have S8 := S7.like l8
    refine L_y ((by first | exact y_notD rfl | exact y_not rfl)) rfl ?_
    refine L_y (y_move rfl) rfl ?_
    refine L_splitB 40 rfl (fun h40 => ?_) (fun h40 => ?_)
    ·
      cases h40
    ·
      refine L_gyes rfl rfl ?_
      refine L_y (y_move rfl) rfl ?_
      refine L_gyes rfl rfl ?_
      refine L_y (y_move rfl) rfl ?_
      refine L_gyes rfl rfl ?_
      refine L_o (o_call Try.func24 rfl rfl (rsortedM A n c l w8 (S8.rd hl3) (by omega)) rfl rfl ?_)
      rintro e10 w10 ⟨v10, rfl, l10, AT, mt, cT, t, rfl, O10, hrt, htm⟩
      refine ⟨_, rfl, ?_⟩
      have S10 := S8.adopt l10 O10
      obtain rfl : s = t := ris_uniq hr hrt fun z => by rw [hsm z, htm z]
      refine L_gyes rfl rfl ?_
      refine L_o (o_call Try.func30 rfl rfl (rsameT AS AT m cS mt cT s w10 (S10.rd hS) (S10.row 0 rfl)) rfl rfl ?_)
      rintro e11 w11 ⟨v11, rfl, l11, rfl⟩
      refine ⟨_, rfl, ?_⟩
      have S11 := S10.like l11
      refine L_gyes rfl rfl ?_
      refine L_y ((by first | exact y_notD rfl | exact y_not rfl)) rfl ?_
      refine L_y ((by first | exact y_pickT rfl rfl | exact y_pickF rfl rfl)) rfl ?_
      refine L_y (y_move rfl) rfl ?_
      refine L_splitB 47 rfl (fun h47 => ?_) (fun h47 => ?_)
      ·
        cases h47
      ·
        refine L_gyes rfl rfl ?_
        refine L_y (y_move rfl) rfl ?_
        refine L_gyes rfl rfl ?_
        refine L_o (o_call Try.func31 rfl rfl (prising A4 (0 + n) c4 l w11 (S11.rd ho3)) rfl rfl ?_)
        rintro e13 w13 ⟨v13, rfl, l13, rfl⟩
        refine ⟨_, rfl, ?_⟩
        have S13 := S11.like l13
        refine L_gyes rfl rfl ?_
        refine L_y (y_move rfl) rfl ?_
        refine L_gyes rfl rfl ?_
        refine L_o (o_call Try.func32 rfl rfl (rrising A n c l w13 (S13.rd hl3)) rfl rfl ?_)
        rintro e14 w14 ⟨v14, rfl, l14, rfl⟩
        refine ⟨_, rfl, ?_⟩
        have S14 := S13.like l14
        refine L_gyes rfl rfl ?_
        refine L_y (y_bneq Try.underlying4 rfl rfl) rfl ?_
        refine L_y ((by first | exact y_pickT rfl rfl | exact y_pickF rfl rfl)) rfl ?_
        refine L_y (y_move rfl) rfl ?_
        refine L_splitB 54 rfl (fun h54 => ?_) (fun h54 => ?_)
        ·
          exact absurd h54 (by rw [bool_ne]; exact Bool.false_ne_true)
        ·
          refine L_gyes rfl rfl ?_
          refine L_y (y_move rfl) rfl ?_
          refine L_gyes rfl rfl ?_
          refine L_y (y_move rfl) rfl ?_
          refine L_gyes rfl rfl ?_
          refine L_y (y_neq rfl rfl) rfl ?_
          refine L_y ((by first | exact y_pickT rfl rfl | exact y_pickF rfl rfl)) rfl ?_
          refine L_y (y_move rfl) rfl ?_
          refine L_split 59 rfl (fun h59 => ?_) (fun h59 => ?_)
          ·
            exact absurd rfl h59
          ·
            refine L_gyes rfl rfl ?_
            refine L_y (y_move rfl) rfl ?_
            refine L_gyes rfl rfl ?_
            refine L_y (y_move rfl) rfl ?_
            refine L_gyes rfl rfl ?_
            refine L_y (y_bneq Try.underlying4 rfl rfl) rfl ?_
            refine L_y ((by first | exact y_pickT rfl rfl | exact y_pickF rfl rfl)) rfl ?_
            refine L_nil ?_
            refine hK10 _ _ ?_
            refine T_condB rfl (fun h63 => ?_) (fun h63 => ?_)
            ·
              exact absurd h63 (by rw [bool_ne]; exact Bool.false_ne_true)
            ·
              refine T_skip ?_
              refine hK9 _ _ ?_
              refine T_seq fun K11 hK11 => ?_
              refine T_region ?_
              refine L_y (y_move rfl) rfl ?_
              refine L_y (y_ldW Try.underlying23 rfl sz23 rfl (S14.rdB hbx) (whole32 x)) rfl ?_
              refine L_o (o_call Try.func28 rfl rfl (pfindE AS m cS s x w14 (S14.rd hS) hfs) rfl rfl ?_)
              rintro e17 w17 ⟨v17, rfl, l17, rfl⟩
              refine ⟨_, rfl, ?_⟩
              have S17 := S14.like l17
              refine L_y (y_move rfl) rfl ?_
              refine L_y (y_extract rfl rfl) rfl ?_
              refine L_y (y_extract rfl rfl) rfl ?_
              refine L_y (y_assign rfl) rfl ?_
              refine L_y (y_assign rfl) rfl ?_
              refine L_nil ?_
              refine hK11 _ _ ?_
              refine T_seq fun K12 hK12 => ?_
              refine T_region ?_
              refine L_y (y_move rfl) rfl ?_
              refine L_y (y_ldW Try.underlying23 rfl sz23 rfl (S17.rdB hbx) (whole32 x)) rfl ?_
              refine L_o (o_call Try.func29 rfl rfl (rfindE AS m cS s x w17 (S17.rd hS) hfs) rfl rfl ?_)
              rintro e18 w18 ⟨v18, rfl, l18, rfl⟩
              refine ⟨_, rfl, ?_⟩
              have S18 := S17.like l18
              refine L_y (y_move rfl) rfl ?_
              refine L_y (y_extract rfl rfl) rfl ?_
              refine L_y (y_extract rfl rfl) rfl ?_
              refine L_y (y_assign rfl) rfl ?_
              refine L_y (y_assign rfl) rfl ?_
              refine L_nil ?_
              refine hK12 _ _ ?_
              refine T_seq fun K13 hK13 => ?_
              refine T_region ?_
              refine L_y (y_move rfl) rfl ?_
              refine L_y (y_move rfl) rfl ?_
              refine L_y (y_eql rfl rfl) rfl ?_
              refine L_y (y_move rfl) rfl ?_
              refine L_split 79 rfl (fun h79 => ?_) (fun h79 => ?_)
              ·
                refine L_gyes rfl rfl ?_
                refine L_y (y_move rfl) rfl ?_
                refine L_gyes rfl rfl ?_
                refine L_y (y_move rfl) rfl ?_
                refine L_gyes rfl rfl ?_
                refine L_y (y_beqq Try.underlying4 rfl rfl) rfl ?_
                refine L_y ((by first | exact y_pickT rfl rfl | exact y_pickF rfl rfl)) rfl ?_
                refine L_y (y_move rfl) rfl ?_
                refine L_splitB 84 rfl (fun h84 => ?_) (fun h84 => ?_)
                ·
                  refine L_gyes rfl rfl ?_
                  refine L_o (o_call Try.func15 rfl rfl (cWorks w18) rfl rfl ?_)
                  rintro e21 w21 ⟨v21, rfl, l21, rfl⟩
                  refine ⟨_, rfl, ?_⟩
                  have S21 := S18.like l21
                  refine L_y ((by first | exact y_pickT rfl rfl | exact y_pickF rfl rfl)) rfl ?_
                  refine L_y (y_assign rfl) rfl ?_
                  refine L_nil ?_
                  refine hK13 _ _ ?_
                  refine T_ret ?_
                  repeat (first | with_reducible refine up_then ?_ | with_reducible refine up_in ?_)
                  refine ret1 rfl rfl ?_
                  first | exact ⟨_, rfl, S21.like0, rfl⟩ | exact ⟨_, rfl, Like.trans lk3 S21.like0, rfl⟩
                ·
                  exact absurd h84 (by rw [bool_eq]; exact fun h => Bool.noConfusion h)
              ·
                exact absurd rfl h79


theorem lists_law (A : Option Addr) (n c : Nat) (l : List Id) (z : List UInt8) (hz : z.length = 32) (w0 : World) (hl : Rs w0 32 A n c (l.flatMap idf)) :
    Calls Try.prog 8 #[.slice A n c, .agg (bA z)] w0 fun e w' => e = .returned (.bool true) ∧ Below w0.heap.size w0 w' :=
  (lists A n c l ⟨z, hz⟩ w0 hl).mono fun e w' ⟨u, h1, h2, h3⟩ => by subst h3; exact ⟨h1, h2⟩
end Go.Proofs.Ytblbcmkhgjlpcaa
