/-
  Range, alike.
-/
import Derived.Test.YtblbcmkhgjlpcaaO
namespace Go.Proofs.Ytblbcmkhgjlpcaa
open Go.RowKit Zk Zx
set_option linter.unusedVariables false
set_option linter.unusedSimpArgs false

def rangeOk (l : List Id) (z : Id) (nn : Int) (u : Value) : Prop := ((rightB z.l nn = false ∨ ris l = false) ∧ u = .tuple #[.int .i64 0, .int .i64 0]) ∨
  (rightB z.l nn = true ∧ ris l = true ∧ ∃ f t : Nat, posOk l z f ∧ f ≤ t ∧ t ≤ l.length ∧ (∀ i y, l[i]? = some y → fit z nn y = decide (f ≤ i ∧ i < t)) ∧ u = .tuple #[.int .i64 (f : Int), .int .i64 (t : Int)])
theorem run_ex (l : List Id) (p : Id → Bool) : ∀ (d f : Nat), l.length - f = d → f ≤ l.length → ∃ t, f ≤ t ∧ t ≤ l.length ∧ (∀ i y, f ≤ i → i < t → l[i]? = some y → p y = true) ∧ ∀ y, l[t]? = some y → p y = false
  | 0, f, h, hf => ⟨f, Nat.le_refl _, hf, fun i y h1 h2 => by omega, fun y hy => by have := (List.getElem?_eq_some_iff.1 hy).1; omega⟩
  | d + 1, f, h, hf => by
    have hfl : f < l.length := by omega
    cases hp : p l[f] with
    | false => exact ⟨f, Nat.le_refl _, hf, fun i y h1 h2 => by omega, fun y hy => by rw [List.getElem?_eq_getElem hfl] at hy; cases hy; exact hp⟩
    | true =>
      obtain ⟨t, h1, h2, h3, h4⟩ := run_ex l p d (f + 1) (by omega) hfl
      refine ⟨t, by omega, h2, fun i y h5 h6 hy => ?_, h4⟩
      rcases Nat.lt_or_ge f i with h7 | h7
      · exact h3 i y h7 h6 hy
      · have e : i = f := by omega
        subst e
        rw [List.getElem?_eq_getElem hfl] at hy
        cases hy
        exact hp
theorem range_count {l : List Id} (hr : ris l = true) {z : Id} {nn : Int} (hz : rightB z.l nn = true) {f : Nat} (hf : posOk l z f) : rangeOk l z nn (.tuple #[.int .i64 (f : Int), .int .i64 ((f : Int) + ((l.countP (fit z nn) : Nat) : Int))]) := by
  obtain ⟨t, h1, h2, h3, h4⟩ := run_ex l (fit z nn) _ f rfl hf.1
  have h5 : ∀ i y, l[i]? = some y → fit z nn y = decide (f ≤ i ∧ i < t) := fun i y hy => run_ok hr hz hf h1 h2 h3 h4 hy
  have h6 := count_run l (fit z nn) f t h1 h2 h5
  exact .inr ⟨hz, hr, f, t, hf, h1, h2, h5, by rw [h6, show (f : Int) + ((t - f : Nat) : Int) = (t : Int) by omega]⟩
theorem count_le {l : List Id} (hr : ris l = true) {z : Id} {nn : Int} (hz : rightB z.l nn = true) {f : Nat} (hf : posOk l z f) : f + l.countP (fit z nn) ≤ l.length := by
  obtain ⟨t, h1, h2, h3, h4⟩ := run_ex l (fit z nn) _ f rfl hf.1
  have h5 : ∀ i y, l[i]? = some y → fit z nn y = decide (f ≤ i ∧ i < t) := fun i y hy => run_ok hr hz hf h1 h2 h3 h4 hy
  have h6 := count_run l (fit z nn) f t h1 h2 h5
  omega
theorem nib_at {a : Id} {k : Nat} {x : UInt8} (hx : a.l[k]? = some x) : nib a (2 * k) = x.toNat / 16 ∧ nib a (2 * k + 1) = x.toNat % 16 := by
  have e1 : 2 * k / 2 = k := by omega
  have e2 : (2 * k + 1) / 2 = k := by omega
  unfold nib nibN
  rw [if_pos (by omega), if_neg (by omega), e1, e2, List.getD_eq_getElem?_getD, hx]
  exact ⟨rfl, rfl⟩
theorem shr4 (x : UInt8) : (x.toNat : Int).fdiv (2 ^ (min (4 : Int).toNat IntKind.u8.bits)) = ((x.toNat / 16 : Nat) : Int) := by
  have e : (2 : Int) ^ (min (4 : Int).toNat IntKind.u8.bits) = 16 := by decide
  rw [e, Int.fdiv_eq_ediv_of_nonneg _ (by omega)]
  omega
def AL (a b : Id) (m : Nat) : Prop := m ≤ 64 ∧ (∀ j, j < m → nib a j = nib b j) ∧ (m < 64 → nib a m ≠ nib b m)


set_option maxRecDepth 100000 in
theorem prange (A : Option Addr) (n c : Nat) (l : List Id) (z : Id) (nn : Int) (w0 : World) (hl : Rs w0 32 A n c (l.flatMap idf)) :
    Calls Try.prog 22 #[.slice A n c, .agg (pfA z.l nn)] w0 fun e w' => ∃ u, e = .returned u ∧ Like w0 w' ∧ rangeOk l z nn u := by
  refine enter1 (env := [(0, .slice A n c), (1, .agg (pfA z.l nn))]) [.slice A n c, .agg (pfA z.l nn)] Try.func22 rfl Try.ntmps22 rfl rfl ?_
  have hn := ids_n hl; have hcap := hl.cap; have hmax := hl.max; have S0 := St.start w0 noM
  refine T_seq fun K1 hK1 => ?_
  refine T_region ?_
  refine L_o (o_box rfl S0 rfl fun b1 w1 hb1 S1 => ?_)
  refine L_y (y_assign rfl) rfl ?_
  refine L_y (y_assign rfl) rfl ?_
  refine L_nil ?_
  refine hK1 _ _ ?_
  refine T_seq fun K2 hK2 => ?_
  refine T_seq fun K3 hK3 => ?_
  refine T_region ?_
  refine L_y (y_ldW Try.underlying30 rfl sz30 rfl (S1.blk 0 rfl) (whole33 z nn)) rfl ?_
  refine L_o (o_call Try.func16 rfl rfl (cRight z nn w1) rfl rfl ?_)
  rintro e2 w2 ⟨v2, rfl, l2, rfl⟩
  refine ⟨_, rfl, ?_⟩
  have S2 := S1.like l2
  refine L_y ((by first | exact y_notD rfl | exact y_not rfl)) rfl ?_
  refine L_y (y_move rfl) rfl ?_
  refine L_splitB 11 rfl (fun h11 => ?_) (fun h11 => ?_)
  ·
    have hz : rightB z.l nn = false := by simpa using h11
    refine L_gno rfl rfl rfl ?_
    refine L_gno rfl rfl rfl ?_
    refine L_gno rfl rfl rfl ?_
    refine L_y ((by first | exact y_pickT rfl rfl | exact y_pickF rfl rfl)) rfl ?_
    refine L_nil ?_
    refine hK3 _ _ ?_
    refine T_true rfl ?_
    refine T_seq fun K4 hK4 => ?_
    refine T_region ?_
    refine L_y (y_assign rfl) rfl ?_
    refine L_y (y_assign rfl) rfl ?_
    refine L_nil ?_
    refine hK4 _ _ ?_
    refine T_ret ?_
    repeat (first | with_reducible refine up_then ?_ | with_reducible refine up_in ?_)
    refine ret2 rfl rfl rfl ?_
    first | exact ⟨_, rfl, S2.like0, .inl ⟨.inl hz, rfl⟩⟩ | exact ⟨_, rfl, S2.like0, .inl ⟨.inr hr, rfl⟩⟩ | exact ⟨_, rfl, S2.like0, .inr ⟨hz, hr, f, t, hf, hft, by omega, fun i q hq => run_ok hr hz hf hft (by omega) hin (fun q2 hq2 => by rw [hy] at hq2; cases hq2; exact h32) hq, rfl⟩⟩ | exact ⟨_, rfl, S2.like0, .inr ⟨hz, hr, f, t, hf, hft, by omega, fun i q hq => run_ok hr hz hf hft (by omega) hin (fun q2 hq2 => by have := (List.getElem?_eq_some_iff.1 hq2).1; omega) hq, rfl⟩⟩
  ·
    have hz : rightB z.l nn = true := by simpa using h11
    refine L_gyes rfl rfl ?_
    refine L_y (y_move rfl) rfl ?_
    refine L_gyes rfl rfl ?_
    refine L_o (o_call Try.func31 rfl rfl (prising A n c l w2 (S2.rd hl)) rfl rfl ?_)
    rintro e4 w4 ⟨v4, rfl, l4, rfl⟩
    refine ⟨_, rfl, ?_⟩
    have S4 := S2.like l4
    refine L_gyes rfl rfl ?_
    refine L_y ((by first | exact y_notD rfl | exact y_not rfl)) rfl ?_
    refine L_y ((by first | exact y_pickT rfl rfl | exact y_pickF rfl rfl)) rfl ?_
    refine L_nil ?_
    refine hK3 _ _ ?_
    refine T_condB rfl (fun h15 => ?_) (fun h15 => ?_)
    ·
      have hr : ris l = false := by simpa using h15
      refine T_seq fun K5 hK5 => ?_
      refine T_region ?_
      refine L_y (y_assign rfl) rfl ?_
      refine L_y (y_assign rfl) rfl ?_
      refine L_nil ?_
      refine hK5 _ _ ?_
      refine T_ret ?_
      repeat (first | with_reducible refine up_then ?_ | with_reducible refine up_in ?_)
      refine ret2 rfl rfl rfl ?_
      first | exact ⟨_, rfl, S4.like0, .inl ⟨.inl hz, rfl⟩⟩ | exact ⟨_, rfl, S4.like0, .inl ⟨.inr hr, rfl⟩⟩ | exact ⟨_, rfl, S4.like0, .inr ⟨hz, hr, f, t, hf, hft, by omega, fun i q hq => run_ok hr hz hf hft (by omega) hin (fun q2 hq2 => by rw [hy] at hq2; cases hq2; exact h32) hq, rfl⟩⟩ | exact ⟨_, rfl, S4.like0, .inr ⟨hz, hr, f, t, hf, hft, by omega, fun i q hq => run_ok hr hz hf hft (by omega) hin (fun q2 hq2 => by have := (List.getElem?_eq_some_iff.1 hq2).1; omega) hq, rfl⟩⟩
    ·
      have hr : ris l = true := by simpa using h15
      refine T_skip ?_
      refine hK2 _ _ ?_
      refine T_seq fun K6 hK6 => ?_
      refine T_region ?_
      refine L_y (y_move rfl) rfl ?_
      refine L_y (y_fieldA 0 Try.underlying30 rfl sz23 rfl rfl rfl) rfl ?_
      refine L_y (y_ldW Try.underlying23 rfl sz23 rfl (S4.blk 0 rfl) (part33 z nn)) rfl ?_
      refine L_o (o_call Try.func39 rfl rfl (pbelow A n c l z w4 (S4.rd hl) hr) rfl rfl ?_)
      rintro e5 w5 ⟨v5, rfl, l5, f, rfl, hf⟩
      refine ⟨_, rfl, ?_⟩
      have S5 := S4.like l5
      have hfn := hf.1
      refine L_y (y_assign rfl) rfl ?_
      refine L_nil ?_
      refine hK6 _ _ ?_
      refine T_seq fun K7 hK7 => ?_
      refine T_region ?_
      refine L_y (y_move rfl) rfl ?_
      refine L_y (y_assign rfl) rfl ?_
      refine L_nil ?_
      refine hK7 _ _ ?_
      refine T_seq fun K8 hK8 => ?_
      refine T_block ?_
      refine T_loop1 [(0, _), (3, _), (6, _)] (fun (t : Nat) => [(7, .int .i64 (t : Int))]) (fun (t : Nat) => n - t) (fun (t : Nat) (w : World) => (f ≤ t ∧ t ≤ n ∧ ∀ i y, f ≤ i → i < t → l[i]? = some y → fit z nn y = true) ∧ St w0 noM [blk b1 30 (pfA z.l nn)] w) f (Sub.cons rfl (by first | rfl | exact congrArg (Value.int _) (by omega)) (Sub.nil _)) (Sub.cons rfl rfl (Sub.cons rfl rfl (Sub.cons rfl rfl (Sub.nil _)))) ?_ ?_
      ·
        exact ⟨⟨Nat.le_refl _, by omega, fun i y h1 h2 => by omega⟩, S5⟩
      ·
        intro t w6 hrel
        obtain ⟨⟨hft, htn, hin⟩, S6⟩ := hrel
        refine T_seq fun K9 hK9 => ?_
        refine T_seq fun K10 hK10 => ?_
        refine T_tail 10 hmix (by kernel_rfl) fun w7 l7 K11 hK11 => ?_
        have S7 := S6.like l7
        refine HL_y (y_move rfl) rfl ?_
        refine HL_y (y_move rfl) rfl ?_
        refine HL_y (y_len Try.underlying44 rfl) rfl ?_
        refine HL_y (y_lss rfl rfl) rfl ?_
        refine HL_y (y_move rfl) rfl ?_
        refine HL_split 25 rfl (fun h25 => ?_) (fun h25 => ?_)
        ·
          obtain ⟨y, hy⟩ : ∃ y, l[t]? = some y := ⟨_, List.getElem?_eq_getElem (by omega)⟩
          refine HL_gyes rfl rfl ?_
          refine HL_y (y_ldW Try.underlying30 rfl sz30 rfl (S7.blk 0 rfl) (whole33 z nn)) rfl ?_
          refine HL_gyes rfl rfl ?_
          refine HL_y (y_move rfl) rfl ?_
          refine HL_gyes rfl rfl ?_
          refine HL_y (y_move rfl) rfl ?_
          refine HL_gyes rfl rfl ?_
          refine HL_y (y_idx Try.underlying44 sz23 rfl rfl (S7.rd hl) (Nt.mk (by omega) : Nt _ (t)) (by omega)) rfl ?_
          refine HL_gyes rfl rfl ?_
          refine HL_y (y_ldp (f := idf) idf_len Try.underlying23 rfl sz23 rfl (S7.rd hl) (by omega) hy) rfl ?_
          refine HL_nil ?_
          refine hK11 _ ?_
          refine L_gyes rfl rfl ?_
          refine L_o (o_call Try.func18 rfl rfl (cFits z nn y w7) rfl rfl ?_)
          rintro e9 w9 ⟨v9, rfl, l9, rfl⟩
          refine ⟨_, rfl, ?_⟩
          have S9 := S7.like l9
          refine L_y ((by first | exact y_pickT rfl rfl | exact y_pickF rfl rfl)) rfl ?_
          refine L_nil ?_
          refine hK10 _ _ ?_
          refine T_condB rfl (fun h32 => ?_) (fun h32 => ?_)
          ·
            refine T_skip ?_
            refine hK9 _ _ ?_
            refine T_block ?_
            refine T_region ?_
            refine L_y (y_move rfl) rfl ?_
            refine L_y (y_add rfl rfl (i64w (by omega))) rfl ?_
            refine L_y (y_assign rfl) rfl ?_
            refine L_nil ?_
            refine ⟨t + 1, by omega, ⟨⟨by omega, by omega, fun i q h1 h2 hq => by rcases Nat.lt_or_ge i t with h9 | h9; exact hin i q h1 h9 hq; (have e9 : i = t := by omega); subst e9; rw [hy] at hq; cases hq; exact h32⟩, S9⟩, ?_⟩
            exact (Sub.cons rfl (by first | rfl | exact congrArg (Value.int _) (by omega)) (Sub.cons rfl rfl (Sub.cons rfl rfl (Sub.cons rfl rfl (Sub.nil _)))))
          ·
            refine T_exit ?_
            refine hK8 _ _ ?_
            refine T_seq fun K12 hK12 => ?_
            refine T_region ?_
            refine L_y (y_move rfl) rfl ?_
            refine L_y (y_move rfl) rfl ?_
            refine L_y (y_assign rfl) rfl ?_
            refine L_y (y_assign rfl) rfl ?_
            refine L_nil ?_
            refine hK12 _ _ ?_
            refine T_ret ?_
            repeat (first | with_reducible refine up_then ?_ | with_reducible refine up_in ?_)
            refine ret2 rfl rfl rfl ?_
            first | exact ⟨_, rfl, S9.like0, .inl ⟨.inl hz, rfl⟩⟩ | exact ⟨_, rfl, S9.like0, .inl ⟨.inr hr, rfl⟩⟩ | exact ⟨_, rfl, S9.like0, .inr ⟨hz, hr, f, t, hf, hft, by omega, fun i q hq => run_ok hr hz hf hft (by omega) hin (fun q2 hq2 => by rw [hy] at hq2; cases hq2; exact h32) hq, rfl⟩⟩ | exact ⟨_, rfl, S9.like0, .inr ⟨hz, hr, f, t, hf, hft, by omega, fun i q hq => run_ok hr hz hf hft (by omega) hin (fun q2 hq2 => by have := (List.getElem?_eq_some_iff.1 hq2).1; omega) hq, rfl⟩⟩
        ·
          refine HL_gno rfl rfl rfl ?_
          refine HL_gno rfl rfl rfl ?_
          refine HL_gno rfl rfl rfl ?_
          refine HL_gno rfl rfl rfl ?_
          refine HL_gno rfl rfl rfl ?_
          refine HL_nil ?_
          refine hK11 _ ?_
          refine L_gno rfl rfl rfl ?_
          refine L_y ((by first | exact y_pickT rfl rfl | exact y_pickF rfl rfl)) rfl ?_
          refine L_nil ?_
          refine hK10 _ _ ?_
          refine T_false rfl ?_
          refine T_exit ?_
          refine hK8 _ _ ?_
          refine T_seq fun K13 hK13 => ?_
          refine T_region ?_
          refine L_y (y_move rfl) rfl ?_
          refine L_y (y_move rfl) rfl ?_
          refine L_y (y_assign rfl) rfl ?_
          refine L_y (y_assign rfl) rfl ?_
          refine L_nil ?_
          refine hK13 _ _ ?_
          refine T_ret ?_
          repeat (first | with_reducible refine up_then ?_ | with_reducible refine up_in ?_)
          refine ret2 rfl rfl rfl ?_
          first | exact ⟨_, rfl, S7.like0, .inl ⟨.inl hz, rfl⟩⟩ | exact ⟨_, rfl, S7.like0, .inl ⟨.inr hr, rfl⟩⟩ | exact ⟨_, rfl, S7.like0, .inr ⟨hz, hr, f, t, hf, hft, by omega, fun i q hq => run_ok hr hz hf hft (by omega) hin (fun q2 hq2 => by rw [hy] at hq2; cases hq2; exact h32) hq, rfl⟩⟩ | exact ⟨_, rfl, S7.like0, .inr ⟨hz, hr, f, t, hf, hft, by omega, fun i q hq => run_ok hr hz hf hft (by omega) hin (fun q2 hq2 => by have := (List.getElem?_eq_some_iff.1 hq2).1; omega) hq, rfl⟩⟩


set_option maxRecDepth 100000 in
theorem rrange (A : Option Addr) (n c : Nat) (l : List Id) (z : Id) (nn : Int) (w0 : World) (hl : Rs w0 32 A n c (l.flatMap idf)) :
    Calls Try.prog 23 #[.slice A n c, .agg (bA z.l), .int .i64 nn] w0 fun e w' => ∃ u, e = .returned u ∧ Like w0 w' ∧ rangeOk l z nn u := by
  refine enter1 (env := [(0, .slice A n c), (1, .agg (bA z.l)), (2, .int .i64 nn)]) [.slice A n c, .agg (bA z.l), .int .i64 nn] Try.func23 rfl Try.ntmps23 rfl rfl ?_
  have hn := ids_n hl; have hcap := hl.cap; have hmax := hl.max; have S0 := St.start w0 noM
  refine T_seq fun K1 hK1 => ?_
  refine T_region ?_
  refine L_o (o_box rfl S0 rfl fun b1 w1 hb1 S1 => ?_)
  refine L_y (y_assign rfl) rfl ?_
  refine L_y (y_assign rfl) rfl ?_
  refine L_nil ?_
  refine hK1 _ _ ?_
  refine T_seq fun K2 hK2 => ?_
  refine T_seq fun K3 hK3 => ?_
  refine T_region ?_
  refine L_y (y_ldW Try.underlying23 rfl sz23 rfl (S1.blk 0 rfl) (whole32 z)) rfl ?_
  refine L_y (y_move rfl) rfl ?_
  refine L_o (o_call Try.func17 rfl rfl (cRRight z nn w1) rfl rfl ?_)
  rintro e2 w2 ⟨v2, rfl, l2, rfl⟩
  refine ⟨_, rfl, ?_⟩
  have S2 := S1.like l2
  refine L_y ((by first | exact y_notD rfl | exact y_not rfl)) rfl ?_
  refine L_y (y_move rfl) rfl ?_
  refine L_splitB 15 rfl (fun h15 => ?_) (fun h15 => ?_)
  ·
    have hz : rightB z.l nn = false := by simpa using h15
    refine L_gno rfl rfl rfl ?_
    refine L_gno rfl rfl rfl ?_
    refine L_gno rfl rfl rfl ?_
    refine L_y ((by first | exact y_pickT rfl rfl | exact y_pickF rfl rfl)) rfl ?_
    refine L_nil ?_
    refine hK3 _ _ ?_
    refine T_true rfl ?_
    refine T_seq fun K4 hK4 => ?_
    refine T_region ?_
    refine L_y (y_assign rfl) rfl ?_
    refine L_y (y_assign rfl) rfl ?_
    refine L_nil ?_
    refine hK4 _ _ ?_
    refine T_ret ?_
    repeat (first | with_reducible refine up_then ?_ | with_reducible refine up_in ?_)
    refine ret2 rfl rfl rfl ?_
    first | exact ⟨_, rfl, S2.like0, .inl ⟨.inl hz, rfl⟩⟩ | exact ⟨_, rfl, S2.like0, .inl ⟨.inr hr, rfl⟩⟩ | exact ⟨_, rfl, S2.like0, by rw [hml]; exact range_count hr hz hf⟩
  ·
    have hz : rightB z.l nn = true := by simpa using h15
    refine L_gyes rfl rfl ?_
    refine L_y (y_move rfl) rfl ?_
    refine L_gyes rfl rfl ?_
    refine L_o (o_call Try.func32 rfl rfl (rrising A n c l w2 (S2.rd hl)) rfl rfl ?_)
    rintro e4 w4 ⟨v4, rfl, l4, rfl⟩
    refine ⟨_, rfl, ?_⟩
    have S4 := S2.like l4
    refine L_gyes rfl rfl ?_
    refine L_y ((by first | exact y_notD rfl | exact y_not rfl)) rfl ?_
    refine L_y ((by first | exact y_pickT rfl rfl | exact y_pickF rfl rfl)) rfl ?_
    refine L_nil ?_
    refine hK3 _ _ ?_
    refine T_condB rfl (fun h19 => ?_) (fun h19 => ?_)
    ·
      have hr : ris l = false := by simpa using h19
      refine T_seq fun K5 hK5 => ?_
      refine T_region ?_
      refine L_y (y_assign rfl) rfl ?_
      refine L_y (y_assign rfl) rfl ?_
      refine L_nil ?_
      refine hK5 _ _ ?_
      refine T_ret ?_
      repeat (first | with_reducible refine up_then ?_ | with_reducible refine up_in ?_)
      refine ret2 rfl rfl rfl ?_
      first | exact ⟨_, rfl, S4.like0, .inl ⟨.inl hz, rfl⟩⟩ | exact ⟨_, rfl, S4.like0, .inl ⟨.inr hr, rfl⟩⟩ | exact ⟨_, rfl, S4.like0, by rw [hml]; exact range_count hr hz hf⟩
    ·
      have hr : ris l = true := by simpa using h19
      refine T_skip ?_
      refine hK2 _ _ ?_
      refine T_seq fun K6 hK6 => ?_
      refine T_region ?_
      refine L_y (y_assign rfl) rfl ?_
      refine L_nil ?_
      refine hK6 _ _ ?_
      refine T_seq fun K7 hK7 => ?_
      refine T_block ?_
      refine T_loop1 [(0, _), (2, _), (4, _)] (fun (f : Nat) => [(8, .int .i64 (f : Int))]) (fun (f : Nat) => n - f) (fun (f : Nat) (w : World) => (f ≤ n ∧ ∀ i q, i < f → l[i]? = some q → lt q z = true) ∧ St w0 noM [blk b1 23 (bA z.l)] w) 0 (Sub.cons rfl (by first | rfl | exact congrArg (Value.int _) (by omega)) (Sub.nil _)) (Sub.cons rfl rfl (Sub.cons rfl rfl (Sub.cons rfl rfl (Sub.nil _)))) ?_ ?_
      ·
        exact ⟨⟨Nat.zero_le _, fun i q h => by omega⟩, S4⟩
      ·
        intro f w5 hrel
        obtain ⟨⟨hfn, hlo⟩, S5⟩ := hrel
        refine T_seq fun K8 hK8 => ?_
        refine T_seq fun K9 hK9 => ?_
        refine T_tail 10 hmix (by kernel_rfl) fun w6 l6 K10 hK10 => ?_
        have S6 := S5.like l6
        refine HL_y (y_move rfl) rfl ?_
        refine HL_y (y_move rfl) rfl ?_
        refine HL_y (y_len Try.underlying44 rfl) rfl ?_
        refine HL_y (y_lss rfl rfl) rfl ?_
        refine HL_y (y_move rfl) rfl ?_
        refine HL_split 24 rfl (fun h24 => ?_) (fun h24 => ?_)
        ·
          obtain ⟨y, hy⟩ : ∃ y, l[f]? = some y := ⟨_, List.getElem?_eq_getElem (by omega)⟩
          refine HL_gyes rfl rfl ?_
          refine HL_y (y_move rfl) rfl ?_
          refine HL_gyes rfl rfl ?_
          refine HL_y (y_move rfl) rfl ?_
          refine HL_gyes rfl rfl ?_
          refine HL_y (y_idx Try.underlying44 sz23 rfl rfl (S6.rd hl) (Nt.mk (by omega) : Nt _ (f)) (by omega)) rfl ?_
          refine HL_gyes rfl rfl ?_
          refine HL_y (y_ldp (f := idf) idf_len Try.underlying23 rfl sz23 rfl (S6.rd hl) (by omega) hy) rfl ?_
          refine HL_gyes rfl rfl ?_
          refine HL_y (y_ldW Try.underlying23 rfl sz23 rfl (S6.blk 0 rfl) (whole32 z)) rfl ?_
          refine HL_nil ?_
          refine hK10 _ ?_
          refine L_gyes rfl rfl ?_
          refine L_o (o_call Try.func38 rfl rfl (cBelow y z w6) rfl rfl ?_)
          rintro e8 w8 ⟨v8, rfl, l8, rfl⟩
          refine ⟨_, rfl, ?_⟩
          have S8 := S6.like l8
          refine L_y ((by first | exact y_pickT rfl rfl | exact y_pickF rfl rfl)) rfl ?_
          refine L_nil ?_
          refine hK9 _ _ ?_
          refine T_condB rfl (fun h31 => ?_) (fun h31 => ?_)
          ·
            refine T_skip ?_
            refine hK8 _ _ ?_
            refine T_block ?_
            refine T_region ?_
            refine L_y (y_move rfl) rfl ?_
            refine L_y (y_add rfl rfl (i64w (by omega))) rfl ?_
            refine L_y (y_assign rfl) rfl ?_
            refine L_nil ?_
            refine ⟨f + 1, by omega, ⟨⟨by omega, fun i q hi hq => by rcases Nat.lt_or_ge i f with h9 | h9; exact hlo i q h9 hq; (have e9 : i = f := by omega); subst e9; rw [hy] at hq; cases hq; exact h31⟩, S8⟩, ?_⟩
            exact (Sub.cons rfl (by first | rfl | exact congrArg (Value.int _) (by omega)) (Sub.cons rfl rfl (Sub.cons rfl rfl (Sub.cons rfl rfl (Sub.nil _)))))
          ·
            refine T_exit ?_
            refine hK7 _ _ ?_
            refine T_seq fun K11 hK11 => ?_
            have hf : posOk l z f := posOk.of hr (by omega) hlo (by first | exact (fun q hq => by rw [hy] at hq; cases hq; exact h31) | exact (fun q hq => by have := (List.getElem?_eq_some_iff.1 hq).1; omega))
            refine T_region ?_
            refine L_y (y_assign rfl) rfl ?_
            refine L_nil ?_
            refine hK11 _ _ ?_
            refine T_seq fun K12 hK12 => ?_
            refine T_seq fun K13 hK13 => ?_
            refine T_region ?_
            refine L_y (y_assign rfl) rfl ?_
            refine L_nil ?_
            refine hK13 _ _ ?_
            refine T_block ?_
            refine T_loop2 [(0, _), (2, _), (4, _), (8, _)] (fun (k : Nat) (m : Nat) => [(9, .int .i64 (m : Int)), (10, .int .i64 (k : Int))]) (fun (k : Nat) (m : Nat) => n - k) (fun (k : Nat) (m : Nat) (w : World) => (k ≤ n ∧ m ≤ k ∧ m = (l.take k).countP (fit z nn)) ∧ St w0 noM [blk b1 23 (bA z.l)] w) 0 0 (Sub.cons rfl (by first | rfl | exact congrArg (Value.int _) (by omega)) (Sub.cons rfl (by first | rfl | exact congrArg (Value.int _) (by omega)) (Sub.nil _))) (Sub.cons rfl rfl (Sub.cons rfl rfl (Sub.cons rfl rfl (Sub.cons rfl rfl (Sub.nil _))))) ?_ ?_
            ·
              exact ⟨⟨Nat.zero_le _, Nat.le_refl _, by simp⟩, S8⟩
            ·
              intro k m w9 hrel
              obtain ⟨⟨hk, hmk, hm⟩, S9⟩ := hrel
              refine T_seq fun K14 hK14 => ?_
              refine T_seq fun K15 hK15 => ?_
              refine T_region ?_
              refine L_y (y_move rfl) rfl ?_
              refine L_y (y_move rfl) rfl ?_
              refine L_y (y_len Try.underlying44 rfl) rfl ?_
              refine L_y (y_lss rfl rfl) rfl ?_
              refine L_nil ?_
              refine hK15 _ _ ?_
              refine T_cond rfl (fun h37 => ?_) (fun h37 => ?_)
              ·
                obtain ⟨y, hy⟩ : ∃ y, l[k]? = some y := ⟨_, List.getElem?_eq_getElem (by omega)⟩
                refine T_skip ?_
                refine hK14 _ _ ?_
                refine T_seq fun K16 hK16 => ?_
                refine T_block ?_
                refine T_seq fun K17 hK17 => ?_
                refine T_tail 6 hmix (by kernel_rfl) fun w10 l10 K18 hK18 => ?_
                have S10 := S9.like l10
                refine HL_y (y_ldW Try.underlying23 rfl sz23 rfl (S10.blk 0 rfl) (whole32 z)) rfl ?_
                refine HL_y (y_move rfl) rfl ?_
                refine HL_y (y_move rfl) rfl ?_
                refine HL_y (y_move rfl) rfl ?_
                refine HL_y (y_idx Try.underlying44 sz23 rfl rfl (S10.rd hl) (Nt.mk (by omega) : Nt _ (k)) (by omega)) rfl ?_
                refine HL_y (y_ldp (f := idf) idf_len Try.underlying23 rfl sz23 rfl (S10.rd hl) (by omega) hy) rfl ?_
                refine HL_nil ?_
                refine hK18 _ ?_
                refine L_o (o_call Try.func19 rfl rfl (cRFits z nn y w10) rfl rfl ?_)
                rintro e11 w11 ⟨v11, rfl, l11, rfl⟩
                refine ⟨_, rfl, ?_⟩
                have S11 := S10.like l11
                refine L_nil ?_
                refine hK17 _ _ ?_
                refine T_condB rfl (fun h46 => ?_) (fun h46 => ?_)
                ·
                  refine T_region ?_
                  refine L_y (y_move rfl) rfl ?_
                  refine L_y (y_add rfl rfl (i64w (by omega))) rfl ?_
                  refine L_y (y_assign rfl) rfl ?_
                  refine L_nil ?_
                  refine hK16 _ _ ?_
                  refine T_region ?_
                  refine L_y (y_move rfl) rfl ?_
                  refine L_y (y_add rfl rfl (i64w (by omega))) rfl ?_
                  refine L_y (y_assign rfl) rfl ?_
                  refine L_nil ?_
                  refine ⟨k + 1, m + 1, by omega, ⟨⟨by omega, by omega, by rw [List.take_add_one, hy, List.countP_append, ← hm]; simp [h46]⟩, S11⟩, ?_⟩
                  exact (Sub.cons rfl (by first | rfl | exact congrArg (Value.int _) (by omega)) (Sub.cons rfl (by first | rfl | exact congrArg (Value.int _) (by omega)) (Sub.cons rfl rfl (Sub.cons rfl rfl (Sub.cons rfl rfl (Sub.cons rfl rfl (Sub.nil _)))))))
                ·
                  refine T_skip ?_
                  refine hK16 _ _ ?_
                  refine T_region ?_
                  refine L_y (y_move rfl) rfl ?_
                  refine L_y (y_add rfl rfl (i64w (by omega))) rfl ?_
                  refine L_y (y_assign rfl) rfl ?_
                  refine L_nil ?_
                  refine ⟨k + 1, m, by omega, ⟨⟨by omega, by omega, by rw [List.take_add_one, hy, List.countP_append, ← hm]; simp [h46]⟩, S11⟩, ?_⟩
                  exact (Sub.cons rfl (by first | rfl | exact congrArg (Value.int _) (by omega)) (Sub.cons rfl (by first | rfl | exact congrArg (Value.int _) (by omega)) (Sub.cons rfl rfl (Sub.cons rfl rfl (Sub.cons rfl rfl (Sub.cons rfl rfl (Sub.nil _)))))))
              ·
                have hcl := count_le hr hz hf
                have hml : m = l.countP (fit z nn) := by rw [hm, List.take_of_length_le (by omega)]
                refine T_exit ?_
                refine hK12 _ _ ?_
                refine T_seq fun K19 hK19 => ?_
                refine T_region ?_
                refine L_y (y_move rfl) rfl ?_
                refine L_y (y_move rfl) rfl ?_
                refine L_y (y_move rfl) rfl ?_
                refine L_y (y_add rfl rfl (i64w (by omega))) rfl ?_
                refine L_y (y_assign rfl) rfl ?_
                refine L_y (y_assign rfl) rfl ?_
                refine L_nil ?_
                refine hK19 _ _ ?_
                refine T_ret ?_
                repeat (first | with_reducible refine up_then ?_ | with_reducible refine up_in ?_)
                refine ret2 rfl rfl rfl ?_
                first | exact ⟨_, rfl, S9.like0, .inl ⟨.inl hz, rfl⟩⟩ | exact ⟨_, rfl, S9.like0, .inl ⟨.inr hr, rfl⟩⟩ | exact ⟨_, rfl, S9.like0, by rw [hml]; exact range_count hr hz hf⟩
        ·
          refine HL_gno rfl rfl rfl ?_
          refine HL_gno rfl rfl rfl ?_
          refine HL_gno rfl rfl rfl ?_
          refine HL_gno rfl rfl rfl ?_
          refine HL_gno rfl rfl rfl ?_
          refine HL_nil ?_
          refine hK10 _ ?_
          refine L_gno rfl rfl rfl ?_
          refine L_y ((by first | exact y_pickT rfl rfl | exact y_pickF rfl rfl)) rfl ?_
          refine L_nil ?_
          refine hK9 _ _ ?_
          refine T_false rfl ?_
          refine T_exit ?_
          refine hK7 _ _ ?_
          refine T_seq fun K20 hK20 => ?_
          have hf : posOk l z f := posOk.of hr (by omega) hlo (by first | exact (fun q hq => by rw [hy] at hq; cases hq; exact h31) | exact (fun q hq => by have := (List.getElem?_eq_some_iff.1 hq).1; omega))
          refine T_region ?_
          refine L_y (y_assign rfl) rfl ?_
          refine L_nil ?_
          refine hK20 _ _ ?_
          refine T_seq fun K21 hK21 => ?_
          refine T_seq fun K22 hK22 => ?_
          refine T_region ?_
          refine L_y (y_assign rfl) rfl ?_
          refine L_nil ?_
          refine hK22 _ _ ?_
          refine T_block ?_
          refine T_loop2 [(0, _), (2, _), (4, _), (8, _)] (fun (k : Nat) (m : Nat) => [(9, .int .i64 (m : Int)), (10, .int .i64 (k : Int))]) (fun (k : Nat) (m : Nat) => n - k) (fun (k : Nat) (m : Nat) (w : World) => (k ≤ n ∧ m ≤ k ∧ m = (l.take k).countP (fit z nn)) ∧ St w0 noM [blk b1 23 (bA z.l)] w) 0 0 (Sub.cons rfl (by first | rfl | exact congrArg (Value.int _) (by omega)) (Sub.cons rfl (by first | rfl | exact congrArg (Value.int _) (by omega)) (Sub.nil _))) (Sub.cons rfl rfl (Sub.cons rfl rfl (Sub.cons rfl rfl (Sub.cons rfl rfl (Sub.nil _))))) ?_ ?_
          ·
            exact ⟨⟨Nat.zero_le _, Nat.le_refl _, by simp⟩, S6⟩
          ·
            intro k m w12 hrel
            obtain ⟨⟨hk, hmk, hm⟩, S12⟩ := hrel
            refine T_seq fun K23 hK23 => ?_
            refine T_seq fun K24 hK24 => ?_
            refine T_region ?_
            refine L_y (y_move rfl) rfl ?_
            refine L_y (y_move rfl) rfl ?_
            refine L_y (y_len Try.underlying44 rfl) rfl ?_
            refine L_y (y_lss rfl rfl) rfl ?_
            refine L_nil ?_
            refine hK24 _ _ ?_
            refine T_cond rfl (fun h37 => ?_) (fun h37 => ?_)
            ·
              obtain ⟨y, hy⟩ : ∃ y, l[k]? = some y := ⟨_, List.getElem?_eq_getElem (by omega)⟩
              refine T_skip ?_
              refine hK23 _ _ ?_
              refine T_seq fun K25 hK25 => ?_
              refine T_block ?_
              refine T_seq fun K26 hK26 => ?_
              refine T_tail 6 hmix (by kernel_rfl) fun w13 l13 K27 hK27 => ?_
              have S13 := S12.like l13
              refine HL_y (y_ldW Try.underlying23 rfl sz23 rfl (S13.blk 0 rfl) (whole32 z)) rfl ?_
              refine HL_y (y_move rfl) rfl ?_
              refine HL_y (y_move rfl) rfl ?_
              refine HL_y (y_move rfl) rfl ?_
              refine HL_y (y_idx Try.underlying44 sz23 rfl rfl (S13.rd hl) (Nt.mk (by omega) : Nt _ (k)) (by omega)) rfl ?_
              refine HL_y (y_ldp (f := idf) idf_len Try.underlying23 rfl sz23 rfl (S13.rd hl) (by omega) hy) rfl ?_
              refine HL_nil ?_
              refine hK27 _ ?_
              refine L_o (o_call Try.func19 rfl rfl (cRFits z nn y w13) rfl rfl ?_)
              rintro e14 w14 ⟨v14, rfl, l14, rfl⟩
              refine ⟨_, rfl, ?_⟩
              have S14 := S13.like l14
              refine L_nil ?_
              refine hK26 _ _ ?_
              refine T_condB rfl (fun h46 => ?_) (fun h46 => ?_)
              ·
                refine T_region ?_
                refine L_y (y_move rfl) rfl ?_
                refine L_y (y_add rfl rfl (i64w (by omega))) rfl ?_
                refine L_y (y_assign rfl) rfl ?_
                refine L_nil ?_
                refine hK25 _ _ ?_
                refine T_region ?_
                refine L_y (y_move rfl) rfl ?_
                refine L_y (y_add rfl rfl (i64w (by omega))) rfl ?_
                refine L_y (y_assign rfl) rfl ?_
                refine L_nil ?_
                refine ⟨k + 1, m + 1, by omega, ⟨⟨by omega, by omega, by rw [List.take_add_one, hy, List.countP_append, ← hm]; simp [h46]⟩, S14⟩, ?_⟩
                exact (Sub.cons rfl (by first | rfl | exact congrArg (Value.int _) (by omega)) (Sub.cons rfl (by first | rfl | exact congrArg (Value.int _) (by omega)) (Sub.cons rfl rfl (Sub.cons rfl rfl (Sub.cons rfl rfl (Sub.cons rfl rfl (Sub.nil _)))))))
              ·
                refine T_skip ?_
                refine hK25 _ _ ?_
                refine T_region ?_
                refine L_y (y_move rfl) rfl ?_
                refine L_y (y_add rfl rfl (i64w (by omega))) rfl ?_
                refine L_y (y_assign rfl) rfl ?_
                refine L_nil ?_
                refine ⟨k + 1, m, by omega, ⟨⟨by omega, by omega, by rw [List.take_add_one, hy, List.countP_append, ← hm]; simp [h46]⟩, S14⟩, ?_⟩
                exact (Sub.cons rfl (by first | rfl | exact congrArg (Value.int _) (by omega)) (Sub.cons rfl (by first | rfl | exact congrArg (Value.int _) (by omega)) (Sub.cons rfl rfl (Sub.cons rfl rfl (Sub.cons rfl rfl (Sub.cons rfl rfl (Sub.nil _)))))))
            ·
              have hcl := count_le hr hz hf
              have hml : m = l.countP (fit z nn) := by rw [hm, List.take_of_length_le (by omega)]
              refine T_exit ?_
              refine hK21 _ _ ?_
              refine T_seq fun K28 hK28 => ?_
              refine T_region ?_
              refine L_y (y_move rfl) rfl ?_
              refine L_y (y_move rfl) rfl ?_
              refine L_y (y_move rfl) rfl ?_
              refine L_y (y_add rfl rfl (i64w (by omega))) rfl ?_
              refine L_y (y_assign rfl) rfl ?_
              refine L_y (y_assign rfl) rfl ?_
              refine L_nil ?_
              refine hK28 _ _ ?_
              refine T_ret ?_
              repeat (first | with_reducible refine up_then ?_ | with_reducible refine up_in ?_)
              refine ret2 rfl rfl rfl ?_
              first | exact ⟨_, rfl, S12.like0, .inl ⟨.inl hz, rfl⟩⟩ | exact ⟨_, rfl, S12.like0, .inl ⟨.inr hr, rfl⟩⟩ | exact ⟨_, rfl, S12.like0, by rw [hml]; exact range_count hr hz hf⟩


set_option maxRecDepth 100000 in
theorem palike (a b : Id) (w0 : World)  :
    Calls Try.prog 40 #[.agg (bA a.l), .agg (bA b.l)] w0 fun e w' => ∃ u, e = .returned u ∧ Like w0 w' ∧ ∃ m : Nat, u = .int .i64 (m : Int) ∧ AL a b m := by
  refine enter1 (env := [(0, .agg (bA a.l)), (1, .agg (bA b.l))]) [.agg (bA a.l), .agg (bA b.l)] Try.func40 rfl Try.ntmps40 rfl rfl ?_
  have S0 := St.start w0 noM
  refine T_seq fun K1 hK1 => ?_
  refine T_region ?_
  refine L_o (o_box rfl S0 rfl fun b1 w1 hb1 S1 => ?_)
  refine L_o (o_box rfl S1 rfl fun b2 w2 hb2 S2 => ?_)
  refine L_y (y_assign rfl) rfl ?_
  refine L_nil ?_
  refine hK1 _ _ ?_
  refine T_seq fun K2 hK2 => ?_
  refine T_seq fun K3 hK3 => ?_
  refine T_region ?_
  refine L_y (y_move rfl) rfl ?_
  refine L_nil ?_
  refine hK3 _ _ ?_
  refine T_block ?_
  refine T_loop1 [(2, _), (3, _)] (fun (k : Nat) => [(6, .int .i64 (k : Int))]) (fun (k : Nat) => 32 - k) (fun (k : Nat) (w : World) => (k ≤ 32 ∧ ∀ j, j < 2 * k → nib a j = nib b j) ∧ St w0 noM [blk b1 23 (bA a.l), blk b2 23 (bA b.l)] w) 0 (Sub.cons rfl (by first | rfl | exact congrArg (Value.int _) (by omega)) (Sub.nil _)) (Sub.cons rfl rfl (Sub.cons rfl rfl (Sub.nil _))) ?_ ?_
  ·
    exact ⟨⟨Nat.zero_le _, fun j hj => by omega⟩, S2⟩
  ·
    intro k w3 hrel
    obtain ⟨⟨hk, hal⟩, S3⟩ := hrel
    refine T_seq fun K4 hK4 => ?_
    refine T_region ?_
    refine L_y (y_lss rfl rfl) rfl ?_
    refine L_nil ?_
    refine hK4 _ _ ?_
    refine T_seq fun K5 hK5 => ?_
    refine T_cond rfl (fun h7 => ?_) (fun h7 => ?_)
    ·
      obtain ⟨x, hx⟩ : ∃ x, a.l[k]? = some x := ⟨_, List.getElem?_eq_getElem (by rw [a.h]; omega)⟩
      obtain ⟨y, hy⟩ : ∃ y, b.l[k]? = some y := ⟨_, List.getElem?_eq_getElem (by rw [b.h]; omega)⟩
      obtain ⟨nx1, nx2⟩ := nib_at hx
      obtain ⟨ny1, ny2⟩ := nib_at hy
      have hx8 := x.toNat_lt
      have hy8 := y.toNat_lt
      refine T_skip ?_
      refine hK5 _ _ ?_
      refine T_seq fun K6 hK6 => ?_
      refine T_block ?_
      refine T_seq fun K7 hK7 => ?_
      refine T_region ?_
      refine L_y (y_move rfl) rfl ?_
      refine L_y (y_assign rfl) rfl ?_
      refine L_nil ?_
      refine hK7 _ _ ?_
      refine T_block ?_
      refine T_seq fun K8 hK8 => ?_
      refine T_drawnL [(0, true), (1, true), (2, true), (3, true), (4, true), (5, true), (6, true), (7, true), (8, true), (9, true)] hmix (by kernel_rfl) fun w4 l4 => ?_
      have S4 := S3.like l4
      refine DL_y rfl (y_move rfl) rfl ?_
      refine DL_y rfl (y_idxA0 Try.underlying23 sz5 rfl rfl inferInstance (by omega)) rfl ?_
      refine DL_y rfl (y_ldc Try.underlying5 rfl rfl (((S4.blk 0 rfl).cell _).trans (bA_get a.l k x hx))) rfl ?_
      refine DL_y rfl (y_shr rfl rfl (by omega) (shr4 x)) rfl ?_
      refine DL_y rfl (y_move rfl) rfl ?_
      refine DL_y rfl (y_idxA0 Try.underlying23 sz5 rfl rfl inferInstance (by omega)) rfl ?_
      refine DL_y rfl (y_ldc Try.underlying5 rfl rfl (((S4.blk 1 rfl).cell _).trans (bA_get b.l k y hy))) rfl ?_
      refine DL_y rfl (y_shr rfl rfl (by omega) (shr4 y)) rfl ?_
      refine DL_y rfl (y_neq rfl rfl) rfl ?_
      refine DL_y rfl (y_assign rfl) rfl ?_
      refine DL_nil ?_
      refine hK8 _ _ ?_
      refine T_cond rfl (fun h9 => ?_) (fun h9 => ?_)
      ·
        refine T_seq fun K9 hK9 => ?_
        refine T_region ?_
        refine L_y (y_move rfl) rfl ?_
        refine L_y (y_mul rfl rfl (i64w (by omega))) rfl ?_
        refine L_y (y_assign rfl) rfl ?_
        refine L_nil ?_
        refine hK9 _ _ ?_
        refine T_ret ?_
        repeat (first | with_reducible refine up_then ?_ | with_reducible refine up_in ?_)
        refine ret1 rfl rfl ?_
        first | exact ⟨_, rfl, S4.like0, 64, rfl, Nat.le_refl _, fun j hj => hal j (by omega), fun q9 => by omega⟩ | exact ⟨_, rfl, S4.like0, 2 * k, congrArg (Value.int _) (by omega), by omega, hal, fun q9 => by rw [nx1, ny1]; omega⟩ | exact ⟨_, rfl, S4.like0, 2 * k + 1, congrArg (Value.int _) (by omega), by omega, fun j hj => by rcases Nat.lt_or_ge j (2 * k) with q9 | q9; exact hal j q9; rw [show j = 2 * k by omega, nx1, ny1]; omega, fun q9 => by rw [nx2, ny2]; omega⟩
      ·
        refine T_seq fun K10 hK10 => ?_
        refine T_drawnL [(0, true), (1, true), (2, true), (3, true), (4, true), (5, true), (6, true), (7, true)] hmix (by kernel_rfl) fun w5 l5 => ?_
        have S5 := S4.like l5
        refine DL_y rfl (y_move rfl) rfl ?_
        refine DL_y rfl (y_idxA0 Try.underlying23 sz5 rfl rfl inferInstance (by omega)) rfl ?_
        refine DL_y rfl (y_ldc Try.underlying5 rfl rfl (((S5.blk 0 rfl).cell _).trans (bA_get a.l k x hx))) rfl ?_
        refine DL_y rfl (y_move rfl) rfl ?_
        refine DL_y rfl (y_idxA0 Try.underlying23 sz5 rfl rfl inferInstance (by omega)) rfl ?_
        refine DL_y rfl (y_ldc Try.underlying5 rfl rfl (((S5.blk 1 rfl).cell _).trans (bA_get b.l k y hy))) rfl ?_
        refine DL_y rfl (y_neq rfl rfl) rfl ?_
        refine DL_y rfl (y_assign rfl) rfl ?_
        refine DL_nil ?_
        refine hK10 _ _ ?_
        refine T_cond rfl (fun h21 => ?_) (fun h21 => ?_)
        ·
          refine T_seq fun K11 hK11 => ?_
          refine T_region ?_
          refine L_y (y_move rfl) rfl ?_
          refine L_y (y_mul rfl rfl (i64w (by omega))) rfl ?_
          refine L_y (y_add rfl rfl (i64w (by omega))) rfl ?_
          refine L_y (y_assign rfl) rfl ?_
          refine L_nil ?_
          refine hK11 _ _ ?_
          refine T_ret ?_
          repeat (first | with_reducible refine up_then ?_ | with_reducible refine up_in ?_)
          refine ret1 rfl rfl ?_
          first | exact ⟨_, rfl, S5.like0, 64, rfl, Nat.le_refl _, fun j hj => hal j (by omega), fun q9 => by omega⟩ | exact ⟨_, rfl, S5.like0, 2 * k, congrArg (Value.int _) (by omega), by omega, hal, fun q9 => by rw [nx1, ny1]; omega⟩ | exact ⟨_, rfl, S5.like0, 2 * k + 1, congrArg (Value.int _) (by omega), by omega, fun j hj => by rcases Nat.lt_or_ge j (2 * k) with q9 | q9; exact hal j q9; rw [show j = 2 * k by omega, nx1, ny1]; omega, fun q9 => by rw [nx2, ny2]; omega⟩
        ·
          refine T_skip ?_
          refine hK6 _ _ ?_
          refine T_region ?_
          refine L_y (y_add rfl rfl (i64w (by omega))) rfl ?_
          refine L_y (y_move rfl) rfl ?_
          refine L_nil ?_
          refine ⟨k + 1, by omega, ⟨⟨by omega, fun j hj => by rcases Nat.lt_or_ge j (2 * k) with q9 | q9; exact hal j q9; rcases Nat.lt_or_ge j (2 * k + 1) with q8 | q8; (rw [show j = 2 * k by omega, nx1, ny1]; omega); (rw [show j = 2 * k + 1 by omega, nx2, ny2]; omega)⟩, S5⟩, ?_⟩
          exact (Sub.cons rfl (by first | rfl | exact congrArg (Value.int _) (by omega)) (Sub.cons rfl rfl (Sub.cons rfl rfl (Sub.nil _))))
    ·
      refine T_exit ?_
      refine hK2 _ _ ?_
      refine T_seq fun K12 hK12 => ?_
      refine T_region ?_
      refine L_y (y_assign rfl) rfl ?_
      refine L_nil ?_
      refine hK12 _ _ ?_
      refine T_ret ?_
      repeat (first | with_reducible refine up_then ?_ | with_reducible refine up_in ?_)
      refine ret1 rfl rfl ?_
      first | exact ⟨_, rfl, S3.like0, 64, rfl, Nat.le_refl _, fun j hj => hal j (by omega), fun q9 => by omega⟩ | exact ⟨_, rfl, S3.like0, 2 * k, congrArg (Value.int _) (by omega), by omega, hal, fun q9 => by rw [nx1, ny1]; omega⟩ | exact ⟨_, rfl, S3.like0, 2 * k + 1, congrArg (Value.int _) (by omega), by omega, fun j hj => by rcases Nat.lt_or_ge j (2 * k) with q9 | q9; exact hal j q9; rw [show j = 2 * k by omega, nx1, ny1]; omega, fun q9 => by rw [nx2, ny2]; omega⟩
end Go.Proofs.Ytblbcmkhgjlpcaa
