/-
  The Writer.
-/
import Derived.Test.YtcbnhmcfdpcbhaaFa
namespace Go.Proofs.Ytcbnhmcfdpcbhaa
open Go.RowKit Zk Zx
set_option linter.unusedVariables false
set_option linter.unusedSimpArgs false

/-- A Writer at block g that has laid l. -/
def wt (g : Nat) (A : Option Addr) (n c : Nat) (l : List UInt8) : Res := both (blk g 63 #[.slice A n c]) (row 5 1 A n c (bL l))
theorem wt_apart {w : World} {g n c : Nat} {A : Option Addr} {l : List UInt8} (h : (wt g A n c l).holds w) : ∀ i, (blk g 63 #[.slice A n c]).dom i → ¬ (row 5 1 A n c (bL l)).dom i := fun i hi hr => by
  have hi' : i = g := hi
  subst hi'
  exact own_blk_ne (e := 5) h.2 h.1 (by decide) hr
theorem wt_lt {w : World} {g n c : Nat} {A : Option Addr} {l : List UInt8} (h : (wt g A n c l).holds w) : ∀ i, (wt g A n c l).dom i → i < w.heap.size := fun i hi => by
  rcases hi with hi | hi
  · have hi' : i = g := hi
    subst hi'
    exact Blk.lt h.1
  · exact (World.ownsRow.lt h.2 i hi).2
theorem wt_len {w : World} {g n c : Nat} {A : Option Addr} {l : List UInt8} (h : (wt g A n c l).holds w) : l.length = n := by
  have := h.2.1
  simpa using this
/-- From w to w' the Writer at g, which had laid l, has laid m. -/
def Laid (w w' : World) (g : Nat) (A : Option Addr) (n c : Nat) (l m : List UInt8) : Prop := ∃ A' n' c', Turned w w' (wt g A n c l) (wt g A' n' c' m)
theorem Laid.of {w w' : World} {g n c n' c' : Nat} {A A' : Option Addr} {l m : List UInt8} {X : Array Value} {ys : List Value} (h : Turned w w' (wt g A n c l) (both (blk g 63 X) (row 5 1 A' n' c' ys))) (hX : X = #[.slice A' n' c']) (hy : ys = bL m) : Laid w w' g A n c l m := by
  subst hX
  subst hy
  exact ⟨A', n', c', h⟩
theorem Laid.refl {w : World} {g n c : Nat} {A : Option Addr} {l : List UInt8} (h : (wt g A n c l).holds w) : Laid w w g A n c l l := ⟨A, n, c, Turned.refl h⟩
/-- With the length. -/
theorem Laid.same {w w' : World} {g n c : Nat} {A : Option Addr} {l m : List UInt8} (h : Laid w w' g A n c l m) : ∃ A' c', Turned w w' (wt g A n c l) (wt g A' m.length c' m) := by
  obtain ⟨A', n', c', h⟩ := h
  have := wt_len h.holds
  subst this
  exact ⟨A', c', h⟩


set_option maxRecDepth 100000 in
theorem wbyte (g : Nat) (A : Option Addr) (n c : Nat) (l : List UInt8) (x : UInt8) (w0 : World) (hw : (wt g A n c l).holds w0) (hn : l.length ≤ 70368744177664) :
    Calls Try.prog 30 #[.pointer (some ⟨g, 0, none⟩), .int .u8 (x.toNat : Int)] w0 fun e w' => ∃ u, e = .returned u ∧ Laid w0 w' g A n c l (l ++ [x]) := by
  refine enter1 (env := [(0, .pointer (some ⟨g, 0, none⟩)), (1, .int .u8 (x.toNat : Int))]) [.pointer (some ⟨g, 0, none⟩), .int .u8 (x.toNat : Int)] Try.func30 rfl Try.ntmps30 rfl rfl ?_
  have hln := wt_len hw; have S0 := St.borrow2 (blk g 63 #[.slice A n c]) (row 5 1 A n c (bL l)) hw.1 hw.2 (wt_lt hw) (wt_apart hw)
  refine T_seq fun K1 hK1 => ?_
  refine T_region ?_
  refine L_y (y_move rfl) rfl ?_
  refine L_y (y_pneqn Try.underlying23 rfl) rfl ?_
  refine L_nil ?_
  refine hK1 _ _ ?_
  refine T_true rfl ?_
  refine T_region ?_
  refine L_y (y_move rfl) rfl ?_
  refine L_y (y_move rfl) rfl ?_
  refine L_y (y_nilp rfl) rfl ?_
  refine L_y (y_fieldA 0 Try.underlying63 rfl sz25 rfl rfl rfl) rfl ?_
  refine L_y (y_ldc Try.underlying25 rfl rfl (((S0.blk 0 rfl).cell _).trans (show (#[Value.slice A n c] : Array Value)[0]? = some (Value.slice A n c) from rfl))) rfl ?_
  refine L_y (y_move rfl) rfl ?_
  refine L_o (o_bsl [_] te25 zz5 S0 rfl rfl rfl rfl rfl rfl rfl rfl fun b1 w1 S1 => ?_)
  refine L_o (o_app te25 S1 1 rfl rfl rfl (by first | exact S1.row 1 rfl | exact S1.row 2 rfl) (by first | exact bL_one _ | exact iL_one _ | (intro u hu; simp at hu; subst hu; rfl) | (simp; done) | (simp [Value.oneCell']; done)) rfl (by omega) (by omega) fun A2 c2 w2 S2 => ?_)
  have S2d := S2.drop (rs' := [_, _]) (.cons_cons _ (.cons_cons _ (.cons _ (.refl _))))
  refine L_y (y_nilp rfl) rfl ?_
  refine L_y (y_fieldA 0 Try.underlying63 rfl sz25 rfl rfl rfl) rfl ?_
  refine L_o (o_st1 S2d 0 rfl rfl rfl rfl sz25 (by simp; done) fun w3 S3 => ?_)
  refine L_nil ?_
  first | refine end0 (fn := Try.f30) rfl ?_ | (simp only [thenQ, inB, if_true]; refine end0 (fn := Try.f30) rfl ?_)
  exact ⟨_, rfl, Laid.of (S3.turned2 0 1 rfl rfl) rfl (by simp [bL, bV])⟩


set_option maxRecDepth 100000 in
theorem wraw (g : Nat) (A : Option Addr) (n c : Nat) (l : List UInt8) (B : Option Addr) (m d : Nat) (q : List UInt8) (w0 : World) (hw : (wt g A n c l).holds w0) (hp : Rs w0 1 B m d (bL q)) (hn : l.length + m ≤ 70368744177664) :
    Calls Try.prog 29 #[.pointer (some ⟨g, 0, none⟩), .slice B m d] w0 fun e w' => ∃ u, e = .returned u ∧ Laid w0 w' g A n c l (l ++ q) := by
  refine enter1 (env := [(0, .pointer (some ⟨g, 0, none⟩)), (1, .slice B m d)]) [.pointer (some ⟨g, 0, none⟩), .slice B m d] Try.func29 rfl Try.ntmps29 rfl rfl ?_
  have hln := wt_len hw; have S0 := St.borrow2 (blk g 63 #[.slice A n c]) (row 5 1 A n c (bL l)) hw.1 hw.2 (wt_lt hw) (wt_apart hw)
  refine T_seq fun K1 hK1 => ?_
  refine T_region ?_
  refine L_y (y_move rfl) rfl ?_
  refine L_y (y_pneqn Try.underlying23 rfl) rfl ?_
  refine L_nil ?_
  refine hK1 _ _ ?_
  refine T_true rfl ?_
  refine T_region ?_
  refine L_y (y_move rfl) rfl ?_
  refine L_y (y_move rfl) rfl ?_
  refine L_y (y_nilp rfl) rfl ?_
  refine L_y (y_fieldA 0 Try.underlying63 rfl sz25 rfl rfl rfl) rfl ?_
  refine L_y (y_ldc Try.underlying25 rfl rfl (((S0.blk 0 rfl).cell _).trans (show (#[Value.slice A n c] : Array Value)[0]? = some (Value.slice A n c) from rfl))) rfl ?_
  refine L_y (y_move rfl) rfl ?_
  refine L_o (o_app te25 S0 1 rfl rfl rfl (hp) (bL_one _) rfl (by omega) (by omega) fun A1 c1 w1 S1 => ?_)
  refine L_y (y_nilp rfl) rfl ?_
  refine L_y (y_fieldA 0 Try.underlying63 rfl sz25 rfl rfl rfl) rfl ?_
  refine L_o (o_st1 S1 0 rfl rfl rfl rfl sz25 (by simp; done) fun w2 S2 => ?_)
  refine L_nil ?_
  first | refine end0 (fn := Try.f29) rfl ?_ | (simp only [thenQ, inB, if_true]; refine end0 (fn := Try.f29) rfl ?_)
  have hE := S2.turned2 0 1 rfl rfl
  exact ⟨_, rfl, Laid.of hE rfl (by simp [bL])⟩


set_option maxRecDepth 100000 in
theorem wlen (g : Nat) (A : Option Addr) (n c : Nat) (l : List UInt8) (w0 : World) (hw : (wt g A n c l).holds w0) :
    Calls Try.prog 11 #[.pointer (some ⟨g, 0, none⟩)] w0 fun e w' => ∃ u, e = .returned u ∧ Like w0 w' ∧ u = .int .i64 (n : Int) := by
  refine enter1 (env := [(0, .pointer (some ⟨g, 0, none⟩))]) [.pointer (some ⟨g, 0, none⟩)] Try.func11 rfl Try.ntmps11 rfl rfl ?_
  have S0 := St.start w0 noM
  refine T_seq fun K1 hK1 => ?_
  refine T_region ?_
  refine L_y (y_assign rfl) rfl ?_
  refine L_nil ?_
  refine hK1 _ _ ?_
  refine T_seq fun K2 hK2 => ?_
  refine T_seq fun K3 hK3 => ?_
  refine T_region ?_
  refine L_y (y_move rfl) rfl ?_
  refine L_y (y_peqn Try.underlying23 rfl) rfl ?_
  refine L_nil ?_
  refine hK3 _ _ ?_
  refine T_false rfl ?_
  refine T_skip ?_
  refine hK2 _ _ ?_
  refine T_seq fun K4 hK4 => ?_
  refine T_region ?_
  refine L_y (y_move rfl) rfl ?_
  refine L_y (y_nilp rfl) rfl ?_
  refine L_y (y_fieldA 0 Try.underlying63 rfl sz25 rfl rfl rfl) rfl ?_
  refine L_y (y_ldc Try.underlying25 rfl rfl ((hw.1.cell _).trans (show (#[Value.slice A n c] : Array Value)[0]? = some (Value.slice A n c) from rfl))) rfl ?_
  refine L_y (y_len Try.underlying25 rfl) rfl ?_
  refine L_y (y_assign rfl) rfl ?_
  refine L_nil ?_
  refine hK4 _ _ ?_
  refine T_ret ?_
  repeat (first | with_reducible refine up_then ?_ | with_reducible refine up_in ?_)
  refine ret1 rfl rfl ?_
  exact ⟨_, rfl, S0.like0, rfl⟩


set_option maxRecDepth 100000 in
theorem wnew  (w0 : World)  :
    Calls Try.prog 8 #[] w0 fun e w' => ∃ u, e = .returned u ∧ Like w0 w' ∧ ∃ b, u = .pointer (some ⟨b, 0, none⟩) ∧ w0.heap.size ≤ b ∧ (wt b none 0 0 []).holds w' := by
  refine enter1 (env := []) [] Try.func8 rfl Try.ntmps8 rfl rfl ?_
  have S0 := St.start w0 noM
  refine T_seq fun K1 hK1 => ?_
  refine T_region ?_
  refine L_y (y_assign rfl) rfl ?_
  refine L_nil ?_
  refine hK1 _ _ ?_
  refine T_seq fun K2 hK2 => ?_
  refine T_region ?_
  refine L_y (y_build rfl (show _ = some #[Value.slice none 0 0] by kernel_rfl)) rfl ?_
  refine L_o (o_box rfl S0 rfl fun b1 w1 hb1 S1 => ?_)
  refine L_y (y_assign rfl) rfl ?_
  refine L_nil ?_
  refine hK2 _ _ ?_
  refine T_ret ?_
  repeat (first | with_reducible refine up_then ?_ | with_reducible refine up_in ?_)
  refine ret1 rfl rfl ?_
  exact ⟨_, rfl, S1.like0, b1, rfl, hb1, (S1.get 0 rfl), ⟨by simp [bL], .inl ⟨rfl, rfl⟩⟩⟩
end Go.Proofs.Ytcbnhmcfdpcbhaa
