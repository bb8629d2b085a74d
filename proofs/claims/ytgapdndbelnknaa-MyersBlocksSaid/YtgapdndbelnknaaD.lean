/-
  The field: at.
-/
import Derived.Test.YtgapdndbelnknaaC
import Derived.Test.YtgapdndbelnknaaFa
namespace Go.Proofs.Ytgapdndbelnknaa
open Go.RowKit Zk Zx
set_option linter.unusedVariables false
set_option linter.unusedSimpArgs false

/-- The field at block g: the lists, and the rows that are filled. -/
def FR (w : World) (g : Nat) (A : Option Addr) (n ca : Nat) (B : Option Addr) (m cb : Nat) (la lb : List Int) (D : List (List Int)) : Prop :=
  ∃ R nr cr S vs, Blk w g 54 #[.slice A n ca, .slice B m cb, .slice R nr cr, S] ∧ Rs w 1 A n ca (iL la) ∧ Rs w 1 B m cb (iL lb) ∧ Rs w 1 R nr cr vs ∧ nr = D.length ∧
    ∀ d x, D[d]? = some x → ∃ ad, vs[d]? = some (.slice ad x.length x.length) ∧ Rs w 1 ad x.length x.length (iL x) ∧ x.length = 2 * d + 1
theorem FR.like {w w' : World} {g n ca m cb : Nat} {A B : Option Addr} {la lb : List Int} {D : List (List Int)} (h : FR w g A n ca B m cb la lb D) (l : Like w w') : FR w' g A n ca B m cb la lb D := by
  obtain ⟨R, nr, cr, S, vs, h1, h2, h3, h4, h5, h6⟩ := h
  exact ⟨R, nr, cr, S, vs, h1.below l h1.lt, h2.like l, h3.like l, h4.like l, h5, fun d x hx => by
    obtain ⟨ad, a1, a2, a3⟩ := h6 d x hx
    exact ⟨ad, a1, a2.like l, a3⟩⟩
/-- What 'at' answers. -/
def atV (D : List (List Int)) (d off : Int) : Int := if d < 0 ∨ off < -d ∨ off > d then farN else (D.getD d.toNat []).getD (d + off).toNat 0
theorem lenI {w : World} {A : Option Addr} {n c : Nat} {xs : List Int} (h : Rs w 1 A n c (iL xs)) : xs.length = n := by
  have := h.len
  simpa using this


set_option maxRecDepth 100000 in
theorem fat (g : Nat) (A : Option Addr) (n ca : Nat) (B : Option Addr) (m cb : Nat) (la lb : List Int) (D : List (List Int)) (d off : Int) (w0 : World) (hf : FR w0 g A n ca B m cb la lb D) (hd : d < D.length) (hd1 : -4611686018427387904 < d) (hof : -4611686018427387904 < off ∧ off < 4611686018427387904) (hD : D.length ≤ 1048576) :
    Calls Try.prog 27 #[.pointer (some ⟨g, 0, none⟩), .int .i64 d, .int .i64 off] w0 fun e w' => ∃ u, e = .returned u ∧ Like w0 w' ∧ u = .int .i64 (atV D d off) := by
  refine enter1 (env := [(0, .pointer (some ⟨g, 0, none⟩)), (1, .int .i64 d), (2, .int .i64 off)]) [.pointer (some ⟨g, 0, none⟩), .int .i64 d, .int .i64 off] Try.func27 rfl Try.ntmps27 rfl rfl ?_
  obtain ⟨R, nr, cr, SS, vs, hB, hA1, hB1, hR1, hnr, hrows⟩ := hf; have hla := lenI hA1; have hlb := lenI hB1; have S0 := St.start w0 noM
  refine T_seq fun K1 hK1 => ?_
  refine T_region ?_
  refine L_y (y_assign rfl) rfl ?_
  refine L_nil ?_
  refine hK1 _ _ ?_
  refine T_seq fun K2 hK2 => ?_
  refine T_seq fun K3 hK3 => ?_
  refine T_region ?_
  refine L_y (y_move rfl) rfl ?_
  refine L_y (y_lss rfl rfl) rfl ?_
  refine L_y (y_move rfl) rfl ?_
  refine L_split 9 rfl (fun h9 => ?_) (fun h9 => ?_)
  ·
    refine L_gno rfl rfl rfl ?_
    refine L_gno rfl rfl rfl ?_
    refine L_gno rfl rfl rfl ?_
    refine L_gno rfl rfl rfl ?_
    refine L_y ((by first | exact y_pickT rfl rfl | exact y_pickF rfl rfl)) rfl ?_
    refine L_y (y_move rfl) rfl ?_
    refine L_gno rfl rfl rfl ?_
    refine L_gno rfl rfl rfl ?_
    refine L_gno rfl rfl rfl ?_
    refine L_y ((by first | exact y_pickT rfl rfl | exact y_pickF rfl rfl)) rfl ?_
    refine L_nil ?_
    refine hK3 _ _ ?_
    refine T_true rfl ?_
    refine T_seq fun K4 hK4 => ?_
    refine T_region ?_
    refine L_y (y_assign rfl) rfl ?_
    refine L_nil ?_
    refine hK4 _ _ ?_
    refine T_ret ?_
    repeat (first | with_reducible refine up_then ?_ | with_reducible refine up_in ?_)
    refine ret1 rfl rfl ?_
    first | exact ⟨_, rfl, S0.like0, by rw [hval]⟩ | exact ⟨_, rfl, S0.like0, by rw [atV, if_pos (by omega)]; rfl⟩
  ·
    refine L_gyes rfl rfl ?_
    refine L_y (y_move rfl) rfl ?_
    refine L_gyes rfl rfl ?_
    refine L_y (y_move rfl) rfl ?_
    refine L_gyes rfl rfl ?_
    refine L_y (y_neg rfl (i64w (by omega))) rfl ?_
    refine L_gyes rfl rfl ?_
    refine L_y (y_lss rfl rfl) rfl ?_
    refine L_y ((by first | exact y_pickT rfl rfl | exact y_pickF rfl rfl)) rfl ?_
    refine L_y (y_move rfl) rfl ?_
    refine L_split 15 rfl (fun h15 => ?_) (fun h15 => ?_)
    ·
      refine L_gno rfl rfl rfl ?_
      refine L_gno rfl rfl rfl ?_
      refine L_gno rfl rfl rfl ?_
      refine L_y ((by first | exact y_pickT rfl rfl | exact y_pickF rfl rfl)) rfl ?_
      refine L_nil ?_
      refine hK3 _ _ ?_
      refine T_true rfl ?_
      refine T_seq fun K5 hK5 => ?_
      refine T_region ?_
      refine L_y (y_assign rfl) rfl ?_
      refine L_nil ?_
      refine hK5 _ _ ?_
      refine T_ret ?_
      repeat (first | with_reducible refine up_then ?_ | with_reducible refine up_in ?_)
      refine ret1 rfl rfl ?_
      first | exact ⟨_, rfl, S0.like0, by rw [hval]⟩ | exact ⟨_, rfl, S0.like0, by rw [atV, if_pos (by omega)]; rfl⟩
    ·
      refine L_gyes rfl rfl ?_
      refine L_y (y_move rfl) rfl ?_
      refine L_gyes rfl rfl ?_
      refine L_y (y_move rfl) rfl ?_
      refine L_gyes rfl rfl ?_
      refine L_y (y_gtr rfl rfl) rfl ?_
      refine L_y ((by first | exact y_pickT rfl rfl | exact y_pickF rfl rfl)) rfl ?_
      refine L_nil ?_
      refine hK3 _ _ ?_
      refine T_cond rfl (fun h19 => ?_) (fun h19 => ?_)
      ·
        refine T_seq fun K6 hK6 => ?_
        refine T_region ?_
        refine L_y (y_assign rfl) rfl ?_
        refine L_nil ?_
        refine hK6 _ _ ?_
        refine T_ret ?_
        repeat (first | with_reducible refine up_then ?_ | with_reducible refine up_in ?_)
        refine ret1 rfl rfl ?_
        first | exact ⟨_, rfl, S0.like0, by rw [hval]⟩ | exact ⟨_, rfl, S0.like0, by rw [atV, if_pos (by omega)]; rfl⟩
      ·
        obtain ⟨d0, rfl⟩ : ∃ d0 : Nat, d = (d0 : Int) := ⟨d.toNat, by omega⟩
        obtain ⟨x, hx⟩ : ∃ x, D[d0]? = some x := ⟨_, List.getElem?_eq_getElem (by omega)⟩
        obtain ⟨ad, hv1, hv2, hv3⟩ := hrows d0 x hx
        obtain ⟨j, hj⟩ : ∃ j : Nat, (d0 : Int) + off = j := ⟨((d0 : Int) + off).toNat, by omega⟩
        obtain ⟨y, hy⟩ : ∃ y, x[j]? = some y := ⟨_, List.getElem?_eq_getElem (by omega)⟩
        have hval : atV D d0 off = y := by rw [atV, if_neg (by omega), hj, Int.toNat_natCast, Int.toNat_natCast, List.getD_eq_getElem?_getD, List.getD_eq_getElem?_getD, hx, Option.getD_some, hy]; rfl
        refine T_skip ?_
        refine hK2 _ _ ?_
        refine T_seq fun K7 hK7 => ?_
        refine T_region ?_
        refine L_y (y_move rfl) rfl ?_
        refine L_y (y_nilp rfl) rfl ?_
        refine L_y (y_fieldA 2 Try.underlying54 rfl sz48 rfl rfl rfl) rfl ?_
        refine L_y (y_ldc Try.underlying48 rfl rfl (((S0.rdB hB).cell _).trans (show (#[Value.slice A n ca, .slice B m cb, .slice R nr cr, SS] : Array Value)[2]? = some (Value.slice R nr cr) from rfl))) rfl ?_
        refine L_y (y_move rfl) rfl ?_
        refine L_y (y_idx Try.underlying48 sz22 rfl rfl (S0.rd hR1) inferInstance (by omega)) rfl ?_
        refine L_y (y_ldr Try.underlying22 rfl rfl (S0.rd hR1) hv1) rfl ?_
        refine L_y (y_move rfl) rfl ?_
        refine L_y (y_move rfl) rfl ?_
        refine L_y (y_add rfl rfl (i64w (by omega))) rfl ?_
        refine L_y (y_idx Try.underlying22 sz3 rfl rfl (S0.rd hv2) (Nt.mk (by omega) : Nt _ (j)) (by omega)) rfl ?_
        refine L_y (y_ldr Try.underlying3 rfl rfl (S0.rd hv2) (iL_get _ _ _ hy)) rfl ?_
        refine L_y (y_assign rfl) rfl ?_
        refine L_nil ?_
        refine hK7 _ _ ?_
        refine T_ret ?_
        repeat (first | with_reducible refine up_then ?_ | with_reducible refine up_in ?_)
        refine ret1 rfl rfl ?_
        first | exact ⟨_, rfl, S0.like0, by rw [hval]⟩ | exact ⟨_, rfl, S0.like0, by rw [atV, if_pos (by omega)]; rfl⟩
end Go.Proofs.Ytgapdndbelnknaa
