/-
  Families: a piece taken out and put in, anywhere; rows that stay as they are. General; nothing here names a program.
-/
import Derived.Test.YtmgimcdkeelnpaaZb
import Derived.Test.YtmgimcdkeelnpaaZi
namespace Go.Proofs.Ytmgimcdkeelnpaa.Zx
open Go.RowKit Zk
set_option linter.unusedVariables false
set_option linter.unusedSimpArgs false
section
variable {w w0 : World} {M : Nat → Prop} {rs : List Res}
theorem split_at {α : Type} {l : List α} {k : Nat} {x : α} (h : l[k]? = some x) : ∃ a b, l = a ++ x :: b ∧ ∀ y, l.set k y = a ++ y :: b := by
  obtain ⟨h1, h2⟩ := List.getElem?_eq_some_iff.1 h
  refine ⟨l.take k, l.drop (k + 1), ?_, fun y => ?_⟩
  · rw [← h2, List.getElem_cons_drop, List.take_append_drop]
  · rw [List.set_eq_take_append_cons_drop, if_pos h1]
theorem mid_perm {α : Type} (a b : List α) (x : α) : (a ++ x :: b).Perm (a ++ b ++ [x]) :=
  List.perm_middle.trans ((List.perm_append_comm (l₁ := [x]) (l₂ := a ++ b)))
theorem St.famOutAt (S : St w0 M rs w) (k : Nat) {L L1 L2 : List Res} {r : Res} (hk : rs[k]? = some (fam L)) (hL : L = L1 ++ r :: L2) : St w0 M (rs.set k (fam (L1 ++ L2)) ++ [r]) w := by
  subst hL
  obtain ⟨a, b, h1, h2⟩ := split_at hk
  rw [h2]
  subst h1
  have S1 := (S.perm (mid_perm a b _)).famOut
  refine S1.perm ?_
  have := (mid_perm a b (fam (L1 ++ L2))).symm.append_right [r]
  simpa using this
theorem St.famInAt {L1 L2 : List Res} {r : Res} (S : St w0 M (rs ++ [r]) w) (k : Nat) (hk : rs[k]? = some (fam (L1 ++ L2))) : St w0 M (rs.set k (fam (L1 ++ r :: L2))) w := by
  obtain ⟨a, b, h1, h2⟩ := split_at hk
  rw [h2]
  subst h1
  have hp := (mid_perm a b (fam (L1 ++ L2))).append_right [r]
  have S1 : St w0 M ((a ++ b) ++ [fam (L1 ++ L2), r]) w := S.perm (by simpa using hp)
  exact S1.famIn.perm (mid_perm a b _).symm
/-- A row that is only read from now on. -/
theorem St.still (S : St w0 M rs w) (k : Nat) {e size n c : Nat} {A : Option Addr} {xs : List Value} (hk : rs[k]? = some (Zx.row e size A n c xs)) : St w0 M (rs.set k (fixed size A n c xs)) w :=
  S.upd k hk rfl rfl rfl (Nat.le_refl _) (fun _ _ _ => rfl) (rs_of_row (S.get k hk)) fun i ⟨ad, hn, hA, hi⟩ => .inl (by
    have hown : w.ownsRow 0 e size (.slice A n c) n xs := S.get k hk
    obtain ⟨b, cap, h1, _, _⟩ := hown.form hn
    injection h1 with hA2 _ _
    rw [hA2] at hA
    cases hA
    subst hi
    show (Value.slice A n c).ownBlock = _
    rw [hA2]
    rfl)
def partR (p : Part) : Res := fixed 1 p.A p.n p.c (bL p.l)
end
section
variable {P : Program} {env : Env} {w : World} {dst : Option Tmp} {ty : TypeId} {pos : String} {after : Array Edge} {g : Option (Nat × Bool)}
/-- An array, read where a slice points. -/
theorem y_ldArr {x : Operand} {A : Option Addr} {n c m : Nat} {l : List UInt8} {lt e : TypeId} (ht : P.underlying lt = some (.array m e)) (hsz : (P.info? lt).map (·.size) = some m) (hx : ev env x = some (.pointer A)) (hr : Rs w 1 A n c (bL l)) (hm : m ≤ n) (hpos : 0 < m) :
    Y P (Like w) env ⟨dst, .load lt x, ty, pos, after, g⟩ (.agg (bA (l.take m))) := by
  obtain ⟨ad, rfl, hb, hcell⟩ := hr.rd.2 (by omega)
  have hl := hr.lenb
  have hr2 : Rs w m (some ad) 1 1 (bL (l.take m)) := ⟨⟨by simp; omega, fun _ => ⟨ad, rfl, hb, fun j u hj => hcell j u (by
    have e1 : bL (l.take m) = (bL l).take m := by simp [bL]
    rw [e1, List.getElem?_take] at hj
    split at hj
    · exact hj
    · cases hj)⟩⟩, Nat.le_refl _, by omega⟩
  have h := y_ldn (P := P) (env := env) (dst := dst) (ty := ty) (pos := pos) (after := after) (g := g) (x := x) (k := 0) ht rfl hsz (by rw [hx]; simp [pR, Addr.add]) hr2 (by omega)
  have e2 : ((bL (l.take m)).drop (0 * m)).take m = bL (l.take m) := by
    rw [Nat.zero_mul, List.drop_zero]
    exact List.take_of_length_le (by simp; omega)
  rw [e2] at h
  exact h
end
end Go.Proofs.Ytmgimcdkeelnpaa.Zx
