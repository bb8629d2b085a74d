/-
  Delta, in plain Lean: ops, scripts, what they are worth.
-/
import Derived.Test.YtpcgldkllnkaeaaFa
import Derived.Test.YtpcgldkllnkaeaaZb
import Derived.Test.YtpcgldkllnkaeaaZs
import Derived.Test.YtpcgldkllnkaeaaZi
namespace Go.Proofs.Ytpcgldkllnkaeaa
open Go.RowKit Zk Zx
set_option linter.unusedVariables false
set_option linter.unusedSimpArgs false
/-- An op's worth. -/
structure OV where
  cp : Bool
  fr : Int
  n : Int
  l : List UInt8
deriving DecidableEq
/-- An op in memory. -/
structure OP where
  cp : Bool
  fr : Int
  n : Int
  p : Part
def OP.v (o : OP) : OV := ⟨o.cp, o.fr, o.n, o.p.l⟩
def opf (o : OP) : List Value := [.bool o.cp, .int .i64 o.fr, .int .i64 o.n, pv o.p]
theorem opf_len (o : OP) : (opf o).length = 4 := rfl
theorem opf_one (o : OP) : ∀ u ∈ opf o, u.oneCell' = true := fun u hu => by
  simp only [opf, pv, List.mem_cons, List.not_mem_nil, or_false] at hu
  rcases hu with rfl | rfl | rfl | rfl <;> rfl
theorem ops_one (l : List OP) : ∀ u ∈ l.flatMap opf, u.oneCell' = true := fun u hu => by
  obtain ⟨o, _, ho⟩ := List.mem_flatMap.1 hu
  exact opf_one o u ho
theorem ops_len (l : List OP) : (l.flatMap opf).length = l.length * 4 := flat_len opf 4 opf_len l
theorem ops_n {w : World} {A : Option Addr} {n c : Nat} {l : List OP} (h : Rs w 4 A n c (l.flatMap opf)) : n = l.length := by
  have := h.len
  rw [ops_len] at this
  omega
def OkO (w : World) (l : List OP) : Prop := ∀ o ∈ l, o.p.ok w
theorem OkO.like {w w' : World} {l : List OP} (h : OkO w l) (lk : Like w w') : OkO w' l := fun o ho => Rs.like (h o ho) lk
def scA (b t : Int) (A : Option Addr) (n c : Nat) : Array Value := #[.int .i64 b, .int .i64 t, .slice A n c]
def szV (o : OV) : Int := if o.cp then o.n else (o.l.length : Int)
def rtV (b : Int) (o : OV) : Bool := if o.cp then decide (1 ≤ o.n) && decide (o.n ≤ b) && decide (0 ≤ o.fr) && decide (o.fr ≤ b - o.n) && decide (o.l.length = 0) else decide (1 ≤ o.l.length) && decide (o.fr = 0) && decide (o.n = 0)
def chkL (b : Int) : Int → List OV → Bool
  | left, [] => decide (left = 0)
  | left, o :: r => rtV b o && decide (szV o ≤ left) && chkL b (left - szV o) r
def chkV (b t : Int) (l : List OV) : Bool := decide (0 ≤ b ∧ b ≤ 4000 ∧ 0 ≤ t ∧ t ≤ 4000) && chkL b t l
theorem sz_nonneg {b : Int} {o : OV} (h : rtV b o = true) : 1 ≤ szV o := by
  unfold rtV at h
  unfold szV
  split at h
  · rename_i hc
    rw [if_pos hc]
    simp at h
    omega
  · rename_i hc
    rw [if_neg hc]
    simp at h
    omega
end Go.Proofs.Ytpcgldkllnkaeaa
