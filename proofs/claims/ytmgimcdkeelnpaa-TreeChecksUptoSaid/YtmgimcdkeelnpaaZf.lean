/-
  General laws, fourth part: what a law's arguments are, read off the row's hypothesis.
-/
import Derived.Test.YtmgimcdkeelnpaaZm
import Derived.WalkKit
import Derived.ProofKit
import Derived.OpenShut
import Derived.ShutString
import Derived.ChangeOld
import Derived.Below
namespace Go.Proofs.Ytmgimcdkeelnpaa.Zk
open Go.ChangeShapes Go.WideShapes Go.ChangeAt Go.RowKit
open Go.ChangeMaps (open_string shut_string)
set_option linter.unusedVariables false
section
variable {H : Type} {enc : TypeId × Value → H} {P : Program} {w : World} {base : Nat} {spare : Nat → Bool} {held : Bool}
theorem u8_of (n : Int) (h : (Lit.int .u8 n).wf = true) : ∃ c : UInt8, n = (c.toNat : Int) := by
  have hb := bounds_u8 h
  refine ⟨UInt8.ofNat n.toNat, ?_⟩
  rw [UInt8.toNat_ofNat']
  omega
/-- A list all of whose places are bytes. -/
theorem bytes_of : ∀ (n : Nat) (cs : List Value), cs.length = n → (∀ i, i < n → ∃ c : UInt8, cs[i]? = some (.int .u8 (c.toNat : Int))) → ∃ l : List UInt8, l.length = n ∧ cs = bL l
  | 0, cs, hl, _ => ⟨[], rfl, List.eq_nil_of_length_eq_zero hl⟩
  | n + 1, [], hl, _ => by cases hl
  | n + 1, c :: cs, hl, h => by
    obtain ⟨l, h1, h2⟩ := bytes_of n cs (by simpa using hl) (fun i hi => by simpa using h (i + 1) (by omega))
    obtain ⟨b, hb⟩ := h 0 (by omega)
    simp only [List.getElem?_cons_zero, Option.some.injEq] at hb
    exact ⟨b :: l, by simp [h1], by rw [h2, hb]; rfl⟩
theorem open_bytes {r : Reach} {b0 : Nat} {t e : TypeId} {n : Nat} {v : Value} {d : DataW H} {p : List MemPlace} (ht : P.underlying t = some (.array n e)) (he : P.underlying e = some (.int .u8)) (hc : P.cellsOf e = 1) (hn : P.cellsOf t = n)
    (hv : Value.okWide P w r b0 t v) (h : DataW.Trod enc P w base spare held t v d p) : ∃ l : List UInt8, l.length = n ∧ v = .agg (bA l) := by
  simp only [Value.okWide, ht] at hv
  obtain ⟨cs, rfl, hs, _⟩ := hv
  obtain ⟨fuel, hf⟩ := h
  obtain ⟨xs, m, _, _, hl, hx, hg⟩ := DataW.trod_array ht hf
  have key : ∀ i, i < n → ∃ c : UInt8, cs.toList[i]? = some (.int .u8 (c.toNat : Int)) := by
    intro i hi
    have h1 := hg i hi
    rw [hc, Nat.mul_one] at h1
    have hx2 : xs[i]? = some (xs[i]'(by omega)) := List.getElem?_eq_getElem _
    rw [hx2] at h1
    have hci : i < cs.size := by omega
    have e1 : ((Value.agg cs).cells.toList.drop i).take 1 = [cs[i]] := by
      simp only [Value.cells]
      rw [List.drop_eq_getElem_cons (by simpa using hci)]
      simp
    rw [e1] at h1
    obtain ⟨a, ha, _, hw⟩ := DataW.trod_int he h1
    obtain ⟨c, rfl⟩ := u8_of a hw
    refine ⟨c, ?_⟩
    simp only [List.cons.injEq, and_true] at ha
    rw [List.getElem?_eq_getElem (by simpa using hci)]
    simp [ha]
  obtain ⟨l, h1, h2⟩ := bytes_of n cs.toList (by simp; omega) key
  exact ⟨l, h1, by rw [show cs = bA l by unfold bA; rw [← h2]]⟩
theorem read_bytes {fuel : Nat} {cs : List Value} {x : DataW H × List MemPlace} {t e : TypeId} {n : Nat} (ht : P.underlying t = some (.array n e)) (he : P.underlying e = some (.int .u8)) (hc : P.cellsOf e = 1) (hn : P.cellsOf t = n)
    (h : DataW.trod enc P w base spare held fuel t cs = some x) : ∃ l : List UInt8, l.length = n ∧ cs = bL l := by
  obtain ⟨xs, m, _, _, hl, hx, hg⟩ := DataW.trod_array ht h
  refine bytes_of n cs (by omega) fun i hi => ?_
  have h1 := hg i hi
  rw [hc, Nat.mul_one] at h1
  have hx2 : xs[i]? = some (xs[i]'(by omega)) := List.getElem?_eq_getElem _
  rw [hx2] at h1
  have hci : i < cs.length := by omega
  rw [List.drop_eq_getElem_cons hci, List.take_succ_cons, List.take_zero] at h1
  obtain ⟨a, ha, _, hw⟩ := DataW.trod_int he h1
  obtain ⟨c, rfl⟩ := u8_of a hw
  refine ⟨c, ?_⟩
  simp only [List.cons.injEq, and_true] at ha
  rw [List.getElem?_eq_getElem hci, ha]
end
end Go.Proofs.Ytmgimcdkeelnpaa.Zk
