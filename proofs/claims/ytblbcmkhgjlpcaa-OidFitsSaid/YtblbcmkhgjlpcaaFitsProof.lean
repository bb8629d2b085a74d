/-
  OidFits: for any beginning and any two ids, OidFits returns true and leaves its arguments as they were.
  Conditions: none.
-/
import Derived.Test.YtblbcmkhgjlpcaaM
import Derived.Test.YtblbcmkhgjlpcaaZf
namespace Go.Proofs.Ytblbcmkhgjlpcaa.oidFits
open Go.ChangeShapes Go.WideShapes Go.ChangeAt Go.RowKit Zk
open Go.ChangeMaps (open_string shut_string)
set_option linter.unusedVariables false

theorem open_pf {H : Type} {enc : TypeId × Value → H} {w : World} {base : Nat} {spare : Nat → Bool} {held : Bool} {r : Reach} {b0 : Nat} {v : Value} {d : DataW H} {p : List MemPlace}
    (hv : Value.okWide Try.prog w r b0 30 v) (h : DataW.Trod enc Try.prog w base spare held 30 v d p) : ∃ (z : List UInt8) (n : Int), z.length = 32 ∧ v = .agg (pfA z n) := by
  obtain ⟨cs, rfl, hsz⟩ := okWide_struct Try.underlying30 hv
  obtain ⟨fuel, hf⟩ := h
  obtain ⟨xs, n, _, hx, hl, hlen, hg⟩ := DataW.trod_struct Try.underlying30 hf
  have c23 : Try.prog.cellsOf 23 = 32 := by kernel_rfl
  have c3 : Try.prog.cellsOf 3 = 1 := by kernel_rfl
  have c30 : Try.prog.cellsOf 30 = 33 := by kernel_rfl
  have e0 := hg 0 _ rfl
  have e1 := hg 1 _ rfl
  change DataW.trod enc Try.prog w base spare held n 23 ((cs.toList.drop 0).take (Try.prog.cellsOf 23)) = _ at e0
  change DataW.trod enc Try.prog w base spare held n 3 ((cs.toList.drop 32).take (Try.prog.cellsOf 3)) = _ at e1
  rw [c23, List.drop_zero] at e0
  rw [c3] at e1
  have hxl : xs.length = 2 := hlen
  have x0 : xs[0]? = some (xs[0]'(by omega)) := List.getElem?_eq_getElem _
  have x1 : xs[1]? = some (xs[1]'(by omega)) := List.getElem?_eq_getElem _
  rw [x0] at e0
  rw [x1] at e1
  obtain ⟨z, hz, hcs⟩ := read_bytes Try.underlying23 Try.underlying5 (by kernel_rfl) c23 e0
  obtain ⟨m, hm, _, _⟩ := DataW.trod_int Try.underlying3 e1
  refine ⟨z, m, hz, ?_⟩
  have : cs.toList = bL z ++ [.int .i64 m] := by
    rw [← hcs, ← hm]
    have hlen2 : cs.toList.length = 33 := by simp; omega
    rw [show (cs.toList.drop 32).take 1 = cs.toList.drop 32 from List.take_of_length_le (by simp; omega), List.take_append_drop]
  rw [show cs = pfA z m by unfold pfA; rw [← this]]

theorem own : ownKnob Try.prog.godebug = none := by kernel_rfl
theorem laidOut : laidOutB Try.prog = true := by kernel_rfl

set_option maxRecDepth 100000 in
theorem lifted (os : Os) (started : os.Started) (H : Type) (enc : TypeId × Value → H) :
    ReturnsInHanded {} Try.checked os 5 .any (Rows.oidFitsSpec.pre6 enc Try.prog Try.f5 Rows.oidFitsRow.domain false) (Rows.oidFitsSpec.post enc Try.prog Try.f5 false true false false) := by
  refine returnsInHanded_of_change (C := Try.checked) own started (by kernel_rfl) Try.func5
    (ChangeSpec.witness6 (enc := enc) (C := Try.checked) false ⟨#[], #[.agg (pfA (List.replicate 32 0) 0), .agg (bA (List.replicate 32 0)), .agg (bA (List.replicate 32 0))], []⟩ 8 (by kernel_rfl) (by kernel_rfl) (by kernel_rfl) (by kernel_rfl)) ?_
  intro W base args ds gs before hval0 hW hcnd _
  have hval : ∀ (j : Nat) t v, Try.f5.params[j]? = some t → args[j]? = some v → Value.okWide Try.prog W .any base t v := hval0
  have hW' := hW
  obtain ⟨p, q, hA0, hV, rfl, hfz, hnd⟩ := hW
  have hA : DataW.TrodAll enc Try.prog W 0 (fun _ => true) true Try.f5.params.toList args.toList ds p := hA0
  rw [Try.params5] at hA hval
  obtain ⟨v0, vs0, d0, ds0, p0, q0, hargs, rfl, rfl, h0, rr0⟩ := trodAll_cons hA
  obtain ⟨v1, vs1, d1, ds1, p1, q1, rfl, rfl, rfl, h1, rr1⟩ := trodAll_cons rr0
  obtain ⟨v2, vs2, d2, ds2, p2, q2, rfl, rfl, rfl, h2, rr2⟩ := trodAll_cons rr1
  obtain ⟨rfl, rfl, rfl⟩ := trodAll_nil rr2
  obtain rfl : args = #[v0, v1, v2] := by cases args; simp_all
  obtain ⟨rfl, rfl⟩ := trodVars_none hV
  have k0 := h0
  have lt0 : ∀ x ∈ p0, x.block < W.heap.size := by obtain ⟨m, hm⟩ := k0; exact DataW.trod_lt m _ _ _ hm
  have k1 := h1
  have lt1 : ∀ x ∈ p1, x.block < W.heap.size := by obtain ⟨m, hm⟩ := k1; exact DataW.trod_lt m _ _ _ hm
  have k2 := h2
  have lt2 : ∀ x ∈ p2, x.block < W.heap.size := by obtain ⟨m, hm⟩ := k2; exact DataW.trod_lt m _ _ _ hm
  obtain ⟨z0, n0, hz0, rfl⟩ := open_pf (hval 0 30 v0 rfl rfl) h0
  obtain ⟨z1, hz1, rfl⟩ := open_bytes Try.underlying23 Try.underlying5 (by kernel_rfl) (by kernel_rfl) (hval 1 23 v1 rfl rfl) h1
  obtain ⟨z2, hz2, rfl⟩ := open_bytes Try.underlying23 Try.underlying5 (by kernel_rfl) (by kernel_rfl) (hval 2 23 v2 rfl rfl) h2
  clear hA0 hval0
  refine (lfits_walk z0 z1 z2 n0 W hz0 hz1 hz2).mono fun e W' ⟨he, bel⟩ => ?_
  subst he
  exact ⟨_, rfl, _, _, _, [], _, [], hW', trodAll_mk1 (shut_bool Try.underlying4 _), (trodAll_cons_mk (Below.trod laidOut (by kernel_rfl) (of_decide_eq_true (by kernel_rfl)) k0 bel lt0) (trodAll_cons_mk (Below.trod laidOut (by kernel_rfl) (of_decide_eq_true (by kernel_rfl)) k1 bel lt1) (trodAll_cons_mk (Below.trod laidOut (by kernel_rfl) (of_decide_eq_true (by kernel_rfl)) k2 bel lt2) trodAll_mk0))), rfl, bel.frame _, fun h => by cases h⟩

theorem over : Rows.oidFitsRow.holds Try.pinned (OpenSpec.ofChange Rows.oidFitsSpec) :=
  OpenClaim.holds_of_wide 5 Try.f5 rfl rfl rfl rfl rfl rfl rfl ⟨rfl, rfl, rfl, rfl, rfl⟩ rfl rfl rfl rfl rfl (by kernel_rfl) Try.func5 (by kernel_rfl)
    (of_decide_eq_true (by kernel_rfl)) (by unfold Func.isWrapper; first | (rw [if_pos (by decide +kernel)]; kernel_rfl) | (rw [if_neg (by decide +kernel)]; exact ⟨rfl, rfl⟩))
    (fun os started H enc _ => lifted os started H enc)

theorem proved : Rows.OidFitsSaid := over
#print axioms proved
end Go.Proofs.Ytblbcmkhgjlpcaa.oidFits
