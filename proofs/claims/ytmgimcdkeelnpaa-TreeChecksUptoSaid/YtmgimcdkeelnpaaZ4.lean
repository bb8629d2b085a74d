/-
  Maps from strings to bools: sets of strings. General; nothing here names a program.
-/
import Derived.Test.YtmgimcdkeelnpaaZp
import Derived.Maps.Views
import Derived.StringKeys
namespace Go.Proofs.Ytmgimcdkeelnpaa.Zx
open Go.RowKit Zk Go.Maps
set_option linter.unusedVariables false
set_option linter.unusedSimpArgs false
section
variable {P : Program} {N : Nat} {Q : Post} {env : Env} {w w0 : World} {M : Nat → Prop} {rs : List Res} {K : Env → World → Prop} {d : Tmp} {dst : Option Tmp} {ty : TypeId} {pos : String} {after : Array Edge} {g : Option (Nat × Bool)}
def hasS (L : List ByteArray) (s : ByteArray) : Bool := L.any fun t => decide (t = s)
theorem hasS_iff {L : List ByteArray} {s : ByteArray} : hasS L s = true ↔ s ∈ L := by
  unfold hasS
  rw [List.any_eq_true]
  constructor
  · rintro ⟨t, h1, h2⟩
    rw [← of_decide_eq_true h2]
    exact h1
  · exact fun h => ⟨s, h, decide_eq_true rfl⟩
/-- The map holds just these. -/
def SM (D : DU) (L : List ByteArray) : Prop := IsMap D ∧ ∀ s : ByteArray, D.atKey (.string s.data.toList) (.lit (.bool false)) = .lit (.bool (hasS L s))
theorem SM.nil : SM (.map []) [] := ⟨⟨[], rfl⟩, fun s => rfl⟩
theorem bytes_inj {a b : ByteArray} (h : a.data.toList = b.data.toList) : a = b := by
  apply ByteArray.ext
  exact Array.toList_inj.1 h
theorem SM.put {D : DU} {L : List ByteArray} (h : SM D L) (s : ByteArray) : SM (D.put (.string s.data.toList) (.lit (.bool true))) (L ++ [s]) := by
  refine ⟨?_, fun t => ?_⟩
  · obtain ⟨es, rfl⟩ := h.1
    exact ⟨_, rfl⟩
  · by_cases e : t = s
    · subst e
      rw [atKey_put_same h.1 (show WideAt.IsKeyLit (.string _) from trivial), hasS_iff.2 (by simp)]
    · have e2 : hasS (L ++ [s]) t = hasS L t := by
        rw [Bool.eq_iff_iff, hasS_iff, hasS_iff]
        simp [e]
      rw [atKey_put_other (fun q => e (bytes_inj (by injection q))), h.2 t, e2]
theorem y_lookZ {t k e : TypeId} {b n : Nat} {D : DU} {L : List ByteArray} {m x : Operand} {s : ByteArray} (hown : w.ownsMap P k (plainElem P e) b n D) (hk : P.underlying k = some .string) (ht : P.underlying t = some (.map k e)) (he : P.underlying e = some .bool)
    (hz : ∀ w, (zeroValue e).run P w = .ok (.bool false) w) (hm : ev env m = some (.map (some b))) (hx : ev env x = some (.string s)) (hs : s.size ≤ maxLen) (hc : SM D L) :
    Y P (Like w) env ⟨dst, .lookup t m x false, ty, pos, after, g⟩ (.bool (hasS L s)) := fun N a w' ha hw => by
  have h2 : w'.ownsMap P k (plainElem P e) b n D := (mapR P k e b n D).stable w w' (fun i hi => by have hi' : i = b := hi; subst hi'; exact hw.block i hown.lt) hown
  obtain ⟨v, ps, hrun, hv⟩ := h2.lookup (Maps.string_keyed hk) ht (hz w') (plainElem_bool (H := Unit) he false) (Go.WideMaps.keyOf_string_mk hk hs)
  rw [hc.2 s] at hv
  have e1 : v = .bool (hasS L s) := by
    cases v with
    | bool c =>
      rw [plainElem_bool he] at hv
      have := Option.some.inj hv
      have h3 := congrArg Prod.fst this
      simp only [DataW.lit.injEq, Lit.bool.injEq] at h3
      rw [h3]
    | _ => simp [plainElem, he] at hv
  subst e1
  simp only [execOp, ha.eval hm, ha.eval hx, Sem.run_bind, hrun, Sem.run_pure, Result.andThen_ok]
theorem o_mapUpZ {t k e : TypeId} {b n : Nat} {D : DU} {m x v : Operand} {s : ByteArray} {c : Bool} (S : St w0 M rs w) (j : Nat) (hj : rs[j]? = some (mapR P k e b n D)) (hk : P.underlying k = some .string) (ht : P.underlying t = some (.map k e)) (he : P.underlying e = some .bool)
    (hm : ev env m = some (.map (some b))) (hx : ev env x = some (.string s)) (hv : ev env v = some (.bool c)) (hs : s.size ≤ maxLen) (hn : n < 9223372036854775807)
    (h : ∀ w', St w0 M (rs.set j (mapR P k e b (n + 1) (D.put (.string s.data.toList) (.lit (.bool c))))) w' → K env w') :
    O P N Q ⟨none, .mapUpdate t m x v, ty, pos, after, g⟩ env w K := fun a ha => by
  have hown : w.ownsMap P k (plainElem P e) b n D := S.get j hj
  obtain ⟨w', hrun, h1, h2⟩ := hown.update (Maps.string_keyed hk) ht (by unfold maxLen; exact hn) (Go.WideMaps.keyOf_string_mk hk hs) (plainElem_bool (H := Unit) he c)
  unfold Oper.wp
  simp only [execOp, ha.eval hm, ha.eval hx, ha.eval hv, Sem.run_bind, hrun, Sem.run_pure, Result.andThen_ok]
  refine ⟨env, ha, h w' (S.upd j hj h2.os h2.tape h2.output h2.size (fun i hi hn => h2.block i hi fun e => hn ?_) h1 fun i hi => .inl hi)⟩
  injection e with e
end
end Go.Proofs.Ytmgimcdkeelnpaa.Zx
