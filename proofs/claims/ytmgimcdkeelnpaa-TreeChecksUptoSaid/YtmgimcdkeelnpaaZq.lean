/-
  Appends onto a row of the call's own, where the old slice is still read afterwards. General; nothing here names a program.
-/
import Derived.Test.YtmgimcdkeelnpaaZp
import Derived.ArgAppend
import Derived.Scope
namespace Go.Proofs.Ytmgimcdkeelnpaa.Zx
open Go.RowKit Zk
set_option linter.unusedVariables false
set_option linter.unusedSimpArgs false
section
variable {P : Program} {t e : TypeId} {z : Value} {size bytes : Nat}
theorem own_weak {w : World} {base : Nat} {v : Value} {n : Nat} {xs : List Value} (h : w.ownsRow base e size v n xs) : w.ownsRow 0 e size v n xs :=
  ⟨h.1, h.2.imp id fun ⟨g, cap, cur, a, _, c⟩ => ⟨g, cap, cur, a, Nat.zero_le _, c⟩⟩
theorem run_append_keep (w : World) (T : Elem P t e z size bytes) {A : Option Addr} {n c : Nat} {xs : List Value} (hown : w.ownsRow 0 e size (.slice A n c) n xs)
    {A' : Option Addr} {m c' : Nat} {news : List Value} (hr : Rs w size A' m c' news) (h1 : ∀ u ∈ news, u.oneCell' = true) (h63 : n + m ≤ maxLen) (hbytes : (n + m) * bytes ≤ 140737488355328) (ty : TypeId) :
    ∃ A2 c2 w', (Builtin.append_ #[t, t] ty #[.slice A n c, .slice A' m c']).run P w = .ok (.slice A2 (n + m) c2) w' ∧ w'.ownsRow 0 e size (.slice A2 (n + m) c2) (n + m) (xs ++ news) ∧ w.grownBy w' (Value.slice A n c).ownBlock ∧
      ((Value.slice A2 (n + m) c2).ownBlock = (Value.slice A n c).ownBlock ∨ ∀ i, (Value.slice A2 (n + m) c2).ownBlock = some i → w.heap.size ≤ i) ∧ Rs w' size A n c xs := by
  obtain ⟨i, hi, hz, hsize, hby⟩ := info_parts T.hi
  have hold := rs_of_row hown
  have hol := hold.len
  rcases Nat.eq_zero_or_pos n with hn | hn
  · obtain ⟨v', w', hrun, h2, h3, h4⟩ := run_append_any w 0 t ty e i z size bytes T.ht hi hz hsize hby T.hzs T.hsz _ n xs hown _ A' m c' news hr.rd h1 h63 hbytes (Nat.zero_le _)
    obtain ⟨A2, c2, rfl⟩ := own_form h2
    exact ⟨A2, c2, w', hrun, h2, h3, h4.imp id (fun e i hi => by rw [e] at hi; cases hi; exact Nat.le_refl _), ⟨hol, fun h => absurd h (by omega)⟩, hold.cap, hold.max⟩
  · obtain ⟨g, cap, hv, _, hlt⟩ := hown.form hn
    cases hv
    rcases A' with _ | ad
    · have hm : m = 0 := by
        rcases Nat.eq_zero_or_pos m with h0 | h0
        · exact h0
        · obtain ⟨ad, h, _⟩ := hr.rd.2 h0
          cases h
      subst hm
      have hn : news = [] := List.eq_nil_of_length_eq_zero (by simpa using hr.len)
      subst hn
      exact ⟨_, _, w, run_append_of_nil w 0 t ty e i size T.ht hi _ n xs hown c', by simpa using hown, World.grownBy.refl w _, .inl rfl, hold⟩
    · have hcells : ∀ j u, news[j]? = some u → w.cell? (ad.add j) = some u := by
        intro j u hu
        rcases Nat.eq_zero_or_pos m with h0 | h0
        · subst h0
          have hn : news = [] := List.eq_nil_of_length_eq_zero (by simpa using hr.len)
          subst hn
          simp at hu
        · obtain ⟨ad', h, _, hc⟩ := hr.rd.2 h0
          injection h with h
          subst h
          exact hc j u hu
      by_cases hroom : n + m ≤ c
      · obtain ⟨w', hrun, h2, h3⟩ := run_append_fits (P := P) w 0 t ty e i size T.ht hi hsize g n c xs hown ad m c' news hr.len hcells h1 hroom
        refine ⟨_, _, w', hrun, h2, h3, .inl rfl, ⟨hol, fun hp => ?_⟩, hold.cap, hold.max⟩
        obtain ⟨ad2, hA, hb, hc⟩ := (rs_of_row h2).rd.2 (by omega)
        exact ⟨ad2, hA, hb, fun j u hu => hc j u (by rw [List.getElem?_append_left (List.getElem?_eq_some_iff.1 hu).1]; exact hu)⟩
      · obtain ⟨ad2, hA, hb, hc⟩ := hold.rd.2 hn
        cases hA
        obtain ⟨v', w', hrun, h2, h3⟩ := run_append_arg_grows (P := P) w t ty e i z size bytes T.ht hi hz hsize hby T.hzs T.hsz ⟨g, 0, none⟩ n c xs hol hc ad m c' news hr.len hcells (by omega) h63 hbytes
        obtain ⟨A2, c2, rfl⟩ := own_form h2
        refine ⟨A2, c2, w', hrun, own_weak h2, ⟨h3.os, h3.tape, h3.output, h3.size, fun k hk _ => h3.block k hk (by simp)⟩, ?_, hold.like (like_grown h3)⟩
        exact .inr fun i hi => (h2.lt i hi).1
variable {N : Nat} {Q : Post} {K : Env → World → Prop} {env : Env} {w0 w : World} {M : Nat → Prop} {rs : List Res} {d : Tmp} {ty : TypeId} {pos : String} {after : Array Edge} {g : Option (Nat × Bool)}
/-- append onto a row of the call's own; the old slice still reads as it did. -/
theorem o_appK {s x : Operand} (TE : Elem P t e z size bytes) (S : St w0 M rs w) (k : Nat) {A : Option Addr} {n c : Nat} {xs : List Value} (hk : rs[k]? = some (row e size A n c xs))
    (hs : ev env s = some (.slice A n c)) {A' : Option Addr} {m c' : Nat} {news : List Value} (hx : ev env x = some (.slice A' m c')) (hr : Rs w size A' m c' news) (h1 : ∀ u ∈ news, u.oneCell' = true)
    (hd : Nat.blt d N = true) (hbytes : (n + m) * bytes ≤ 140737488355328) (h63 : n + m ≤ 9223372036854775807)
    (h : ∀ A2 c2 w', St w0 M (rs.set k (row e size A2 (n + m) c2 (xs ++ news))) w' → Rs w' size A n c xs → K ((d, .slice A2 (n + m) c2) :: env) w') :
    O P N Q ⟨some d, .call { callee := .builtin .append, args := #[s, x], argTypes := #[t, t] }, ty, pos, after, g⟩ env w K := fun a ha => by
  have hown : w.ownsRow 0 e size (.slice A n c) n xs := S.get k hk
  obtain ⟨A2, c2, w', hrun, h2, h3, h4, h5⟩ := run_append_keep w TE hown hr h1 h63 hbytes ty
  unfold Oper.wp execOp
  simp only [resolve, invoke, builtin, Sem.run_bind, Sem.run_pure, Result.andThen_ok, List.map_toArray, List.map_cons, List.map_nil, ha.eval hs, ha.eval hx, hrun]
  refine ⟨_, ha.put d _ hd, h A2 c2 w' ?_ h5⟩
  refine S.upd k hk h3.os h3.tape h3.output h3.size (fun i hi hn => h3.block i hi (fun e => hn e.symm)) h2 fun i hi => ?_
  change (Value.slice A2 (n + m) c2).ownBlock = some i at hi
  rcases h4 with h4 | h4
  · left; rw [h4] at hi; exact hi
  · right
    exact ⟨h4 i hi, (h2.lt _ hi).2⟩
theorem T_label {l : Nat} {c : Exit → Env → World → Prop} (h : c .normal env w) : T P N (.label l) c env w := fun a ha => wp_label ⟨env, ha, h⟩
/-- A scope through which nothing jumps. -/
theorem T_scope {c : Code} (hng : ∀ l e w, Q (.goto l) e w → False) (h : T P N c Q env w) : T P N (.scope c) Q env w := fun a ha =>
  wp_scope_straight (Code.wp_mono (by
    intro e a w h
    cases e with
    | goto l =>
      obtain ⟨e', _, h2⟩ := h
      exact (hng _ _ _ h2).elim
    | normal => exact h
    | exit i => exact h
    | ret => exact h
    | panic c => exact h
    | outgrown => exact h) (h a ha))
end
end Go.Proofs.Ytmgimcdkeelnpaa.Zx
