/-
  Regions that draw their order, where two operations may come up: both are walked. General; nothing here names a program.
-/
import Derived.Test.YtmgimcdkeelnpaaZn
namespace Go.Proofs.Ytmgimcdkeelnpaa.Zx
open Go.RowKit Zk
set_option linter.unusedVariables false
set_option linter.unusedSimpArgs false
section
variable {P : Program} {N : Nat} {Q : Post} {env : Env} {w w0 : World} {M : Nat → Prop} {rs : List Res} {S : World → Prop} {ops : Array Oper} {listed : Array Bool} {fuel : Nat}
theorem DX_nil (hr : Region.ready .any ops listed = []) (h : Q .normal env w) : DX P N ops Q S listed fuel env w := fun _ _ a ha => wpAnyH_done hr ⟨env, ha, h⟩ fuel
theorem DX_o1 {d : Option Tmp} {op : Op} {ty : TypeId} {pos : String} {after : Array Edge} (i : Nat) (hr : Region.ready .any ops listed = [i]) (hi : ops[i]? = some ⟨d, op, ty, pos, after, none⟩)
    (h : O P N Q ⟨d, op, ty, pos, after, none⟩ env w (fun e' w' => S w' ∧ DX P N ops Q S (listed.setIfInBounds i true) fuel e' w')) : DX P N ops Q S listed (fuel + 1) env w := fun hs hS a ha => by
  refine wpAnyH_all hr (by simp) fun j hj => ?_
  obtain rfl := List.mem_singleton.1 hj
  unfold wpOp
  simp only [hi, Region.wanted, if_true]
  exact .inl (Oper.wp_mono (fun a' w' ⟨e', h3, h4, h5⟩ => ⟨h4, h5 hs h4 a' h3⟩) (h a ha))
theorem DX_o2 {d1 d2 : Option Tmp} {op1 op2 : Op} {ty1 ty2 : TypeId} {pos1 pos2 : String} {after1 after2 : Array Edge} (i j : Nat) (hr : Region.ready .any ops listed = [i, j]) (hi : ops[i]? = some ⟨d1, op1, ty1, pos1, after1, none⟩) (hj : ops[j]? = some ⟨d2, op2, ty2, pos2, after2, none⟩)
    (h1 : O P N Q ⟨d1, op1, ty1, pos1, after1, none⟩ env w (fun e' w' => S w' ∧ DX P N ops Q S (listed.setIfInBounds i true) fuel e' w'))
    (h2 : O P N Q ⟨d2, op2, ty2, pos2, after2, none⟩ env w (fun e' w' => S w' ∧ DX P N ops Q S (listed.setIfInBounds j true) fuel e' w')) : DX P N ops Q S listed (fuel + 1) env w := fun hs hS a ha => by
  refine wpAnyH_all hr (by simp) fun q hq => ?_
  have hq' : q = i ∨ q = j := by simpa using hq
  rcases hq' with rfl | rfl
  · unfold wpOp
    simp only [hi, Region.wanted, if_true]
    exact .inl (Oper.wp_mono (fun a' w' ⟨e', h3, h4, h5⟩ => ⟨h4, h5 hs h4 a' h3⟩) (h1 a ha))
  · unfold wpOp
    simp only [hj, Region.wanted, if_true]
    exact .inl (Oper.wp_mono (fun a' w' ⟨e', h3, h4, h5⟩ => ⟨h4, h5 hs h4 a' h3⟩) (h2 a ha))
theorem St.famCat {L1 L2 : List Res} (S : St w0 M (rs ++ [fam L1, fam L2]) w) : St w0 M (rs ++ [fam (L1 ++ L2)]) w := by
  have hap := S.apart
  rw [List.pairwise_append] at hap
  obtain ⟨a1, a2, a3⟩ := hap
  have h12 := (List.pairwise_cons.1 a2).1 (fam L2) (by simp)
  have f1 := S.res (fam L1) (by simp)
  have f2 := S.res (fam L2) (by simp)
  refine ⟨S.os, S.tape, S.output, S.size, S.old, fun q hq => ?_, ?_⟩
  · rcases List.mem_append.1 hq with hq | hq
    · exact S.res q (by simp [hq])
    · obtain rfl := List.mem_singleton.1 hq
      refine ⟨⟨fun q hq => ?_, ?_⟩, fun i ⟨q, hq, hi⟩ => ?_⟩
      · rcases List.mem_append.1 hq with h | h
        · exact f1.1.1 q h
        · exact f2.1.1 q h
      · rw [List.pairwise_append]
        exact ⟨f1.1.2, f2.1.2, fun a ha b hb i hi hbi => h12 i ⟨a, ha, hi⟩ ⟨b, hb, hbi⟩⟩
      · rcases List.mem_append.1 hq with h | h
        · exact f1.2 i ⟨q, h, hi⟩
        · exact f2.2 i ⟨q, h, hi⟩
  · rw [List.pairwise_append]
    refine ⟨a1, List.pairwise_singleton _ _, fun a ha b hb i hi hbi => ?_⟩
    obtain rfl := List.mem_singleton.1 hb
    obtain ⟨q, hq, hqi⟩ := hbi
    rcases List.mem_append.1 hq with h | h
    · exact a3 a ha (fam L1) (by simp) i hi ⟨q, h, hqi⟩
    · exact a3 a ha (fam L2) (by simp) i hi ⟨q, h, hqi⟩
end
end Go.Proofs.Ytmgimcdkeelnpaa.Zx
