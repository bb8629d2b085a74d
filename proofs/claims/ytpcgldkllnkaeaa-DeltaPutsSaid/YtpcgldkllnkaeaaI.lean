/-
  Make: flush.
-/
import Derived.Test.YtpcgldkllnkaeaaH
namespace Go.Proofs.Ytpcgldkllnkaeaa
open Go.RowKit Zk Zx
set_option linter.unusedVariables false
set_option linter.unusedSimpArgs false

theorem Zx.St.rdBM {w0 w : World} {M : Nat → Prop} {rs : List Res} (S : St w0 M rs w) {g t : Nat} {cs : Array Value} (h : Blk w0 g t cs) (hM : ¬ M g) : Blk w g t cs := (S.old g h.lt hM).trans h
/-- A script that is being made: its block, its ops, their bytes. -/
def scr (b : Nat) (x y : Int) (A : Option Addr) (n c : Nat) (ops : List OP) (ps : List Part) : Res := sep (blk b 25 (scA x y A n c)) (sep (row 57 4 A n c (ops.flatMap opf)) (fam (ps.map partR)))
def InP (ops : List OP) (ps : List Part) : Prop := ∀ o ∈ ops, o.p = p0 ∨ o.p ∈ ps
theorem scA_set (x y : Int) (A : Option Addr) (n c : Nat) (A' : Option Addr) (n' c' : Nat) : (scA x y A n c).setIfInBounds 2 (.slice A' n' c') = scA x y A' n' c' := by simp [scA]
/-- New bytes, if there are any. -/
def fl (t : List UInt8) (s e : Nat) : List OV := if s < e then [⟨false, 0, 0, (t.drop s).take (e - s)⟩] else []
theorem InP.add {ops : List OP} {ps : List Part} (h : InP ops ps) {o : OP} : InP (ops ++ [o]) (ps ++ [o.p]) := fun q hq => by
  rcases List.mem_append.1 hq with hq | hq
  · rcases h q hq with h1 | h1
    · exact .inl h1
    · exact .inr (List.mem_append_left _ h1)
  · obtain rfl := List.mem_singleton.1 hq
    exact .inr (List.mem_append_right _ (List.mem_singleton.2 rfl))
theorem InP.add0 {ops : List OP} {ps : List Part} (h : InP ops ps) {o : OP} (ho : o.p = p0) : InP (ops ++ [o]) ps := fun q hq => by
  rcases List.mem_append.1 hq with hq | hq
  · exact h q hq
  · obtain rfl := List.mem_singleton.1 hq
    exact .inl ho
theorem famAdd {w0 w : World} {M : Nat → Prop} {rs : List Res} {ps : List Part} {p : Part} (S : St w0 M (rs ++ [partR p]) w) (k : Nat) (hk : rs[k]? = some (fam (ps.map partR))) : St w0 M (rs.set k (fam ((ps ++ [p]).map partR))) w := by
  have h := St.famInAt (L1 := ps.map partR) (L2 := []) S k (by rw [List.append_nil]; exact hk)
  rw [List.map_append]
  exact h


theorem fin_scr {w0 w : World} {r : Res} {b : Nat} {x y : Int} {A : Option Addr} {n' c : Nat} {xs : List Value} {ops : List OP} {ps : List Part} (S : St w0 r.dom [blk b 25 (scA x y A n' c), row 57 4 A n' c xs, fam (ps.map partR)] w) (hn : n' = ops.length) (hx : xs = ops.flatMap opf) : Turned w0 w r (scr b x y A ops.length c ops ps) := by
  subst hn; subst hx
  have S1 := St.sepj (rs := [blk b 25 (scA x y A ops.length c)]) S
  have S2 := St.sepj (rs := []) S1
  exact S2.turned1 0 rfl
theorem open_scr {w : World} {b : Nat} {x y : Int} {A : Option Addr} {n c : Nat} {ops : List OP} {ps : List Part} (h : (scr b x y A n c ops ps).holds w) (hd : ∀ i, (scr b x y A n c ops ps).dom i → i < w.heap.size) : St w (scr b x y A n c ops ps).dom [blk b 25 (scA x y A n c), row 57 4 A n c (ops.flatMap opf), fam (ps.map partR)] w :=
  St.seps (rs := [blk b 25 (scA x y A n c)]) (St.seps (rs := []) (St.borrow1 _ h hd))


set_option maxRecDepth 100000 in
theorem flush (e0 s0 b8 b6 b3 : Nat) (x y : Int) (A B : Option Addr) (c m d : Nat) (ops : List OP) (ps : List Part) (t : List UInt8) (w0 : World) (hw : (scr b6 x y A ops.length c ops ps).holds w0) (hd : ∀ i, (scr b6 x y A ops.length c ops ps).dom i → i < w0.heap.size) (h8 : Blk w0 b8 3 #[.int .i64 (s0 : Int)]) (h8M : ¬ (scr b6 x y A ops.length c ops ps).dom b8) (h3 : Blk w0 b3 22 #[.slice B m d]) (h3M : ¬ (scr b6 x y A ops.length c ops ps).dom b3) (ht : Rs w0 1 B m d (bL t)) (htM : ∀ ad, 0 < m → B = some ad → ¬ (scr b6 x y A ops.length c ops ps).dom ad.block) (hmt : m ≤ 4000) (he : e0 ≤ m) (hin : InP ops ps) (hol : ops.length ≤ 100000) :
    Calls Try.prog 40 #[.int .i64 (e0 : Int), .pointer (some ⟨b8, 0, none⟩), .pointer (some ⟨b6, 0, none⟩), .pointer (some ⟨b3, 0, none⟩)] w0 fun e w' => ∃ u, e = .returned u ∧ ∃ A' c' ops' ps', ops'.map OP.v = ops.map OP.v ++ fl t s0 e0 ∧ ops'.length ≤ ops.length + 1 ∧ InP ops' ps' ∧ Turned w0 w' (scr b6 x y A ops.length c ops ps) (scr b6 x y A' ops'.length c' ops' ps') := by
  refine enter1 (env := [(0, .int .i64 (e0 : Int)), (1, .pointer (some ⟨b8, 0, none⟩)), (2, .pointer (some ⟨b6, 0, none⟩)), (3, .pointer (some ⟨b3, 0, none⟩))]) [.int .i64 (e0 : Int), .pointer (some ⟨b8, 0, none⟩), .pointer (some ⟨b6, 0, none⟩), .pointer (some ⟨b3, 0, none⟩)] Try.func40 rfl Try.ntmps40 rfl rfl ?_
  have hmn := ht.lenb; have hcap2 := ht.cap; have hmax2 := ht.max; have S0 := open_scr hw hd; have hrc := (S0.row 1 rfl).cap; have hrm := (S0.row 1 rfl).max
  refine T_seq fun K1 hK1 => ?_
  refine T_region ?_
  refine L_y (y_move rfl) rfl ?_
  refine L_y (y_ldc Try.underlying3 rfl rfl (((S0.rdBM h8 h8M).cell _).trans (by rfl))) rfl ?_
  refine L_y (y_gtr rfl rfl) rfl ?_
  refine L_nil ?_
  refine hK1 _ _ ?_
  refine T_cond rfl (fun h7 => ?_) (fun h7 => ?_)
  ·
    refine T_zed [0, 1, 2, 3, 4, 5, 6, 7, 8] 9 [(0, 1), (1, 1), (2, 1), (3, 1), (4, 1), (5, 1), (6, 2), (7, 1), (8, 2), (9, 3), (10, 3), (11, 3)] hmix (by kernel_rfl) fun w1 l1 => ?_
    have S1 := S0.like l1
    refine ZA_B (Like w1) (Like.refl _) ?_
    refine ZB_y rfl (y_fieldA 2 Try.underlying25 rfl sz23 rfl rfl rfl) rfl ?_
    refine ZB_y rfl (y_ldc Try.underlying23 rfl rfl (((S1.blk 0 rfl).cell _).trans (by rfl))) rfl ?_
    refine ZB_y rfl (y_ldc Try.underlying22 rfl rfl (((S1.rdBM h3 h3M).cell _).trans (by rfl))) rfl ?_
    refine ZB_y rfl (y_ldc Try.underlying3 rfl rfl (((S1.rdBM h8 h8M).cell _).trans (by rfl))) rfl ?_
    refine ZB_y rfl (y_move rfl) rfl ?_
    refine ZB_y rfl (y_slice Try.underlying22 sz5 rfl rfl rfl (Nt.mk (by omega) : Nt _ (s0)) (Nt.mk (by omega) : Nt _ (e0)) (by omega) (by omega)) rfl ?_
    refine ZB_o rfl (o_call Try.func41 rfl rfl (bclone (cutA B d s0 1) (e0 - s0) (d - s0) ((t.drop s0).take (e0 - s0)) w1 (cut_mid (S1.rdM ht htM) (by omega) (by omega)) (by omega)) rfl rfl ?_)
    rintro e2 w2 ⟨v2, rfl, l2, A14, c14, rfl, O2⟩
    refine ⟨_, rfl, l2, ?_⟩
    have S2 := S1.adopt l2 O2
    have q2 := l2
    refine ZB_y rfl (y_build rfl (show _ = some #[Value.bool false, Value.int .i64 0, Value.int .i64 0, Value.slice A14 (e0 - s0) c14] by kernel_rfl)) rfl ?_
    refine ZB_o rfl (o_bslL [_, _, _, _] te23 zz57 S2 rfl rfl rfl rfl rfl rfl rfl rfl fun b3 w3 l3 S3 => ?_)
    have q3 := Like.trans q2 l3
    refine ⟨q3, ?_⟩
    refine ZB_c rfl (o_app te23 S3 1 rfl rfl rfl (by first | exact S3.row 1 rfl | exact S3.fix 2 rfl | exact S3.row 3 rfl | exact S3.row 4 rfl) (fun u hu => opf_one ⟨false, 0, 0, ⟨A14, e0 - s0, c14, []⟩⟩ u hu) rfl (by omega) (by omega) fun A4 c4 w4 S4 => ?_)
    have S4d := S4.drop (rs' := [_, _, _, _]) (.cons_cons _ (.cons_cons _ (.cons_cons _ (.cons_cons _ (.cons _ (.refl _))))))
    refine ZA_oy rfl (y_fieldA 2 Try.underlying25 rfl sz23 rfl rfl rfl) rfl ?_
    refine ZA_o rfl (o_st1 S4d 0 rfl rfl rfl rfl sz23 (by show 2 < 3; decide) fun w5 S5 => ?_)
    refine ZA_nil ?_
    first | refine end0 (fn := Try.f40) rfl ?_ | (simp only [thenQ, inB, if_true]; refine end0 (fn := Try.f40) rfl ?_)
    have S90 := S5.blkc 0 rfl (scA_set x y A ops.length c A4 (ops.length + 1) c4)
    have S91 := S90.still 3 rfl
    have S92 := famAdd (rs := [_, _, fam (ps.map partR)]) (ps := ps) (p := ⟨A14, e0 - s0, c14, (t.drop s0).take (e0 - s0)⟩) (S91.sel [0, 1, 2, 3] (by decide)) 2 rfl
    exact ⟨_, rfl, _, _, ops ++ [⟨false, 0, 0, ⟨A14, e0 - s0, c14, (t.drop s0).take (e0 - s0)⟩⟩], _, by rw [List.map_append]; unfold fl; rw [if_pos (by omega)]; rfl, by rw [List.length_append]; exact Nat.le_refl _, hin.add (o := ⟨false, 0, 0, ⟨A14, e0 - s0, c14, (t.drop s0).take (e0 - s0)⟩⟩), fin_scr (A := A4) (n' := ops.length + 1) (c := c4) (xs := ops.flatMap opf ++ opf ⟨false, 0, 0, ⟨A14, e0 - s0, c14, []⟩⟩) (ps := ps ++ [(⟨A14, e0 - s0, c14, (t.drop s0).take (e0 - s0)⟩ : Part)]) S92 (by rw [List.length_append]; rfl) (by rw [List.flatMap_append]; rfl)⟩
  ·
    refine T_skip ?_
    first | refine end0 (fn := Try.f40) rfl ?_ | (simp only [thenQ, inB, if_true]; refine end0 (fn := Try.f40) rfl ?_)
    exact ⟨_, rfl, A, c, ops, ps, by unfold fl; rw [if_neg (by omega), List.append_nil], Nat.le_succ _, hin, fin_scr S0 rfl rfl⟩
end Go.Proofs.Ytpcgldkllnkaeaa
