import Derived.Test.YtpcgldkllnkaeaaMgMakes2
import Derived.Test.YtpcgldkllnkaeaaRows
import Derived.Deep.CondSized
import Derived.JoinedCond
/-
  longest.
-/
namespace Go.Proofs.Ytpcgldkllnkaeaa
open Go.RowKit Zk Zx
set_option linter.unusedVariables false
set_option linter.unusedSimpArgs false

theorem take1 {α : Type} {l : List α} {k : Nat} {x : α} (hx : l[k]? = some x) : l.take (k + 1) = l.take k ++ [x] := by rw [List.take_add_one, hx]; rfl
theorem cut_tail {w : World} {A : Option Addr} {n c k : Nat} {a : List UInt8} (h : Rs w 1 A n c (bL a)) (hk : k ≤ n) : Rs w 1 (cutA A c k 1) (n - k) (c - k) (bL (a.drop k)) := by
  have hl := h.lenb
  have h2 := h.cut (l := k) (u := n) hk (Nat.le_refl _)
  have e : ((bL a).drop (k * 1)).take ((n - k) * 1) = bL (a.drop k) := by
    rw [Nat.mul_one, Nat.mul_one]
    have e2 : (bL a).drop k = bL (a.drop k) := by simp [bL]
    rw [e2]
    exact List.take_of_length_le (by simp; omega)
  rwa [e] at h2
theorem cut_mid {w : World} {A : Option Addr} {n c k u : Nat} {a : List UInt8} (h : Rs w 1 A n c (bL a)) (hk : k ≤ u) (hu : u ≤ n) : Rs w 1 (cutA A c k 1) (u - k) (c - k) (bL ((a.drop k).take (u - k))) := by
  have h2 := h.cut (l := k) (u := u) hk hu
  have e : ((bL a).drop (k * 1)).take ((u - k) * 1) = bL ((a.drop k).take (u - k)) := by
    rw [Nat.mul_one, Nat.mul_one]
    simp [bL]
  rwa [e] at h2
theorem six0 (t : List UInt8) : (six t 0).take 6 = t.take 6 := by unfold six; rw [List.drop_zero, List.take_take, Nat.min_self]


set_option maxRecDepth 100000 in
theorem longest (A B : Option Addr) (n c m d b : Nat) (a t : List UInt8) (pes : List PE) (w0 : World) (ha : Rs w0 1 A n c (bL a)) (ht : Rs w0 1 B m d (bL t)) (hmx : n ≤ 4000) (hmt : m ≤ 4000) (hm : (mapB 6 b (pes.map PE.ent)).holds w0) (hmd : ∀ i, i = b → i < w0.heap.size) (hf : (fam (pes.map PE.row)).holds w0) (hpi : PI a (a.length - 5) pes) :
    Calls Try.prog 42 #[.slice A n c, .map (some b), .slice B m d] w0 fun e w' => ∃ u, e = .returned u ∧ Like w0 w' ∧ u = .tuple #[.int .i64 ((bst a t).1 : Int), .int .i64 ((bst a t).2 : Int)] := by
  refine enter1 (env := [(0, .slice A n c), (1, .map (some b)), (2, .slice B m d)]) [.slice A n c, .map (some b), .slice B m d] Try.func42 rfl Try.ntmps42 rfl rfl ?_
  have hn := ha.lenb; have hcap := ha.cap; have hmax := ha.max; have hmn := ht.lenb; have hcap2 := ht.cap; have hmax2 := ht.max; have S0 := St.start w0 noM
  refine T_seq fun K1 hK1 => ?_
  refine T_region ?_
  refine L_y (y_assign rfl) rfl ?_
  refine L_y (y_assign rfl) rfl ?_
  refine L_nil ?_
  refine hK1 _ _ ?_
  refine T_seq fun K2 hK2 => ?_
  refine T_seq fun K3 hK3 => ?_
  refine T_region ?_
  refine L_y (y_move rfl) rfl ?_
  refine L_y (y_len Try.underlying22 rfl) rfl ?_
  refine L_y (y_lss rfl rfl) rfl ?_
  refine L_nil ?_
  refine hK3 _ _ ?_
  refine T_cond rfl (fun h15 => ?_) (fun h15 => ?_)
  ·
    refine T_seq fun K4 hK4 => ?_
    refine T_region ?_
    refine L_y (y_assign rfl) rfl ?_
    refine L_y (y_assign rfl) rfl ?_
    refine L_nil ?_
    refine hK4 _ _ ?_
    refine T_ret ?_
    repeat (first | with_reducible refine up_then ?_ | with_reducible refine up_in ?_)
    refine ret2 rfl rfl rfl ?_
    first | exact ⟨_, rfl, S0.like0, by unfold bst; rw [if_pos (by omega)]; rfl⟩ | exact ⟨_, rfl, S0.like0, by unfold bst; rw [if_neg (by omega), hs, List.take_of_length_le (by omega)]⟩
  ·
    refine T_skip ?_
    refine hK2 _ _ ?_
    refine T_seq fun K5 hK5 => ?_
    refine T_region ?_
    refine L_y (y_assign rfl) rfl ?_
    refine L_y (y_assign rfl) rfl ?_
    refine L_nil ?_
    refine hK5 _ _ ?_
    refine T_seq fun K6 hK6 => ?_
    refine T_seq fun K7 hK7 => ?_
    refine T_region ?_
    refine L_y (y_move rfl) rfl ?_
    refine L_y (y_move rfl) rfl ?_
    refine L_y (y_sliceH Try.underlying22 sz5 rfl rfl (Nt.mk rfl : Nt _ 6) (by omega)) rfl ?_
    refine L_y (y_arrAt Try.underlying98 rfl (Nat.le_refl 6)) rfl ?_
    refine L_y (y_ldArr Try.underlying98 sz98 rfl (cut_six (S0.rd ht) (by omega)) (Nat.le_refl 6) (by omega)) rfl ?_
    obtain ⟨X, xn, xc, hg, hX⟩ := look_pes hpi ((six t 0).take 6) hf
    rw [six0] at hX
    have hxl : xn = (posF a (a.length - 5) (t.take 6)).length := by have := hX.len; rw [nL_len] at this; omega
    have hxc := hX.cap; have hxm := hX.max; have hpl := posF_len a (a.length - 5) (t.take 6)
    refine L_y ((show Y Try.prog _ _ _ (Value.slice X xn xc) from by rw [← hg]; exact y_lookB (S0.keepM hm hmd (fun _ _ h => h)) Try.underlying74 Try.underlying98 Try.underlying5 sz5 zz99 rfl rfl (by rw [six0, List.length_take]; omega))) rfl ?_
    refine L_y (y_len Try.underlying99 rfl) rfl ?_
    refine L_y (y_move rfl) rfl ?_
    refine L_nil ?_
    refine hK7 _ _ ?_
    refine T_block ?_
    refine T_loop2 [(0, _), (2, _), (21, _), (22, _)] (fun (q : Nat) (s : Nat × Nat) => [(23, .int .i64 (q : Int)), (8, .int .i64 (s.1 : Int)), (9, .int .i64 (s.2 : Int))]) (fun (q : Nat) (s : Nat × Nat) => xn - q) (fun (q : Nat) (s : Nat × Nat) (w : World) => (q ≤ xn ∧ s = ((posF a (a.length - 5) (t.take 6)).take q).foldl (stepB a t) (0, 0)) ∧ St w0 noM [] w) 0 (0, 0) (Sub.cons rfl (by first | rfl | exact congrArg (Value.int _) (by omega)) (Sub.cons rfl (by first | rfl | exact congrArg (Value.int _) (by omega)) (Sub.cons rfl (by first | rfl | exact congrArg (Value.int _) (by omega)) (Sub.nil _)))) (Sub.cons rfl rfl (Sub.cons rfl rfl (Sub.cons rfl rfl (Sub.cons rfl rfl (Sub.nil _))))) ?_ ?_
    ·
      exact ⟨⟨Nat.zero_le _, rfl⟩, S0⟩
    ·
      intro q s w1 hrel
      obtain ⟨⟨hq, hs⟩, S1⟩ := hrel
      refine T_seq fun K8 hK8 => ?_
      refine T_region ?_
      refine L_y (y_lss rfl rfl) rfl ?_
      refine L_nil ?_
      refine hK8 _ _ ?_
      refine T_seq fun K9 hK9 => ?_
      refine T_cond rfl (fun h24 => ?_) (fun h24 => ?_)
      ·
        obtain ⟨v, hv⟩ : ∃ v, (posF a (a.length - 5) (t.take 6))[q]? = some v := ⟨_, List.getElem?_eq_getElem (by omega)⟩
        have hvl := posF_lt (List.mem_of_getElem? hv)
        refine T_skip ?_
        refine hK9 _ _ ?_
        refine T_seq fun K10 hK10 => ?_
        refine T_block ?_
        refine T_seq fun K11 hK11 => ?_
        refine T_region ?_
        refine L_y (y_idx Try.underlying99 sz3 rfl rfl (S1.rd hX) (Nt.mk (by omega) : Nt _ (q)) (by omega)) rfl ?_
        refine L_y (y_ldr Try.underlying3 rfl rfl (S1.rd hX) (nL_get hv)) rfl ?_
        refine L_y (y_assign rfl) rfl ?_
        refine L_nil ?_
        refine hK11 _ _ ?_
        refine T_seq fun K12 hK12 => ?_
        refine T_region ?_
        refine L_y (y_move rfl) rfl ?_
        refine L_y (y_move rfl) rfl ?_
        refine L_y (y_sliceL Try.underlying22 sz5 rfl rfl (Nt.mk (by omega) : Nt _ (v)) (by omega)) rfl ?_
        refine L_y (y_move rfl) rfl ?_
        refine L_o (o_call Try.func53 rfl rfl (palike (cutA A c v 1) B (n - v) (c - v) m d (a.drop v) t w1 (cut_tail (S1.rd ha) (by omega)) (S1.rd ht)) rfl rfl ?_)
        rintro e2 w2 ⟨v2, rfl, l2, rfl⟩
        refine ⟨_, rfl, ?_⟩
        have S2 := S1.like l2
        refine L_y (y_assign rfl) rfl ?_
        refine L_nil ?_
        refine hK12 _ _ ?_
        refine T_seq fun K13 hK13 => ?_
        refine T_region ?_
        refine L_y (y_move rfl) rfl ?_
        refine L_y (y_move rfl) rfl ?_
        refine L_y (y_gtr rfl rfl) rfl ?_
        refine L_nil ?_
        refine hK13 _ _ ?_
        refine T_cond rfl (fun h34 => ?_) (fun h34 => ?_)
        ·
          refine T_region ?_
          refine L_y (y_move rfl) rfl ?_
          refine L_y (y_move rfl) rfl ?_
          refine L_y (y_assign rfl) rfl ?_
          refine L_y (y_assign rfl) rfl ?_
          refine L_nil ?_
          refine hK10 _ _ ?_
          refine T_region ?_
          refine L_y (y_add rfl rfl (i64w (by omega))) rfl ?_
          refine L_y (y_move rfl) rfl ?_
          refine L_nil ?_
          refine ⟨q + 1, stepB a t s v, by omega, ⟨⟨by omega, by rw [take1 hv, List.foldl_append, ← hs]; rfl⟩, S2⟩, ?_⟩
          exact (Sub.cons rfl (by first | rfl | exact congrArg (Value.int _) (by omega)) (Sub.cons rfl (by first | rfl | (unfold stepB; rw [if_pos (by omega)]) | (unfold stepB; rw [if_neg (by omega)])) (Sub.cons rfl (by first | rfl | (unfold stepB; rw [if_pos (by omega)]) | (unfold stepB; rw [if_neg (by omega)])) (Sub.cons rfl rfl (Sub.cons rfl rfl (Sub.cons rfl rfl (Sub.cons rfl rfl (Sub.nil _))))))))
        ·
          refine T_skip ?_
          refine hK10 _ _ ?_
          refine T_region ?_
          refine L_y (y_add rfl rfl (i64w (by omega))) rfl ?_
          refine L_y (y_move rfl) rfl ?_
          refine L_nil ?_
          refine ⟨q + 1, stepB a t s v, by omega, ⟨⟨by omega, by rw [take1 hv, List.foldl_append, ← hs]; rfl⟩, S2⟩, ?_⟩
          exact (Sub.cons rfl (by first | rfl | exact congrArg (Value.int _) (by omega)) (Sub.cons rfl (by first | rfl | (unfold stepB; rw [if_pos (by omega)]) | (unfold stepB; rw [if_neg (by omega)])) (Sub.cons rfl (by first | rfl | (unfold stepB; rw [if_pos (by omega)]) | (unfold stepB; rw [if_neg (by omega)])) (Sub.cons rfl rfl (Sub.cons rfl rfl (Sub.cons rfl rfl (Sub.cons rfl rfl (Sub.nil _))))))))
      ·
        refine T_exit ?_
        refine hK6 _ _ ?_
        refine T_seq fun K14 hK14 => ?_
        refine T_region ?_
        refine L_y (y_move rfl) rfl ?_
        refine L_y (y_move rfl) rfl ?_
        refine L_y (y_assign rfl) rfl ?_
        refine L_y (y_assign rfl) rfl ?_
        refine L_nil ?_
        refine hK14 _ _ ?_
        refine T_ret ?_
        repeat (first | with_reducible refine up_then ?_ | with_reducible refine up_in ?_)
        refine ret2 rfl rfl rfl ?_
        first | exact ⟨_, rfl, S1.like0, by unfold bst; rw [if_pos (by omega)]; rfl⟩ | exact ⟨_, rfl, S1.like0, by unfold bst; rw [if_neg (by omega), hs, List.take_of_length_le (by omega)]⟩
end Go.Proofs.Ytpcgldkllnkaeaa

/-
  Make: flush.
-/
namespace Go.Proofs.Ytpcgldkllnkaeaa
open Go.RowKit Zk Zx
set_option linter.unusedVariables false
set_option linter.unusedSimpArgs false

theorem Zx.St.rdBM {w0 w : World} {M : Nat → Prop} {rs : List Res} (S : St w0 M rs w) {g t : Nat} {cs : Array Value} (h : Blk w0 g t cs) (hM : ¬ M g) : Blk w g t cs := (S.old g h.lt hM).trans h
/-- A script that is being made: its block, its ops, their bytes. -/
def scr (b : Nat) (x y : Int) (A : Option Addr) (n c : Nat) (ops : List OP) (ps : List Part) : Res := sep (blk b 25 (scA x y A n c)) (sep (row 57 4 A n c (ops.flatMap opf)) (fam (ps.map partR)))
def InP (ops : List OP) (ps : List Part) : Prop := ∀ o ∈ ops, o.p = p0 ∨ o.p ∈ ps
theorem scA_set (x y : Int) (A : Option Addr) (n c : Nat) (A' : Option Addr) (n' c' : Nat) : (scA x y A n c).setIfInBounds 2 (.slice A' n' c') = scA x y A' n' c' := by simp [scA]
/-- New bytes, if there are any. -/
def fl (t : List UInt8) (s e : Nat) : List OV := if s < e then [⟨false, 0, 0, (t.drop s).take (e - s)⟩] else []
theorem InP.add {ops : List OP} {ps : List Part} (h : InP ops ps) {o : OP} : InP (ops ++ [o]) (ps ++ [o.p]) := fun q hq => by
  rcases List.mem_append.1 hq with hq | hq
  · rcases h q hq with h1 | h1
    · exact .inl h1
    · exact .inr (List.mem_append_left _ h1)
  · obtain rfl := List.mem_singleton.1 hq
    exact .inr (List.mem_append_right _ (List.mem_singleton.2 rfl))
theorem InP.add0 {ops : List OP} {ps : List Part} (h : InP ops ps) {o : OP} (ho : o.p = p0) : InP (ops ++ [o]) ps := fun q hq => by
  rcases List.mem_append.1 hq with hq | hq
  · exact h q hq
  · obtain rfl := List.mem_singleton.1 hq
    exact .inl ho
theorem famAdd {w0 w : World} {M : Nat → Prop} {rs : List Res} {ps : List Part} {p : Part} (S : St w0 M (rs ++ [partR p]) w) (k : Nat) (hk : rs[k]? = some (fam (ps.map partR))) : St w0 M (rs.set k (fam ((ps ++ [p]).map partR))) w := by
  have h := St.famInAt (L1 := ps.map partR) (L2 := []) S k (by rw [List.append_nil]; exact hk)
  rw [List.map_append]
  exact h


theorem fin_scr {w0 w : World} {r : Res} {b : Nat} {x y : Int} {A : Option Addr} {n' c : Nat} {xs : List Value} {ops : List OP} {ps : List Part} (S : St w0 r.dom [blk b 25 (scA x y A n' c), row 57 4 A n' c xs, fam (ps.map partR)] w) (hn : n' = ops.length) (hx : xs = ops.flatMap opf) : Turned w0 w r (scr b x y A ops.length c ops ps) := by
  subst hn; subst hx
  have S1 := St.sepj (rs := [blk b 25 (scA x y A ops.length c)]) S
  have S2 := St.sepj (rs := []) S1
  exact S2.turned1 0 rfl
theorem open_scr {w : World} {b : Nat} {x y : Int} {A : Option Addr} {n c : Nat} {ops : List OP} {ps : List Part} (h : (scr b x y A n c ops ps).holds w) (hd : ∀ i, (scr b x y A n c ops ps).dom i → i < w.heap.size) : St w (scr b x y A n c ops ps).dom [blk b 25 (scA x y A n c), row 57 4 A n c (ops.flatMap opf), fam (ps.map partR)] w :=
  St.seps (rs := [blk b 25 (scA x y A n c)]) (St.seps (rs := []) (St.borrow1 _ h hd))


set_option maxRecDepth 100000 in
theorem flush (e0 s0 b8 b6 b3 : Nat) (x y : Int) (A B : Option Addr) (c m d : Nat) (ops : List OP) (ps : List Part) (t : List UInt8) (w0 : World) (hw : (scr b6 x y A ops.length c ops ps).holds w0) (hd : ∀ i, (scr b6 x y A ops.length c ops ps).dom i → i < w0.heap.size) (h8 : Blk w0 b8 3 #[.int .i64 (s0 : Int)]) (h8M : ¬ (scr b6 x y A ops.length c ops ps).dom b8) (h3 : Blk w0 b3 22 #[.slice B m d]) (h3M : ¬ (scr b6 x y A ops.length c ops ps).dom b3) (ht : Rs w0 1 B m d (bL t)) (htM : ∀ ad, 0 < m → B = some ad → ¬ (scr b6 x y A ops.length c ops ps).dom ad.block) (hmt : m ≤ 4000) (he : e0 ≤ m) (hin : InP ops ps) (hol : ops.length ≤ 100000) :
    Calls Try.prog 40 #[.int .i64 (e0 : Int), .pointer (some ⟨b8, 0, none⟩), .pointer (some ⟨b6, 0, none⟩), .pointer (some ⟨b3, 0, none⟩)] w0 fun e w' => ∃ u, e = .returned u ∧ ∃ A' c' ops' ps', ops'.map OP.v = ops.map OP.v ++ fl t s0 e0 ∧ ops'.length ≤ ops.length + 1 ∧ InP ops' ps' ∧ Turned w0 w' (scr b6 x y A ops.length c ops ps) (scr b6 x y A' ops'.length c' ops' ps') := by
  refine enter1 (env := [(0, .int .i64 (e0 : Int)), (1, .pointer (some ⟨b8, 0, none⟩)), (2, .pointer (some ⟨b6, 0, none⟩)), (3, .pointer (some ⟨b3, 0, none⟩))]) [.int .i64 (e0 : Int), .pointer (some ⟨b8, 0, none⟩), .pointer (some ⟨b6, 0, none⟩), .pointer (some ⟨b3, 0, none⟩)] Try.func40 rfl Try.ntmps40 rfl rfl ?_
  have hmn := ht.lenb; have hcap2 := ht.cap; have hmax2 := ht.max; have S0 := open_scr hw hd; have hrc := (S0.row 1 rfl).cap; have hrm := (S0.row 1 rfl).max
  refine T_seq fun K1 hK1 => ?_
  refine T_region ?_
  refine L_y (y_move rfl) rfl ?_
  refine L_y (y_ldc Try.underlying3 rfl rfl (((S0.rdBM h8 h8M).cell _).trans (by rfl))) rfl ?_
  refine L_y (y_gtr rfl rfl) rfl ?_
  refine L_nil ?_
  refine hK1 _ _ ?_
  refine T_cond rfl (fun h7 => ?_) (fun h7 => ?_)
  ·
    refine T_zed [0, 1, 2, 3, 4, 5, 6, 7, 8] 9 [(0, 1), (1, 1), (2, 1), (3, 1), (4, 1), (5, 1), (6, 2), (7, 1), (8, 2), (9, 3), (10, 3), (11, 3)] hmix (by kernel_rfl) fun w1 l1 => ?_
    have S1 := S0.like l1
    refine ZA_B (Like w1) (Like.refl _) ?_
    refine ZB_y rfl (y_fieldA 2 Try.underlying25 rfl sz23 rfl rfl rfl) rfl ?_
    refine ZB_y rfl (y_ldc Try.underlying23 rfl rfl (((S1.blk 0 rfl).cell _).trans (by rfl))) rfl ?_
    refine ZB_y rfl (y_ldc Try.underlying22 rfl rfl (((S1.rdBM h3 h3M).cell _).trans (by rfl))) rfl ?_
    refine ZB_y rfl (y_ldc Try.underlying3 rfl rfl (((S1.rdBM h8 h8M).cell _).trans (by rfl))) rfl ?_
    refine ZB_y rfl (y_move rfl) rfl ?_
    refine ZB_y rfl (y_slice Try.underlying22 sz5 rfl rfl rfl (Nt.mk (by omega) : Nt _ (s0)) (Nt.mk (by omega) : Nt _ (e0)) (by omega) (by omega)) rfl ?_
    refine ZB_o rfl (o_call Try.func41 rfl rfl (bclone (cutA B d s0 1) (e0 - s0) (d - s0) ((t.drop s0).take (e0 - s0)) w1 (cut_mid (S1.rdM ht htM) (by omega) (by omega)) (by omega)) rfl rfl ?_)
    rintro e2 w2 ⟨v2, rfl, l2, A14, c14, rfl, O2⟩
    refine ⟨_, rfl, l2, ?_⟩
    have S2 := S1.adopt l2 O2
    have q2 := l2
    refine ZB_y rfl (y_build rfl (show _ = some #[Value.bool false, Value.int .i64 0, Value.int .i64 0, Value.slice A14 (e0 - s0) c14] by kernel_rfl)) rfl ?_
    refine ZB_o rfl (o_bslL [_, _, _, _] te23 zz57 S2 rfl rfl rfl rfl rfl rfl rfl rfl fun b3 w3 l3 S3 => ?_)
    have q3 := Like.trans q2 l3
    refine ⟨q3, ?_⟩
    refine ZB_c rfl (o_app te23 S3 1 rfl rfl rfl (by first | exact S3.row 1 rfl | exact S3.fix 2 rfl | exact S3.row 3 rfl | exact S3.row 4 rfl) (fun u hu => opf_one ⟨false, 0, 0, ⟨A14, e0 - s0, c14, []⟩⟩ u hu) rfl (by omega) (by omega) fun A4 c4 w4 S4 => ?_)
    have S4d := S4.drop (rs' := [_, _, _, _]) (.cons_cons _ (.cons_cons _ (.cons_cons _ (.cons_cons _ (.cons _ (.refl _))))))
    refine ZA_oy rfl (y_fieldA 2 Try.underlying25 rfl sz23 rfl rfl rfl) rfl ?_
    refine ZA_o rfl (o_st1 S4d 0 rfl rfl rfl rfl sz23 (by show 2 < 3; decide) fun w5 S5 => ?_)
    refine ZA_nil ?_
    first | refine end0 (fn := Try.f40) rfl ?_ | (simp only [thenQ, inB, if_true]; refine end0 (fn := Try.f40) rfl ?_)
    have S90 := S5.blkc 0 rfl (scA_set x y A ops.length c A4 (ops.length + 1) c4)
    have S91 := S90.still 3 rfl
    have S92 := famAdd (rs := [_, _, fam (ps.map partR)]) (ps := ps) (p := ⟨A14, e0 - s0, c14, (t.drop s0).take (e0 - s0)⟩) (S91.sel [0, 1, 2, 3] (by decide)) 2 rfl
    exact ⟨_, rfl, _, _, ops ++ [⟨false, 0, 0, ⟨A14, e0 - s0, c14, (t.drop s0).take (e0 - s0)⟩⟩], _, by rw [List.map_append]; unfold fl; rw [if_pos (by omega)]; rfl, by rw [List.length_append]; exact Nat.le_refl _, hin.add (o := ⟨false, 0, 0, ⟨A14, e0 - s0, c14, (t.drop s0).take (e0 - s0)⟩⟩), fin_scr (A := A4) (n' := ops.length + 1) (c := c4) (xs := ops.flatMap opf ++ opf ⟨false, 0, 0, ⟨A14, e0 - s0, c14, []⟩⟩) (ps := ps ++ [(⟨A14, e0 - s0, c14, (t.drop s0).take (e0 - s0)⟩ : Part)]) S92 (by rw [List.length_append]; rfl) (by rw [List.flatMap_append]; rfl)⟩
  ·
    refine T_skip ?_
    first | refine end0 (fn := Try.f40) rfl ?_ | (simp only [thenQ, inB, if_true]; refine end0 (fn := Try.f40) rfl ?_)
    exact ⟨_, rfl, A, c, ops, ps, by unfold fl; rw [if_neg (by omega), List.append_nil], Nat.le_succ _, hin, fin_scr S0 rfl rfl⟩
end Go.Proofs.Ytpcgldkllnkaeaa

/-
  Make.
-/
namespace Go.Proofs.Ytpcgldkllnkaeaa
open Go.RowKit Zk Zx
set_option linter.unusedVariables false
set_option linter.unusedSimpArgs false

/-- What a callee made. -/
theorem Zx.St.adoptS {w0 w w' : World} {M : Nat → Prop} {rs qs : List Res} (S : St w0 M rs w) (T : St w noM qs w') : St w0 M (rs ++ qs) w' := by
  refine ⟨T.os.trans S.os, T.tape.trans S.tape, T.output.trans S.output, Nat.le_trans S.size T.size, fun i hi hM => (T.old i (Nat.lt_of_lt_of_le hi S.size) (fun h => h)).trans (S.old i hi hM), fun r hr => ?_, ?_⟩
  · rcases List.mem_append.1 hr with hr | hr
    · obtain ⟨h1, h2⟩ := S.res r hr
      exact ⟨r.stable w w' (fun i hi => T.old i (h2 i hi).1 (fun h => h)) h1, fun i hi => ⟨Nat.lt_of_lt_of_le (h2 i hi).1 T.size, (h2 i hi).2⟩⟩
    · obtain ⟨h1, h2⟩ := T.res r hr
      exact ⟨h1, fun i hi => ⟨(h2 i hi).1, .inl (by
        rcases (h2 i hi).2 with h | h
        · exact Nat.le_trans S.size h
        · exact h.elim)⟩⟩
  · rw [List.pairwise_append]
    refine ⟨S.apart, T.apart, fun a ha b hb i hi hbi => ?_⟩
    have h1 := ((S.res a ha).2 i hi).1
    rcases ((T.res b hb).2 i hbi).2 with h | h
    · omega
    · exact h
section
variable {w0 w w' : World} {M : Nat → Prop} {rs : List Res} {b : Nat} {x y : Int} {A A' : Option Addr} {n n' c c' : Nat} {ops ops' : List OP} {ps ps' : List Part}
theorem packScr (S : St w0 M (rs ++ [blk b 25 (scA x y A n c), row 57 4 A n c (ops.flatMap opf), fam (ps.map partR)]) w) : St w0 M (rs ++ [scr b x y A n c ops ps]) w := by
  have S1 := St.sepj (rs := rs ++ [blk b 25 (scA x y A n c)]) (r := row 57 4 A n c (ops.flatMap opf)) (s := fam (ps.map partR)) (by simpa using S)
  exact St.sepj (rs := rs) (by simpa using S1)
theorem unpackScr (S : St w0 M (rs ++ [scr b x y A n c ops ps]) w) : St w0 M (rs ++ [blk b 25 (scA x y A n c), row 57 4 A n c (ops.flatMap opf), fam (ps.map partR)]) w := by
  have S1 := St.seps (rs := rs) S
  have S2 := St.seps (rs := rs ++ [blk b 25 (scA x y A n c)]) (r := row 57 4 A n c (ops.flatMap opf)) (s := fam (ps.map partR)) (by simpa using S1)
  simpa using S2
theorem flushScr (S : St w0 M (rs ++ [blk b 25 (scA x y A n c), row 57 4 A n c (ops.flatMap opf), fam (ps.map partR)]) w) (T : Turned w w' (scr b x y A n c ops ps) (scr b x y A' n' c' ops' ps')) :
    St w0 M (rs ++ [blk b 25 (scA x y A' n' c'), row 57 4 A' n' c' (ops'.flatMap opf), fam (ps'.map partR)]) w' := by
  have S1 := (packScr S).turn rs.length (by simp) T
  refine unpackScr ?_
  simpa using S1
theorem holdScr (S : St w0 M (rs ++ [blk b 25 (scA x y A n c), row 57 4 A n c (ops.flatMap opf), fam (ps.map partR)]) w) :
    (scr b x y A n c ops ps).holds w ∧ (∀ i, (scr b x y A n c ops ps).dom i → i < w.heap.size) ∧ (∀ r ∈ rs, ∀ i, r.dom i → ¬ (scr b x y A n c ops ps).dom i) ∧ (∀ i, i < w0.heap.size → ¬ M i → ¬ (scr b x y A n c ops ps).dom i) := by
  have S1 := packScr S
  obtain ⟨h1, h2⟩ := S1.res (scr b x y A n c ops ps) (by simp)
  have hap := S1.apart
  rw [List.pairwise_append] at hap
  refine ⟨h1, fun i hi => (h2 i hi).1, fun r hr i hi => hap.2.2 r hr _ (by simp) i hi, fun i hi hM hd => ?_⟩
  rcases (h2 i hd).2 with h | h
  · omega
  · exact hM h
end
theorem scA_one (x y : Int) (A : Option Addr) (n c : Nat) : ∀ u ∈ (scA x y A n c).toList, u.oneCell' = true := fun u hu => by
  have : u ∈ [Value.int .i64 x, .int .i64 y, .slice A n c] := hu
  simp only [List.mem_cons, List.not_mem_nil, or_false] at this
  rcases this with rfl | rfl | rfl <;> rfl
/-- The ops that are still to come. -/
def mkR (a t : List UInt8) : Nat → Nat → Nat → List OV
  | 0, _, since => fl t since t.length
  | f + 1, at_, since => if at_ < t.length then (if (bst a (t.drop at_)).2 = 0 then mkR a t f (at_ + 1) since else fl t since at_ ++ [⟨true, ((bst a (t.drop at_)).1 : Int), ((bst a (t.drop at_)).2 : Int), []⟩] ++ mkR a t f (at_ + (bst a (t.drop at_)).2) (at_ + (bst a (t.drop at_)).2)) else fl t since t.length
/-- The script that makes t of a. -/
def mkV (a t : List UInt8) : List OV := mkR a t t.length 0 0
theorem mkR_end {a t : List UInt8} {f k s : Nat} (h : t.length ≤ k) : mkR a t f k s = fl t s t.length := by
  cases f with
  | zero => rfl
  | succ f => unfold mkR; rw [if_neg (by omega)]
theorem mkR_zero {a t : List UInt8} {f k s : Nat} (h : k < t.length) (h0 : (bst a (t.drop k)).2 = 0) : mkR a t (f + 1) k s = mkR a t f (k + 1) s := by
  conv => lhs; unfold mkR
  rw [if_pos h, if_pos h0]
theorem mkR_copy {a t : List UInt8} {f k s : Nat} (h : k < t.length) (h0 : (bst a (t.drop k)).2 ≠ 0) : mkR a t (f + 1) k s = fl t s k ++ [⟨true, ((bst a (t.drop k)).1 : Int), ((bst a (t.drop k)).2 : Int), []⟩] ++ mkR a t f (k + (bst a (t.drop k)).2) (k + (bst a (t.drop k)).2) := by
  conv => lhs; unfold mkR
  rw [if_pos h, if_neg h0]
/-- So far made, with what is to come, is all. -/
def MKI (a t : List UInt8) (k s : Nat) (ops : List OP) : Prop := ∃ f, t.length - k ≤ f ∧ ops.map OP.v ++ mkR a t f k s = mkV a t
theorem MKI.start (a t : List UInt8) : MKI a t 0 0 [] := ⟨t.length, by omega, rfl⟩
theorem MKI.zero {a t : List UInt8} {k s : Nat} {ops : List OP} (h : MKI a t k s ops) (hk : k < t.length) (h0 : (bst a (t.drop k)).2 = 0) : MKI a t (k + 1) s ops := by
  obtain ⟨f, h1, h2⟩ := h
  obtain ⟨g, rfl⟩ : ∃ g, f = g + 1 := ⟨f - 1, by omega⟩
  rw [mkR_zero hk h0] at h2
  exact ⟨g, by omega, h2⟩
theorem MKI.copy {a t : List UInt8} {k s : Nat} {ops ops' : List OP} (h : MKI a t k s ops) (hk : k < t.length) (h0 : (bst a (t.drop k)).2 ≠ 0) (ho : ops'.map OP.v = ops.map OP.v ++ fl t s k ++ [⟨true, ((bst a (t.drop k)).1 : Int), ((bst a (t.drop k)).2 : Int), []⟩]) :
    MKI a t (k + (bst a (t.drop k)).2) (k + (bst a (t.drop k)).2) ops' := by
  obtain ⟨f, h1, h2⟩ := h
  obtain ⟨g, rfl⟩ : ∃ g, f = g + 1 := ⟨f - 1, by omega⟩
  rw [mkR_copy hk h0] at h2
  refine ⟨g, by omega, ?_⟩
  rw [ho, ← h2]
  simp only [List.append_assoc]
theorem MKI.done {a t : List UInt8} {k s : Nat} {ops ops' : List OP} (h : MKI a t k s ops) (hk : t.length ≤ k) (ho : ops'.map OP.v = ops.map OP.v ++ fl t s t.length) : ops'.map OP.v = mkV a t := by
  obtain ⟨f, h1, h2⟩ := h
  rw [mkR_end hk] at h2
  rw [ho, h2]
theorem okO_of {w : World} {ops : List OP} {ps : List Part} (h : InP ops ps) (hf : (fam (ps.map partR)).holds w) : OkO w ops := fun o ho => by
  rcases h o ho with h1 | h1
  · rw [h1]; exact Rs.nil w 1
  · exact hf.1 (partR o.p) (List.mem_map.2 ⟨_, h1, rfl⟩)


set_option maxRecDepth 100000 in
theorem pmake (A B : Option Addr) (n c m d : Nat) (a t : List UInt8) (w0 : World) (ha : Rs w0 1 A n c (bL a)) (ht : Rs w0 1 B m d (bL t)) (hmx : n ≤ 4000) (hmt : m ≤ 4000) :
    Calls Try.prog 22 #[.slice A n c, .slice B m d] w0 fun e w' => ∃ u, e = .returned u ∧ Like w0 w' ∧ ∃ A' c' ops, u = .tuple #[.agg (scA (n : Int) (m : Int) A' ops.length c'), .int .i64 0] ∧ Rs w' 4 A' ops.length c' (ops.flatMap opf) ∧ OkO w' ops ∧ ops.map OP.v = mkV a t := by
  refine enter1 (env := [(0, .slice A n c), (1, .slice B m d)]) [.slice A n c, .slice B m d] Try.func22 rfl Try.ntmps22 rfl rfl ?_
  have hn := ha.lenb; have hcap := ha.cap; have hmax := ha.max; have hmn := ht.lenb; have hcap2 := ht.cap; have hmax2 := ht.max; have S0 := St.start w0 noM
  refine T_seq fun K1 hK1 => ?_
  refine T_region ?_
  refine L_o (o_box1 rfl rfl S0 rfl fun b1 w1 hb1 S1 => ?_)
  refine L_o (o_alloc zz25 S1 rfl fun b2 w2 hb2 S2 => ?_)
  refine L_y (y_assign rfl) rfl ?_
  refine L_nil ?_
  refine hK1 _ _ ?_
  refine T_seq fun K2 hK2 => ?_
  refine T_seq fun K3 hK3 => ?_
  refine T_region ?_
  refine L_y (y_move rfl) rfl ?_
  refine L_y (y_len Try.underlying22 rfl) rfl ?_
  refine L_y (y_gtr rfl rfl) rfl ?_
  refine L_y (y_move rfl) rfl ?_
  refine L_split 16 rfl (fun h16 => ?_) (fun h16 => ?_)
  ·
    omega
  ·
    refine L_gyes rfl rfl ?_
    refine L_y (y_ldc Try.underlying22 rfl rfl (((S2.blk 0 rfl).cell _).trans (by rfl))) rfl ?_
    refine L_gyes rfl rfl ?_
    refine L_y (y_len Try.underlying22 rfl) rfl ?_
    refine L_gyes rfl rfl ?_
    refine L_y (y_gtr rfl rfl) rfl ?_
    refine L_y ((by first | exact y_pickT rfl rfl | exact y_pickF rfl rfl)) rfl ?_
    refine L_nil ?_
    refine hK3 _ _ ?_
    refine T_cond rfl (fun h20 => ?_) (fun h20 => ?_)
    ·
      omega
    ·
      refine T_skip ?_
      refine hK2 _ _ ?_
      refine T_seq fun K4 hK4 => ?_
      refine T_region ?_
      refine L_y (y_move rfl) rfl ?_
      refine L_y (y_len Try.underlying22 rfl) rfl ?_
      refine L_y (y_ldc Try.underlying22 rfl rfl (((S2.blk 0 rfl).cell _).trans (by rfl))) rfl ?_
      refine L_y (y_len Try.underlying22 rfl) rfl ?_
      refine L_y (y_build rfl (show _ = some (scA (n : Int) (m : Int) none 0 0) by kernel_rfl)) rfl ?_
      refine L_o (o_alloc zz25 S2 rfl fun b4 w4 hb4 S4 => ?_)
      refine L_o (o_stW S4 2 rfl rfl rfl sz25 rfl (scA_one _ _ _ _ _) fun w5 S5 => ?_)
      refine L_nil ?_
      refine hK4 _ _ ?_
      refine T_seq fun K5 hK5 => ?_
      refine T_region ?_
      refine L_y (y_move rfl) rfl ?_
      refine L_o (o_call Try.func39 rfl rfl (places A n c a w5 (S5.rd ha) hmx) rfl rfl ?_)
      rintro e6 w6 ⟨v6, rfl, l6, bm, pes, rfl, hpi, T6⟩
      refine ⟨_, rfl, ?_⟩
      have S6 := S5.adoptS T6
      refine L_y (y_assign rfl) rfl ?_
      refine L_nil ?_
      refine hK5 _ _ ?_
      refine T_seq fun K6 hK6 => ?_
      refine T_region ?_
      refine L_o (o_alloc zz3 S6 rfl fun b7 w7 hb7 S7 => ?_)
      refine L_o (o_st1 S7 5 rfl rfl rfl rfl sz3 (by first | (simp; done) | (show 0 < 1; decide)) fun w8 S8 => ?_)
      refine L_nil ?_
      refine hK6 _ _ ?_
      refine T_seq fun K7 hK7 => ?_
      refine T_region ?_
      refine L_y (y_makeFunc rfl rfl) rfl ?_
      refine L_y (y_assign rfl) rfl ?_
      refine L_nil ?_
      refine hK7 _ _ ?_
      refine T_seq fun K8 hK8 => ?_
      refine T_seq fun K9 hK9 => ?_
      refine T_region ?_
      refine L_y (y_assign rfl) rfl ?_
      refine L_nil ?_
      refine hK9 _ _ ?_
      refine T_block ?_
      refine T_loop6 [(0, _), (3, _), (4, _), (6, _), (7, _), (8, _), (9, _)] (fun (k : Nat) (s0 : Nat) (A1 : Option Addr) (c1 : Nat) (ops : List OP) (ps : List Part) => [(10, .int .i64 (k : Int))]) (fun (k : Nat) (s0 : Nat) (A1 : Option Addr) (c1 : Nat) (ops : List OP) (ps : List Part) => m - k) (fun (k : Nat) (s0 : Nat) (A1 : Option Addr) (c1 : Nat) (ops : List OP) (ps : List Part) (w : World) => (k ≤ m ∧ s0 ≤ k ∧ ops.length ≤ 2 * k ∧ InP ops ps ∧ MKI a t k s0 ops) ∧ St w0 noM ([blk b1 22 #[.slice B m d], blk b2 25 #[.int .i64 0, .int .i64 0, .slice none 0 0], mapB 6 bm (pes.map PE.ent), fam (pes.map PE.row), blk b7 3 #[.int .i64 (s0 : Int)]] ++ [blk b4 25 (scA (n : Int) (m : Int) A1 ops.length c1), row 57 4 A1 ops.length c1 (ops.flatMap opf), fam (ps.map partR)]) w) 0 0 none 0 [] [] (Sub.cons rfl (by first | rfl | exact congrArg (Value.int _) (by omega)) (Sub.nil _)) (Sub.cons rfl rfl (Sub.cons rfl rfl (Sub.cons rfl rfl (Sub.cons rfl rfl (Sub.cons rfl rfl (Sub.cons rfl rfl (Sub.cons rfl rfl (Sub.nil _)))))))) ?_ ?_
      ·
        have S9 := ((S8.nilrow 57 4).fam0).sel [0, 1, 3, 4, 5, 2, 6, 7] (by decide)
        exact ⟨⟨Nat.zero_le _, Nat.le_refl _, Nat.le_refl _, (fun o ho => (List.not_mem_nil ho).elim), MKI.start a t⟩, S9⟩
      ·
        intro k s0 A1 c1 ops ps w9 hrel
        obtain ⟨⟨hk, hsk, hol, hin, hmk⟩, S9⟩ := hrel
        refine T_seq fun K10 hK10 => ?_
        refine T_seq fun K11 hK11 => ?_
        refine T_region ?_
        refine L_y (y_move rfl) rfl ?_
        refine L_y (y_ldc Try.underlying22 rfl rfl (((S9.blk 0 rfl).cell _).trans (by rfl))) rfl ?_
        refine L_y (y_len Try.underlying22 rfl) rfl ?_
        refine L_y (y_lss rfl rfl) rfl ?_
        refine L_nil ?_
        refine hK11 _ _ ?_
        refine T_cond rfl (fun h33 => ?_) (fun h33 => ?_)
        ·
          have hbd := bst_bd a (t.drop k)
          rw [List.length_drop] at hbd
          refine T_skip ?_
          refine hK10 _ _ ?_
          refine T_block ?_
          refine T_seq fun K12 hK12 => ?_
          refine T_region ?_
          refine L_y (y_move rfl) rfl ?_
          refine L_y (y_move rfl) rfl ?_
          refine L_y (y_ldc Try.underlying22 rfl rfl (((S9.blk 0 rfl).cell _).trans (by rfl))) rfl ?_
          refine L_y (y_move rfl) rfl ?_
          refine L_y (y_sliceL Try.underlying22 sz5 rfl rfl (Nt.mk (by omega) : Nt _ (k)) (by omega)) rfl ?_
          refine L_o (o_call Try.func42 rfl rfl (longest A (cutA B d k 1) n c (m - k) (d - k) bm a (t.drop k) pes w9 (S9.rd ha) (cut_tail (S9.rd ht) (by omega)) hmx (by omega) (S9.get 2 rfl) (S9.lt 2 rfl) (S9.get 3 rfl) hpi) rfl rfl ?_)
          rintro e10 w10 ⟨v10, rfl, l10, rfl⟩
          refine ⟨_, rfl, ?_⟩
          have S10 := S9.like l10
          refine L_y (y_move rfl) rfl ?_
          refine L_y (y_extract rfl rfl) rfl ?_
          refine L_y (y_extract rfl rfl) rfl ?_
          refine L_y (y_assign rfl) rfl ?_
          refine L_y (y_assign rfl) rfl ?_
          refine L_nil ?_
          refine hK12 _ _ ?_
          refine T_seq fun K13 hK13 => ?_
          refine T_seq fun K14 hK14 => ?_
          refine T_region ?_
          refine L_y (y_move rfl) rfl ?_
          refine L_y (y_eql rfl rfl) rfl ?_
          refine L_nil ?_
          refine hK14 _ _ ?_
          refine T_cond rfl (fun h44 => ?_) (fun h44 => ?_)
          ·
            refine T_seq fun K15 hK15 => ?_
            refine T_region ?_
            refine L_y (y_move rfl) rfl ?_
            refine L_y (y_add rfl rfl (i64w (by omega))) rfl ?_
            refine L_y (y_assign rfl) rfl ?_
            refine L_nil ?_
            refine hK15 _ _ ?_
            refine T_exit ?_
            refine ⟨k + 1, s0, A1, c1, ops, ps, by omega, ⟨⟨by omega, by omega, by omega, hin, hmk.zero (by omega) (by omega)⟩, S10⟩, ?_⟩
            exact (Sub.cons rfl (by first | rfl | exact congrArg (Value.int _) (by omega)) (Sub.cons rfl rfl (Sub.cons rfl rfl (Sub.cons rfl rfl (Sub.cons rfl rfl (Sub.cons rfl rfl (Sub.cons rfl rfl (Sub.cons rfl rfl (Sub.nil _)))))))))
          ·
            refine T_skip ?_
            refine hK13 _ _ ?_
            refine T_seq fun K16 hK16 => ?_
            refine T_region ?_
            refine L_y (y_move rfl) rfl ?_
            refine L_y (y_move rfl) rfl ?_
            refine L_o (o_callv rfl Try.func40 rfl rfl (flush k s0 b7 b4 b1 (n : Int) (m : Int) A1 B c1 m d ops ps t w10 (holdScr S10).1 (holdScr S10).2.1 (S10.blk 4 rfl) ((holdScr S10).2.2.1 (blk b7 3 #[.int .i64 (s0 : Int)]) (by simp) b7 rfl) (S10.blk 0 rfl) ((holdScr S10).2.2.1 (blk b1 22 #[.slice B m d]) (by simp) b1 rfl) (S10.rd ht) (fun ad h1 h2 => (holdScr S10).2.2.2 ad.block (old_block ht h1 h2) (fun h => h)) hmt (by omega) hin (by omega)) rfl rfl (fun d' hd => by cases hd <;> rfl) ?_)
            rintro e11 w11 ⟨v11, rfl, A2, c2, ops2, ps2, hov, hol2, hin2, T11⟩
            refine ⟨_, rfl, ?_⟩
            have S11 := flushScr S10 T11
            have hrc2 := (S11.row 6 rfl).cap; have hrm2 := (S11.row 6 rfl).max
            refine L_nil ?_
            refine hK16 _ _ ?_
            refine T_seq fun K17 hK17 => ?_
            refine T_region ?_
            refine L_y (y_fieldA 2 Try.underlying25 rfl sz23 rfl rfl rfl) rfl ?_
            refine L_y (y_ldc Try.underlying23 rfl rfl (((S11.blk 5 rfl).cell _).trans (by rfl))) rfl ?_
            refine L_y (y_move rfl) rfl ?_
            refine L_y (y_move rfl) rfl ?_
            refine L_y (y_build rfl (show _ = some #[Value.bool true, Value.int .i64 ((bst a (t.drop k)).1 : Int), Value.int .i64 ((bst a (t.drop k)).2 : Int), Value.slice none 0 0] by kernel_rfl)) rfl ?_
            refine L_o (o_bsl [_, _, _, _] te23 zz57 S11 rfl rfl rfl rfl rfl rfl rfl rfl fun b12 w12 S12 => ?_)
            refine L_o (o_app te23 S12 6 rfl rfl rfl (by first | exact S12.row 6 rfl | exact S12.fix 7 rfl | exact S12.row 8 rfl) (fun u hu => opf_one ⟨true, _, _, p0⟩ u hu) rfl (by omega) (by omega) fun A13 c13 w13 S13 => ?_)
            have S13d := S13.drop (rs' := [_, _, _, _, _, _, _, _]) (.cons_cons _ (.cons_cons _ (.cons_cons _ (.cons_cons _ (.cons_cons _ (.cons_cons _ (.cons_cons _ (.cons_cons _ (.cons _ (.refl _))))))))))
            refine L_y (y_fieldA 2 Try.underlying25 rfl sz23 rfl rfl rfl) rfl ?_
            refine L_o (o_st1 S13d 5 rfl rfl rfl rfl sz23 (by show 2 < 3; decide) fun w14 S14 => ?_)
            refine L_nil ?_
            refine hK17 _ _ ?_
            refine T_seq fun K18 hK18 => ?_
            refine T_region ?_
            refine L_y (y_move rfl) rfl ?_
            refine L_y (y_move rfl) rfl ?_
            refine L_y (y_add rfl rfl (i64w (by omega))) rfl ?_
            refine L_y (y_assign rfl) rfl ?_
            refine L_nil ?_
            refine hK18 _ _ ?_
            refine T_region ?_
            refine L_y (y_move rfl) rfl ?_
            refine L_o (o_st1 S14 4 rfl rfl rfl rfl sz3 (by first | (simp; done) | (show 0 < 1; decide)) fun w15 S15 => ?_)
            refine L_nil ?_
            have S91 := S15.blkc 5 rfl ((scA_set (n : Int) (m : Int) A2 ops2.length c2 A13 (ops2.length + 1) c13).trans (show _ = scA (n : Int) (m : Int) A13 (ops2 ++ [(⟨true, ((bst a (t.drop k)).1 : Int), ((bst a (t.drop k)).2 : Int), p0⟩ : OP)]).length c13 from by rw [List.length_append]; rfl))
            have S92 := S91.blkc 4 rfl (show _ = #[Value.int .i64 ((k + (bst a (t.drop k)).2 : Nat) : Int)] from by simp)
            have S93 := S92.rowc 6 rfl (n' := (ops2 ++ [(⟨true, ((bst a (t.drop k)).1 : Int), ((bst a (t.drop k)).2 : Int), p0⟩ : OP)]).length) (xs' := (ops2 ++ [(⟨true, ((bst a (t.drop k)).1 : Int), ((bst a (t.drop k)).2 : Int), p0⟩ : OP)]).flatMap opf) (by rw [List.length_append]; rfl) (by rw [List.flatMap_append]; rfl)
            refine ⟨k + (bst a (t.drop k)).2, k + (bst a (t.drop k)).2, A13, c13, ops2 ++ [(⟨true, ((bst a (t.drop k)).1 : Int), ((bst a (t.drop k)).2 : Int), p0⟩ : OP)], ps2, by omega, ⟨⟨by omega, Nat.le_refl _, by rw [List.length_append, List.length_singleton]; omega, hin2.add0 rfl, hmk.copy (by omega) (by omega) (by rw [List.map_append, hov]; rfl)⟩, S93⟩, ?_⟩
            exact (Sub.cons rfl (by first | rfl | exact congrArg (Value.int _) (by omega)) (Sub.cons rfl rfl (Sub.cons rfl rfl (Sub.cons rfl rfl (Sub.cons rfl rfl (Sub.cons rfl rfl (Sub.cons rfl rfl (Sub.cons rfl rfl (Sub.nil _)))))))))
        ·
          refine T_exit ?_
          refine hK8 _ _ ?_
          refine T_seq fun K19 hK19 => ?_
          refine T_region ?_
          refine L_y (y_move rfl) rfl ?_
          refine L_y (y_ldc Try.underlying22 rfl rfl (((S9.blk 0 rfl).cell _).trans (by rfl))) rfl ?_
          refine L_y (y_len Try.underlying22 rfl) rfl ?_
          refine L_o (o_callv rfl Try.func40 rfl rfl (flush m s0 b7 b4 b1 (n : Int) (m : Int) A1 B c1 m d ops ps t w9 (holdScr S9).1 (holdScr S9).2.1 (S9.blk 4 rfl) ((holdScr S9).2.2.1 (blk b7 3 #[.int .i64 (s0 : Int)]) (by simp) b7 rfl) (S9.blk 0 rfl) ((holdScr S9).2.2.1 (blk b1 22 #[.slice B m d]) (by simp) b1 rfl) (S9.rd ht) (fun ad h1 h2 => (holdScr S9).2.2.2 ad.block (old_block ht h1 h2) (fun h => h)) hmt (by omega) hin (by omega)) rfl rfl (fun d' hd => by cases hd <;> rfl) ?_)
          rintro e16 w16 ⟨v16, rfl, A2, c2, ops2, ps2, hov, hol2, hin2, T16⟩
          refine ⟨_, rfl, ?_⟩
          have S16 := flushScr S9 T16
          refine L_nil ?_
          refine hK19 _ _ ?_
          refine T_seq fun K20 hK20 => ?_
          refine T_region ?_
          refine L_y (y_ldW Try.underlying25 rfl sz25 rfl (S16.blk 5 rfl) (show _ = (scA (n : Int) (m : Int) A2 ops2.length c2).toList ∧ _ from ⟨rfl, rfl⟩)) rfl ?_
          refine L_o (o_stW S16 1 rfl rfl rfl sz25 rfl (scA_one _ _ _ _ _) fun w17 S17 => ?_)
          refine L_y (y_assign rfl) rfl ?_
          refine L_nil ?_
          refine hK20 _ _ ?_
          refine T_ret ?_
          repeat (first | with_reducible refine up_then ?_ | with_reducible refine up_in ?_)
          refine retct rfl rfl rfl (S17.blk 1 rfl) Try.underlying25 rfl (by exact sz25) ?_
          exact ⟨_, rfl, S17.like0, A2, c2, ops2, rfl, S17.row 6 rfl, okO_of hin2 (S17.get 7 rfl), hmk.done (by omega) (by rw [hmn]; exact hov)⟩
end Go.Proofs.Ytpcgldkllnkaeaa

/-
  works.
-/
namespace Go.Proofs.Ytpcgldkllnkaeaa
open Go.RowKit Zk Zx
set_option linter.unusedVariables false
set_option linter.unusedSimpArgs false

def wA : List UInt8 := [104, 101, 108, 108, 111, 44, 32, 119, 111, 114, 108, 100]
def wT : List UInt8 := [104, 101, 108, 108, 111, 44, 32, 116, 104, 101, 114, 101]
theorem wmk : mkV wA wT = [⟨true, 0, 7, []⟩, ⟨false, 0, 0, [116, 104, 101, 114, 101]⟩] := by decide +kernel
theorem two_of {α : Type} : ∀ {l : List α}, l.length = 2 → ∃ a b, l = [a, b]
  | [a, b], _ => ⟨a, b, rfl⟩
theorem w_ops {ops : List OP} (h : ops.map OP.v = mkV wA wT) : ∃ o1 o2, ops = [o1, o2] ∧ o1.cp = true ∧ o1.n = 7 ∧ o2.p.l = [116, 104, 101, 114, 101] := by
  rw [wmk] at h
  obtain ⟨o1, o2, rfl⟩ : ∃ o1 o2, ops = [o1, o2] := two_of (by simpa using congrArg List.length h)
  simp only [List.map_cons, List.map_nil, List.cons.injEq, and_true] at h
  obtain ⟨h1, h2⟩ := h
  exact ⟨o1, o2, rfl, congrArg OV.cp h1, congrArg OV.n h1, congrArg OV.l h2⟩


set_option maxRecDepth 100000 in
theorem works  (w0 : World)  :
    Calls Try.prog 9 #[] w0 fun e w' => ∃ u, e = .returned u ∧ Like w0 w' ∧ u = .bool true := by
  refine enter1 (env := []) [] Try.func9 rfl Try.ntmps9 rfl rfl ?_
  have S0 := St.start w0 noM
  refine T_seq fun K1 hK1 => ?_
  refine T_region ?_
  refine L_y (y_assign rfl) rfl ?_
  refine L_nil ?_
  refine hK1 _ _ ?_
  refine T_seq fun K2 hK2 => ?_
  refine T_region ?_
  refine L_o (o_bsl [_, _, _, _, _, _, _, _, _, _, _, _] te22 zz5 S0 rfl rfl rfl rfl rfl rfl rfl rfl fun b1 w1 S1 => ?_)
  refine L_o (o_bconst S1 0 rfl Try.underlying22 Try.underlying5 rfl (by omega) rfl fun w2 S2 => ?_)
  refine L_o (o_bsl [_, _, _, _, _, _, _, _, _, _, _, _] te22 zz5 S2 rfl rfl rfl rfl rfl rfl rfl rfl fun b3 w3 S3 => ?_)
  refine L_o (o_bconst S3 1 rfl Try.underlying22 Try.underlying5 rfl (by omega) rfl fun w4 S4 => ?_)
  refine L_o (o_call Try.func22 rfl rfl (pmake _ _ 12 _ 12 _ wA wT w4 (show Rs _ 1 _ 12 _ (bL wA) from S4.fix 0 rfl) (show Rs _ 1 _ 12 _ (bL wT) from S4.fix 1 rfl) (by omega) (by omega)) rfl rfl ?_)
  rintro e5 w5 ⟨v5, rfl, l5, A8, c8, ops8, rfl, hR, hok, hmv⟩
  refine ⟨_, rfl, ?_⟩
  have S5 := S4.like l5
  obtain ⟨o1, o2, rfl, hcp, hn7, hth⟩ := w_ops hmv
  have lk := S5.like0
  have S90 := St.start w5 noM
  refine L_y (y_move rfl) rfl ?_
  refine L_y (y_extract rfl rfl) rfl ?_
  refine L_y (y_extract rfl rfl) rfl ?_
  refine L_o (o_alloc zz25 S90 rfl fun b6 w6 hb6 S6 => ?_)
  refine L_o (o_stW S6 0 rfl rfl rfl sz25 rfl (scA_one _ _ _ _ _) fun w7 S7 => ?_)
  refine L_y (y_assign rfl) rfl ?_
  refine L_nil ?_
  refine hK2 _ _ ?_
  refine T_seq fun K3 hK3 => ?_
  refine T_region ?_
  refine L_y (y_move rfl) rfl ?_
  refine L_y (y_eql rfl rfl) rfl ?_
  refine L_y (y_move rfl) rfl ?_
  refine L_split 13 rfl (fun h13 => ?_) (fun h13 => ?_)
  ·
    refine L_gyes rfl rfl ?_
    refine L_y (y_fieldA 2 Try.underlying25 rfl sz23 rfl rfl rfl) rfl ?_
    refine L_gyes rfl rfl ?_
    refine L_y (y_ldc Try.underlying23 rfl rfl (((S7.blk 0 rfl).cell _).trans (by rfl))) rfl ?_
    refine L_gyes rfl rfl ?_
    refine L_y (y_len Try.underlying23 rfl) rfl ?_
    refine L_gyes rfl rfl ?_
    refine L_y (y_eql rfl rfl) rfl ?_
    refine L_y ((by first | exact y_pickT rfl rfl | exact y_pickF rfl rfl)) rfl ?_
    refine L_y (y_move rfl) rfl ?_
    refine L_split 19 rfl (fun h19 => ?_) (fun h19 => ?_)
    ·
      refine L_gyes rfl rfl ?_
      refine L_y (y_fieldA 2 Try.underlying25 rfl sz23 rfl rfl rfl) rfl ?_
      refine L_gyes rfl rfl ?_
      refine L_y (y_ldc Try.underlying23 rfl rfl (((S7.blk 0 rfl).cell _).trans (by rfl))) rfl ?_
      refine L_gyes rfl rfl ?_
      refine L_y (y_idx Try.underlying23 sz57 rfl rfl (S7.rd hR) (Nt.mk rfl : Nt _ (0)) (by omega)) rfl ?_
      refine L_gyes rfl rfl ?_
      refine L_y (y_fieldR 0 Try.underlying57 rfl sz4 rfl rfl (S7.rd hR) (by omega) rfl) rfl ?_
      refine L_gyes rfl rfl ?_
      refine L_y (y_ldf Try.underlying4 rfl rfl (S7.rd hR) (by omega) (show _ = some (Value.bool true) from by rw [← hcp]; rfl)) rfl ?_
      refine L_y ((by first | exact y_pickT rfl rfl | exact y_pickF rfl rfl)) rfl ?_
      refine L_y (y_move rfl) rfl ?_
      refine L_gyes rfl rfl ?_
      refine L_y (y_fieldA 2 Try.underlying25 rfl sz23 rfl rfl rfl) rfl ?_
      refine L_gyes rfl rfl ?_
      refine L_y (y_ldc Try.underlying23 rfl rfl (((S7.blk 0 rfl).cell _).trans (by rfl))) rfl ?_
      refine L_gyes rfl rfl ?_
      refine L_y (y_idx Try.underlying23 sz57 rfl rfl (S7.rd hR) (Nt.mk rfl : Nt _ (0)) (by omega)) rfl ?_
      refine L_gyes rfl rfl ?_
      refine L_y (y_fieldR 2 Try.underlying57 rfl sz3 rfl rfl (S7.rd hR) (by omega) rfl) rfl ?_
      refine L_gyes rfl rfl ?_
      refine L_y (y_ldf Try.underlying3 rfl rfl (S7.rd hR) (by omega) (show _ = some (Value.int .i64 7) from by rw [← hn7]; rfl)) rfl ?_
      refine L_gyes rfl rfl ?_
      refine L_y (y_eql rfl rfl) rfl ?_
      refine L_y ((by first | exact y_pickT rfl rfl | exact y_pickF rfl rfl)) rfl ?_
      refine L_y (y_move rfl) rfl ?_
      refine L_split 34 rfl (fun h34 => ?_) (fun h34 => ?_)
      ·
        refine L_gyes rfl rfl ?_
        refine L_y (y_fieldA 2 Try.underlying25 rfl sz23 rfl rfl rfl) rfl ?_
        refine L_gyes rfl rfl ?_
        refine L_y (y_ldc Try.underlying23 rfl rfl (((S7.blk 0 rfl).cell _).trans (by rfl))) rfl ?_
        refine L_gyes rfl rfl ?_
        refine L_y (y_idx Try.underlying23 sz57 rfl rfl (S7.rd hR) (Nt.mk rfl : Nt _ (1)) (by omega)) rfl ?_
        refine L_gyes rfl rfl ?_
        refine L_y (y_fieldR 3 Try.underlying57 rfl sz22 rfl rfl (S7.rd hR) (by omega) rfl) rfl ?_
        refine L_gyes rfl rfl ?_
        refine L_y (y_ldf Try.underlying22 rfl rfl (S7.rd hR) (by omega) (show _ = some (pv o2.p) from rfl)) rfl ?_
        refine L_gyes rfl rfl ?_
        refine L_y (y_bstr Try.underlying22 Try.underlying5 Try.underlying9 rfl (S7.rd (hok o2 (by simp)))) rfl ?_
        refine L_gyes rfl rfl ?_
        refine L_y (y_seql rfl rfl) rfl ?_
        refine L_y ((by first | exact y_pickT rfl rfl | exact y_pickF rfl rfl)) rfl ?_
        refine L_y (y_assign rfl) rfl ?_
        refine L_nil ?_
        refine hK3 _ _ ?_
        refine T_ret ?_
        repeat (first | with_reducible refine up_then ?_ | with_reducible refine up_in ?_)
        refine ret1 rfl rfl ?_
        exact ⟨_, rfl, Like.trans lk S7.like0, congrArg Value.bool (decide_eq_true (by rw [hth]))⟩
      ·
        exact absurd rfl h34
    ·
      exact absurd rfl h19
  ·
    exact absurd rfl h13
end Go.Proofs.Ytpcgldkllnkaeaa

/-
  plain, own.
-/
namespace Go.Proofs.Ytpcgldkllnkaeaa
open Go.RowKit Zk Zx
set_option linter.unusedVariables false
set_option linter.unusedSimpArgs false

theorem take_snoc {l : List OP} {k : Nat} {o : OP} (h : l[k]? = some o) : (l.take k).flatMap opf ++ opf o = (l.take (k + 1)).flatMap opf := by rw [take1 h, List.flatMap_append]; simp


set_option maxRecDepth 100000 in
theorem plain (A : Option Addr) (n c : Nat) (l : List OP) (b t : Int) (w0 : World) (hl : Rs w0 4 A n c (l.flatMap opf)) (hok : OkO w0 l) (h4 : n ≤ 5000) :
    Calls Try.prog 11 #[.agg (scA b t A n c)] w0 fun e w' => ∃ u, e = .returned u ∧ Like w0 w' ∧ ∃ A' c', u = .agg (scA b t A' n c') ∧ w'.ownsRow w0.heap.size 58 4 (.slice A' n c') n (l.flatMap opf) := by
  refine enter1 (env := [(0, .agg (scA b t A n c))]) [.agg (scA b t A n c)] Try.func11 rfl Try.ntmps11 rfl rfl ?_
  have hn := ops_n hl; have hcap := hl.cap; have hmax := hl.max; have S0 := St.start w0 noM
  refine T_seq fun K1 hK1 => ?_
  refine T_region ?_
  refine L_o (o_box rfl S0 rfl fun b1 w1 hb1 S1 => ?_)
  refine L_o (o_alloc zz30 S1 rfl fun b2 w2 hb2 S2 => ?_)
  refine L_nil ?_
  refine hK1 _ _ ?_
  refine T_seq fun K2 hK2 => ?_
  refine T_region ?_
  refine L_y (y_fieldA 0 Try.underlying25 rfl sz3 rfl rfl rfl) rfl ?_
  refine L_y (y_ldc Try.underlying3 rfl rfl (((S2.blk 0 rfl).cell _).trans (by rfl))) rfl ?_
  refine L_y (y_fieldA 1 Try.underlying25 rfl sz3 rfl rfl rfl) rfl ?_
  refine L_y (y_ldc Try.underlying3 rfl rfl (((S2.blk 0 rfl).cell _).trans (by rfl))) rfl ?_
  refine L_y (y_build rfl (show _ = some (scA b t none 0 0) by kernel_rfl)) rfl ?_
  refine L_o (o_alloc zz30 S2 rfl fun b3 w3 hb3 S3 => ?_)
  refine L_o (o_stW S3 2 rfl rfl rfl sz30 rfl (scA_one _ _ _ _ _) fun w4 S4 => ?_)
  refine L_nil ?_
  refine hK2 _ _ ?_
  refine T_seq fun K3 hK3 => ?_
  refine T_seq fun K4 hK4 => ?_
  refine T_region ?_
  refine L_y (y_assign rfl) rfl ?_
  refine L_nil ?_
  refine hK4 _ _ ?_
  refine T_block ?_
  refine T_loop3 [(1, _), (2, _), (3, _)] (fun (k : Nat) (A1 : Option Addr) (c1 : Nat) => [(4, .int .i64 (k : Int))]) (fun (k : Nat) (A1 : Option Addr) (c1 : Nat) => n - k) (fun (k : Nat) (A1 : Option Addr) (c1 : Nat) (w : World) => k ≤ n ∧ St w0 noM [blk b1 25 (scA b t A n c), blk b2 30 #[.int .i64 0, .int .i64 0, .slice none 0 0], blk b3 30 (scA b t A1 k c1), row 58 4 A1 k c1 ((l.take k).flatMap opf)] w) 0 none 0 (Sub.cons rfl (by first | rfl | exact congrArg (Value.int _) (by omega)) (Sub.nil _)) (Sub.cons rfl rfl (Sub.cons rfl rfl (Sub.cons rfl rfl (Sub.nil _)))) ?_ ?_
  ·
    have S9 := S4.nilrow 58 4
    exact ⟨Nat.zero_le _, S9⟩
  ·
    intro k A1 c1 w5 hrel
    obtain ⟨hk, S5⟩ := hrel
    refine T_seq fun K5 hK5 => ?_
    refine T_seq fun K6 hK6 => ?_
    refine T_region ?_
    refine L_y (y_move rfl) rfl ?_
    refine L_y (y_fieldA 2 Try.underlying25 rfl sz23 rfl rfl rfl) rfl ?_
    refine L_y (y_ldc Try.underlying23 rfl rfl (((S5.blk 0 rfl).cell _).trans (by rfl))) rfl ?_
    refine L_y (y_len Try.underlying23 rfl) rfl ?_
    refine L_y (y_lss rfl rfl) rfl ?_
    refine L_nil ?_
    refine hK6 _ _ ?_
    refine T_cond rfl (fun h15 => ?_) (fun h15 => ?_)
    ·
      obtain ⟨o, ho⟩ : ∃ o, l[k]? = some o := ⟨_, List.getElem?_eq_getElem (by omega)⟩
      refine T_skip ?_
      refine hK5 _ _ ?_
      refine T_seq fun K7 hK7 => ?_
      refine T_block ?_
      refine T_seq fun K8 hK8 => ?_
      refine T_region ?_
      refine L_y (y_fieldA 2 Try.underlying25 rfl sz23 rfl rfl rfl) rfl ?_
      refine L_y (y_ldc Try.underlying23 rfl rfl (((S5.blk 0 rfl).cell _).trans (by rfl))) rfl ?_
      refine L_y (y_move rfl) rfl ?_
      refine L_y (y_idx Try.underlying23 sz57 rfl rfl (S5.rd hl) (Nt.mk (by omega) : Nt _ (k)) (by omega)) rfl ?_
      refine L_y (y_ldp (f := opf) opf_len Try.underlying57 rfl sz57 rfl (S5.rd hl) (by omega) ho) rfl ?_
      refine L_o (o_alloc zz57 S5 rfl fun b6 w6 hb6 S6 => ?_)
      refine L_o (o_stW S6 4 rfl rfl rfl sz57 rfl (opf_one o) fun w7 S7 => ?_)
      refine L_nil ?_
      refine hK8 _ _ ?_
      refine T_region ?_
      refine L_y (y_fieldA 2 Try.underlying30 rfl sz28 rfl rfl rfl) rfl ?_
      refine L_y (y_ldc Try.underlying28 rfl rfl (((S7.blk 2 rfl).cell _).trans (by rfl))) rfl ?_
      refine L_y (y_fieldA 0 Try.underlying57 rfl sz4 rfl rfl rfl) rfl ?_
      refine L_y (y_ldc Try.underlying4 rfl rfl (((S7.blk 4 rfl).cell _).trans (by rfl))) rfl ?_
      refine L_y (y_fieldA 1 Try.underlying57 rfl sz3 rfl rfl rfl) rfl ?_
      refine L_y (y_ldc Try.underlying3 rfl rfl (((S7.blk 4 rfl).cell _).trans (by rfl))) rfl ?_
      refine L_y (y_fieldA 2 Try.underlying57 rfl sz3 rfl rfl rfl) rfl ?_
      refine L_y (y_ldc Try.underlying3 rfl rfl (((S7.blk 4 rfl).cell _).trans (by rfl))) rfl ?_
      refine L_y (y_fieldA 3 Try.underlying57 rfl sz22 rfl rfl rfl) rfl ?_
      refine L_y (y_ldc Try.underlying22 rfl rfl (((S7.blk 4 rfl).cell _).trans (by rfl))) rfl ?_
      refine L_y (y_build rfl (show _ = some (opf o).toArray by kernel_rfl)) rfl ?_
      refine L_o (o_bsl [_, _, _, _] te28 zz58 S7 rfl rfl rfl rfl rfl rfl rfl rfl fun b8 w8 S8 => ?_)
      refine L_o (o_app te28 S8 3 rfl rfl rfl (by first | exact S8.row 3 rfl | exact S8.row 5 rfl) (opf_one o) rfl (by omega) (by omega) fun A9 c9 w9 S9 => ?_)
      have S9d := S9.drop (rs' := [_, _, _, _, _]) (.cons_cons _ (.cons_cons _ (.cons_cons _ (.cons_cons _ (.cons_cons _ (.cons _ (.refl _)))))))
      refine L_y (y_fieldA 2 Try.underlying30 rfl sz28 rfl rfl rfl) rfl ?_
      refine L_o (o_st1 S9d 2 rfl rfl rfl rfl sz28 (by show 2 < 3; decide) fun w10 S10 => ?_)
      refine L_nil ?_
      refine hK7 _ _ ?_
      refine T_region ?_
      refine L_y (y_move rfl) rfl ?_
      refine L_y (y_add rfl rfl (i64w (by omega))) rfl ?_
      refine L_y (y_assign rfl) rfl ?_
      refine L_nil ?_
      have S91 := S10.blkc 2 rfl (scA_set b t A1 k c1 A9 (k + 1) c9)
      have S92 := S91.rowc 3 rfl (n' := k + 1) (xs' := (l.take (k + 1)).flatMap opf) rfl (take_snoc ho)
      have S93 := S92.sel [0, 1, 2, 3] (by decide)
      refine ⟨k + 1, A9, c9, by omega, ⟨by omega, S93⟩, ?_⟩
      exact (Sub.cons rfl (by first | rfl | exact congrArg (Value.int _) (by omega)) (Sub.cons rfl rfl (Sub.cons rfl rfl (Sub.cons rfl rfl (Sub.nil _)))))
    ·
      refine T_exit ?_
      refine hK3 _ _ ?_
      refine T_seq fun K9 hK9 => ?_
      refine T_region ?_
      refine L_y (y_ldW Try.underlying30 rfl sz30 rfl (S5.blk 2 rfl) (show _ = (scA b t A1 n c1).toList ∧ _ from ⟨by rw [show n = k by omega]; rfl, rfl⟩)) rfl ?_
      refine L_o (o_stW S5 1 rfl rfl rfl sz30 rfl (scA_one _ _ _ _ _) fun w11 S11 => ?_)
      refine L_nil ?_
      refine hK9 _ _ ?_
      refine T_ret ?_
      repeat (first | with_reducible refine up_then ?_ | with_reducible refine up_in ?_)
      refine retc rfl rfl (S11.blk 1 rfl) Try.underlying30 rfl (by exact sz30) ?_
      have hkn : k = n := by omega
      subst hkn
      exact ⟨_, rfl, S11.like0, A1, c1, rfl, by have h9 := S11.own 3 rfl; rwa [List.take_of_length_le (by omega)] at h9⟩


set_option maxRecDepth 100000 in
theorem pown (A : Option Addr) (n c : Nat) (l : List OP) (b t : Int) (w0 : World) (hl : Rs w0 4 A n c (l.flatMap opf)) (hok : OkO w0 l) (h4 : n ≤ 5000) (hbig : ∀ o ∈ l, o.p.n ≤ 70368744177000) :
    Calls Try.prog 10 #[.agg (scA b t A n c)] w0 fun e w' => ∃ u, e = .returned u ∧ Like w0 w' ∧ ∃ A' c' qs, u = .agg (scA b t A' n c') ∧ Rs w' 4 A' n c' (qs.flatMap opf) ∧ OkO w' qs ∧ qs.map OP.v = l.map OP.v := by
  refine enter1 (env := [(0, .agg (scA b t A n c))]) [.agg (scA b t A n c)] Try.func10 rfl Try.ntmps10 rfl rfl ?_
  have hn := ops_n hl; have hcap := hl.cap; have hmax := hl.max; have S0 := St.start w0 noM
  refine T_seq fun K1 hK1 => ?_
  refine T_region ?_
  refine L_o (o_box rfl S0 rfl fun b1 w1 hb1 S1 => ?_)
  refine L_o (o_alloc zz25 S1 rfl fun b2 w2 hb2 S2 => ?_)
  refine L_nil ?_
  refine hK1 _ _ ?_
  refine T_seq fun K2 hK2 => ?_
  refine T_region ?_
  refine L_y (y_fieldA 0 Try.underlying30 rfl sz3 rfl rfl rfl) rfl ?_
  refine L_y (y_ldc Try.underlying3 rfl rfl (((S2.blk 0 rfl).cell _).trans (by rfl))) rfl ?_
  refine L_y (y_fieldA 1 Try.underlying30 rfl sz3 rfl rfl rfl) rfl ?_
  refine L_y (y_ldc Try.underlying3 rfl rfl (((S2.blk 0 rfl).cell _).trans (by rfl))) rfl ?_
  refine L_y (y_build rfl (show _ = some (scA b t none 0 0) by kernel_rfl)) rfl ?_
  refine L_o (o_alloc zz25 S2 rfl fun b3 w3 hb3 S3 => ?_)
  refine L_o (o_stW S3 2 rfl rfl rfl sz25 rfl (scA_one _ _ _ _ _) fun w4 S4 => ?_)
  refine L_nil ?_
  refine hK2 _ _ ?_
  refine T_seq fun K3 hK3 => ?_
  refine T_seq fun K4 hK4 => ?_
  refine T_region ?_
  refine L_y (y_assign rfl) rfl ?_
  refine L_nil ?_
  refine hK4 _ _ ?_
  refine T_block ?_
  refine T_loop5 [(1, _), (2, _), (3, _)] (fun (k : Nat) (A1 : Option Addr) (c1 : Nat) (qs : List OP) (ps : List Part) => [(4, .int .i64 (k : Int))]) (fun (k : Nat) (A1 : Option Addr) (c1 : Nat) (qs : List OP) (ps : List Part) => n - k) (fun (k : Nat) (A1 : Option Addr) (c1 : Nat) (qs : List OP) (ps : List Part) (w : World) => (k ≤ n ∧ InP qs ps ∧ qs.map OP.v = (l.take k).map OP.v) ∧ St w0 noM [blk b1 30 (scA b t A n c), blk b2 25 #[.int .i64 0, .int .i64 0, .slice none 0 0], blk b3 25 (scA b t A1 k c1), row 57 4 A1 k c1 (qs.flatMap opf), fam (ps.map partR)] w) 0 none 0 [] [] (Sub.cons rfl (by first | rfl | exact congrArg (Value.int _) (by omega)) (Sub.nil _)) (Sub.cons rfl rfl (Sub.cons rfl rfl (Sub.cons rfl rfl (Sub.nil _)))) ?_ ?_
  ·
    have S9 := (S4.nilrow 57 4).fam0
    exact ⟨⟨Nat.zero_le _, (fun o ho => (List.not_mem_nil ho).elim), rfl⟩, S9⟩
  ·
    intro k A1 c1 qs ps w5 hrel
    obtain ⟨⟨hk, hin, hqv⟩, S5⟩ := hrel
    refine T_seq fun K5 hK5 => ?_
    refine T_seq fun K6 hK6 => ?_
    refine T_region ?_
    refine L_y (y_move rfl) rfl ?_
    refine L_y (y_fieldA 2 Try.underlying30 rfl sz28 rfl rfl rfl) rfl ?_
    refine L_y (y_ldc Try.underlying28 rfl rfl (((S5.blk 0 rfl).cell _).trans (by rfl))) rfl ?_
    refine L_y (y_len Try.underlying28 rfl) rfl ?_
    refine L_y (y_lss rfl rfl) rfl ?_
    refine L_nil ?_
    refine hK6 _ _ ?_
    refine T_cond rfl (fun h15 => ?_) (fun h15 => ?_)
    ·
      obtain ⟨o, ho⟩ : ∃ o, l[k]? = some o := ⟨_, List.getElem?_eq_getElem (by omega)⟩
      have hop := hok o (List.mem_of_getElem? ho)
      have hbo := hbig o (List.mem_of_getElem? ho)
      have hopc := hop.cap; have hopm := hop.max
      refine T_skip ?_
      refine hK5 _ _ ?_
      refine T_seq fun K7 hK7 => ?_
      refine T_block ?_
      refine T_seq fun K8 hK8 => ?_
      refine T_region ?_
      refine L_y (y_fieldA 2 Try.underlying30 rfl sz28 rfl rfl rfl) rfl ?_
      refine L_y (y_ldc Try.underlying28 rfl rfl (((S5.blk 0 rfl).cell _).trans (by rfl))) rfl ?_
      refine L_y (y_move rfl) rfl ?_
      refine L_y (y_idx Try.underlying28 sz58 rfl rfl (S5.rd hl) (Nt.mk (by omega) : Nt _ (k)) (by omega)) rfl ?_
      refine L_y (y_ldp (f := opf) opf_len Try.underlying58 rfl sz58 rfl (S5.rd hl) (by omega) ho) rfl ?_
      refine L_o (o_alloc zz58 S5 rfl fun b6 w6 hb6 S6 => ?_)
      refine L_o (o_stW S6 5 rfl rfl rfl sz58 rfl (opf_one o) fun w7 S7 => ?_)
      refine L_nil ?_
      refine hK8 _ _ ?_
      refine T_zed [0, 1, 2, 3, 4, 5, 6, 7, 9, 10, 8, 11, 12, 13, 14, 15] 16 [(0, 1), (1, 1), (2, 1), (3, 1), (4, 1), (5, 1), (6, 1), (7, 1), (9, 1), (10, 1), (8, 2), (11, 2), (12, 1), (13, 2), (14, 2), (15, 1), (16, 3)] hmix (by kernel_rfl) fun w8 l8 => ?_
      have S8 := S7.like l8
      refine ZA_B (fun w => Blk w b3 25 (scA b t A1 k c1) ∧ Blk w b6 58 (opf o).toArray) ⟨S8.blk 2 rfl, S8.blk 5 rfl⟩ ?_
      refine ZB_y rfl (y_fieldA 2 Try.underlying25 rfl sz23 rfl rfl rfl) rfl ?_
      refine ZB_y rfl (y_of fun w hw => y_ldc Try.underlying23 rfl rfl (((hw.1).cell _).trans (by rfl))) rfl ?_
      refine ZB_y rfl (y_fieldA 0 Try.underlying58 rfl sz4 rfl rfl rfl) rfl ?_
      refine ZB_y rfl (y_of fun w hw => y_ldc Try.underlying4 rfl rfl (((hw.2).cell _).trans (by rfl))) rfl ?_
      refine ZB_y rfl (y_fieldA 1 Try.underlying58 rfl sz3 rfl rfl rfl) rfl ?_
      refine ZB_y rfl (y_of fun w hw => y_ldc Try.underlying3 rfl rfl (((hw.2).cell _).trans (by rfl))) rfl ?_
      refine ZB_y rfl (y_fieldA 2 Try.underlying58 rfl sz3 rfl rfl rfl) rfl ?_
      refine ZB_y rfl (y_of fun w hw => y_ldc Try.underlying3 rfl rfl (((hw.2).cell _).trans (by rfl))) rfl ?_
      refine ZB_y rfl (y_fieldA 3 Try.underlying58 rfl sz22 rfl rfl rfl) rfl ?_
      refine ZB_y rfl (y_of fun w hw => y_ldc Try.underlying22 rfl rfl (((hw.2).cell _).trans (by rfl))) rfl ?_
      refine ZB_o rfl (o_bsl0 te22 S8 rfl fun b9 w9 l9 S9 => ?_)
      refine ⟨⟨S9.blk 2 rfl, S9.blk 5 rfl⟩, ?_⟩
      refine ZB_o rfl (o_app te22 S9 6 rfl rfl rfl (S9.rd hop) (bL_one _) rfl (by omega) (by omega) fun A10 c10 w10 S10 => ?_)
      refine ⟨⟨S10.blk 2 rfl, S10.blk 5 rfl⟩, ?_⟩
      refine ZB_y rfl (y_build rfl (show _ = some #[Value.bool o.cp, Value.int .i64 o.fr, Value.int .i64 o.n, Value.slice A10 (0 + o.p.n) c10] by kernel_rfl)) rfl ?_
      refine ZB_o rfl (o_bsl [_, _, _, _] te23 zz57 S10 rfl rfl rfl rfl rfl rfl rfl rfl fun b11 w11 S11 => ?_)
      refine ⟨⟨S11.blk 2 rfl, S11.blk 5 rfl⟩, ?_⟩
      refine ZB_o rfl (o_app te23 S11 3 rfl rfl rfl (by first | exact S11.row 3 rfl | exact S11.fix 4 rfl | exact S11.row 6 rfl | exact S11.row 7 rfl) (fun u hu => opf_one ⟨o.cp, o.fr, o.n, ⟨A10, 0 + o.p.n, c10, []⟩⟩ u hu) rfl (by omega) (by omega) fun A12 c12 w12 S12 => ?_)
      have S12d := S12.drop (rs' := [_, _, _, _, _, _, _]) (.cons_cons _ (.cons_cons _ (.cons_cons _ (.cons_cons _ (.cons_cons _ (.cons_cons _ (.cons_cons _ (.cons _ (.refl _)))))))))
      refine ⟨⟨S12d.blk 2 rfl, S12d.blk 5 rfl⟩, ?_⟩
      refine ZB_y rfl (y_fieldA 2 Try.underlying25 rfl sz23 rfl rfl rfl) rfl ?_
      refine ZB_c rfl (o_st1 S12d 2 rfl rfl rfl rfl sz23 (by show 2 < 3; decide) fun w13 S13 => ?_)
      refine ZA_nil ?_
      refine hK7 _ _ ?_
      refine T_region ?_
      refine L_y (y_move rfl) rfl ?_
      refine L_y (y_add rfl rfl (i64w (by omega))) rfl ?_
      refine L_y (y_assign rfl) rfl ?_
      refine L_nil ?_
      have S91 := S13.blkc 2 rfl (scA_set b t A1 k c1 A12 (k + 1) c12)
      have S92 := S91.rowc 3 rfl (n' := k + 1) (xs' := (qs ++ [(⟨o.cp, o.fr, o.n, (⟨A10, 0 + o.p.n, c10, o.p.l⟩ : Part)⟩ : OP)]).flatMap opf) rfl (by rw [List.flatMap_append]; rfl)
      have S93 := (S92.still 6 rfl).sel [0, 1, 2, 3, 4, 6] (by decide)
      have S94 := famAdd (rs := [_, _, _, _, fam (ps.map partR)]) (ps := ps) (p := (⟨A10, 0 + o.p.n, c10, o.p.l⟩ : Part)) S93 4 rfl
      refine ⟨k + 1, A12, c12, qs ++ [(⟨o.cp, o.fr, o.n, (⟨A10, 0 + o.p.n, c10, o.p.l⟩ : Part)⟩ : OP)], ps ++ [(⟨A10, 0 + o.p.n, c10, o.p.l⟩ : Part)], by omega, ⟨⟨by omega, hin.add (o := (⟨o.cp, o.fr, o.n, (⟨A10, 0 + o.p.n, c10, o.p.l⟩ : Part)⟩ : OP)), by rw [List.map_append, hqv, take1 ho, List.map_append]; rfl⟩, S94⟩, ?_⟩
      exact (Sub.cons rfl (by first | rfl | exact congrArg (Value.int _) (by omega)) (Sub.cons rfl rfl (Sub.cons rfl rfl (Sub.cons rfl rfl (Sub.nil _)))))
    ·
      refine T_exit ?_
      refine hK3 _ _ ?_
      refine T_seq fun K9 hK9 => ?_
      refine T_region ?_
      refine L_y (y_ldW Try.underlying25 rfl sz25 rfl (S5.blk 2 rfl) (show _ = (scA b t A1 n c1).toList ∧ _ from ⟨by rw [show n = k by omega]; rfl, rfl⟩)) rfl ?_
      refine L_o (o_stW S5 1 rfl rfl rfl sz25 rfl (scA_one _ _ _ _ _) fun w14 S14 => ?_)
      refine L_nil ?_
      refine hK9 _ _ ?_
      refine T_ret ?_
      repeat (first | with_reducible refine up_then ?_ | with_reducible refine up_in ?_)
      refine retc rfl rfl (S14.blk 1 rfl) Try.underlying25 rfl (by exact sz25) ?_
      have hkn : k = n := by omega
      subst hkn
      exact ⟨_, rfl, S14.like0, A1, c1, qs, rfl, S14.row 3 rfl, okO_of hin (S14.get 4 rfl), by rw [hqv, List.take_of_length_le (by omega)]⟩
end Go.Proofs.Ytpcgldkllnkaeaa

/-
  same.
-/
namespace Go.Proofs.Ytpcgldkllnkaeaa
open Go.RowKit Zk Zx
set_option linter.unusedVariables false
set_option linter.unusedSimpArgs false

theorem y_bneq {P : Program} {S : World → Prop} {env : Env} {dst : Option Tmp} {ty : TypeId} {pos : String} {after : Array Edge} {g : Option (Nat × Bool)} {x y : Operand} {t u : TypeId} {a b : Bool} (ht : P.underlying t = some .bool) (hx : ev env x = some (.bool a)) (hy : ev env y = some (.bool b)) : Y P S env ⟨dst, .binOp .neq t x y u, ty, pos, after, g⟩ (.bool (!(a == b))) := fun N c w ha _ => by
  simp only [execOp, ha.eval hx, ha.eval hy, eqGuard, ne_eq, not_true_eq_false, Bool.not_true, Bool.false_eq_true, if_false, Sem.run_bind, Sem.run_pure, Result.andThen_ok, run_neq_bool w t a b ht]
theorem same_at {l k : List OP} {i : Nat} {x y : OP} (hx : l[i]? = some x) (hy : k[i]? = some y) (e : l.map OP.v = k.map OP.v) : x.v = y.v := by
  have h1 := map_at hx
  rw [e, map_at hy] at h1
  exact (Option.some.inj h1).symm
theorem same_end {l k : List OP} {i : Nat} (h : (l.take i).map OP.v = (k.take i).map OP.v) (h1 : l.length ≤ i) (h2 : k.length ≤ i) : l.map OP.v = k.map OP.v := by
  rwa [List.take_of_length_le h1, List.take_of_length_le h2] at h
theorem same_step {l k : List OP} {i : Nat} {x y : OP} (h : (l.take i).map OP.v = (k.take i).map OP.v) (hx : l[i]? = some x) (hy : k[i]? = some y) (e : x.v = y.v) : (l.take (i + 1)).map OP.v = (k.take (i + 1)).map OP.v := by
  rw [take1 hx, take1 hy, List.map_append, List.map_append, h, List.map_singleton, List.map_singleton, e]


set_option maxRecDepth 100000 in
theorem psame (A : Option Addr) (n c : Nat) (l : List OP) (b t : Int) (B : Option Addr) (m d : Nat) (k : List OP) (b' t' : Int) (w0 : World) (hl : Rs w0 4 A n c (l.flatMap opf)) (hok : OkO w0 l) (hk : Rs w0 4 B m d (k.flatMap opf)) (hok2 : OkO w0 k) :
    Calls Try.prog 15 #[.agg (scA b t A n c), .agg (scA b' t' B m d)] w0 fun e w' => ∃ u, e = .returned u ∧ Like w0 w' ∧ u = .bool (decide (b = b' ∧ t = t' ∧ l.map OP.v = k.map OP.v)) := by
  refine enter1 (env := [(0, .agg (scA b t A n c)), (1, .agg (scA b' t' B m d))]) [.agg (scA b t A n c), .agg (scA b' t' B m d)] Try.func15 rfl Try.ntmps15 rfl rfl ?_
  have hn := ops_n hl; have hcap := hl.cap; have hmax := hl.max; have S0 := St.start w0 noM; have hm := ops_n hk; have hcap2 := hk.cap; have hmax2 := hk.max
  refine T_seq fun K1 hK1 => ?_
  refine T_region ?_
  refine L_o (o_box rfl S0 rfl fun b1 w1 hb1 S1 => ?_)
  refine L_o (o_box rfl S1 rfl fun b2 w2 hb2 S2 => ?_)
  refine L_y (y_assign rfl) rfl ?_
  refine L_nil ?_
  refine hK1 _ _ ?_
  refine T_seq fun K2 hK2 => ?_
  refine T_seq fun K3 hK3 => ?_
  refine T_region ?_
  refine L_y (y_fieldA 0 Try.underlying25 rfl sz3 rfl rfl rfl) rfl ?_
  refine L_y (y_ldc Try.underlying3 rfl rfl (((S2.blk 0 rfl).cell _).trans (by rfl))) rfl ?_
  refine L_y (y_fieldA 0 Try.underlying30 rfl sz3 rfl rfl rfl) rfl ?_
  refine L_y (y_ldc Try.underlying3 rfl rfl (((S2.blk 1 rfl).cell _).trans (by rfl))) rfl ?_
  refine L_y (y_neq rfl rfl) rfl ?_
  refine L_y (y_move rfl) rfl ?_
  refine L_split 13 rfl (fun h13 => ?_) (fun h13 => ?_)
  ·
    refine L_gno rfl rfl rfl ?_
    refine L_gno rfl rfl rfl ?_
    refine L_gno rfl rfl rfl ?_
    refine L_gno rfl rfl rfl ?_
    refine L_gno rfl rfl rfl ?_
    refine L_y ((by first | exact y_pickT rfl rfl | exact y_pickF rfl rfl)) rfl ?_
    refine L_y (y_move rfl) rfl ?_
    refine L_gno rfl rfl rfl ?_
    refine L_gno rfl rfl rfl ?_
    refine L_gno rfl rfl rfl ?_
    refine L_gno rfl rfl rfl ?_
    refine L_gno rfl rfl rfl ?_
    refine L_gno rfl rfl rfl ?_
    refine L_gno rfl rfl rfl ?_
    refine L_y ((by first | exact y_pickT rfl rfl | exact y_pickF rfl rfl)) rfl ?_
    refine L_nil ?_
    refine hK3 _ _ ?_
    refine T_true rfl ?_
    refine T_seq fun K4 hK4 => ?_
    refine T_region ?_
    refine L_y (y_assign rfl) rfl ?_
    refine L_nil ?_
    refine hK4 _ _ ?_
    refine T_ret ?_
    repeat (first | with_reducible refine up_then ?_ | with_reducible refine up_in ?_)
    refine ret1 rfl rfl ?_
    first | exact ⟨_, rfl, S2.like0, congrArg Value.bool (decide_eq_false (fun ⟨e1, e2, e3⟩ => by have e4 := congrArg List.length e3; rw [List.length_map, List.length_map] at e4; omega)).symm⟩ | exact ⟨_, rfl, S2.like0, congrArg Value.bool (decide_eq_false (fun ⟨e1, e2, e3⟩ => by have e5 := same_at hx hy e3; have f1 := congrArg OV.cp e5; have f2 := congrArg OV.fr e5; have f3 := congrArg OV.n e5; have f4 := congrArg OV.l e5; simp_all [OP.v])).symm⟩ | exact ⟨_, rfl, S2.like0, congrArg Value.bool (decide_eq_true ⟨by omega, by omega, same_end heq (by omega) (by omega)⟩).symm⟩
  ·
    refine L_gyes rfl rfl ?_
    refine L_y (y_fieldA 1 Try.underlying25 rfl sz3 rfl rfl rfl) rfl ?_
    refine L_gyes rfl rfl ?_
    refine L_y (y_ldc Try.underlying3 rfl rfl (((S2.blk 0 rfl).cell _).trans (by rfl))) rfl ?_
    refine L_gyes rfl rfl ?_
    refine L_y (y_fieldA 1 Try.underlying30 rfl sz3 rfl rfl rfl) rfl ?_
    refine L_gyes rfl rfl ?_
    refine L_y (y_ldc Try.underlying3 rfl rfl (((S2.blk 1 rfl).cell _).trans (by rfl))) rfl ?_
    refine L_gyes rfl rfl ?_
    refine L_y (y_neq rfl rfl) rfl ?_
    refine L_y ((by first | exact y_pickT rfl rfl | exact y_pickF rfl rfl)) rfl ?_
    refine L_y (y_move rfl) rfl ?_
    refine L_split 20 rfl (fun h20 => ?_) (fun h20 => ?_)
    ·
      refine L_gno rfl rfl rfl ?_
      refine L_gno rfl rfl rfl ?_
      refine L_gno rfl rfl rfl ?_
      refine L_gno rfl rfl rfl ?_
      refine L_gno rfl rfl rfl ?_
      refine L_gno rfl rfl rfl ?_
      refine L_gno rfl rfl rfl ?_
      refine L_y ((by first | exact y_pickT rfl rfl | exact y_pickF rfl rfl)) rfl ?_
      refine L_nil ?_
      refine hK3 _ _ ?_
      refine T_true rfl ?_
      refine T_seq fun K5 hK5 => ?_
      refine T_region ?_
      refine L_y (y_assign rfl) rfl ?_
      refine L_nil ?_
      refine hK5 _ _ ?_
      refine T_ret ?_
      repeat (first | with_reducible refine up_then ?_ | with_reducible refine up_in ?_)
      refine ret1 rfl rfl ?_
      first | exact ⟨_, rfl, S2.like0, congrArg Value.bool (decide_eq_false (fun ⟨e1, e2, e3⟩ => by have e4 := congrArg List.length e3; rw [List.length_map, List.length_map] at e4; omega)).symm⟩ | exact ⟨_, rfl, S2.like0, congrArg Value.bool (decide_eq_false (fun ⟨e1, e2, e3⟩ => by have e5 := same_at hx hy e3; have f1 := congrArg OV.cp e5; have f2 := congrArg OV.fr e5; have f3 := congrArg OV.n e5; have f4 := congrArg OV.l e5; simp_all [OP.v])).symm⟩ | exact ⟨_, rfl, S2.like0, congrArg Value.bool (decide_eq_true ⟨by omega, by omega, same_end heq (by omega) (by omega)⟩).symm⟩
    ·
      refine L_gyes rfl rfl ?_
      refine L_y (y_fieldA 2 Try.underlying25 rfl sz23 rfl rfl rfl) rfl ?_
      refine L_gyes rfl rfl ?_
      refine L_y (y_ldc Try.underlying23 rfl rfl (((S2.blk 0 rfl).cell _).trans (by rfl))) rfl ?_
      refine L_gyes rfl rfl ?_
      refine L_y (y_len Try.underlying23 rfl) rfl ?_
      refine L_gyes rfl rfl ?_
      refine L_y (y_fieldA 2 Try.underlying30 rfl sz28 rfl rfl rfl) rfl ?_
      refine L_gyes rfl rfl ?_
      refine L_y (y_ldc Try.underlying28 rfl rfl (((S2.blk 1 rfl).cell _).trans (by rfl))) rfl ?_
      refine L_gyes rfl rfl ?_
      refine L_y (y_len Try.underlying28 rfl) rfl ?_
      refine L_gyes rfl rfl ?_
      refine L_y (y_neq rfl rfl) rfl ?_
      refine L_y ((by first | exact y_pickT rfl rfl | exact y_pickF rfl rfl)) rfl ?_
      refine L_nil ?_
      refine hK3 _ _ ?_
      refine T_cond rfl (fun h28 => ?_) (fun h28 => ?_)
      ·
        refine T_seq fun K6 hK6 => ?_
        refine T_region ?_
        refine L_y (y_assign rfl) rfl ?_
        refine L_nil ?_
        refine hK6 _ _ ?_
        refine T_ret ?_
        repeat (first | with_reducible refine up_then ?_ | with_reducible refine up_in ?_)
        refine ret1 rfl rfl ?_
        first | exact ⟨_, rfl, S2.like0, congrArg Value.bool (decide_eq_false (fun ⟨e1, e2, e3⟩ => by have e4 := congrArg List.length e3; rw [List.length_map, List.length_map] at e4; omega)).symm⟩ | exact ⟨_, rfl, S2.like0, congrArg Value.bool (decide_eq_false (fun ⟨e1, e2, e3⟩ => by have e5 := same_at hx hy e3; have f1 := congrArg OV.cp e5; have f2 := congrArg OV.fr e5; have f3 := congrArg OV.n e5; have f4 := congrArg OV.l e5; simp_all [OP.v])).symm⟩ | exact ⟨_, rfl, S2.like0, congrArg Value.bool (decide_eq_true ⟨by omega, by omega, same_end heq (by omega) (by omega)⟩).symm⟩
      ·
        refine T_skip ?_
        refine hK2 _ _ ?_
        refine T_seq fun K7 hK7 => ?_
        refine T_seq fun K8 hK8 => ?_
        refine T_region ?_
        refine L_y (y_assign rfl) rfl ?_
        refine L_nil ?_
        refine hK8 _ _ ?_
        refine T_block ?_
        refine T_loop1 [(2, _), (3, _)] (fun (i : Nat) => [(5, .int .i64 (i : Int))]) (fun (i : Nat) => n - i) (fun (i : Nat) (w : World) => (i ≤ n ∧ (l.take i).map OP.v = (k.take i).map OP.v) ∧ St w0 noM [blk b1 25 (scA b t A n c), blk b2 30 (scA b' t' B m d)] w) 0 (Sub.cons rfl (by first | rfl | exact congrArg (Value.int _) (by omega)) (Sub.nil _)) (Sub.cons rfl rfl (Sub.cons rfl rfl (Sub.nil _))) ?_ ?_
        ·
          exact ⟨⟨Nat.zero_le _, rfl⟩, S2⟩
        ·
          intro i w5 hrel
          obtain ⟨⟨hi, heq⟩, S5⟩ := hrel
          refine T_seq fun K9 hK9 => ?_
          refine T_seq fun K10 hK10 => ?_
          refine T_region ?_
          refine L_y (y_move rfl) rfl ?_
          refine L_y (y_fieldA 2 Try.underlying25 rfl sz23 rfl rfl rfl) rfl ?_
          refine L_y (y_ldc Try.underlying23 rfl rfl (((S5.blk 0 rfl).cell _).trans (by rfl))) rfl ?_
          refine L_y (y_len Try.underlying23 rfl) rfl ?_
          refine L_y (y_lss rfl rfl) rfl ?_
          refine L_nil ?_
          refine hK10 _ _ ?_
          refine T_cond rfl (fun h33 => ?_) (fun h33 => ?_)
          ·
            obtain ⟨x, hx⟩ : ∃ x, l[i]? = some x := ⟨_, List.getElem?_eq_getElem (by omega)⟩
            obtain ⟨y, hy⟩ : ∃ y, k[i]? = some y := ⟨_, List.getElem?_eq_getElem (by omega)⟩
            have hxo := hok x (List.mem_of_getElem? hx)
            have hyo := hok2 y (List.mem_of_getElem? hy)
            refine T_skip ?_
            refine hK9 _ _ ?_
            refine T_seq fun K11 hK11 => ?_
            refine T_block ?_
            refine T_seq fun K12 hK12 => ?_
            refine T_drawnX (fun w => Blk w b1 25 (scA b t A n c) ∧ Blk w b2 30 (scA b' t' B m d) ∧ Rs w 4 A n c (l.flatMap opf) ∧ Rs w 4 B m d (k.flatMap opf)) hmix (by kernel_rfl) (fun w l => ⟨(S5.like l).blk 0 rfl, (S5.like l).blk 1 rfl, (S5.like l).rd hl, (S5.like l).rd hk⟩) fun w6 l6 => ?_
            have S6 := S5.like l6
            refine DX_y 0 (by kernel_rfl) rfl (y_fieldA 2 Try.underlying25 rfl sz23 rfl rfl rfl) rfl ?_
            refine DX_y 1 (by kernel_rfl) rfl (y_of fun w hw => y_ldc Try.underlying23 rfl rfl (((hw.1).cell _).trans (by rfl))) rfl ?_
            refine DX_y 2 (by kernel_rfl) rfl (y_move rfl) rfl ?_
            refine DX_y 3 (by kernel_rfl) rfl (y_idx Try.underlying23 sz57 rfl rfl (S6.rd hl) (Nt.mk (by omega) : Nt _ (i)) (by omega)) rfl ?_
            refine DX_y 4 (by kernel_rfl) rfl (y_of fun w hw => y_ldp (f := opf) opf_len Try.underlying57 rfl sz57 rfl (hw.2.2.1) (by omega) hx) rfl ?_
            refine DX_y 5 (by kernel_rfl) rfl (y_fieldA 2 Try.underlying30 rfl sz28 rfl rfl rfl) rfl ?_
            refine DX_y 6 (by kernel_rfl) rfl (y_of fun w hw => y_ldc Try.underlying28 rfl rfl (((hw.2.1).cell _).trans (by rfl))) rfl ?_
            refine DX_y 7 (by kernel_rfl) rfl (y_move rfl) rfl ?_
            refine DX_y 8 (by kernel_rfl) rfl (y_idx Try.underlying28 sz58 rfl rfl (S6.rd hk) (Nt.mk (by omega) : Nt _ (i)) (by omega)) rfl ?_
            refine DX_y 9 (by kernel_rfl) rfl (y_of fun w hw => y_ldp (f := opf) opf_len Try.underlying58 rfl sz58 rfl (hw.2.2.2) (by omega) hy) rfl ?_
            refine DX_allocs 10 11 (by kernel_rfl) (by kernel_rfl) (by kernel_rfl) rfl rfl (by decide) (by decide) rfl rfl zz57 zz58 S6 rfl rfl (fun w S => ⟨S.blk 0 rfl, S.blk 1 rfl, S.rd hl, S.rd hk⟩) fun b7 b7' w7 hb7 hb7' S7 => ?_
            refine DX_DL [(12, false), (13, false)] (by kernel_rfl) ?_
            refine DL_o rfl (o_stW S7 2 rfl rfl rfl sz57 rfl (opf_one x) fun w8 S8 => ?_)
            refine ⟨⟨S8.blk 0 rfl, S8.blk 1 rfl, S8.rd hl, S8.rd hk⟩, ?_⟩
            refine DL_o rfl (o_stW S8 3 rfl rfl rfl sz58 rfl (opf_one y) fun w9 S9 => ?_)
            refine ⟨⟨S9.blk 0 rfl, S9.blk 1 rfl, S9.rd hl, S9.rd hk⟩, ?_⟩
            refine DL_nil ?_
            refine hK12 _ _ ?_
            refine T_seq fun K13 hK13 => ?_
            refine T_region ?_
            refine L_y (y_fieldA 0 Try.underlying57 rfl sz4 rfl rfl rfl) rfl ?_
            refine L_y (y_ldc Try.underlying4 rfl rfl (((S9.blk 2 rfl).cell _).trans (by rfl))) rfl ?_
            refine L_y (y_fieldA 0 Try.underlying58 rfl sz4 rfl rfl rfl) rfl ?_
            refine L_y (y_ldc Try.underlying4 rfl rfl (((S9.blk 3 rfl).cell _).trans (by rfl))) rfl ?_
            refine L_y (y_bneq Try.underlying4 rfl rfl) rfl ?_
            refine L_y (y_move rfl) rfl ?_
            refine L_splitB 51 rfl (fun h51 => ?_) (fun h51 => ?_)
            ·
              refine L_gno rfl rfl rfl ?_
              refine L_gno rfl rfl rfl ?_
              refine L_gno rfl rfl rfl ?_
              refine L_gno rfl rfl rfl ?_
              refine L_gno rfl rfl rfl ?_
              refine L_y ((by first | exact y_pickT rfl rfl | exact y_pickF rfl rfl)) rfl ?_
              refine L_y (y_move rfl) rfl ?_
              refine L_gno rfl rfl rfl ?_
              refine L_gno rfl rfl rfl ?_
              refine L_gno rfl rfl rfl ?_
              refine L_gno rfl rfl rfl ?_
              refine L_gno rfl rfl rfl ?_
              refine L_y ((by first | exact y_pickT rfl rfl | exact y_pickF rfl rfl)) rfl ?_
              refine L_y (y_move rfl) rfl ?_
              refine L_gno rfl rfl rfl ?_
              refine L_gno rfl rfl rfl ?_
              refine L_gno rfl rfl rfl ?_
              refine L_gno rfl rfl rfl ?_
              refine L_gno rfl rfl rfl ?_
              refine L_gno rfl rfl rfl ?_
              refine L_y ((by first | exact y_pickT rfl rfl | exact y_pickF rfl rfl)) rfl ?_
              refine L_nil ?_
              refine hK13 _ _ ?_
              refine T_true rfl ?_
              refine T_seq fun K14 hK14 => ?_
              refine T_region ?_
              refine L_y (y_assign rfl) rfl ?_
              refine L_nil ?_
              refine hK14 _ _ ?_
              refine T_ret ?_
              repeat (first | with_reducible refine up_then ?_ | with_reducible refine up_in ?_)
              refine ret1 rfl rfl ?_
              first | exact ⟨_, rfl, S9.like0, congrArg Value.bool (decide_eq_false (fun ⟨e1, e2, e3⟩ => by have e4 := congrArg List.length e3; rw [List.length_map, List.length_map] at e4; omega)).symm⟩ | exact ⟨_, rfl, S9.like0, congrArg Value.bool (decide_eq_false (fun ⟨e1, e2, e3⟩ => by have e5 := same_at hx hy e3; have f1 := congrArg OV.cp e5; have f2 := congrArg OV.fr e5; have f3 := congrArg OV.n e5; have f4 := congrArg OV.l e5; simp_all [OP.v])).symm⟩ | exact ⟨_, rfl, S9.like0, congrArg Value.bool (decide_eq_true ⟨by omega, by omega, same_end heq (by omega) (by omega)⟩).symm⟩
            ·
              refine L_gyes rfl rfl ?_
              refine L_y (y_fieldA 1 Try.underlying57 rfl sz3 rfl rfl rfl) rfl ?_
              refine L_gyes rfl rfl ?_
              refine L_y (y_ldc Try.underlying3 rfl rfl (((S9.blk 2 rfl).cell _).trans (by rfl))) rfl ?_
              refine L_gyes rfl rfl ?_
              refine L_y (y_fieldA 1 Try.underlying58 rfl sz3 rfl rfl rfl) rfl ?_
              refine L_gyes rfl rfl ?_
              refine L_y (y_ldc Try.underlying3 rfl rfl (((S9.blk 3 rfl).cell _).trans (by rfl))) rfl ?_
              refine L_gyes rfl rfl ?_
              refine L_y (y_neq rfl rfl) rfl ?_
              refine L_y ((by first | exact y_pickT rfl rfl | exact y_pickF rfl rfl)) rfl ?_
              refine L_y (y_move rfl) rfl ?_
              refine L_split 58 rfl (fun h58 => ?_) (fun h58 => ?_)
              ·
                refine L_gno rfl rfl rfl ?_
                refine L_gno rfl rfl rfl ?_
                refine L_gno rfl rfl rfl ?_
                refine L_gno rfl rfl rfl ?_
                refine L_gno rfl rfl rfl ?_
                refine L_y ((by first | exact y_pickT rfl rfl | exact y_pickF rfl rfl)) rfl ?_
                refine L_y (y_move rfl) rfl ?_
                refine L_gno rfl rfl rfl ?_
                refine L_gno rfl rfl rfl ?_
                refine L_gno rfl rfl rfl ?_
                refine L_gno rfl rfl rfl ?_
                refine L_gno rfl rfl rfl ?_
                refine L_gno rfl rfl rfl ?_
                refine L_y ((by first | exact y_pickT rfl rfl | exact y_pickF rfl rfl)) rfl ?_
                refine L_nil ?_
                refine hK13 _ _ ?_
                refine T_true rfl ?_
                refine T_seq fun K15 hK15 => ?_
                refine T_region ?_
                refine L_y (y_assign rfl) rfl ?_
                refine L_nil ?_
                refine hK15 _ _ ?_
                refine T_ret ?_
                repeat (first | with_reducible refine up_then ?_ | with_reducible refine up_in ?_)
                refine ret1 rfl rfl ?_
                first | exact ⟨_, rfl, S9.like0, congrArg Value.bool (decide_eq_false (fun ⟨e1, e2, e3⟩ => by have e4 := congrArg List.length e3; rw [List.length_map, List.length_map] at e4; omega)).symm⟩ | exact ⟨_, rfl, S9.like0, congrArg Value.bool (decide_eq_false (fun ⟨e1, e2, e3⟩ => by have e5 := same_at hx hy e3; have f1 := congrArg OV.cp e5; have f2 := congrArg OV.fr e5; have f3 := congrArg OV.n e5; have f4 := congrArg OV.l e5; simp_all [OP.v])).symm⟩ | exact ⟨_, rfl, S9.like0, congrArg Value.bool (decide_eq_true ⟨by omega, by omega, same_end heq (by omega) (by omega)⟩).symm⟩
              ·
                refine L_gyes rfl rfl ?_
                refine L_y (y_fieldA 2 Try.underlying57 rfl sz3 rfl rfl rfl) rfl ?_
                refine L_gyes rfl rfl ?_
                refine L_y (y_ldc Try.underlying3 rfl rfl (((S9.blk 2 rfl).cell _).trans (by rfl))) rfl ?_
                refine L_gyes rfl rfl ?_
                refine L_y (y_fieldA 2 Try.underlying58 rfl sz3 rfl rfl rfl) rfl ?_
                refine L_gyes rfl rfl ?_
                refine L_y (y_ldc Try.underlying3 rfl rfl (((S9.blk 3 rfl).cell _).trans (by rfl))) rfl ?_
                refine L_gyes rfl rfl ?_
                refine L_y (y_neq rfl rfl) rfl ?_
                refine L_y ((by first | exact y_pickT rfl rfl | exact y_pickF rfl rfl)) rfl ?_
                refine L_y (y_move rfl) rfl ?_
                refine L_split 65 rfl (fun h65 => ?_) (fun h65 => ?_)
                ·
                  refine L_gno rfl rfl rfl ?_
                  refine L_gno rfl rfl rfl ?_
                  refine L_gno rfl rfl rfl ?_
                  refine L_gno rfl rfl rfl ?_
                  refine L_gno rfl rfl rfl ?_
                  refine L_gno rfl rfl rfl ?_
                  refine L_y ((by first | exact y_pickT rfl rfl | exact y_pickF rfl rfl)) rfl ?_
                  refine L_nil ?_
                  refine hK13 _ _ ?_
                  refine T_true rfl ?_
                  refine T_seq fun K16 hK16 => ?_
                  refine T_region ?_
                  refine L_y (y_assign rfl) rfl ?_
                  refine L_nil ?_
                  refine hK16 _ _ ?_
                  refine T_ret ?_
                  repeat (first | with_reducible refine up_then ?_ | with_reducible refine up_in ?_)
                  refine ret1 rfl rfl ?_
                  first | exact ⟨_, rfl, S9.like0, congrArg Value.bool (decide_eq_false (fun ⟨e1, e2, e3⟩ => by have e4 := congrArg List.length e3; rw [List.length_map, List.length_map] at e4; omega)).symm⟩ | exact ⟨_, rfl, S9.like0, congrArg Value.bool (decide_eq_false (fun ⟨e1, e2, e3⟩ => by have e5 := same_at hx hy e3; have f1 := congrArg OV.cp e5; have f2 := congrArg OV.fr e5; have f3 := congrArg OV.n e5; have f4 := congrArg OV.l e5; simp_all [OP.v])).symm⟩ | exact ⟨_, rfl, S9.like0, congrArg Value.bool (decide_eq_true ⟨by omega, by omega, same_end heq (by omega) (by omega)⟩).symm⟩
                ·
                  refine L_gyes rfl rfl ?_
                  refine L_y (y_fieldA 3 Try.underlying57 rfl sz22 rfl rfl rfl) rfl ?_
                  refine L_gyes rfl rfl ?_
                  refine L_y (y_ldc Try.underlying22 rfl rfl (((S9.blk 2 rfl).cell _).trans (by rfl))) rfl ?_
                  refine L_gyes rfl rfl ?_
                  refine L_y (y_fieldA 3 Try.underlying58 rfl sz22 rfl rfl rfl) rfl ?_
                  refine L_gyes rfl rfl ?_
                  refine L_y (y_ldc Try.underlying22 rfl rfl (((S9.blk 3 rfl).cell _).trans (by rfl))) rfl ?_
                  refine L_gyes rfl rfl ?_
                  refine L_o (o_call Try.func14 rfl rfl (same1 x.p.A y.p.A x.p.n x.p.c y.p.n y.p.c x.p.l y.p.l w9 (S9.rd hxo) (S9.rd hyo)) rfl rfl ?_)
                  rintro e13 w13 ⟨v13, rfl, l13, rfl⟩
                  refine ⟨_, rfl, ?_⟩
                  have S13 := S9.like l13
                  refine L_gyes rfl rfl ?_
                  refine L_y ((by first | exact y_notD rfl | exact y_not rfl)) rfl ?_
                  refine L_y ((by first | exact y_pickT rfl rfl | exact y_pickF rfl rfl)) rfl ?_
                  refine L_nil ?_
                  refine hK13 _ _ ?_
                  refine T_condB rfl (fun h72 => ?_) (fun h72 => ?_)
                  ·
                    refine T_seq fun K17 hK17 => ?_
                    refine T_region ?_
                    refine L_y (y_assign rfl) rfl ?_
                    refine L_nil ?_
                    refine hK17 _ _ ?_
                    refine T_ret ?_
                    repeat (first | with_reducible refine up_then ?_ | with_reducible refine up_in ?_)
                    refine ret1 rfl rfl ?_
                    first | exact ⟨_, rfl, S13.like0, congrArg Value.bool (decide_eq_false (fun ⟨e1, e2, e3⟩ => by have e4 := congrArg List.length e3; rw [List.length_map, List.length_map] at e4; omega)).symm⟩ | exact ⟨_, rfl, S13.like0, congrArg Value.bool (decide_eq_false (fun ⟨e1, e2, e3⟩ => by have e5 := same_at hx hy e3; have f1 := congrArg OV.cp e5; have f2 := congrArg OV.fr e5; have f3 := congrArg OV.n e5; have f4 := congrArg OV.l e5; simp_all [OP.v])).symm⟩ | exact ⟨_, rfl, S13.like0, congrArg Value.bool (decide_eq_true ⟨by omega, by omega, same_end heq (by omega) (by omega)⟩).symm⟩
                  ·
                    refine T_skip ?_
                    refine hK11 _ _ ?_
                    refine T_region ?_
                    refine L_y (y_move rfl) rfl ?_
                    refine L_y (y_add rfl rfl (i64w (by omega))) rfl ?_
                    refine L_y (y_assign rfl) rfl ?_
                    refine L_nil ?_
                    have S91 := S13.sel [0, 1] (by decide)
                    refine ⟨i + 1, by omega, ⟨⟨by omega, same_step heq hx hy (by unfold OP.v; simp_all)⟩, S91⟩, ?_⟩
                    exact (Sub.cons rfl (by first | rfl | exact congrArg (Value.int _) (by omega)) (Sub.cons rfl rfl (Sub.cons rfl rfl (Sub.nil _))))
          ·
            refine T_exit ?_
            refine hK7 _ _ ?_
            refine T_seq fun K18 hK18 => ?_
            refine T_region ?_
            refine L_y (y_assign rfl) rfl ?_
            refine L_nil ?_
            refine hK18 _ _ ?_
            refine T_ret ?_
            repeat (first | with_reducible refine up_then ?_ | with_reducible refine up_in ?_)
            refine ret1 rfl rfl ?_
            first | exact ⟨_, rfl, S5.like0, congrArg Value.bool (decide_eq_false (fun ⟨e1, e2, e3⟩ => by have e4 := congrArg List.length e3; rw [List.length_map, List.length_map] at e4; omega)).symm⟩ | exact ⟨_, rfl, S5.like0, congrArg Value.bool (decide_eq_false (fun ⟨e1, e2, e3⟩ => by have e5 := same_at hx hy e3; have f1 := congrArg OV.cp e5; have f2 := congrArg OV.fr e5; have f3 := congrArg OV.n e5; have f4 := congrArg OV.l e5; simp_all [OP.v])).symm⟩ | exact ⟨_, rfl, S5.like0, congrArg Value.bool (decide_eq_true ⟨by omega, by omega, same_end heq (by omega) (by omega)⟩).symm⟩
end Go.Proofs.Ytpcgldkllnkaeaa

/-
  Apply.
-/
namespace Go.Proofs.Ytpcgldkllnkaeaa
open Go.RowKit Zk Zx
set_option linter.unusedVariables false
set_option linter.unusedSimpArgs false

/-- What an op lays. -/
def layV (a : List UInt8) (o : OV) : List UInt8 := if o.cp then (a.drop o.fr.toNat).take o.n.toNat else o.l
def aplV (a : List UInt8) (l : List OV) : List UInt8 := l.flatMap (layV a)
/-- What a script makes of a base, and the error. -/
def aplR (a : List UInt8) (b t : Int) (l : List OV) : List UInt8 × Int := if errV b t l ≠ 0 then ([], errV b t l) else if (a.length : Int) ≠ b then ([], 21) else (aplV a l, 0)
theorem aplR_err {a : List UInt8} {b t : Int} {l : List OV} (h : errV b t l ≠ 0) : aplR a b t l = ([], errV b t l) := by unfold aplR; rw [if_pos h]
theorem aplR_base {a : List UInt8} {b t : Int} {l : List OV} (h : errV b t l = 0) (h2 : (a.length : Int) ≠ b) : aplR a b t l = ([], 21) := by unfold aplR; rw [if_neg (fun h3 => h3 h), if_pos h2]
theorem aplR_ok {a : List UInt8} {b t : Int} {l : List OV} (h : errV b t l = 0) (h2 : (a.length : Int) = b) : aplR a b t l = (aplV a l, 0) := by unfold aplR; rw [if_neg (fun h3 => h3 h), if_neg (fun h3 => h3 h2)]
theorem errV_zero {b t : Int} {l : List OV} (h : errV b t l = 0) : (0 ≤ b ∧ b ≤ 4000 ∧ 0 ≤ t ∧ t ≤ 4000) ∧ chkL b t l = true := by
  unfold errV at h
  split at h
  · rename_i h1
    unfold chkV at h1
    rw [Bool.and_eq_true] at h1
    exact ⟨of_decide_eq_true h1.1, h1.2⟩
  · cases h
theorem chkL_next {b left : Int} {l : List OP} {k : Nat} {o : OP} (ho : l[k]? = some o) (h : chkL b left ((l.map OP.v).drop k) = true) : rtV b o.v = true ∧ szV o.v ≤ left ∧ chkL b (left - szV o.v) ((l.map OP.v).drop (k + 1)) = true := by
  rw [drop_at' (map_at ho)] at h
  unfold chkL at h
  rw [Bool.and_eq_true, Bool.and_eq_true] at h
  exact ⟨h.1.1, of_decide_eq_true h.1.2, h.2⟩
theorem rt_cp {b : Int} {o : OP} (h : rtV b o.v = true) (hc : o.cp = true) : 1 ≤ o.n ∧ o.n ≤ b ∧ 0 ≤ o.fr ∧ o.fr ≤ b - o.n ∧ szV o.v = o.n := by
  unfold rtV at h
  rw [if_pos (show o.v.cp = true from hc)] at h
  simp only [Bool.and_eq_true, decide_eq_true_eq] at h
  exact ⟨h.1.1.1.1, h.1.1.1.2, h.1.1.2, h.1.2, by unfold szV; rw [if_pos (show o.v.cp = true from hc)]; rfl⟩
theorem rt_new {b : Int} {o : OP} (h : rtV b o.v = true) (hc : o.cp = false) : 1 ≤ o.p.l.length ∧ szV o.v = (o.p.l.length : Int) := by
  unfold rtV at h
  rw [if_neg (show ¬ o.v.cp = true from by rw [show o.v.cp = o.cp from rfl, hc]; exact Bool.false_ne_true)] at h
  simp only [Bool.and_eq_true, decide_eq_true_eq] at h
  exact ⟨h.1.1, by unfold szV; rw [if_neg (show ¬ o.v.cp = true from by rw [show o.v.cp = o.cp from rfl, hc]; exact Bool.false_ne_true)]; rfl⟩
theorem aplV_step {a : List UInt8} {l : List OP} {k : Nat} {o : OP} (ho : l[k]? = some o) : aplV a ((l.take (k + 1)).map OP.v) = aplV a ((l.take k).map OP.v) ++ layV a o.v := by
  rw [take1 ho, List.map_append]
  unfold aplV
  rw [List.flatMap_append]
  simp
theorem lay_cp {a : List UInt8} {o : OP} (hc : o.cp = true) : layV a o.v = (a.drop o.fr.toNat).take (o.fr.toNat + o.n.toNat - o.fr.toNat) := by
  unfold layV
  rw [if_pos (show o.v.cp = true from hc), Nat.add_sub_cancel_left]
  rfl
theorem lay_new {a : List UInt8} {o : OP} (hc : o.cp = false) : layV a o.v = o.p.l := by
  unfold layV
  rw [if_neg (show ¬ o.v.cp = true from by rw [show o.v.cp = o.cp from rfl, hc]; exact Bool.false_ne_true)]
  rfl
theorem bL_app' (l m : List UInt8) : bL l ++ bL m = bL (l ++ m) := by simp [bL]


set_option maxRecDepth 100000 in
theorem papply (A : Option Addr) (n c : Nat) (a : List UInt8) (B : Option Addr) (m d : Nat) (l : List OP) (b t : Int) (w0 : World) (ha : Rs w0 1 A n c (bL a)) (hl : Rs w0 4 B m d (l.flatMap opf)) (hok : OkO w0 l) :
    Calls Try.prog 12 #[.slice A n c, .agg (scA b t B m d)] w0 fun e w' => ∃ u, e = .returned u ∧ Like w0 w' ∧ ∃ A' c', u = .tuple #[.slice A' (aplR a b t (l.map OP.v)).1.length c', .int .i64 (aplR a b t (l.map OP.v)).2] ∧ w'.ownsRow w0.heap.size 5 1 (.slice A' (aplR a b t (l.map OP.v)).1.length c') (aplR a b t (l.map OP.v)).1.length (bL (aplR a b t (l.map OP.v)).1) := by
  refine enter1 (env := [(0, .slice A n c), (1, .agg (scA b t B m d))]) [.slice A n c, .agg (scA b t B m d)] Try.func12 rfl Try.ntmps12 rfl rfl ?_
  have hm := ops_n hl; have hcapm := hl.cap; have hmaxm := hl.max; have hn := ha.lenb; have hcap := ha.cap; have hmax := ha.max; have S0 := St.start w0 noM
  refine T_seq fun K1 hK1 => ?_
  refine T_region ?_
  refine L_o (o_box rfl S0 rfl fun b1 w1 hb1 S1 => ?_)
  refine L_y (y_assign rfl) rfl ?_
  refine L_y (y_assign rfl) rfl ?_
  refine L_nil ?_
  refine hK1 _ _ ?_
  refine T_seq fun K2 hK2 => ?_
  refine T_seq fun K3 hK3 => ?_
  refine T_region ?_
  refine L_y (y_ldW Try.underlying25 rfl sz25 rfl (S1.blk 0 rfl) (show _ = (scA b t B m d).toList ∧ _ from ⟨rfl, rfl⟩)) rfl ?_
  refine L_o (o_call Try.func20 rfl rfl (pcheck B m d l b t w1 (S1.rd hl) (hok.like S1.like0)) rfl rfl ?_)
  rintro e2 w2 ⟨v2, rfl, l2, rfl⟩
  refine ⟨_, rfl, ?_⟩
  have S2 := S1.like l2
  refine L_y (y_assign rfl) rfl ?_
  refine L_nil ?_
  refine hK3 _ _ ?_
  refine T_seq fun K4 hK4 => ?_
  refine T_region ?_
  refine L_y (y_move rfl) rfl ?_
  refine L_y (y_neq rfl rfl) rfl ?_
  refine L_nil ?_
  refine hK4 _ _ ?_
  refine T_cond rfl (fun h13 => ?_) (fun h13 => ?_)
  ·
    refine T_seq fun K5 hK5 => ?_
    refine T_region ?_
    refine L_y (y_move rfl) rfl ?_
    refine L_y (y_assign rfl) rfl ?_
    refine L_y (y_assign rfl) rfl ?_
    refine L_nil ?_
    refine hK5 _ _ ?_
    refine T_ret ?_
    repeat (first | with_reducible refine up_then ?_ | with_reducible refine up_in ?_)
    refine ret2 rfl rfl rfl ?_
    first | exact ⟨_, rfl, S2.like0, none, 0, by rw [aplR_err h13]; rfl, by rw [aplR_err h13]; exact World.ownsRow_nil _ _ _ _⟩ | exact ⟨_, rfl, S2.like0, none, 0, by rw [aplR_base h130 (by omega)]; rfl, by rw [aplR_base h130 (by omega)]; exact World.ownsRow_nil _ _ _ _⟩ | (have hke : k = m := by omega); subst hke; rw [List.take_of_length_le (by omega)] at hout; exact ⟨_, rfl, S2.like0, A1, c1, by rw [aplR_ok h130 (by omega), ← hout], by rw [aplR_ok h130 (by omega), ← hout]; exact S2.own 1 rfl⟩
  ·
    have h130 := Decidable.byContradiction h13
    obtain ⟨hrg, hall⟩ := errV_zero h130
    refine T_skip ?_
    refine hK2 _ _ ?_
    refine T_seq fun K6 hK6 => ?_
    refine T_seq fun K7 hK7 => ?_
    refine T_region ?_
    refine L_y (y_move rfl) rfl ?_
    refine L_y (y_len Try.underlying22 rfl) rfl ?_
    refine L_y (y_fieldA 0 Try.underlying25 rfl sz3 rfl rfl rfl) rfl ?_
    refine L_y (y_ldc Try.underlying3 rfl rfl (((S2.blk 0 rfl).cell _).trans (by rfl))) rfl ?_
    refine L_y (y_neq rfl rfl) rfl ?_
    refine L_nil ?_
    refine hK7 _ _ ?_
    refine T_cond rfl (fun h19 => ?_) (fun h19 => ?_)
    ·
      refine T_seq fun K8 hK8 => ?_
      refine T_region ?_
      refine L_y (y_assign rfl) rfl ?_
      refine L_y (y_assign rfl) rfl ?_
      refine L_nil ?_
      refine hK8 _ _ ?_
      refine T_ret ?_
      repeat (first | with_reducible refine up_then ?_ | with_reducible refine up_in ?_)
      refine ret2 rfl rfl rfl ?_
      first | exact ⟨_, rfl, S2.like0, none, 0, by rw [aplR_err h13]; rfl, by rw [aplR_err h13]; exact World.ownsRow_nil _ _ _ _⟩ | exact ⟨_, rfl, S2.like0, none, 0, by rw [aplR_base h130 (by omega)]; rfl, by rw [aplR_base h130 (by omega)]; exact World.ownsRow_nil _ _ _ _⟩ | (have hke : k = m := by omega); subst hke; rw [List.take_of_length_le (by omega)] at hout; exact ⟨_, rfl, S2.like0, A1, c1, by rw [aplR_ok h130 (by omega), ← hout], by rw [aplR_ok h130 (by omega), ← hout]; exact S2.own 1 rfl⟩
    ·
      refine T_skip ?_
      refine hK6 _ _ ?_
      refine T_seq fun K9 hK9 => ?_
      refine T_region ?_
      refine L_y (y_fieldA 1 Try.underlying25 rfl sz3 rfl rfl rfl) rfl ?_
      refine L_y (y_ldc Try.underlying3 rfl rfl (((S2.blk 0 rfl).cell _).trans (by rfl))) rfl ?_
      refine L_o (o_make te22 rfl S2 rfl rfl inferInstance (Nt.mk (by omega) : Nt _ t.toNat) rfl (by omega) (by omega) (by omega) fun b3 w3 S3 => ?_)
      refine L_y (y_assign rfl) rfl ?_
      refine L_nil ?_
      refine hK9 _ _ ?_
      refine T_seq fun K10 hK10 => ?_
      refine T_seq fun K11 hK11 => ?_
      refine T_region ?_
      refine L_y (y_fieldA 2 Try.underlying25 rfl sz23 rfl rfl rfl) rfl ?_
      refine L_y (y_ldc Try.underlying23 rfl rfl (((S3.blk 0 rfl).cell _).trans (by rfl))) rfl ?_
      refine L_y (y_len Try.underlying23 rfl) rfl ?_
      refine L_y (y_move rfl) rfl ?_
      refine L_nil ?_
      refine hK11 _ _ ?_
      refine T_block ?_
      refine T_loop4 [(0, _), (24, _), (25, _)] (fun (k : Nat) (out : List UInt8) (A1 : Option Addr) (c1 : Nat) => [(26, .int .i64 (k : Int)), (7, .slice A1 out.length c1)]) (fun (k : Nat) (out : List UInt8) (A1 : Option Addr) (c1 : Nat) => m - k) (fun (k : Nat) (out : List UInt8) (A1 : Option Addr) (c1 : Nat) (w : World) => (k ≤ m ∧ out = aplV a ((l.take k).map OP.v) ∧ (out.length : Int) ≤ t ∧ chkL b (t - (out.length : Int)) ((l.map OP.v).drop k) = true) ∧ St w0 noM [blk b1 25 (scA b t B m d), row 5 1 A1 out.length c1 (bL out)] w) 0 [] (some ⟨b3, 0, none⟩) t.toNat (Sub.cons rfl (by first | rfl | exact congrArg (Value.int _) (by omega)) (Sub.cons rfl (by first | rfl | exact congrArg (Value.int _) (by omega)) (Sub.nil _))) (Sub.cons rfl rfl (Sub.cons rfl rfl (Sub.cons rfl rfl (Sub.nil _)))) ?_ ?_
      ·
        exact ⟨⟨Nat.zero_le _, rfl, by show (0 : Int) ≤ t; omega, by show chkL b (t - 0) _ = true; rw [Int.sub_zero]; exact hall⟩, S3⟩
      ·
        intro k out A1 c1 w4 hrel
        obtain ⟨⟨hk, hout, hol, hch⟩, S4⟩ := hrel
        refine T_seq fun K12 hK12 => ?_
        refine T_region ?_
        refine L_y (y_lss rfl rfl) rfl ?_
        refine L_nil ?_
        refine hK12 _ _ ?_
        refine T_seq fun K13 hK13 => ?_
        refine T_cond rfl (fun h27 => ?_) (fun h27 => ?_)
        ·
          obtain ⟨o, ho⟩ : ∃ o, l[k]? = some o := ⟨_, List.getElem?_eq_getElem (by omega)⟩
          have hop := hok o (List.mem_of_getElem? ho)
          have hopn := hop.lenb; have hopc := hop.cap; have hopm := hop.max
          obtain ⟨hrt, hsz, hrest⟩ := chkL_next ho hch
          refine T_skip ?_
          refine hK13 _ _ ?_
          refine T_seq fun K14 hK14 => ?_
          refine T_block ?_
          refine T_seq fun K15 hK15 => ?_
          refine T_region ?_
          refine L_y (y_idx Try.underlying23 sz57 rfl rfl (S4.rd hl) (Nt.mk (by omega) : Nt _ (k)) (by omega)) rfl ?_
          refine L_y (y_ldp (f := opf) opf_len Try.underlying57 rfl sz57 rfl (S4.rd hl) (by omega) ho) rfl ?_
          refine L_o (o_alloc zz57 S4 rfl fun b5 w5 hb5 S5 => ?_)
          refine L_o (o_stW S5 2 rfl rfl rfl sz57 rfl (opf_one o) fun w6 S6 => ?_)
          refine L_nil ?_
          refine hK15 _ _ ?_
          refine T_seq fun K16 hK16 => ?_
          refine T_region ?_
          refine L_y (y_fieldA 0 Try.underlying57 rfl sz4 rfl rfl rfl) rfl ?_
          refine L_y (y_ldc Try.underlying4 rfl rfl (((S6.blk 2 rfl).cell _).trans (by rfl))) rfl ?_
          refine L_nil ?_
          refine hK16 _ _ ?_
          refine T_condB rfl (fun h31 => ?_) (fun h31 => ?_)
          ·
            have hcp : o.cp = true := h31
            obtain ⟨g1, g2, g3, g4, g5⟩ := rt_cp hrt hcp
            refine T_region ?_
            refine L_y (y_move rfl) rfl ?_
            refine L_y (y_move rfl) rfl ?_
            refine L_y (y_fieldA 1 Try.underlying57 rfl sz3 rfl rfl rfl) rfl ?_
            refine L_y (y_ldc Try.underlying3 rfl rfl (((S6.blk 2 rfl).cell _).trans (by rfl))) rfl ?_
            refine L_y (y_fieldA 1 Try.underlying57 rfl sz3 rfl rfl rfl) rfl ?_
            refine L_y (y_ldc Try.underlying3 rfl rfl (((S6.blk 2 rfl).cell _).trans (by rfl))) rfl ?_
            refine L_y (y_fieldA 2 Try.underlying57 rfl sz3 rfl rfl rfl) rfl ?_
            refine L_y (y_ldc Try.underlying3 rfl rfl (((S6.blk 2 rfl).cell _).trans (by rfl))) rfl ?_
            refine L_y (y_add rfl rfl (i64w (by omega))) rfl ?_
            refine L_y (y_slice Try.underlying22 sz5 rfl rfl rfl (Nt.mk (by omega) : Nt _ (o.fr.toNat)) (Nt.mk (by omega) : Nt _ (o.fr.toNat + o.n.toNat)) (by omega) (by omega)) rfl ?_
            refine L_o (o_app te22 S6 1 rfl rfl rfl (cut_mid (S6.rd ha) (k := o.fr.toNat) (u := o.fr.toNat + o.n.toNat) (by omega) (by omega)) (bL_one _) rfl (by omega) (by omega) fun A7 c7 w7 S7 => ?_)
            refine L_y (y_assign rfl) rfl ?_
            refine L_nil ?_
            refine hK14 _ _ ?_
            refine T_region ?_
            refine L_y (y_add rfl rfl (i64w (by omega))) rfl ?_
            refine L_y (y_move rfl) rfl ?_
            refine L_nil ?_
            have hpl : ((a.drop o.fr.toNat).take (o.fr.toNat + o.n.toNat - o.fr.toNat)).length = o.n.toNat := by rw [List.length_take, List.length_drop]; omega
            have S91 := S7.rowc 1 rfl (n' := (out ++ ((a.drop o.fr.toNat).take (o.fr.toNat + o.n.toNat - o.fr.toNat))).length) (xs' := bL (out ++ ((a.drop o.fr.toNat).take (o.fr.toNat + o.n.toNat - o.fr.toNat)))) (by rw [List.length_append]; omega) (bL_app' _ _)
            have S92 := S91.sel [0, 1] (by decide)
            refine ⟨k + 1, out ++ ((a.drop o.fr.toNat).take (o.fr.toNat + o.n.toNat - o.fr.toNat)), A7, c7, by omega, ⟨⟨by omega, by rw [hout, aplV_step ho, lay_cp hcp], by rw [List.length_append]; omega, by rw [List.length_append, show t - ((out.length + ((a.drop o.fr.toNat).take (o.fr.toNat + o.n.toNat - o.fr.toNat)).length : Nat) : Int) = t - (out.length : Int) - szV o.v by omega]; exact hrest⟩, S92⟩, ?_⟩
            exact (Sub.cons rfl (by first | rfl | exact congrArg (Value.int _) (by omega)) (Sub.cons rfl (by first | rfl | (rw [List.length_append]; congr 1; omega)) (Sub.cons rfl rfl (Sub.cons rfl rfl (Sub.cons rfl rfl (Sub.nil _))))))
          ·
            have hcp : o.cp = false := h31
            obtain ⟨g1, g2⟩ := rt_new hrt hcp
            refine T_region ?_
            refine L_y (y_move rfl) rfl ?_
            refine L_y (y_fieldA 3 Try.underlying57 rfl sz22 rfl rfl rfl) rfl ?_
            refine L_y (y_ldc Try.underlying22 rfl rfl (((S6.blk 2 rfl).cell _).trans (by rfl))) rfl ?_
            refine L_o (o_app te22 S6 1 rfl rfl rfl (S6.rd hop) (bL_one _) rfl (by omega) (by omega) fun A8 c8 w8 S8 => ?_)
            refine L_y (y_assign rfl) rfl ?_
            refine L_nil ?_
            refine hK14 _ _ ?_
            refine T_region ?_
            refine L_y (y_add rfl rfl (i64w (by omega))) rfl ?_
            refine L_y (y_move rfl) rfl ?_
            refine L_nil ?_
            have hpl : o.p.l.length = o.p.n := hop.lenb
            have S91 := S8.rowc 1 rfl (n' := (out ++ o.p.l).length) (xs' := bL (out ++ o.p.l)) (by rw [List.length_append]; omega) (bL_app' _ _)
            have S92 := S91.sel [0, 1] (by decide)
            refine ⟨k + 1, out ++ o.p.l, A8, c8, by omega, ⟨⟨by omega, by rw [hout, aplV_step ho, lay_new hcp], by rw [List.length_append]; omega, by rw [List.length_append, show t - ((out.length + o.p.l.length : Nat) : Int) = t - (out.length : Int) - szV o.v by omega]; exact hrest⟩, S92⟩, ?_⟩
            exact (Sub.cons rfl (by first | rfl | exact congrArg (Value.int _) (by omega)) (Sub.cons rfl (by first | rfl | (rw [List.length_append]; congr 1; omega)) (Sub.cons rfl rfl (Sub.cons rfl rfl (Sub.cons rfl rfl (Sub.nil _))))))
        ·
          refine T_exit ?_
          refine hK10 _ _ ?_
          refine T_seq fun K17 hK17 => ?_
          refine T_region ?_
          refine L_y (y_move rfl) rfl ?_
          refine L_y (y_assign rfl) rfl ?_
          refine L_y (y_assign rfl) rfl ?_
          refine L_nil ?_
          refine hK17 _ _ ?_
          refine T_ret ?_
          repeat (first | with_reducible refine up_then ?_ | with_reducible refine up_in ?_)
          refine ret2 rfl rfl rfl ?_
          first | exact ⟨_, rfl, S4.like0, none, 0, by rw [aplR_err h13]; rfl, by rw [aplR_err h13]; exact World.ownsRow_nil _ _ _ _⟩ | exact ⟨_, rfl, S4.like0, none, 0, by rw [aplR_base h130 (by omega)]; rfl, by rw [aplR_base h130 (by omega)]; exact World.ownsRow_nil _ _ _ _⟩ | (have hke : k = m := by omega); subst hke; rw [List.take_of_length_le (by omega)] at hout; exact ⟨_, rfl, S4.like0, A1, c1, by rw [aplR_ok h130 (by omega), ← hout], by rw [aplR_ok h130 (by omega), ← hout]; exact S4.own 1 rfl⟩


set_option maxRecDepth 100000 in
theorem rapply (A : Option Addr) (n c : Nat) (a : List UInt8) (B : Option Addr) (m d : Nat) (l : List OP) (b t : Int) (w0 : World) (ha : Rs w0 1 A n c (bL a)) (hl : Rs w0 4 B m d (l.flatMap opf)) (hok : OkO w0 l) :
    Calls Try.prog 13 #[.slice A n c, .agg (scA b t B m d)] w0 fun e w' => ∃ u, e = .returned u ∧ Like w0 w' ∧ ∃ A' c', u = .tuple #[.slice A' (aplR a b t (l.map OP.v)).1.length c', .int .i64 (aplR a b t (l.map OP.v)).2] ∧ w'.ownsRow w0.heap.size 5 1 (.slice A' (aplR a b t (l.map OP.v)).1.length c') (aplR a b t (l.map OP.v)).1.length (bL (aplR a b t (l.map OP.v)).1) := by
  refine enter1 (env := [(0, .slice A n c), (1, .agg (scA b t B m d))]) [.slice A n c, .agg (scA b t B m d)] Try.func13 rfl Try.ntmps13 rfl rfl ?_
  have hm := ops_n hl; have hcapm := hl.cap; have hmaxm := hl.max; have hn := ha.lenb; have hcap := ha.cap; have hmax := ha.max; have S0 := St.start w0 noM
  refine T_seq fun K1 hK1 => ?_
  refine T_region ?_
  refine L_o (o_box rfl S0 rfl fun b1 w1 hb1 S1 => ?_)
  refine L_y (y_assign rfl) rfl ?_
  refine L_y (y_assign rfl) rfl ?_
  refine L_nil ?_
  refine hK1 _ _ ?_
  refine T_seq fun K2 hK2 => ?_
  refine T_region ?_
  refine L_y (y_ldW Try.underlying30 rfl sz30 rfl (S1.blk 0 rfl) (show _ = (scA b t B m d).toList ∧ _ from ⟨rfl, rfl⟩)) rfl ?_
  refine L_o (o_call Try.func21 rfl rfl (rcheck B m d l b t w1 (S1.rd hl) (hok.like S1.like0)) rfl rfl ?_)
  rintro e2 w2 ⟨v2, rfl, l2, rfl⟩
  refine ⟨_, rfl, ?_⟩
  have S2 := S1.like l2
  refine L_y (y_assign rfl) rfl ?_
  refine L_nil ?_
  refine hK2 _ _ ?_
  refine T_seq fun K3 hK3 => ?_
  refine T_seq fun K4 hK4 => ?_
  refine T_region ?_
  refine L_y (y_move rfl) rfl ?_
  refine L_y (y_neq rfl rfl) rfl ?_
  refine L_nil ?_
  refine hK4 _ _ ?_
  refine T_cond rfl (fun h13 => ?_) (fun h13 => ?_)
  ·
    refine T_seq fun K5 hK5 => ?_
    refine T_region ?_
    refine L_y (y_move rfl) rfl ?_
    refine L_y (y_assign rfl) rfl ?_
    refine L_y (y_assign rfl) rfl ?_
    refine L_nil ?_
    refine hK5 _ _ ?_
    refine T_ret ?_
    repeat (first | with_reducible refine up_then ?_ | with_reducible refine up_in ?_)
    refine ret2 rfl rfl rfl ?_
    first | exact ⟨_, rfl, S2.like0, none, 0, by rw [aplR_err h13]; rfl, by rw [aplR_err h13]; exact World.ownsRow_nil _ _ _ _⟩ | exact ⟨_, rfl, S2.like0, none, 0, by rw [aplR_base h130 (by omega)]; rfl, by rw [aplR_base h130 (by omega)]; exact World.ownsRow_nil _ _ _ _⟩ | (have hke : k = m := by omega); subst hke; rw [List.take_of_length_le (by omega)] at hout; exact ⟨_, rfl, S2.like0, A1, c1, by rw [aplR_ok h130 (by omega), ← hout], by rw [aplR_ok h130 (by omega), ← hout]; exact S2.own 1 rfl⟩
  ·
    have h130 := Decidable.byContradiction h13
    obtain ⟨hrg, hall⟩ := errV_zero h130
    refine T_skip ?_
    refine hK3 _ _ ?_
    refine T_seq fun K6 hK6 => ?_
    refine T_seq fun K7 hK7 => ?_
    refine T_region ?_
    refine L_y (y_move rfl) rfl ?_
    refine L_y (y_len Try.underlying22 rfl) rfl ?_
    refine L_y (y_fieldA 0 Try.underlying30 rfl sz3 rfl rfl rfl) rfl ?_
    refine L_y (y_ldc Try.underlying3 rfl rfl (((S2.blk 0 rfl).cell _).trans (by rfl))) rfl ?_
    refine L_y (y_neq rfl rfl) rfl ?_
    refine L_nil ?_
    refine hK7 _ _ ?_
    refine T_cond rfl (fun h19 => ?_) (fun h19 => ?_)
    ·
      refine T_seq fun K8 hK8 => ?_
      refine T_region ?_
      refine L_y (y_assign rfl) rfl ?_
      refine L_y (y_assign rfl) rfl ?_
      refine L_nil ?_
      refine hK8 _ _ ?_
      refine T_ret ?_
      repeat (first | with_reducible refine up_then ?_ | with_reducible refine up_in ?_)
      refine ret2 rfl rfl rfl ?_
      first | exact ⟨_, rfl, S2.like0, none, 0, by rw [aplR_err h13]; rfl, by rw [aplR_err h13]; exact World.ownsRow_nil _ _ _ _⟩ | exact ⟨_, rfl, S2.like0, none, 0, by rw [aplR_base h130 (by omega)]; rfl, by rw [aplR_base h130 (by omega)]; exact World.ownsRow_nil _ _ _ _⟩ | (have hke : k = m := by omega); subst hke; rw [List.take_of_length_le (by omega)] at hout; exact ⟨_, rfl, S2.like0, A1, c1, by rw [aplR_ok h130 (by omega), ← hout], by rw [aplR_ok h130 (by omega), ← hout]; exact S2.own 1 rfl⟩
    ·
      refine T_skip ?_
      refine hK6 _ _ ?_
      refine T_seq fun K9 hK9 => ?_
      refine T_region ?_
      have S3 := S2.nilrow 5 1
      refine L_y (y_assign rfl) rfl ?_
      refine L_nil ?_
      refine hK9 _ _ ?_
      refine T_seq fun K10 hK10 => ?_
      refine T_seq fun K11 hK11 => ?_
      refine T_region ?_
      refine L_y (y_assign rfl) rfl ?_
      refine L_nil ?_
      refine hK11 _ _ ?_
      refine T_block ?_
      refine T_loop4 [(0, _), (3, _)] (fun (k : Nat) (out : List UInt8) (A1 : Option Addr) (c1 : Nat) => [(8, .int .i64 (k : Int)), (7, .slice A1 out.length c1)]) (fun (k : Nat) (out : List UInt8) (A1 : Option Addr) (c1 : Nat) => m - k) (fun (k : Nat) (out : List UInt8) (A1 : Option Addr) (c1 : Nat) (w : World) => (k ≤ m ∧ out = aplV a ((l.take k).map OP.v) ∧ (out.length : Int) ≤ t ∧ chkL b (t - (out.length : Int)) ((l.map OP.v).drop k) = true) ∧ St w0 noM [blk b1 30 (scA b t B m d), row 5 1 A1 out.length c1 (bL out)] w) 0 [] none 0 (Sub.cons rfl (by first | rfl | exact congrArg (Value.int _) (by omega)) (Sub.cons rfl (by first | rfl | exact congrArg (Value.int _) (by omega)) (Sub.nil _))) (Sub.cons rfl rfl (Sub.cons rfl rfl (Sub.nil _))) ?_ ?_
      ·
        exact ⟨⟨Nat.zero_le _, rfl, by show (0 : Int) ≤ t; omega, by show chkL b (t - 0) _ = true; rw [Int.sub_zero]; exact hall⟩, S3⟩
      ·
        intro k out A1 c1 w4 hrel
        obtain ⟨⟨hk, hout, hol, hch⟩, S4⟩ := hrel
        refine T_seq fun K12 hK12 => ?_
        refine T_seq fun K13 hK13 => ?_
        refine T_region ?_
        refine L_y (y_move rfl) rfl ?_
        refine L_y (y_fieldA 2 Try.underlying30 rfl sz28 rfl rfl rfl) rfl ?_
        refine L_y (y_ldc Try.underlying28 rfl rfl (((S4.blk 0 rfl).cell _).trans (by rfl))) rfl ?_
        refine L_y (y_len Try.underlying28 rfl) rfl ?_
        refine L_y (y_lss rfl rfl) rfl ?_
        refine L_nil ?_
        refine hK13 _ _ ?_
        refine T_cond rfl (fun h24 => ?_) (fun h24 => ?_)
        ·
          obtain ⟨o, ho⟩ : ∃ o, l[k]? = some o := ⟨_, List.getElem?_eq_getElem (by omega)⟩
          have hop := hok o (List.mem_of_getElem? ho)
          have hopn := hop.lenb; have hopc := hop.cap; have hopm := hop.max
          obtain ⟨hrt, hsz, hrest⟩ := chkL_next ho hch
          refine T_skip ?_
          refine hK12 _ _ ?_
          refine T_seq fun K14 hK14 => ?_
          refine T_block ?_
          refine T_seq fun K15 hK15 => ?_
          refine T_region ?_
          refine L_y (y_fieldA 2 Try.underlying30 rfl sz28 rfl rfl rfl) rfl ?_
          refine L_y (y_ldc Try.underlying28 rfl rfl (((S4.blk 0 rfl).cell _).trans (by rfl))) rfl ?_
          refine L_y (y_move rfl) rfl ?_
          refine L_y (y_idx Try.underlying28 sz58 rfl rfl (S4.rd hl) (Nt.mk (by omega) : Nt _ (k)) (by omega)) rfl ?_
          refine L_y (y_ldp (f := opf) opf_len Try.underlying58 rfl sz58 rfl (S4.rd hl) (by omega) ho) rfl ?_
          refine L_o (o_alloc zz58 S4 rfl fun b5 w5 hb5 S5 => ?_)
          refine L_o (o_stW S5 2 rfl rfl rfl sz58 rfl (opf_one o) fun w6 S6 => ?_)
          refine L_nil ?_
          refine hK15 _ _ ?_
          refine T_seq fun K16 hK16 => ?_
          refine T_region ?_
          refine L_y (y_fieldA 0 Try.underlying58 rfl sz4 rfl rfl rfl) rfl ?_
          refine L_y (y_ldc Try.underlying4 rfl rfl (((S6.blk 2 rfl).cell _).trans (by rfl))) rfl ?_
          refine L_nil ?_
          refine hK16 _ _ ?_
          refine T_condB rfl (fun h33 => ?_) (fun h33 => ?_)
          ·
            have hcp : o.cp = true := h33
            obtain ⟨g1, g2, g3, g4, g5⟩ := rt_cp hrt hcp
            refine T_region ?_
            refine L_y (y_move rfl) rfl ?_
            refine L_y (y_move rfl) rfl ?_
            refine L_y (y_fieldA 1 Try.underlying58 rfl sz3 rfl rfl rfl) rfl ?_
            refine L_y (y_ldc Try.underlying3 rfl rfl (((S6.blk 2 rfl).cell _).trans (by rfl))) rfl ?_
            refine L_y (y_fieldA 1 Try.underlying58 rfl sz3 rfl rfl rfl) rfl ?_
            refine L_y (y_ldc Try.underlying3 rfl rfl (((S6.blk 2 rfl).cell _).trans (by rfl))) rfl ?_
            refine L_y (y_fieldA 2 Try.underlying58 rfl sz3 rfl rfl rfl) rfl ?_
            refine L_y (y_ldc Try.underlying3 rfl rfl (((S6.blk 2 rfl).cell _).trans (by rfl))) rfl ?_
            refine L_y (y_add rfl rfl (i64w (by omega))) rfl ?_
            refine L_y (y_slice Try.underlying22 sz5 rfl rfl rfl (Nt.mk (by omega) : Nt _ (o.fr.toNat)) (Nt.mk (by omega) : Nt _ (o.fr.toNat + o.n.toNat)) (by omega) (by omega)) rfl ?_
            refine L_o (o_app te22 S6 1 rfl rfl rfl (cut_mid (S6.rd ha) (k := o.fr.toNat) (u := o.fr.toNat + o.n.toNat) (by omega) (by omega)) (bL_one _) rfl (by omega) (by omega) fun A7 c7 w7 S7 => ?_)
            refine L_y (y_assign rfl) rfl ?_
            refine L_nil ?_
            refine hK14 _ _ ?_
            refine T_region ?_
            refine L_y (y_move rfl) rfl ?_
            refine L_y (y_add rfl rfl (i64w (by omega))) rfl ?_
            refine L_y (y_assign rfl) rfl ?_
            refine L_nil ?_
            have hpl : ((a.drop o.fr.toNat).take (o.fr.toNat + o.n.toNat - o.fr.toNat)).length = o.n.toNat := by rw [List.length_take, List.length_drop]; omega
            have S91 := S7.rowc 1 rfl (n' := (out ++ ((a.drop o.fr.toNat).take (o.fr.toNat + o.n.toNat - o.fr.toNat))).length) (xs' := bL (out ++ ((a.drop o.fr.toNat).take (o.fr.toNat + o.n.toNat - o.fr.toNat)))) (by rw [List.length_append]; omega) (bL_app' _ _)
            have S92 := S91.sel [0, 1] (by decide)
            refine ⟨k + 1, out ++ ((a.drop o.fr.toNat).take (o.fr.toNat + o.n.toNat - o.fr.toNat)), A7, c7, by omega, ⟨⟨by omega, by rw [hout, aplV_step ho, lay_cp hcp], by rw [List.length_append]; omega, by rw [List.length_append, show t - ((out.length + ((a.drop o.fr.toNat).take (o.fr.toNat + o.n.toNat - o.fr.toNat)).length : Nat) : Int) = t - (out.length : Int) - szV o.v by omega]; exact hrest⟩, S92⟩, ?_⟩
            exact (Sub.cons rfl (by first | rfl | exact congrArg (Value.int _) (by omega)) (Sub.cons rfl (by first | rfl | (rw [List.length_append]; congr 1; omega)) (Sub.cons rfl rfl (Sub.cons rfl rfl (Sub.nil _)))))
          ·
            have hcp : o.cp = false := h33
            obtain ⟨g1, g2⟩ := rt_new hrt hcp
            refine T_region ?_
            refine L_y (y_move rfl) rfl ?_
            refine L_y (y_fieldA 3 Try.underlying58 rfl sz22 rfl rfl rfl) rfl ?_
            refine L_y (y_ldc Try.underlying22 rfl rfl (((S6.blk 2 rfl).cell _).trans (by rfl))) rfl ?_
            refine L_o (o_app te22 S6 1 rfl rfl rfl (S6.rd hop) (bL_one _) rfl (by omega) (by omega) fun A8 c8 w8 S8 => ?_)
            refine L_y (y_assign rfl) rfl ?_
            refine L_nil ?_
            refine hK14 _ _ ?_
            refine T_region ?_
            refine L_y (y_move rfl) rfl ?_
            refine L_y (y_add rfl rfl (i64w (by omega))) rfl ?_
            refine L_y (y_assign rfl) rfl ?_
            refine L_nil ?_
            have hpl : o.p.l.length = o.p.n := hop.lenb
            have S91 := S8.rowc 1 rfl (n' := (out ++ o.p.l).length) (xs' := bL (out ++ o.p.l)) (by rw [List.length_append]; omega) (bL_app' _ _)
            have S92 := S91.sel [0, 1] (by decide)
            refine ⟨k + 1, out ++ o.p.l, A8, c8, by omega, ⟨⟨by omega, by rw [hout, aplV_step ho, lay_new hcp], by rw [List.length_append]; omega, by rw [List.length_append, show t - ((out.length + o.p.l.length : Nat) : Int) = t - (out.length : Int) - szV o.v by omega]; exact hrest⟩, S92⟩, ?_⟩
            exact (Sub.cons rfl (by first | rfl | exact congrArg (Value.int _) (by omega)) (Sub.cons rfl (by first | rfl | (rw [List.length_append]; congr 1; omega)) (Sub.cons rfl rfl (Sub.cons rfl rfl (Sub.nil _)))))
        ·
          refine T_exit ?_
          refine hK10 _ _ ?_
          refine T_seq fun K17 hK17 => ?_
          refine T_region ?_
          refine L_y (y_move rfl) rfl ?_
          refine L_y (y_assign rfl) rfl ?_
          refine L_y (y_assign rfl) rfl ?_
          refine L_nil ?_
          refine hK17 _ _ ?_
          refine T_ret ?_
          repeat (first | with_reducible refine up_then ?_ | with_reducible refine up_in ?_)
          refine ret2 rfl rfl rfl ?_
          first | exact ⟨_, rfl, S4.like0, none, 0, by rw [aplR_err h13]; rfl, by rw [aplR_err h13]; exact World.ownsRow_nil _ _ _ _⟩ | exact ⟨_, rfl, S4.like0, none, 0, by rw [aplR_base h130 (by omega)]; rfl, by rw [aplR_base h130 (by omega)]; exact World.ownsRow_nil _ _ _ _⟩ | (have hke : k = m := by omega); subst hke; rw [List.take_of_length_le (by omega)] at hout; exact ⟨_, rfl, S4.like0, A1, c1, by rw [aplR_ok h130 (by omega), ← hout], by rw [aplR_ok h130 (by omega), ← hout]; exact S4.own 1 rfl⟩
end Go.Proofs.Ytpcgldkllnkaeaa

/-
  The law DeltaApplies.
-/
namespace Go.Proofs.Ytpcgldkllnkaeaa
open Go.RowKit Zk Zx
set_option linter.unusedVariables false
set_option linter.unusedSimpArgs false

theorem papplyL {L : List OV} (A : Option Addr) (n c : Nat) (a : List UInt8) (B : Option Addr) (m d : Nat) (l : List OP) (b t : Int) (w0 : World) (ha : Rs w0 1 A n c (bL a)) (hl : Rs w0 4 B m d (l.flatMap opf)) (hok : OkO w0 l) (hL : l.map OP.v = L) :
    Calls Try.prog 12 #[.slice A n c, .agg (scA b t B m d)] w0 fun e w' => ∃ u, e = .returned u ∧ Like w0 w' ∧ ∃ A' c', u = .tuple #[.slice A' (aplR a b t L).1.length c', .int .i64 (aplR a b t L).2] ∧ w'.ownsRow w0.heap.size 5 1 (.slice A' (aplR a b t L).1.length c') (aplR a b t L).1.length (bL (aplR a b t L).1) := by
  subst hL; exact papply A n c a B m d l b t w0 ha hl hok
theorem rapplyL {L : List OV} (A : Option Addr) (n c : Nat) (a : List UInt8) (B : Option Addr) (m d : Nat) (l : List OP) (b t : Int) (w0 : World) (ha : Rs w0 1 A n c (bL a)) (hl : Rs w0 4 B m d (l.flatMap opf)) (hok : OkO w0 l) (hL : l.map OP.v = L) :
    Calls Try.prog 13 #[.slice A n c, .agg (scA b t B m d)] w0 fun e w' => ∃ u, e = .returned u ∧ Like w0 w' ∧ ∃ A' c', u = .tuple #[.slice A' (aplR a b t L).1.length c', .int .i64 (aplR a b t L).2] ∧ w'.ownsRow w0.heap.size 5 1 (.slice A' (aplR a b t L).1.length c') (aplR a b t L).1.length (bL (aplR a b t L).1) := by
  subst hL; exact rapply A n c a B m d l b t w0 ha hl hok
theorem psameT (A : Option Addr) (n c : Nat) (l : List OP) (b t : Int) (B : Option Addr) (m d : Nat) (k : List OP) (w0 : World) (hl : Rs w0 4 A n c (l.flatMap opf)) (hok : OkO w0 l) (hk : Rs w0 4 B m d (k.flatMap opf)) (hok2 : OkO w0 k) (e : l.map OP.v = k.map OP.v) :
    Calls Try.prog 15 #[.agg (scA b t A n c), .agg (scA b t B m d)] w0 fun e w' => ∃ u, e = .returned u ∧ Like w0 w' ∧ u = .bool true :=
  (psame A n c l b t B m d k b t w0 hl hok hk hok2).mono fun e' w' ⟨u, h1, h2, h3⟩ => ⟨u, h1, h2, by rw [h3, decide_eq_true ⟨rfl, rfl, e⟩]⟩
theorem same1T (A B : Option Addr) (n c m d : Nat) (a : List UInt8) (w0 : World) (ha : Rs w0 1 A n c (bL a)) (hb : Rs w0 1 B m d (bL a)) :
    Calls Try.prog 14 #[.slice A n c, .slice B m d] w0 fun e w' => ∃ u, e = .returned u ∧ Like w0 w' ∧ u = .bool true :=
  (same1 A B n c m d a a w0 ha hb).mono fun e w' ⟨u, h1, h2, h3⟩ => ⟨u, h1, h2, by rw [h3, decide_eq_true rfl]⟩


set_option maxRecDepth 100000 in
theorem lapplies (A : Option Addr) (n c : Nat) (a : List UInt8) (B : Option Addr) (m d : Nat) (l : List OP) (b t : Int) (w0 : World) (ha : Rs w0 1 A n c (bL a)) (hl : Rs w0 4 B m d (l.flatMap opf)) (hok : OkO w0 l) (hbig : ∀ o ∈ l, o.p.n ≤ 70368744177000) :
    Calls Try.prog 3 #[.slice A n c, .agg (scA b t B m d)] w0 fun e w' => ∃ u, e = .returned u ∧ Like w0 w' ∧ u = .bool true := by
  refine enter1 (env := [(0, .slice A n c), (1, .agg (scA b t B m d))]) [.slice A n c, .agg (scA b t B m d)] Try.func3 rfl Try.ntmps3 rfl rfl ?_
  have hm := ops_n hl; have hcapm := hl.cap; have hmaxm := hl.max; have hn := ha.lenb; have hcap := ha.cap; have hmax := ha.max; have S0 := St.start w0 noM
  refine T_seq fun K1 hK1 => ?_
  refine T_region ?_
  refine L_o (o_box rfl S0 rfl fun b1 w1 hb1 S1 => ?_)
  refine L_y (y_assign rfl) rfl ?_
  refine L_nil ?_
  refine hK1 _ _ ?_
  refine T_seq fun K2 hK2 => ?_
  refine T_seq fun K3 hK3 => ?_
  refine T_region ?_
  refine L_y (y_fieldA 2 Try.underlying25 rfl sz23 rfl rfl rfl) rfl ?_
  refine L_y (y_ldc Try.underlying23 rfl rfl (((S1.blk 0 rfl).cell _).trans (by rfl))) rfl ?_
  refine L_y (y_len Try.underlying23 rfl) rfl ?_
  refine L_y (y_gtr rfl rfl) rfl ?_
  refine L_y (y_move rfl) rfl ?_
  refine L_split 17 rfl (fun h17 => ?_) (fun h17 => ?_)
  ·
    refine L_gno rfl rfl rfl ?_
    refine L_gno rfl rfl rfl ?_
    refine L_gno rfl rfl rfl ?_
    refine L_y ((by first | exact y_pickT rfl rfl | exact y_pickF rfl rfl)) rfl ?_
    refine L_nil ?_
    refine hK3 _ _ ?_
    refine T_true rfl ?_
    refine T_seq fun K4 hK4 => ?_
    refine T_region ?_
    refine L_o (o_call Try.func9 rfl rfl (works w1) rfl rfl ?_)
    rintro e3 w3 ⟨v3, rfl, l3, rfl⟩
    refine ⟨_, rfl, ?_⟩
    have S3 := S1.like l3
    refine L_y (y_assign rfl) rfl ?_
    refine L_nil ?_
    refine hK4 _ _ ?_
    refine T_ret ?_
    repeat (first | with_reducible refine up_then ?_ | with_reducible refine up_in ?_)
    refine ret1 rfl rfl ?_
    first | exact ⟨_, rfl, S3.like0, rfl⟩ | exact ⟨_, rfl, Like.trans lk S3.like0, rfl⟩
  ·
    refine L_gyes rfl rfl ?_
    refine L_y (y_move rfl) rfl ?_
    refine L_gyes rfl rfl ?_
    refine L_y (y_len Try.underlying22 rfl) rfl ?_
    refine L_gyes rfl rfl ?_
    refine L_y (y_gtr rfl rfl) rfl ?_
    refine L_y ((by first | exact y_pickT rfl rfl | exact y_pickF rfl rfl)) rfl ?_
    refine L_nil ?_
    refine hK3 _ _ ?_
    refine T_cond rfl (fun h21 => ?_) (fun h21 => ?_)
    ·
      refine T_seq fun K5 hK5 => ?_
      refine T_region ?_
      refine L_o (o_call Try.func9 rfl rfl (works w1) rfl rfl ?_)
      rintro e4 w4 ⟨v4, rfl, l4, rfl⟩
      refine ⟨_, rfl, ?_⟩
      have S4 := S1.like l4
      refine L_y (y_assign rfl) rfl ?_
      refine L_nil ?_
      refine hK5 _ _ ?_
      refine T_ret ?_
      repeat (first | with_reducible refine up_then ?_ | with_reducible refine up_in ?_)
      refine ret1 rfl rfl ?_
      first | exact ⟨_, rfl, S4.like0, rfl⟩ | exact ⟨_, rfl, Like.trans lk S4.like0, rfl⟩
    ·
      refine T_skip ?_
      refine hK2 _ _ ?_
      refine T_seq fun K6 hK6 => ?_
      refine T_region ?_
      refine L_y (y_ldW Try.underlying25 rfl sz25 rfl (S1.blk 0 rfl) (show _ = (scA b t B m d).toList ∧ _ from ⟨rfl, rfl⟩)) rfl ?_
      refine L_o (o_call Try.func11 rfl rfl (plain B m d l b t w1 (S1.rd hl) (hok.like S1.like0) (by omega)) rfl rfl ?_)
      rintro e5 w5 ⟨v5, rfl, l5, A24, c24, rfl, O5⟩
      refine ⟨_, rfl, ?_⟩
      have S5 := S1.adopt l5 O5
      refine L_o (o_call Try.func10 rfl rfl (pown A24 m c24 l b t w5 (S5.row 1 rfl) (hok.like S5.like0) (by omega) hbig) rfl rfl ?_)
      rintro e6 w6 ⟨v6, rfl, l6, A25, c25, qs, rfl, hQ, hokQ, hqv⟩
      refine ⟨_, rfl, ?_⟩
      have S6 := S5.like l6
      have lk := S6.like0
      have ha2 := ha.like lk
      have hl2 := hl.like lk
      have hok3 := hok.like lk
      have hbx := S6.blk 0 rfl
      have S90 := St.start w6 noM
      refine L_o (o_alloc zz25 S90 rfl fun b7 w7 hb7 S7 => ?_)
      refine L_o (o_stW S7 0 rfl rfl rfl sz25 rfl (scA_one _ _ _ _ _) fun w8 S8 => ?_)
      refine L_nil ?_
      refine hK6 _ _ ?_
      refine T_seq fun K7 hK7 => ?_
      refine T_region ?_
      refine L_y (y_move rfl) rfl ?_
      refine L_y (y_ldW Try.underlying25 rfl sz25 rfl (S8.blk 0 rfl) (show _ = (scA b t A25 m c25).toList ∧ _ from ⟨rfl, rfl⟩)) rfl ?_
      refine L_o (o_call Try.func12 rfl rfl (papplyL A n c a A25 m c25 qs b t w8 (S8.rd ha2) (S8.rd hQ) (hokQ.like S8.like0) hqv) rfl rfl ?_)
      rintro e9 w9 ⟨v9, rfl, l9, A29, c29, rfl, O9⟩
      refine ⟨_, rfl, ?_⟩
      have S9 := S8.adopt l9 O9
      have hxm := (S9.row 1 rfl).max; have hxc := (S9.row 1 rfl).cap
      refine L_y (y_move rfl) rfl ?_
      refine L_y (y_extract rfl rfl) rfl ?_
      refine L_y (y_extract rfl rfl) rfl ?_
      refine L_y (y_assign rfl) rfl ?_
      refine L_y (y_assign rfl) rfl ?_
      refine L_nil ?_
      refine hK7 _ _ ?_
      refine T_seq fun K8 hK8 => ?_
      refine T_region ?_
      refine L_y (y_move rfl) rfl ?_
      refine L_y (y_ldW Try.underlying25 rfl sz25 rfl (S9.rdB hbx) (show _ = (scA b t B m d).toList ∧ _ from ⟨rfl, rfl⟩)) rfl ?_
      refine L_o (o_call Try.func11 rfl rfl (plain B m d l b t w9 (S9.rd hl2) (hok3.like S9.like0) (by omega)) rfl rfl ?_)
      rintro e10 w10 ⟨v10, rfl, l10, A35, c35, rfl, O10⟩
      refine ⟨_, rfl, ?_⟩
      have S10 := S9.adopt l10 O10
      refine L_o (o_call Try.func13 rfl rfl (rapplyL A n c a A35 m c35 l b t w10 (S10.rd ha2) (S10.row 2 rfl) (hok3.like S10.like0) rfl) rfl rfl ?_)
      rintro e11 w11 ⟨v11, rfl, l11, A36, c36, rfl, O11⟩
      refine ⟨_, rfl, ?_⟩
      have S11 := S10.adopt l11 O11
      refine L_y (y_move rfl) rfl ?_
      refine L_y (y_extract rfl rfl) rfl ?_
      refine L_y (y_extract rfl rfl) rfl ?_
      refine L_y (y_assign rfl) rfl ?_
      refine L_y (y_assign rfl) rfl ?_
      refine L_nil ?_
      refine hK8 _ _ ?_
      refine T_seq fun K9 hK9 => ?_
      refine T_seq fun K10 hK10 => ?_
      refine T_drawnL [(0, true), (1, true), (2, false), (3, true), (4, true), (5, true), (6, true), (7, true), (8, true), (9, true), (10, true), (11, true), (12, false), (13, false), (14, true), (15, true)] hmix (by kernel_rfl) fun w12 l12 => ?_
      have S12 := S11.like l12
      refine DL_y rfl (y_move rfl) rfl ?_
      refine DL_y rfl (y_move rfl) rfl ?_
      refine DL_o rfl (o_call Try.func14 rfl rfl (same1T A29 A36 _ c29 _ c36 (aplR a b t (l.map OP.v)).1 w12 (S12.row 1 rfl) (S12.row 3 rfl)) rfl rfl ?_)
      rintro e13 w13 ⟨v13, rfl, l13, rfl⟩
      refine ⟨_, rfl, l13, ?_⟩
      have S13 := S12.like l13
      have q13 := l13
      refine DL_y rfl ((by first | exact y_notD rfl | exact y_not rfl)) rfl ?_
      refine DL_y rfl (y_move rfl) rfl ?_
      refine DL_splitB 43 rfl (fun h43 => ?_) (fun h43 => ?_)
      ·
        cases h43
      ·
        refine DL_gyes rfl rfl rfl (y_move rfl) rfl ?_
        refine DL_gyes rfl rfl rfl (y_move rfl) rfl ?_
        refine DL_gyes rfl rfl rfl (y_neq rfl rfl) rfl ?_
        refine DL_y rfl ((by first | exact y_pickT rfl rfl | exact y_pickF rfl rfl)) rfl ?_
        refine DL_y rfl (y_move rfl) rfl ?_
        refine DL_split 48 rfl (fun h48 => ?_) (fun h48 => ?_)
        ·
          exact absurd rfl h48
        ·
          refine DL_gyes rfl rfl rfl (y_ldW Try.underlying25 rfl sz25 rfl (S12.blk 0 rfl) (show _ = (scA b t A25 m c25).toList ∧ _ from ⟨rfl, rfl⟩)) rfl ?_
          refine DL_gyes rfl rfl rfl (y_ldW Try.underlying25 rfl sz25 rfl (S12.rdB hbx) (show _ = (scA b t B m d).toList ∧ _ from ⟨rfl, rfl⟩)) rfl ?_
          refine DL_ogyes rfl rfl rfl (o_call Try.func11 rfl rfl (plain B m d l b t w13 (S13.rd hl2) (hok3.like S13.like0) (by omega)) rfl rfl ?_)
          rintro e14 w14 ⟨v14, rfl, l14, A51, c51, rfl, O14⟩
          refine ⟨_, rfl, (Like.trans q13 l14), ?_⟩
          have S14 := S13.adopt l14 O14
          have q14 := (Like.trans q13 l14)
          refine DL_ogyes rfl rfl rfl (o_call Try.func15 rfl rfl (psameT A25 m c25 qs b t A51 m c51 l w14 (S14.rd hQ) (hokQ.like S14.like0) (S14.row 4 rfl) (hok3.like S14.like0) hqv) rfl rfl ?_)
          rintro e15 w15 ⟨v15, rfl, l15, rfl⟩
          refine ⟨_, rfl, (Like.trans q14 l15), ?_⟩
          have S15 := S14.like l15
          have q15 := (Like.trans q14 l15)
          refine DL_gyes rfl rfl rfl ((by first | exact y_notD rfl | exact y_not rfl)) rfl ?_
          refine DL_y rfl ((by first | exact y_pickT rfl rfl | exact y_pickF rfl rfl)) rfl ?_
          refine DL_nil ?_
          refine hK10 _ _ ?_
          refine T_condB rfl (fun h54 => ?_) (fun h54 => ?_)
          ·
            cases h54
          ·
            refine T_skip ?_
            refine hK9 _ _ ?_
            refine T_seq fun K11 hK11 => ?_
            refine T_seq fun K12 hK12 => ?_
            refine T_region ?_
            refine L_y (y_assign rfl) rfl ?_
            refine L_nil ?_
            refine hK12 _ _ ?_
            refine T_block ?_
            refine T_loop2 [(0, _), (3, _), (5, _), (6, _), (8, _)] (fun (k : Nat) (ys : List Value) => [(10, .int .i64 (k : Int))]) (fun (k : Nat) (ys : List Value) => (aplR a b t (l.map OP.v)).1.length - k) (fun (k : Nat) (ys : List Value) (w : World) => (k ≤ (aplR a b t (l.map OP.v)).1.length ∧ ys.length = (aplR a b t (l.map OP.v)).1.length ∧ ∀ j, k ≤ j → j < (aplR a b t (l.map OP.v)).1.length → ys[j]? = (bL (aplR a b t (l.map OP.v)).1)[j]?) ∧ St w6 noM [blk b7 25 (scA b t A25 m c25), row 5 1 A29 (aplR a b t (l.map OP.v)).1.length c29 ys, row 5 1 A36 (aplR a b t (l.map OP.v)).1.length c36 (bL (aplR a b t (l.map OP.v)).1)] w) 0 (bL (aplR a b t (l.map OP.v)).1) (Sub.cons rfl (by first | rfl | exact congrArg (Value.int _) (by omega)) (Sub.nil _)) (Sub.cons rfl rfl (Sub.cons rfl rfl (Sub.cons rfl rfl (Sub.cons rfl rfl (Sub.cons rfl rfl (Sub.nil _)))))) ?_ ?_
            ·
              have S9 := S15.sel [0, 1, 3] (by decide)
              exact ⟨⟨Nat.zero_le _, length_bL _, fun j h1 h2 => rfl⟩, S9⟩
            ·
              intro k ys w16 hrel
              obtain ⟨⟨hk, hyl, hys⟩, S16⟩ := hrel
              refine T_seq fun K13 hK13 => ?_
              refine T_seq fun K14 hK14 => ?_
              refine T_region ?_
              refine L_y (y_move rfl) rfl ?_
              refine L_y (y_move rfl) rfl ?_
              refine L_y (y_len Try.underlying22 rfl) rfl ?_
              refine L_y (y_lss rfl rfl) rfl ?_
              refine L_nil ?_
              refine hK14 _ _ ?_
              refine T_cond rfl (fun h58 => ?_) (fun h58 => ?_)
              ·
                have hyk : ys[k]? = some (.int .u8 (g8 (aplR a b t (l.map OP.v)).1 k)) := (hys k (Nat.le_refl _) (by omega)).trans (bL_g8 _ _ (by omega))
                refine T_skip ?_
                refine hK13 _ _ ?_
                refine T_seq fun K15 hK15 => ?_
                refine T_block ?_
                refine T_region ?_
                refine L_y (y_move rfl) rfl ?_
                refine L_y (y_move rfl) rfl ?_
                refine L_y (y_idx Try.underlying22 sz5 rfl rfl (S16.row 1 rfl) (Nt.mk (by omega) : Nt _ (k)) (by omega)) rfl ?_
                refine L_y (y_ldr Try.underlying5 rfl rfl (S16.row 1 rfl) hyk) rfl ?_
                refine L_y (y_bits rfl rfl rfl rfl) rfl ?_
                refine L_y (y_idx Try.underlying22 sz5 rfl rfl (S16.row 1 rfl) (Nt.mk (by omega) : Nt _ (k)) (by omega)) rfl ?_
                refine L_o (o_strow S16 1 rfl rfl rfl rfl sz5 (by omega) fun w17 S17 => ?_)
                refine L_nil ?_
                refine hK15 _ _ ?_
                refine T_region ?_
                refine L_y (y_move rfl) rfl ?_
                refine L_y (y_add rfl rfl (i64w (by omega))) rfl ?_
                refine L_y (y_assign rfl) rfl ?_
                refine L_nil ?_
                refine ⟨k + 1, _, by omega, ⟨⟨by omega, (List.length_set).trans hyl, fun j h1 h2 => by rw [List.getElem?_set_ne (by omega)]; exact hys j (by omega) h2⟩, S17⟩, ?_⟩
                exact (Sub.cons rfl (by first | rfl | exact congrArg (Value.int _) (by omega)) (Sub.cons rfl rfl (Sub.cons rfl rfl (Sub.cons rfl rfl (Sub.cons rfl rfl (Sub.cons rfl rfl (Sub.nil _)))))))
              ·
                refine T_exit ?_
                refine hK11 _ _ ?_
                refine T_seq fun K16 hK16 => ?_
                refine T_region ?_
                refine L_y (y_move rfl) rfl ?_
                refine L_y (y_ldW Try.underlying25 rfl sz25 rfl (S16.rdB hbx) (show _ = (scA b t B m d).toList ∧ _ from ⟨rfl, rfl⟩)) rfl ?_
                refine L_o (o_call Try.func11 rfl rfl (plain B m d l b t w16 (S16.rd hl2) (hok3.like S16.like0) (by omega)) rfl rfl ?_)
                rintro e18 w18 ⟨v18, rfl, l18, A70, c70, rfl, O18⟩
                refine ⟨_, rfl, ?_⟩
                have S18 := S16.adopt l18 O18
                refine L_o (o_call Try.func13 rfl rfl (rapplyL A n c a A70 m c70 l b t w18 (S18.rd ha2) (S18.row 3 rfl) (hok3.like S18.like0) rfl) rfl rfl ?_)
                rintro e19 w19 ⟨v19, rfl, l19, A71, c71, rfl, O19⟩
                refine ⟨_, rfl, ?_⟩
                have S19 := S18.adopt l19 O19
                refine L_y (y_move rfl) rfl ?_
                refine L_y (y_extract rfl rfl) rfl ?_
                refine L_y (y_extract rfl rfl) rfl ?_
                refine L_y (y_assign rfl) rfl ?_
                refine L_y (y_assign rfl) rfl ?_
                refine L_nil ?_
                refine hK16 _ _ ?_
                refine T_seq fun K17 hK17 => ?_
                refine T_drawnL [(0, true), (1, true), (2, false), (3, true), (4, true), (5, true), (6, false), (7, false), (8, true), (9, true), (10, false), (11, true), (12, true)] hmix (by kernel_rfl) fun w20 l20 => ?_
                have S20 := S19.like l20
                refine DL_y rfl (y_move rfl) rfl ?_
                refine DL_y rfl (y_move rfl) rfl ?_
                refine DL_o rfl (o_call Try.func14 rfl rfl (same1T A71 A36 _ c71 _ c36 (aplR a b t (l.map OP.v)).1 w20 (S20.row 4 rfl) (S20.row 2 rfl)) rfl rfl ?_)
                rintro e21 w21 ⟨v21, rfl, l21, rfl⟩
                refine ⟨_, rfl, l21, ?_⟩
                have S21 := S20.like l21
                have q21 := l21
                refine DL_y rfl (y_move rfl) rfl ?_
                refine DL_splitB 77 rfl (fun h77 => ?_) (fun h77 => ?_)
                ·
                  refine DL_gyes rfl rfl rfl (y_ldW Try.underlying25 rfl sz25 rfl (S20.blk 0 rfl) (show _ = (scA b t A25 m c25).toList ∧ _ from ⟨rfl, rfl⟩)) rfl ?_
                  refine DL_gyes rfl rfl rfl (y_ldW Try.underlying25 rfl sz25 rfl (S20.rdB hbx) (show _ = (scA b t B m d).toList ∧ _ from ⟨rfl, rfl⟩)) rfl ?_
                  refine DL_ogyes rfl rfl rfl (o_call Try.func11 rfl rfl (plain B m d l b t w21 (S21.rd hl2) (hok3.like S21.like0) (by omega)) rfl rfl ?_)
                  rintro e22 w22 ⟨v22, rfl, l22, A80, c80, rfl, O22⟩
                  refine ⟨_, rfl, (Like.trans q21 l22), ?_⟩
                  have S22 := S21.adopt l22 O22
                  have q22 := (Like.trans q21 l22)
                  refine DL_ogyes rfl rfl rfl (o_call Try.func15 rfl rfl (psameT A25 m c25 qs b t A80 m c80 l w22 (S22.rd hQ) (hokQ.like S22.like0) (S22.row 5 rfl) (hok3.like S22.like0) hqv) rfl rfl ?_)
                  rintro e23 w23 ⟨v23, rfl, l23, rfl⟩
                  refine ⟨_, rfl, (Like.trans q22 l23), ?_⟩
                  have S23 := S22.like l23
                  have q23 := (Like.trans q22 l23)
                  refine DL_y rfl ((by first | exact y_pickT rfl rfl | exact y_pickF rfl rfl)) rfl ?_
                  refine DL_y rfl (y_move rfl) rfl ?_
                  refine DL_splitB 83 rfl (fun h83 => ?_) (fun h83 => ?_)
                  ·
                    refine DL_ogyes rfl rfl rfl (o_call Try.func9 rfl rfl (works w23) rfl rfl ?_)
                    rintro e24 w24 ⟨v24, rfl, l24, rfl⟩
                    refine ⟨_, rfl, (Like.trans q23 l24), ?_⟩
                    have S24 := S23.like l24
                    have q24 := (Like.trans q23 l24)
                    refine DL_y rfl ((by first | exact y_pickT rfl rfl | exact y_pickF rfl rfl)) rfl ?_
                    refine DL_y rfl (y_assign rfl) rfl ?_
                    refine DL_nil ?_
                    refine hK17 _ _ ?_
                    refine T_ret ?_
                    repeat (first | with_reducible refine up_then ?_ | with_reducible refine up_in ?_)
                    refine ret1 rfl rfl ?_
                    first | exact ⟨_, rfl, S24.like0, rfl⟩ | exact ⟨_, rfl, Like.trans lk S24.like0, rfl⟩
                  ·
                    cases h83
                ·
                  cases h77
end Go.Proofs.Ytpcgldkllnkaeaa

/-
  The second form's bound: what it gives of a law's arguments. General; nothing here names a program.
-/
namespace Go.Proofs.Ytpcgldkllnkaeaa.Zx
open Go.ChangeShapes Go.WideShapes Go.ChangeAt Go.RowKit Go.Deep Zk
set_option linter.unusedVariables false
section
variable {H : Type} {enc : TypeId × Value → H} {P : Program} {w : World} {base : Nat} {spare : Nat → Bool} {held : Bool}
theorem bulk_pos (d : DataW H) : 1 ≤ Rows.uptoBulk d := by
  cases d with
  | lit l => cases l <;> simp [Rows.uptoBulk]
  | _ => simp [Rows.uptoBulk]
theorem flat_one {α : Type} (f : α → Value) : ∀ l : List α, l.flatMap (fun y => [f y]) = l.map f
  | [] => rfl
  | y :: l => by rw [List.flatMap_cons, flat_one f l]; rfl
theorem sum_ones {α : Type} : ∀ l : List α, (l.map fun _ => 1).sum = l.length
  | [] => rfl
  | y :: l => by rw [List.map_cons, List.sum_cons, sum_ones l, List.length_cons]; omega
theorem bulk_range {α : Type} (m : α → Nat) : ∀ (l : List α) (D : Nat → DataW H), (∀ i y, l[i]? = some y → m y ≤ Rows.uptoBulk (D i)) → (l.map m).sum ≤ Rows.uptoBulkAll ((List.range l.length).map D)
  | [], D, h => by simp
  | x :: l, D, h => by
    rw [List.length_cons, List.range_succ_eq_map, List.map_cons, List.map_cons, List.map_map, Rows.uptoBulkAll, List.sum_cons]
    have h1 := h 0 x rfl
    have h2 := bulk_range m l (D ∘ Nat.succ) (fun i y hy => h (i + 1) y hy)
    omega
/-- A slice whose elements are of many cells, with its bulk. -/
theorem read_rowNB {α : Type} (f : α → List Value) (φ : α → Prop) (m : α → Nat) (size : Nat) {t e : TypeId} (ht : P.underlying t = some (.slice e)) (hc : P.cellsOf e = size) (hpos : 0 < size) (hlen : ∀ y, (f y).length = size)
    (hread : ∀ n cs x, cs.length = size → DataW.trod enc P w base spare held n e cs = some x → ∃ y, cs = f y ∧ φ y ∧ m y ≤ Rows.uptoBulk x.1)
    {fuel : Nat} {cs : List Value} {x : DataW H × List MemPlace} (h : DataW.trod enc P w base spare held fuel t cs = some x) :
    ∃ A n c, ∃ l : List α, cs = [.slice A n c] ∧ Rs w size A n c (l.flatMap f) ∧ (∀ y ∈ l, φ y) ∧ l.length = n ∧ (l.map m).sum + 1 ≤ Rows.uptoBulk x.1 := by
  rcases open_slice ht h with ⟨rfl, rfl⟩ | ⟨a, len, cap, k, n, D, Pl, rfl, _, hl, hm, hmm, rfl, hi⟩
  · exact ⟨none, 0, 0, [], rfl, Rs.nil w size, (fun y hy => by cases hy), rfl, by simp [Rows.uptoBulk]⟩
  · have hle : len ≤ k := by rw [hmm]; split <;> omega
    rw [hc] at hi
    obtain ⟨l, hll, hp⟩ := list_of (fun i (y : α) => w.cells? base (a.add (i * size)) size = some (f y) ∧ φ y ∧ m y ≤ Rows.uptoBulk (D i)) len (fun i hil => by
      obtain ⟨cs', h1, h2⟩ := hi i (by omega)
      obtain ⟨y, h3, h4, h5⟩ := hread n cs' _ (World.cells?_some h1).2.1 h2
      exact ⟨y, by rw [← h3]; exact h1, h4, h5⟩)
    refine ⟨some a, len, cap, l, rfl, ⟨⟨by rw [flat_len f size hlen, hll], fun h0 => ⟨a, rfl, ?_, fun j u hu => ?_⟩⟩, hl, by unfold maxLen at hm; exact hm⟩, fun y hy => ?_, hll, ?_⟩
    · obtain ⟨cs', h1, h2⟩ := hi 0 (by omega)
      have h3 := (World.cells?_some h1).2.2 0 hpos
      rw [List.getElem?_eq_getElem (by rw [(World.cells?_some h1).2.1]; exact hpos)] at h3
      have := World.block_lt_of_cell? w _ h3
      rwa [block_of_add, block_of_add] at this
    · obtain ⟨i, y, h1, h2, h3⟩ := flat_get f size hlen l j u hu
      have h4 := (World.cells?_some (hp i y h1).1).2.2 (j - i * size) (by have := (List.getElem?_eq_some_iff.1 h3).1; rwa [hlen y] at this)
      rw [Go.Deep.add_add, show i * size + (j - i * size) = j by omega, h3] at h4
      exact h4
    · obtain ⟨i, hi2, rfl⟩ := List.getElem_of_mem hy
      exact (hp i _ (List.getElem?_eq_getElem hi2)).2.1
    · have h6 := bulk_range m l D (fun i y hy => (hp i y hy).2.2)
      rw [hll] at h6
      simp only [Rows.uptoBulk]
      omega
/-- A struct of three cells. -/
theorem read_struct3 {e : TypeId} {f0 f1 f2 : Field} (he : P.underlying e = some (.struct #[f0, f1, f2])) (o0 : f0.offset = 0) (o1 : f1.offset = 1) (o2 : f2.offset = 2) (c0 : P.cellsOf f0.type = 1) (c1 : P.cellsOf f1.type = 1) (c2 : P.cellsOf f2.type = 1)
    {n : Nat} {cs : List Value} {x : DataW H × List MemPlace} (hl : cs.length = 3) (h : DataW.trod enc P w base spare held n e cs = some x) :
    ∃ v0 v1 v2 y0 y1 y2 k, cs = [v0, v1, v2] ∧ x.1 = .agg [y0.1, y1.1, y2.1] ∧ DataW.trod enc P w base spare held k f0.type [v0] = some y0 ∧ DataW.trod enc P w base spare held k f1.type [v1] = some y1 ∧ DataW.trod enc P w base spare held k f2.type [v2] = some y2 := by
  obtain ⟨xs, k, hk, rfl, _, hxl, hf⟩ := DataW.trod_struct he h
  match xs, hxl, cs, hl with
  | [y0, y1, y2], _, [v0, v1, v2], _ =>
    have g0 := hf 0 f0 rfl
    have g1 := hf 1 f1 rfl
    have g2 := hf 2 f2 rfl
    simp [o0, o1, o2, c0, c1, c2] at g0 g1 g2
    exact ⟨v0, v1, v2, y0, y1, y2, k, rfl, rfl, g0, g1, g2⟩
/-- A slice of bytes, with its bulk. -/
theorem open_bytesSB {r : Reach} {b0 : Nat} {t e : TypeId} {v : Value} {d : DataW H} {p : List MemPlace} (ht : P.underlying t = some (.slice e)) (he : P.underlying e = some (.int .u8)) (hc : P.cellsOf e = 1)
    (hv : Value.okWide P w r b0 t v) (h : DataW.Trod enc P w base spare held t v d p) : ∃ A n c l, v = .slice A n c ∧ Rs w 1 A n c (bL l) ∧ n + 1 ≤ Rows.uptoBulk d := by
  obtain ⟨fuel, hf⟩ := h
  obtain ⟨A, n, c, l, h1, h2, _, h4, h5⟩ := read_rowNB (fun y => [bV y]) (fun _ => True) (fun _ => 1) 1 ht hc (by decide) (fun _ => rfl) (fun k cs x hl hx => by
    obtain ⟨a, ha, _, hw⟩ := DataW.trod_int he hx
    obtain ⟨c, rfl⟩ := u8_of a hw
    exact ⟨c, ha, trivial, bulk_pos _⟩) hf
  refine ⟨A, n, c, l, slice_of_cells ht hv h1, by rwa [flat_one] at h2, ?_⟩
  rw [sum_ones, h4] at h5
  exact h5
end
end Go.Proofs.Ytpcgldkllnkaeaa.Zx

/-
  A script as a law's argument, opened.
-/
namespace Go.Proofs.Ytpcgldkllnkaeaa
open Go.ChangeShapes Go.WideShapes Go.ChangeAt Go.RowKit Go.Deep Zk Zx
set_option linter.unusedVariables false
set_option maxRecDepth 100000
section
variable {H : Type} {enc : TypeId × Value → H} {w : World} {base : Nat} {spare : Nat → Bool} {held : Bool}
theorem read_bytesB {fuel : Nat} {cs : List Value} {x : DataW H × List MemPlace} (h : DataW.trod enc Try.prog w base spare held fuel 22 cs = some x) : ∃ p : Part, cs = [pv p] ∧ p.ok w ∧ p.n ≤ Rows.uptoBulk x.1 := by
  obtain ⟨A, n, c, l, h1, h2, _, h4, h5⟩ := read_rowNB (fun y => [bV y]) (fun _ => True) (fun _ => 1) 1 Try.underlying22 (by kernel_rfl) (by decide) (fun _ => rfl) (fun k cs x hl hx => by
    obtain ⟨a, ha, _, hw⟩ := DataW.trod_int Try.underlying5 hx
    obtain ⟨c, rfl⟩ := u8_of a hw
    exact ⟨c, ha, trivial, bulk_pos _⟩) h
  refine ⟨⟨A, n, c, l⟩, h1, by rwa [flat_one] at h2, ?_⟩
  rw [sum_ones, h4] at h5
  show n ≤ _
  omega
theorem read_op {fuel : Nat} {cs : List Value} {x : DataW H × List MemPlace} (hlen : cs.length = 4) (h : DataW.trod enc Try.prog w base spare held fuel 57 cs = some x) : ∃ o : OP, cs = opf o ∧ o.p.ok w ∧ o.p.n ≤ Rows.uptoBulk x.1 := by
  obtain ⟨xs, n, _, hx, hl, hlen2, hg⟩ := DataW.trod_struct Try.underlying57 h
  have e0 := hg 0 _ rfl
  have e1 := hg 1 _ rfl
  have e2 := hg 2 _ rfl
  have e3 := hg 3 _ rfl
  change DataW.trod enc Try.prog w base spare held n 4 ((cs.drop 0).take (Try.prog.cellsOf 4)) = _ at e0
  change DataW.trod enc Try.prog w base spare held n 3 ((cs.drop 1).take (Try.prog.cellsOf 3)) = _ at e1
  change DataW.trod enc Try.prog w base spare held n 3 ((cs.drop 2).take (Try.prog.cellsOf 3)) = _ at e2
  change DataW.trod enc Try.prog w base spare held n 22 ((cs.drop 3).take (Try.prog.cellsOf 22)) = _ at e3
  have c4 : Try.prog.cellsOf 4 = 1 := by kernel_rfl
  have c3 : Try.prog.cellsOf 3 = 1 := by kernel_rfl
  have c22 : Try.prog.cellsOf 22 = 1 := by kernel_rfl
  rw [c4] at e0
  rw [c3] at e1 e2
  rw [c22] at e3
  have hxl : xs.length = 4 := hlen2
  match cs, hlen, xs, hxl with
  | [v0, v1, v2, v3], _, [y0, y1, y2, y3], _ =>
    have e0 : DataW.trod enc Try.prog w base spare held n 4 [v0] = some y0 := e0
    have e1 : DataW.trod enc Try.prog w base spare held n 3 [v1] = some y1 := e1
    have e2 : DataW.trod enc Try.prog w base spare held n 3 [v2] = some y2 := e2
    have e3 : DataW.trod enc Try.prog w base spare held n 22 [v3] = some y3 := e3
    obtain ⟨b0, hb, _⟩ := DataW.trod_bool Try.underlying4 e0
    obtain ⟨i1, hi1, _, _⟩ := DataW.trod_int Try.underlying3 e1
    obtain ⟨i2, hi2, _, _⟩ := DataW.trod_int Try.underlying3 e2
    obtain ⟨p, hp, hok, hbk⟩ := read_bytesB e3
    cases hb
    cases hi1
    cases hi2
    cases hp
    refine ⟨⟨b0, i1, i2, p⟩, rfl, hok, ?_⟩
    rw [hx]
    simp only [Rows.uptoBulk, List.map_cons, List.map_nil, Rows.uptoBulkAll]
    show p.n ≤ _
    omega
theorem read_ops {fuel : Nat} {cs : List Value} {x : DataW H × List MemPlace} (h : DataW.trod enc Try.prog w base spare held fuel 23 cs = some x) : ∃ A n c, ∃ l : List OP, cs = [.slice A n c] ∧ Rs w 4 A n c (l.flatMap opf) ∧ OkO w l ∧ ∀ o ∈ l, o.p.n ≤ Rows.uptoBulk x.1 := by
  obtain ⟨A, n, c, l, h1, h2, h3, h4, h5⟩ := read_rowNB opf (fun o => o.p.ok w) (fun o => o.p.n) 4 Try.underlying23 (by kernel_rfl) (by decide) opf_len (fun k cs x hl hx => by
    obtain ⟨o, ho, h6, h7⟩ := read_op hl hx
    exact ⟨o, ho, h6, h7⟩) h
  refine ⟨A, n, c, l, h1, h2, h3, fun o ho => ?_⟩
  have : o.p.n ≤ (l.map fun o => o.p.n).sum := by
    clear h1 h2 h3 h4 h5
    induction l with
    | nil => cases ho
    | cons y l ih =>
      rw [List.map_cons, List.sum_cons]
      rcases List.mem_cons.1 ho with rfl | ho
      · omega
      · have := ih ho; omega
  omega
theorem open_script {r : Reach} {b0 : Nat} {v : Value} {d : DataW H} {p : List MemPlace} (hv : Value.okWide Try.prog w r b0 25 v) (h : DataW.Trod enc Try.prog w base spare held 25 v d p) :
    ∃ (b t : Int), ∃ A n c, ∃ l : List OP, v = .agg (scA b t A n c) ∧ Rs w 4 A n c (l.flatMap opf) ∧ OkO w l ∧ ∀ o ∈ l, o.p.n ≤ Rows.uptoBulk d := by
  obtain ⟨cs, rfl, hsz⟩ := okWide_struct Try.underlying25 hv
  obtain ⟨fuel, hf⟩ := h
  have c25 : Try.prog.cellsOf 25 = 3 := by kernel_rfl
  obtain ⟨v0, v1, v2, y0, y1, y2, k, hcs, hx, e0, e1, e2⟩ := read_struct3 Try.underlying25 rfl rfl rfl (by kernel_rfl) (by kernel_rfl) (by kernel_rfl) (by show cs.toList.length = 3; rw [Array.length_toList]; omega) hf
  obtain ⟨i0, h0, _, _⟩ := DataW.trod_int Try.underlying3 e0
  obtain ⟨i1, h1, _, _⟩ := DataW.trod_int Try.underlying3 e1
  obtain ⟨A, n, c, l, h2, h3, h4, h5⟩ := read_ops e2
  cases h0
  cases h1
  cases h2
  have hcs' : cs.toList = [.int .i64 i0, .int .i64 i1, .slice A n c] := hcs
  refine ⟨i0, i1, A, n, c, l, ?_, h3, h4, fun o ho => ?_⟩
  · rw [show cs = scA i0 i1 A n c by unfold scA; rw [← hcs']]
  · have hx' : d = .agg [y0.1, y1.1, y2.1] := hx
    rw [hx']
    simp only [Rows.uptoBulk, Rows.uptoBulkAll]
    have := h5 o ho
    omega
theorem applies_law (A : Option Addr) (n c : Nat) (a : List UInt8) (b t : Int) (B : Option Addr) (m d : Nat) (l : List OP) (w0 : World) (ha : Rs w0 1 A n c (bL a)) (hl : Rs w0 4 B m d (l.flatMap opf)) (hok : OkO w0 l) (hbig : ∀ o ∈ l, o.p.n ≤ 70368744177000) :
    Calls Try.prog 3 #[.slice A n c, .agg (scA b t B m d)] w0 fun e w' => e = .returned (.bool true) ∧ Below w0.heap.size w0 w' :=
  (lapplies A n c a B m d l b t w0 ha hl hok hbig).mono fun e w' ⟨u, h1, h2, h3⟩ => by subst h3; exact ⟨h1, h2⟩
end
end Go.Proofs.Ytpcgldkllnkaeaa

/-
  Regions that draw their order, where two operations may come up: both are walked. General; nothing here names a program.
-/
namespace Go.Proofs.Ytpcgldkllnkaeaa.Zx
open Go.RowKit Zk
set_option linter.unusedVariables false
set_option linter.unusedSimpArgs false
section
variable {P : Program} {N : Nat} {Q : Post} {env : Env} {w w0 : World} {M : Nat → Prop} {rs : List Res} {S : World → Prop} {ops : Array Oper} {listed : Array Bool} {fuel : Nat}
theorem DX_nil (hr : Region.ready .any ops listed = []) (h : Q .normal env w) : DX P N ops Q S listed fuel env w := fun _ _ a ha => wpAnyH_done hr ⟨env, ha, h⟩ fuel
theorem DX_o1 {d : Option Tmp} {op : Op} {ty : TypeId} {pos : String} {after : Array Edge} (i : Nat) (hr : Region.ready .any ops listed = [i]) (hi : ops[i]? = some ⟨d, op, ty, pos, after, none⟩)
    (h : O P N Q ⟨d, op, ty, pos, after, none⟩ env w (fun e' w' => S w' ∧ DX P N ops Q S (listed.setIfInBounds i true) fuel e' w')) : DX P N ops Q S listed (fuel + 1) env w := fun hs hS a ha => by
  refine wpAnyH_all hr (by simp) fun j hj => ?_
  obtain rfl := List.mem_singleton.1 hj
  unfold wpOp
  simp only [hi, Region.wanted, if_true]
  exact .inl (Oper.wp_mono (fun a' w' ⟨e', h3, h4, h5⟩ => ⟨h4, h5 hs h4 a' h3⟩) (h a ha))
theorem DX_o2 {d1 d2 : Option Tmp} {op1 op2 : Op} {ty1 ty2 : TypeId} {pos1 pos2 : String} {after1 after2 : Array Edge} (i j : Nat) (hr : Region.ready .any ops listed = [i, j]) (hi : ops[i]? = some ⟨d1, op1, ty1, pos1, after1, none⟩) (hj : ops[j]? = some ⟨d2, op2, ty2, pos2, after2, none⟩)
    (h1 : O P N Q ⟨d1, op1, ty1, pos1, after1, none⟩ env w (fun e' w' => S w' ∧ DX P N ops Q S (listed.setIfInBounds i true) fuel e' w'))
    (h2 : O P N Q ⟨d2, op2, ty2, pos2, after2, none⟩ env w (fun e' w' => S w' ∧ DX P N ops Q S (listed.setIfInBounds j true) fuel e' w')) : DX P N ops Q S listed (fuel + 1) env w := fun hs hS a ha => by
  refine wpAnyH_all hr (by simp) fun q hq => ?_
  have hq' : q = i ∨ q = j := by simpa using hq
  rcases hq' with rfl | rfl
  · unfold wpOp
    simp only [hi, Region.wanted, if_true]
    exact .inl (Oper.wp_mono (fun a' w' ⟨e', h3, h4, h5⟩ => ⟨h4, h5 hs h4 a' h3⟩) (h1 a ha))
  · unfold wpOp
    simp only [hj, Region.wanted, if_true]
    exact .inl (Oper.wp_mono (fun a' w' ⟨e', h3, h4, h5⟩ => ⟨h4, h5 hs h4 a' h3⟩) (h2 a ha))
theorem St.famCat {L1 L2 : List Res} (S : St w0 M (rs ++ [fam L1, fam L2]) w) : St w0 M (rs ++ [fam (L1 ++ L2)]) w := by
  have hap := S.apart
  rw [List.pairwise_append] at hap
  obtain ⟨a1, a2, a3⟩ := hap
  have h12 := (List.pairwise_cons.1 a2).1 (fam L2) (by simp)
  have f1 := S.res (fam L1) (by simp)
  have f2 := S.res (fam L2) (by simp)
  refine ⟨S.os, S.tape, S.output, S.size, S.old, fun q hq => ?_, ?_⟩
  · rcases List.mem_append.1 hq with hq | hq
    · exact S.res q (by simp [hq])
    · obtain rfl := List.mem_singleton.1 hq
      refine ⟨⟨fun q hq => ?_, ?_⟩, fun i ⟨q, hq, hi⟩ => ?_⟩
      · rcases List.mem_append.1 hq with h | h
        · exact f1.1.1 q h
        · exact f2.1.1 q h
      · rw [List.pairwise_append]
        exact ⟨f1.1.2, f2.1.2, fun a ha b hb i hi hbi => h12 i ⟨a, ha, hi⟩ ⟨b, hb, hbi⟩⟩
      · rcases List.mem_append.1 hq with h | h
        · exact f1.2 i ⟨q, h, hi⟩
        · exact f2.2 i ⟨q, h, hi⟩
  · rw [List.pairwise_append]
    refine ⟨a1, List.pairwise_singleton _ _, fun a ha b hb i hi hbi => ?_⟩
    obtain rfl := List.mem_singleton.1 hb
    obtain ⟨q, hq, hqi⟩ := hbi
    rcases List.mem_append.1 hq with h | h
    · exact a3 a ha (fam L1) (by simp) i hi ⟨q, h, hqi⟩
    · exact a3 a ha (fam L2) (by simp) i hi ⟨q, h, hqi⟩
end
end Go.Proofs.Ytpcgldkllnkaeaa.Zx

/-
  part, within.
-/
namespace Go.Proofs.Ytpcgldkllnkaeaa
open Go.RowKit Zk Zx
set_option linter.unusedVariables false
set_option linter.unusedSimpArgs false

/-- n bytes of what an op lays, from a place on. -/
def partV (o : OV) (f n : Nat) : OV := if o.cp then ⟨true, o.fr + (f : Int), (n : Int), []⟩ else ⟨false, 0, 0, (o.l.drop f).take n⟩
/-- The ops that lay n bytes, from a place on. -/
def withinV : List OV → Nat → Nat → Nat → List OV
  | [], _, _, _ => []
  | o :: r, at_, fr, n => (if max fr at_ < min (fr + n) (at_ + (szV o).toNat) then [partV o (max fr at_ - at_) (min (fr + n) (at_ + (szV o).toNat) - max fr at_)] else []) ++ withinV r (at_ + (szV o).toNat) fr n
theorem cut_x {w : World} {A : Option Addr} {n c k u : Nat} {a : List UInt8} (h : Rs w 1 A n c (bL a)) (hk : k ≤ u) (hu : u ≤ n) : Rs w 1 (cutA A u k 1) (u - k) (u - k) (bL ((a.drop k).take (u - k))) := by
  have hc := h.cap
  have hm := h.max
  rcases Nat.lt_or_ge k u with q | q
  · have h2 := cut_mid h hk hu
    have e : cutA A u k 1 = cutA A c k 1 := by
      unfold cutA
      rw [if_neg (by omega), if_neg (by omega)]
    rw [e]
    exact ⟨h2.rd, Nat.le_refl _, by omega⟩
  · have e : u - k = 0 := by omega
    rw [e]
    exact ⟨⟨by simp [bL], fun h0 => by omega⟩, Nat.le_refl _, by omega⟩
theorem within_yes {l : List OP} {k : Nat} {o : OP} (ho : l[k]? = some o) {at_ fr n : Nat} (h : max fr at_ < min (fr + n) (at_ + (szV o.v).toNat)) : withinV ((l.map OP.v).drop k) at_ fr n = partV o.v (max fr at_ - at_) (min (fr + n) (at_ + (szV o.v).toNat) - max fr at_) :: withinV ((l.map OP.v).drop (k + 1)) (at_ + (szV o.v).toNat) fr n := by
  rw [drop_at' (map_at ho)]
  conv => lhs; unfold withinV
  rw [if_pos h]
  rfl
theorem within_no {l : List OP} {k : Nat} {o : OP} (ho : l[k]? = some o) {at_ fr n : Nat} (h : ¬ max fr at_ < min (fr + n) (at_ + (szV o.v).toNat)) : withinV ((l.map OP.v).drop k) at_ fr n = withinV ((l.map OP.v).drop (k + 1)) (at_ + (szV o.v).toNat) fr n := by
  rw [drop_at' (map_at ho)]
  conv => lhs; unfold withinV
  rw [if_neg h]
  rfl
theorem within_end {l : List OP} {k : Nat} (h : l.length ≤ k) (at_ fr n : Nat) : withinV ((l.map OP.v).drop k) at_ fr n = [] := by
  rw [List.drop_of_length_le (by rw [List.length_map]; exact h)]
  rfl


set_option maxRecDepth 100000 in
theorem part (o : OP) (f n : Nat) (fi ni : Int) (w0 : World) (hop : o.p.ok w0) (hfi : fi = (f : Int)) (hni : ni = (n : Int)) (hcp : o.cp = true → 0 ≤ o.fr ∧ o.fr ≤ 4000) (hnw : o.cp = false → f + n ≤ o.p.n) (hb : f + n ≤ 4000) :
    Calls Try.prog 27 #[.agg (opf o).toArray, .int .i64 fi, .int .i64 ni] w0 fun e w' => ∃ u, e = .returned u ∧ Like w0 w' ∧ ∃ q : OP, u = .agg (opf q).toArray ∧ q.v = partV o.v f n ∧ w'.ownsRow w0.heap.size 5 1 (.slice q.p.A q.p.n q.p.c) q.p.n (bL q.p.l) := by
  refine enter1 (env := [(0, .agg (opf o).toArray), (1, .int .i64 fi), (2, .int .i64 ni)]) [.agg (opf o).toArray, .int .i64 fi, .int .i64 ni] Try.func27 rfl Try.ntmps27 rfl rfl ?_
  have hcap := hop.cap; have hmax := hop.max; have S0 := St.start w0 noM
  refine T_seq fun K1 hK1 => ?_
  refine T_region ?_
  refine L_o (o_box rfl S0 rfl fun b1 w1 hb1 S1 => ?_)
  refine L_o (o_alloc zz57 S1 rfl fun b2 w2 hb2 S2 => ?_)
  refine L_nil ?_
  refine hK1 _ _ ?_
  refine T_seq fun K2 hK2 => ?_
  refine T_seq fun K3 hK3 => ?_
  refine T_region ?_
  refine L_y (y_fieldA 0 Try.underlying57 rfl sz4 rfl rfl rfl) rfl ?_
  refine L_y (y_ldc Try.underlying4 rfl rfl (((S2.blk 0 rfl).cell _).trans (by rfl))) rfl ?_
  refine L_nil ?_
  refine hK3 _ _ ?_
  refine T_condB rfl (fun h8 => ?_) (fun h8 => ?_)
  ·
    have hg := hcp h8
    refine T_seq fun K4 hK4 => ?_
    refine T_region ?_
    refine L_y (y_fieldA 1 Try.underlying57 rfl sz3 rfl rfl rfl) rfl ?_
    refine L_y (y_ldc Try.underlying3 rfl rfl (((S2.blk 0 rfl).cell _).trans (by rfl))) rfl ?_
    refine L_y (y_move rfl) rfl ?_
    refine L_y (y_add rfl rfl (i64w (by omega))) rfl ?_
    refine L_y (y_move rfl) rfl ?_
    refine L_y (y_build rfl (show _ = some #[Value.bool true, Value.int .i64 (o.fr + fi), Value.int .i64 ni, Value.slice none 0 0] by kernel_rfl)) rfl ?_
    refine L_o (o_stW S2 1 rfl rfl rfl sz57 rfl (by intro u hu; simp at hu; rcases hu with rfl | rfl | rfl | rfl <;> rfl) fun w3 S3 => ?_)
    refine L_nil ?_
    refine hK4 _ _ ?_
    refine T_ret ?_
    repeat (first | with_reducible refine up_then ?_ | with_reducible refine up_in ?_)
    refine retc rfl rfl (S3.blk 1 rfl) Try.underlying57 rfl (by exact sz57) ?_
    exact ⟨_, rfl, S3.like0, ⟨true, o.fr + fi, ni, p0⟩, rfl, by unfold partV; rw [if_pos (show o.v.cp = true from h8), hfi, hni]; rfl, World.ownsRow_nil _ _ _ _⟩
  ·
    have hg := hnw h8
    refine T_skip ?_
    refine hK2 _ _ ?_
    refine T_seq fun K5 hK5 => ?_
    refine T_region ?_
    refine L_y (y_fieldA 3 Try.underlying57 rfl sz22 rfl rfl rfl) rfl ?_
    refine L_y (y_ldc Try.underlying22 rfl rfl (((S2.blk 0 rfl).cell _).trans (by rfl))) rfl ?_
    refine L_y (y_move rfl) rfl ?_
    refine L_y (y_move rfl) rfl ?_
    refine L_y (y_move rfl) rfl ?_
    refine L_y (y_add rfl rfl (i64w (by omega))) rfl ?_
    refine L_y (y_move rfl) rfl ?_
    refine L_y (y_move rfl) rfl ?_
    refine L_y (y_add rfl rfl (i64w (by omega))) rfl ?_
    refine L_y (y_sliceX Try.underlying22 sz5 rfl rfl rfl rfl (l := f) (u := f + n) (m := f + n) (by omega) (by omega) (by omega) (by omega) (by omega) (by omega)) rfl ?_
    refine L_o (o_call Try.func41 rfl rfl (bclone (cutA o.p.A (f + n) f 1) (f + n - f) (f + n - f) ((o.p.l.drop f).take (f + n - f)) w2 (cut_x (S2.rd hop) (by omega) (by omega)) (by omega)) rfl rfl ?_)
    rintro e4 w4 ⟨v4, rfl, l4, A25, c25, rfl, O4⟩
    refine ⟨_, rfl, ?_⟩
    have S4 := S2.adopt l4 O4
    refine L_y (y_build rfl (show _ = some #[Value.bool false, Value.int .i64 0, Value.int .i64 0, Value.slice A25 (f + n - f) c25] by kernel_rfl)) rfl ?_
    refine L_o (o_stW S4 1 rfl rfl rfl sz57 rfl (by intro u hu; simp at hu; rcases hu with rfl | rfl | rfl | rfl <;> rfl) fun w5 S5 => ?_)
    refine L_nil ?_
    refine hK5 _ _ ?_
    refine T_ret ?_
    repeat (first | with_reducible refine up_then ?_ | with_reducible refine up_in ?_)
    refine retc rfl rfl (S5.blk 1 rfl) Try.underlying57 rfl (by exact sz57) ?_
    exact ⟨_, rfl, S5.like0, ⟨false, 0, 0, ⟨A25, f + n - f, c25, (o.p.l.drop f).take (f + n - f)⟩⟩, rfl, by unfold partV; rw [if_neg (show ¬ o.v.cp = true from by rw [show o.v.cp = o.cp from rfl, h8]; exact Bool.false_ne_true), Nat.add_sub_cancel_left]; rfl, S5.own 2 rfl⟩


set_option maxRecDepth 100000 in
theorem within (A : Option Addr) (n c : Nat) (l : List OP) (b t : Int) (fr m : Nat) (fri mi : Int) (w0 : World) (hl : Rs w0 4 A n c (l.flatMap opf)) (hok : OkO w0 l) (hfi : fri = (fr : Int)) (hmi : mi = (m : Int)) (hrg : 0 ≤ b ∧ b ≤ 4000 ∧ 0 ≤ t ∧ t ≤ 4000) (hall : chkL b t (l.map OP.v) = true) (hfm : fr + m ≤ 4000) (hn4 : n ≤ 4000) :
    Calls Try.prog 26 #[.agg (scA b t A n c), .int .i64 fri, .int .i64 mi] w0 fun e w' => ∃ u, e = .returned u ∧ Like w0 w' ∧ ∃ A' c' qs ps, u = .slice A' qs.length c' ∧ InP qs ps ∧ qs.length ≤ n ∧ qs.map OP.v = withinV (l.map OP.v) 0 fr m ∧ St w0 noM [row 57 4 A' qs.length c' (qs.flatMap opf), fam (ps.map partR)] w' := by
  refine enter1 (env := [(0, .agg (scA b t A n c)), (1, .int .i64 fri), (2, .int .i64 mi)]) [.agg (scA b t A n c), .int .i64 fri, .int .i64 mi] Try.func26 rfl Try.ntmps26 rfl rfl ?_
  have hn := ops_n hl; have hcap := hl.cap; have hmax := hl.max; have S0 := St.start w0 noM
  refine T_seq fun K1 hK1 => ?_
  refine T_region ?_
  refine L_o (o_box rfl S0 rfl fun b1 w1 hb1 S1 => ?_)
  refine L_y (y_assign rfl) rfl ?_
  refine L_nil ?_
  refine hK1 _ _ ?_
  refine T_seq fun K2 hK2 => ?_
  refine T_region ?_
  have S2 := S1.nilrow 57 4
  refine L_y (y_assign rfl) rfl ?_
  refine L_nil ?_
  refine hK2 _ _ ?_
  refine T_seq fun K3 hK3 => ?_
  refine T_region ?_
  refine L_y (y_assign rfl) rfl ?_
  refine L_nil ?_
  refine hK3 _ _ ?_
  refine T_seq fun K4 hK4 => ?_
  refine T_seq fun K5 hK5 => ?_
  refine T_region ?_
  refine L_y (y_fieldA 2 Try.underlying25 rfl sz23 rfl rfl rfl) rfl ?_
  refine L_y (y_ldc Try.underlying23 rfl rfl (((S2.blk 0 rfl).cell _).trans (by rfl))) rfl ?_
  refine L_y (y_len Try.underlying23 rfl) rfl ?_
  refine L_y (y_move rfl) rfl ?_
  refine L_nil ?_
  refine hK5 _ _ ?_
  refine T_block ?_
  refine T_loop6 [(1, _), (2, _), (14, _), (15, _)] (fun (k : Nat) (A1 : Option Addr) (c1 : Nat) (qs : List OP) (ps : List Part) (at_ : Nat) => [(16, .int .i64 (k : Int)), (7, .slice A1 qs.length c1), (8, .int .i64 (at_ : Int))]) (fun (k : Nat) (A1 : Option Addr) (c1 : Nat) (qs : List OP) (ps : List Part) (at_ : Nat) => n - k) (fun (k : Nat) (A1 : Option Addr) (c1 : Nat) (qs : List OP) (ps : List Part) (at_ : Nat) (w : World) => (k ≤ n ∧ qs.length ≤ k ∧ (at_ : Int) ≤ t ∧ chkL b (t - (at_ : Int)) ((l.map OP.v).drop k) = true ∧ InP qs ps ∧ qs.map OP.v ++ withinV ((l.map OP.v).drop k) at_ fr m = withinV (l.map OP.v) 0 fr m) ∧ St w0 noM [blk b1 25 (scA b t A n c), row 57 4 A1 qs.length c1 (qs.flatMap opf), fam (ps.map partR)] w) 0 none 0 [] [] 0 (Sub.cons rfl (by first | rfl | exact congrArg (Value.int _) (by omega)) (Sub.cons rfl (by first | rfl | exact congrArg (Value.int _) (by omega)) (Sub.cons rfl (by first | rfl | exact congrArg (Value.int _) (by omega)) (Sub.nil _)))) (Sub.cons rfl rfl (Sub.cons rfl rfl (Sub.cons rfl rfl (Sub.cons rfl rfl (Sub.nil _))))) ?_ ?_
  ·
    have S9 := S2.fam0
    exact ⟨⟨Nat.zero_le _, Nat.le_refl _, by show (0 : Int) ≤ t; omega, by show chkL b (t - 0) _ = true; rw [Int.sub_zero]; exact hall, (fun o ho => (List.not_mem_nil ho).elim), rfl⟩, S9⟩
  ·
    intro k A1 c1 qs ps at_ w3 hrel
    obtain ⟨⟨hk, hql, hat, hch, hin, hwv⟩, S3⟩ := hrel
    refine T_seq fun K6 hK6 => ?_
    refine T_region ?_
    refine L_y (y_lss rfl rfl) rfl ?_
    refine L_nil ?_
    refine hK6 _ _ ?_
    refine T_seq fun K7 hK7 => ?_
    refine T_cond rfl (fun h17 => ?_) (fun h17 => ?_)
    ·
      obtain ⟨o, ho⟩ : ∃ o, l[k]? = some o := ⟨_, List.getElem?_eq_getElem (by omega)⟩
      have hop := hok o (List.mem_of_getElem? ho)
      obtain ⟨hrt, hsz, hrest⟩ := chkL_next ho hch
      have hszp := sz_nonneg hrt
      have hopl := hop.lenb
      refine T_skip ?_
      refine hK7 _ _ ?_
      refine T_seq fun K8 hK8 => ?_
      refine T_block ?_
      refine T_seq fun K9 hK9 => ?_
      refine T_region ?_
      refine L_y (y_idx Try.underlying23 sz57 rfl rfl (S3.rd hl) (Nt.mk (by omega) : Nt _ (k)) (by omega)) rfl ?_
      refine L_y (y_ldp (f := opf) opf_len Try.underlying57 rfl sz57 rfl (S3.rd hl) (by omega) ho) rfl ?_
      refine L_o (o_alloc zz57 S3 rfl fun b4 w4 hb4 S4 => ?_)
      refine L_o (o_stW S4 3 rfl rfl rfl sz57 rfl (opf_one o) fun w5 S5 => ?_)
      refine L_nil ?_
      refine hK9 _ _ ?_
      refine T_seq fun K10 hK10 => ?_
      refine T_region ?_
      refine L_y (y_move rfl) rfl ?_
      refine L_y (y_move rfl) rfl ?_
      refine L_y (y_max rfl rfl) rfl ?_
      refine L_y (y_move rfl) rfl ?_
      refine L_y (y_move rfl) rfl ?_
      refine L_y (y_add rfl rfl (i64w (by omega))) rfl ?_
      refine L_y (y_move rfl) rfl ?_
      refine L_y (y_ldW Try.underlying57 rfl sz57 rfl (S5.blk 3 rfl) (show _ = opf o ∧ _ from ⟨rfl, rfl⟩)) rfl ?_
      refine L_o (o_call Try.func38 rfl rfl (osize o w5 (Rs.like hop S5.like0)) rfl rfl ?_)
      rintro e6 w6 ⟨v6, rfl, l6, rfl⟩
      refine ⟨_, rfl, ?_⟩
      have S6 := S5.like l6
      refine L_y (y_add rfl rfl (i64w (by omega))) rfl ?_
      refine L_y (y_min rfl rfl) rfl ?_
      refine L_y (y_assign rfl) rfl ?_
      refine L_y (y_assign rfl) rfl ?_
      refine L_nil ?_
      refine hK10 _ _ ?_
      refine T_seq fun K11 hK11 => ?_
      refine T_seq fun K12 hK12 => ?_
      refine T_region ?_
      refine L_y (y_move rfl) rfl ?_
      refine L_y (y_move rfl) rfl ?_
      refine L_y (y_lss rfl rfl) rfl ?_
      refine L_nil ?_
      refine hK12 _ _ ?_
      refine T_cond rfl (fun h33 => ?_) (fun h33 => ?_)
      ·
        refine T_region ?_
        refine L_y (y_move rfl) rfl ?_
        refine L_y (y_ldW Try.underlying57 rfl sz57 rfl (S6.blk 3 rfl) (show _ = opf o ∧ _ from ⟨rfl, rfl⟩)) rfl ?_
        refine L_y (y_move rfl) rfl ?_
        refine L_y (y_move rfl) rfl ?_
        refine L_y (y_sub rfl rfl (i64w (by omega))) rfl ?_
        refine L_y (y_move rfl) rfl ?_
        refine L_y (y_move rfl) rfl ?_
        refine L_y (y_sub rfl rfl (i64w (by omega))) rfl ?_
        refine L_o (o_call Try.func27 rfl rfl (part o (max fr at_ - at_) (min (fr + m) (at_ + (szV o.v).toNat) - max fr at_) _ _ w6 (Rs.like hop S6.like0) (by omega) (by omega) (fun hc => by have := rt_cp hrt hc; omega) (fun hc => by have := rt_new hrt hc; omega) (by omega)) rfl rfl ?_)
        rintro e7 w7 ⟨v7, rfl, l7, q, rfl, hqv, O7⟩
        refine ⟨_, rfl, ?_⟩
        have S7 := S6.adopt l7 O7
        refine L_o (o_bsl (opf q) te23 zz57 S7 rfl rfl rfl rfl rfl rfl rfl rfl fun b8 w8 S8 => ?_)
        refine L_o (o_app te23 S8 1 rfl rfl rfl (by first | exact S8.row 1 rfl | exact S8.fix 2 rfl | exact S8.row 4 rfl | exact S8.row 5 rfl) (opf_one q) rfl (by omega) (by omega) fun A9 c9 w9 S9 => ?_)
        have S9d := S9.drop (rs' := [_, _, _, _, _]) (.cons_cons _ (.cons_cons _ (.cons_cons _ (.cons_cons _ (.cons_cons _ (.cons _ (.refl _)))))))
        refine L_y (y_assign rfl) rfl ?_
        refine L_nil ?_
        refine hK11 _ _ ?_
        refine T_region ?_
        refine L_y (y_move rfl) rfl ?_
        refine L_y (y_ldW Try.underlying57 rfl sz57 rfl (S9d.blk 3 rfl) (show _ = opf o ∧ _ from ⟨rfl, rfl⟩)) rfl ?_
        refine L_o (o_call Try.func38 rfl rfl (osize o w9 (Rs.like hop S9d.like0)) rfl rfl ?_)
        rintro e10 w10 ⟨v10, rfl, l10, rfl⟩
        refine ⟨_, rfl, ?_⟩
        have S10 := S9d.like l10
        refine L_y (y_add rfl rfl (i64w (by omega))) rfl ?_
        refine L_y (y_assign rfl) rfl ?_
        refine L_nil ?_
        refine hK8 _ _ ?_
        refine T_region ?_
        refine L_y (y_add rfl rfl (i64w (by omega))) rfl ?_
        refine L_y (y_move rfl) rfl ?_
        refine L_nil ?_
        have S91 := S10.rowc 1 rfl (n' := (qs ++ [q]).length) (xs' := (qs ++ [q]).flatMap opf) (by rw [List.length_append]; rfl) (by rw [List.flatMap_append]; simp)
        have S92 := (S91.still 4 rfl).sel [0, 1, 2, 4] (by decide)
        have S93 := famAdd (rs := [_, _, fam (ps.map partR)]) (ps := ps) (p := q.p) S92 2 rfl
        refine ⟨k + 1, A9, c9, qs ++ [q], ps ++ [q.p], at_ + (szV o.v).toNat, by omega, ⟨⟨by omega, by rw [List.length_append, List.length_singleton]; omega, by omega, by rw [show t - ((at_ + (szV o.v).toNat : Nat) : Int) = t - (at_ : Int) - szV o.v by omega]; exact hrest, hin.add, by rw [← hwv, within_yes ho (by omega), List.map_append, ← hqv]; simp⟩, S93⟩, ?_⟩
        exact (Sub.cons rfl (by first | rfl | exact congrArg (Value.int _) (by omega)) (Sub.cons rfl (by first | rfl | (rw [List.length_append]; rfl)) (Sub.cons rfl (by first | rfl | exact congrArg (Value.int _) (by omega)) (Sub.cons rfl rfl (Sub.cons rfl rfl (Sub.cons rfl rfl (Sub.cons rfl rfl (Sub.nil _))))))))
      ·
        refine T_skip ?_
        refine hK11 _ _ ?_
        refine T_region ?_
        refine L_y (y_move rfl) rfl ?_
        refine L_y (y_ldW Try.underlying57 rfl sz57 rfl (S6.blk 3 rfl) (show _ = opf o ∧ _ from ⟨rfl, rfl⟩)) rfl ?_
        refine L_o (o_call Try.func38 rfl rfl (osize o w6 (Rs.like hop S6.like0)) rfl rfl ?_)
        rintro e11 w11 ⟨v11, rfl, l11, rfl⟩
        refine ⟨_, rfl, ?_⟩
        have S11 := S6.like l11
        refine L_y (y_add rfl rfl (i64w (by omega))) rfl ?_
        refine L_y (y_assign rfl) rfl ?_
        refine L_nil ?_
        refine hK8 _ _ ?_
        refine T_region ?_
        refine L_y (y_add rfl rfl (i64w (by omega))) rfl ?_
        refine L_y (y_move rfl) rfl ?_
        refine L_nil ?_
        have S93 := S11.sel [0, 1, 2] (by decide)
        refine ⟨k + 1, A1, c1, qs, ps, at_ + (szV o.v).toNat, by omega, ⟨⟨by omega, by omega, by omega, by rw [show t - ((at_ + (szV o.v).toNat : Nat) : Int) = t - (at_ : Int) - szV o.v by omega]; exact hrest, hin, by rw [← hwv, within_no ho (by omega)]⟩, S93⟩, ?_⟩
        exact (Sub.cons rfl (by first | rfl | exact congrArg (Value.int _) (by omega)) (Sub.cons rfl (by first | rfl | (rw [List.length_append]; rfl)) (Sub.cons rfl (by first | rfl | exact congrArg (Value.int _) (by omega)) (Sub.cons rfl rfl (Sub.cons rfl rfl (Sub.cons rfl rfl (Sub.cons rfl rfl (Sub.nil _))))))))
    ·
      refine T_exit ?_
      refine hK4 _ _ ?_
      refine T_seq fun K13 hK13 => ?_
      refine T_region ?_
      refine L_y (y_move rfl) rfl ?_
      refine L_y (y_assign rfl) rfl ?_
      refine L_nil ?_
      refine hK13 _ _ ?_
      refine T_ret ?_
      repeat (first | with_reducible refine up_then ?_ | with_reducible refine up_in ?_)
      refine ret1 rfl rfl ?_
      have hkn : k = n := by omega
      rw [within_end (by omega), List.append_nil] at hwv
      have S93 := S3.sel [1, 2] (by decide)
      exact ⟨_, rfl, S3.like0, A1, c1, qs, ps, rfl, hin, by omega, hwv, S93⟩
end Go.Proofs.Ytpcgldkllnkaeaa

/-
  Then.
-/
namespace Go.Proofs.Ytpcgldkllnkaeaa
open Go.RowKit Zk Zx
set_option linter.unusedVariables false
set_option linter.unusedSimpArgs false

/-- One script behind another one: its ops. -/
def thenV (la lb : List OV) : List OV := lb.flatMap fun o => if o.cp then withinV la 0 o.fr.toNat o.n.toNat else [⟨false, 0, 0, o.l⟩]
/-- The script, or the error. -/
def thenR (b t : Int) (l : List OV) (b' t' : Int) (k : List OV) : Int × Int × List OV × Int := if errV b t l ≠ 0 then (0, 0, [], errV b t l) else if errV b' t' k ≠ 0 then (0, 0, [], errV b' t' k) else if t ≠ b' then (0, 0, [], 21) else (b, t', thenV l k, 0)
section
variable {b t b' t' : Int} {l k : List OV}
theorem then_e1 (h : errV b t l ≠ 0) : thenR b t l b' t' k = (0, 0, [], errV b t l) := by unfold thenR; rw [if_pos h]
theorem then_e2 (h : errV b t l = 0) (h2 : errV b' t' k ≠ 0) : thenR b t l b' t' k = (0, 0, [], errV b' t' k) := by unfold thenR; rw [if_neg (fun x => x h), if_pos h2]
theorem then_e3 (h : errV b t l = 0) (h2 : errV b' t' k = 0) (h3 : t ≠ b') : thenR b t l b' t' k = (0, 0, [], 21) := by unfold thenR; rw [if_neg (fun x => x h), if_neg (fun x => x h2), if_pos h3]
theorem then_ok (h : errV b t l = 0) (h2 : errV b' t' k = 0) (h3 : t = b') : thenR b t l b' t' k = (b, t', thenV l k, 0) := by unfold thenR; rw [if_neg (fun x => x h), if_neg (fun x => x h2), if_neg (fun x => x h3)]
end
theorem chkL_all {b : Int} : ∀ {l : List OV} {left : Int}, left ≤ 4000 → chkL b left l = true → ∀ o ∈ l, rtV b o = true ∧ szV o ≤ 4000
  | [], _, _, _, o, ho => by cases ho
  | x :: l, left, hl, h, o, ho => by
    unfold chkL at h
    rw [Bool.and_eq_true, Bool.and_eq_true] at h
    have h1 := sz_nonneg h.1.1
    have h2 := of_decide_eq_true h.1.2
    rcases List.mem_cons.1 ho with rfl | ho
    · exact ⟨h.1.1, by omega⟩
    · exact chkL_all (by omega) h.2 o ho
theorem thenV_step {la : List OV} {k : List OP} {i : Nat} {o : OP} (ho : k[i]? = some o) : thenV la ((k.take (i + 1)).map OP.v) = thenV la ((k.take i).map OP.v) ++ (if o.cp then withinV la 0 o.fr.toNat o.n.toNat else [⟨false, 0, 0, o.p.l⟩]) := by
  rw [take1 ho, List.map_append]
  unfold thenV
  rw [List.flatMap_append]
  congr 1
  simp [OP.v]
theorem InP.cat {qs rs : List OP} {ps pr : List Part} (h1 : InP qs ps) (h2 : InP rs pr) : InP (qs ++ rs) (ps ++ pr) := fun q hq => by
  rcases List.mem_append.1 hq with hq | hq
  · rcases h1 q hq with h | h
    · exact .inl h
    · exact .inr (List.mem_append_left _ h)
  · rcases h2 q hq with h | h
    · exact .inl h
    · exact .inr (List.mem_append_right _ h)
theorem famCatP {w0 w : World} {M : Nat → Prop} {rs : List Res} {ps pr : List Part} (S : St w0 M (rs ++ [fam (ps.map partR), fam (pr.map partR)]) w) : St w0 M (rs ++ [fam ((ps ++ pr).map partR)]) w := by
  rw [List.map_append]
  exact St.famCat S
theorem part_all {o : OP} (hc : o.cp = false) (hl : o.p.l.length = o.p.n) : partV o.v 0 o.p.n = ⟨false, 0, 0, o.p.l⟩ := by
  unfold partV
  rw [if_neg (show ¬ o.v.cp = true from by rw [show o.v.cp = o.cp from rfl, hc]; exact Bool.false_ne_true), List.drop_zero]
  show OV.mk _ _ _ (o.p.l.take _) = _
  rw [List.take_of_length_le (by omega)]


set_option maxRecDepth 100000 in
theorem pthen (A : Option Addr) (n c : Nat) (l : List OP) (b t : Int) (B : Option Addr) (m d : Nat) (k : List OP) (b' t' : Int) (w0 : World) (hl : Rs w0 4 A n c (l.flatMap opf)) (hok : OkO w0 l) (hk : Rs w0 4 B m d (k.flatMap opf)) (hok2 : OkO w0 k) (hn4 : n ≤ 4000) (hm4 : m ≤ 4000) :
    Calls Try.prog 16 #[.agg (scA b t A n c), .agg (scA b' t' B m d)] w0 fun e w' => ∃ u, e = .returned u ∧ Like w0 w' ∧ ∃ A' c' qs, u = .tuple #[.agg (scA (thenR b t (l.map OP.v) b' t' (k.map OP.v)).1 (thenR b t (l.map OP.v) b' t' (k.map OP.v)).2.1 A' qs.length c'), .int .i64 (thenR b t (l.map OP.v) b' t' (k.map OP.v)).2.2.2] ∧ Rs w' 4 A' qs.length c' (qs.flatMap opf) ∧ OkO w' qs ∧ qs.map OP.v = (thenR b t (l.map OP.v) b' t' (k.map OP.v)).2.2.1 := by
  refine enter1 (env := [(0, .agg (scA b t A n c)), (1, .agg (scA b' t' B m d))]) [.agg (scA b t A n c), .agg (scA b' t' B m d)] Try.func16 rfl Try.ntmps16 rfl rfl ?_
  have hn := ops_n hl; have hcap := hl.cap; have hmax := hl.max; have S0 := St.start w0 noM; have hm := ops_n hk; have hcap2 := hk.cap; have hmax2 := hk.max
  refine T_seq fun K1 hK1 => ?_
  refine T_region ?_
  refine L_o (o_box rfl S0 rfl fun b1 w1 hb1 S1 => ?_)
  refine L_o (o_box rfl S1 rfl fun b2 w2 hb2 S2 => ?_)
  refine L_o (o_alloc zz25 S2 rfl fun b3 w3 hb3 S3 => ?_)
  refine L_y (y_assign rfl) rfl ?_
  refine L_nil ?_
  refine hK1 _ _ ?_
  refine T_seq fun K2 hK2 => ?_
  refine T_seq fun K3 hK3 => ?_
  refine T_region ?_
  refine L_y (y_ldW Try.underlying25 rfl sz25 rfl (S3.blk 0 rfl) (show _ = (scA b t A n c).toList ∧ _ from ⟨rfl, rfl⟩)) rfl ?_
  refine L_o (o_call Try.func20 rfl rfl (pcheck A n c l b t w3 (S3.rd hl) (hok.like S3.like0)) rfl rfl ?_)
  rintro e4 w4 ⟨v4, rfl, l4, rfl⟩
  refine ⟨_, rfl, ?_⟩
  have S4 := S3.like l4
  refine L_y (y_assign rfl) rfl ?_
  refine L_nil ?_
  refine hK3 _ _ ?_
  refine T_seq fun K4 hK4 => ?_
  refine T_region ?_
  refine L_y (y_move rfl) rfl ?_
  refine L_y (y_neq rfl rfl) rfl ?_
  refine L_nil ?_
  refine hK4 _ _ ?_
  refine T_cond rfl (fun h14 => ?_) (fun h14 => ?_)
  ·
    refine T_seq fun K5 hK5 => ?_
    refine T_region ?_
    refine L_y (y_build rfl (show _ = some (scA 0 0 none 0 0) by kernel_rfl)) rfl ?_
    refine L_y (y_move rfl) rfl ?_
    refine L_o (o_stW S4 2 rfl rfl rfl sz25 rfl (scA_one _ _ _ _ _) fun w5 S5 => ?_)
    refine L_y (y_assign rfl) rfl ?_
    refine L_nil ?_
    refine hK5 _ _ ?_
    refine T_ret ?_
    repeat (first | with_reducible refine up_then ?_ | with_reducible refine up_in ?_)
    refine retct rfl rfl rfl (S5.blk 2 rfl) Try.underlying25 rfl (by exact sz25) ?_
    first | exact ⟨_, rfl, S5.like0, none, 0, [], by rw [then_e1 h14]; rfl, Rs.nil _ 4, (fun o ho => (List.not_mem_nil ho).elim), by rw [then_e1 h14]; rfl⟩ | exact ⟨_, rfl, S5.like0, none, 0, [], by rw [then_e2 h140 h20]; rfl, Rs.nil _ 4, (fun o ho => (List.not_mem_nil ho).elim), by rw [then_e2 h140 h20]; rfl⟩ | exact ⟨_, rfl, S5.like0, none, 0, [], by rw [then_e3 h140 h200 h27]; rfl, Rs.nil _ 4, (fun o ho => (List.not_mem_nil ho).elim), by rw [then_e3 h140 h200 h27]; rfl⟩ | (have hie : i = m := by omega); subst hie; rw [List.take_of_length_le (by omega)] at hqv; exact ⟨_, rfl, S5.like0, A1, c1, qs, by rw [then_ok h140 h200 (by omega)], S5.row 4 rfl, okO_of hin (S5.get 5 rfl), by rw [then_ok h140 h200 (by omega)]; exact hqv⟩
  ·
    have h140 := Decidable.byContradiction h14
    obtain ⟨hrg, hall⟩ := errV_zero h140
    refine T_skip ?_
    refine hK2 _ _ ?_
    refine T_seq fun K6 hK6 => ?_
    refine T_seq fun K7 hK7 => ?_
    refine T_region ?_
    refine L_y (y_ldW Try.underlying25 rfl sz25 rfl (S4.blk 1 rfl) (show _ = (scA b' t' B m d).toList ∧ _ from ⟨rfl, rfl⟩)) rfl ?_
    refine L_o (o_call Try.func20 rfl rfl (pcheck B m d k b' t' w4 (S4.rd hk) (hok2.like S4.like0)) rfl rfl ?_)
    rintro e6 w6 ⟨v6, rfl, l6, rfl⟩
    refine ⟨_, rfl, ?_⟩
    have S6 := S4.like l6
    refine L_y (y_assign rfl) rfl ?_
    refine L_nil ?_
    refine hK7 _ _ ?_
    refine T_seq fun K8 hK8 => ?_
    refine T_region ?_
    refine L_y (y_move rfl) rfl ?_
    refine L_y (y_neq rfl rfl) rfl ?_
    refine L_nil ?_
    refine hK8 _ _ ?_
    refine T_cond rfl (fun h20 => ?_) (fun h20 => ?_)
    ·
      refine T_seq fun K9 hK9 => ?_
      refine T_region ?_
      refine L_y (y_build rfl (show _ = some (scA 0 0 none 0 0) by kernel_rfl)) rfl ?_
      refine L_y (y_move rfl) rfl ?_
      refine L_o (o_stW S6 2 rfl rfl rfl sz25 rfl (scA_one _ _ _ _ _) fun w7 S7 => ?_)
      refine L_y (y_assign rfl) rfl ?_
      refine L_nil ?_
      refine hK9 _ _ ?_
      refine T_ret ?_
      repeat (first | with_reducible refine up_then ?_ | with_reducible refine up_in ?_)
      refine retct rfl rfl rfl (S7.blk 2 rfl) Try.underlying25 rfl (by exact sz25) ?_
      first | exact ⟨_, rfl, S7.like0, none, 0, [], by rw [then_e1 h14]; rfl, Rs.nil _ 4, (fun o ho => (List.not_mem_nil ho).elim), by rw [then_e1 h14]; rfl⟩ | exact ⟨_, rfl, S7.like0, none, 0, [], by rw [then_e2 h140 h20]; rfl, Rs.nil _ 4, (fun o ho => (List.not_mem_nil ho).elim), by rw [then_e2 h140 h20]; rfl⟩ | exact ⟨_, rfl, S7.like0, none, 0, [], by rw [then_e3 h140 h200 h27]; rfl, Rs.nil _ 4, (fun o ho => (List.not_mem_nil ho).elim), by rw [then_e3 h140 h200 h27]; rfl⟩ | (have hie : i = m := by omega); subst hie; rw [List.take_of_length_le (by omega)] at hqv; exact ⟨_, rfl, S7.like0, A1, c1, qs, by rw [then_ok h140 h200 (by omega)], S7.row 4 rfl, okO_of hin (S7.get 5 rfl), by rw [then_ok h140 h200 (by omega)]; exact hqv⟩
    ·
      have h200 := Decidable.byContradiction h20
      obtain ⟨hrg2, hall2⟩ := errV_zero h200
      have hea := chkL_all (by omega) hall2
      refine T_skip ?_
      refine hK6 _ _ ?_
      refine T_seq fun K10 hK10 => ?_
      refine T_seq fun K11 hK11 => ?_
      refine T_region ?_
      refine L_y (y_fieldA 1 Try.underlying25 rfl sz3 rfl rfl rfl) rfl ?_
      refine L_y (y_ldc Try.underlying3 rfl rfl (((S6.blk 0 rfl).cell _).trans (by rfl))) rfl ?_
      refine L_y (y_fieldA 0 Try.underlying25 rfl sz3 rfl rfl rfl) rfl ?_
      refine L_y (y_ldc Try.underlying3 rfl rfl (((S6.blk 1 rfl).cell _).trans (by rfl))) rfl ?_
      refine L_y (y_neq rfl rfl) rfl ?_
      refine L_nil ?_
      refine hK11 _ _ ?_
      refine T_cond rfl (fun h27 => ?_) (fun h27 => ?_)
      ·
        refine T_seq fun K12 hK12 => ?_
        refine T_region ?_
        refine L_y (y_build rfl (show _ = some (scA 0 0 none 0 0) by kernel_rfl)) rfl ?_
        refine L_o (o_stW S6 2 rfl rfl rfl sz25 rfl (scA_one _ _ _ _ _) fun w8 S8 => ?_)
        refine L_y (y_assign rfl) rfl ?_
        refine L_nil ?_
        refine hK12 _ _ ?_
        refine T_ret ?_
        repeat (first | with_reducible refine up_then ?_ | with_reducible refine up_in ?_)
        refine retct rfl rfl rfl (S8.blk 2 rfl) Try.underlying25 rfl (by exact sz25) ?_
        first | exact ⟨_, rfl, S8.like0, none, 0, [], by rw [then_e1 h14]; rfl, Rs.nil _ 4, (fun o ho => (List.not_mem_nil ho).elim), by rw [then_e1 h14]; rfl⟩ | exact ⟨_, rfl, S8.like0, none, 0, [], by rw [then_e2 h140 h20]; rfl, Rs.nil _ 4, (fun o ho => (List.not_mem_nil ho).elim), by rw [then_e2 h140 h20]; rfl⟩ | exact ⟨_, rfl, S8.like0, none, 0, [], by rw [then_e3 h140 h200 h27]; rfl, Rs.nil _ 4, (fun o ho => (List.not_mem_nil ho).elim), by rw [then_e3 h140 h200 h27]; rfl⟩ | (have hie : i = m := by omega); subst hie; rw [List.take_of_length_le (by omega)] at hqv; exact ⟨_, rfl, S8.like0, A1, c1, qs, by rw [then_ok h140 h200 (by omega)], S8.row 4 rfl, okO_of hin (S8.get 5 rfl), by rw [then_ok h140 h200 (by omega)]; exact hqv⟩
      ·
        refine T_skip ?_
        refine hK10 _ _ ?_
        refine T_seq fun K13 hK13 => ?_
        refine T_region ?_
        refine L_y (y_fieldA 0 Try.underlying25 rfl sz3 rfl rfl rfl) rfl ?_
        refine L_y (y_ldc Try.underlying3 rfl rfl (((S6.blk 0 rfl).cell _).trans (by rfl))) rfl ?_
        refine L_y (y_fieldA 1 Try.underlying25 rfl sz3 rfl rfl rfl) rfl ?_
        refine L_y (y_ldc Try.underlying3 rfl rfl (((S6.blk 1 rfl).cell _).trans (by rfl))) rfl ?_
        refine L_y (y_build rfl (show _ = some (scA b t' none 0 0) by kernel_rfl)) rfl ?_
        refine L_o (o_alloc zz25 S6 rfl fun b9 w9 hb9 S9 => ?_)
        refine L_o (o_stW S9 3 rfl rfl rfl sz25 rfl (scA_one _ _ _ _ _) fun w10 S10 => ?_)
        refine L_nil ?_
        refine hK13 _ _ ?_
        refine T_seq fun K14 hK14 => ?_
        refine T_seq fun K15 hK15 => ?_
        refine T_region ?_
        refine L_y (y_fieldA 2 Try.underlying25 rfl sz23 rfl rfl rfl) rfl ?_
        refine L_y (y_ldc Try.underlying23 rfl rfl (((S10.blk 1 rfl).cell _).trans (by rfl))) rfl ?_
        refine L_y (y_len Try.underlying23 rfl) rfl ?_
        refine L_y (y_move rfl) rfl ?_
        refine L_nil ?_
        refine hK15 _ _ ?_
        refine T_block ?_
        refine T_loop5 [(2, _), (4, _), (8, _), (35, _), (36, _)] (fun (i : Nat) (A1 : Option Addr) (c1 : Nat) (qs : List OP) (ps : List Part) => [(37, .int .i64 (i : Int))]) (fun (i : Nat) (A1 : Option Addr) (c1 : Nat) (qs : List OP) (ps : List Part) => m - i) (fun (i : Nat) (A1 : Option Addr) (c1 : Nat) (qs : List OP) (ps : List Part) (w : World) => (i ≤ m ∧ qs.length ≤ i * 4001 ∧ InP qs ps ∧ qs.map OP.v = thenV (l.map OP.v) ((k.take i).map OP.v)) ∧ St w0 noM [blk b1 25 (scA b t A n c), blk b2 25 (scA b' t' B m d), blk b3 25 #[.int .i64 0, .int .i64 0, .slice none 0 0], blk b9 25 (scA b t' A1 qs.length c1), row 57 4 A1 qs.length c1 (qs.flatMap opf), fam (ps.map partR)] w) 0 none 0 [] [] (Sub.cons rfl (by first | rfl | exact congrArg (Value.int _) (by omega)) (Sub.nil _)) (Sub.cons rfl rfl (Sub.cons rfl rfl (Sub.cons rfl rfl (Sub.cons rfl rfl (Sub.cons rfl rfl (Sub.nil _)))))) ?_ ?_
        ·
          have S9 := ((S10.nilrow 57 4).fam0)
          exact ⟨⟨Nat.zero_le _, Nat.zero_le _, (fun o ho => (List.not_mem_nil ho).elim), rfl⟩, S9⟩
        ·
          intro i A1 c1 qs ps w11 hrel
          obtain ⟨⟨hi, hql, hin, hqv⟩, S11⟩ := hrel
          refine T_seq fun K16 hK16 => ?_
          refine T_region ?_
          refine L_y (y_lss rfl rfl) rfl ?_
          refine L_nil ?_
          refine hK16 _ _ ?_
          refine T_seq fun K17 hK17 => ?_
          refine T_cond rfl (fun h38 => ?_) (fun h38 => ?_)
          ·
            obtain ⟨o, ho⟩ : ∃ o, k[i]? = some o := ⟨_, List.getElem?_eq_getElem (by omega)⟩
            have hom := List.mem_of_getElem? ho
            have hop := hok2 o hom
            obtain ⟨hrt, hsz⟩ := hea o.v (List.mem_map.2 ⟨o, hom, rfl⟩)
            refine T_skip ?_
            refine hK17 _ _ ?_
            refine T_seq fun K18 hK18 => ?_
            refine T_block ?_
            refine T_seq fun K19 hK19 => ?_
            refine T_region ?_
            refine L_y (y_idx Try.underlying23 sz57 rfl rfl (S11.rd hk) (Nt.mk (by omega) : Nt _ (i)) (by omega)) rfl ?_
            refine L_y (y_ldp (f := opf) opf_len Try.underlying57 rfl sz57 rfl (S11.rd hk) (by omega) ho) rfl ?_
            refine L_o (o_alloc zz57 S11 rfl fun b12 w12 hb12 S12 => ?_)
            refine L_o (o_stW S12 6 rfl rfl rfl sz57 rfl (opf_one o) fun w13 S13 => ?_)
            refine L_nil ?_
            refine hK19 _ _ ?_
            refine T_seq fun K20 hK20 => ?_
            refine T_region ?_
            refine L_y (y_fieldA 0 Try.underlying57 rfl sz4 rfl rfl rfl) rfl ?_
            refine L_y (y_ldc Try.underlying4 rfl rfl (((S13.blk 6 rfl).cell _).trans (by rfl))) rfl ?_
            refine L_nil ?_
            refine hK20 _ _ ?_
            refine T_condB rfl (fun h42 => ?_) (fun h42 => ?_)
            ·
              have hcp : o.cp = true := h42
              obtain ⟨g1, g2, g3, g4, g5⟩ := rt_cp hrt hcp
              refine T_zed [0, 1, 2, 3, 4, 5, 6, 7] 8 [(0, 1), (1, 1), (2, 1), (3, 1), (4, 1), (5, 1), (6, 1), (7, 2), (8, 3), (9, 3), (10, 3)] hmix (by kernel_rfl) fun w14 l14 => ?_
              have S14 := S13.like l14
              refine ZA_B (Like w14) (Like.refl _) ?_
              refine ZB_y rfl (y_fieldA 2 Try.underlying25 rfl sz23 rfl rfl rfl) rfl ?_
              refine ZB_y rfl (y_ldc Try.underlying23 rfl rfl (((S14.blk 3 rfl).cell _).trans (by rfl))) rfl ?_
              refine ZB_y rfl (y_ldW Try.underlying25 rfl sz25 rfl (S14.blk 0 rfl) (show _ = (scA b t A n c).toList ∧ _ from ⟨rfl, rfl⟩)) rfl ?_
              refine ZB_y rfl (y_fieldA 1 Try.underlying57 rfl sz3 rfl rfl rfl) rfl ?_
              refine ZB_y rfl (y_ldc Try.underlying3 rfl rfl (((S14.blk 6 rfl).cell _).trans (by rfl))) rfl ?_
              refine ZB_y rfl (y_fieldA 2 Try.underlying57 rfl sz3 rfl rfl rfl) rfl ?_
              refine ZB_y rfl (y_ldc Try.underlying3 rfl rfl (((S14.blk 6 rfl).cell _).trans (by rfl))) rfl ?_
              refine ZB_o rfl (o_call Try.func26 rfl rfl (within A n c l b t o.fr.toNat o.n.toNat _ _ w14 (S14.rd hl) (hok.like S14.like0) (by omega) (by omega) hrg hall (by omega) hn4) rfl rfl ?_)
              rintro e15 w15 ⟨v15, rfl, l15, A50, c50, rs, pr, rfl, hinr, hrl, hrv, T15⟩
              refine ⟨_, rfl, l15, ?_⟩
              have S15 := S14.adoptS T15
              have q15 := l15
              refine ZB_c rfl (o_app te23 S15 4 rfl rfl rfl (S15.row 7 rfl) (ops_one _) rfl (by omega) (by omega) fun A16 c16 w16 S16 => ?_)
              refine ZA_oy rfl (y_fieldA 2 Try.underlying25 rfl sz23 rfl rfl rfl) rfl ?_
              refine ZA_o rfl (o_st1 S16 3 rfl rfl rfl rfl sz23 (by show 2 < 3; decide) fun w17 S17 => ?_)
              refine ZA_nil ?_
              refine hK18 _ _ ?_
              refine T_region ?_
              refine L_y (y_add rfl rfl (i64w (by omega))) rfl ?_
              refine L_y (y_move rfl) rfl ?_
              refine L_nil ?_
              have S91 := S17.blkc 3 rfl ((scA_set b t' A1 qs.length c1 A16 (qs.length + rs.length) c16).trans (show _ = scA b t' A16 (qs ++ rs).length c16 from by simp))
              have S92 := S91.rowc 4 rfl (n' := (qs ++ rs).length) (xs' := (qs ++ rs).flatMap opf) (by simp) (by simp)
              have S93 := S92.sel [0, 1, 2, 3, 4, 5, 8] (by decide)
              have S94 := famCatP (rs := [_, _, _, _, _]) (ps := ps) (pr := pr) S93
              refine ⟨i + 1, A16, c16, qs ++ rs, ps ++ pr, by omega, ⟨⟨by omega, by rw [List.length_append]; omega, hin.cat hinr, by rw [thenV_step ho, if_pos hcp, List.map_append, hqv, hrv]⟩, S94⟩, ?_⟩
              exact (Sub.cons rfl (by first | rfl | exact congrArg (Value.int _) (by omega)) (Sub.cons rfl rfl (Sub.cons rfl rfl (Sub.cons rfl rfl (Sub.cons rfl rfl (Sub.cons rfl rfl (Sub.nil _)))))))
            ·
              have hcp : o.cp = false := h42
              obtain ⟨g1, g2⟩ := rt_new hrt hcp
              have hopl := hop.lenb
              refine T_zed [0, 1, 2, 3, 4, 5, 6, 7] 8 [(0, 1), (1, 1), (2, 1), (3, 1), (4, 1), (5, 1), (6, 2), (7, 2), (8, 3), (9, 3), (10, 3)] hmix (by kernel_rfl) fun w18 l18 => ?_
              have S18 := S13.like l18
              refine ZA_B (Like w18) (Like.refl _) ?_
              refine ZB_y rfl (y_fieldA 2 Try.underlying25 rfl sz23 rfl rfl rfl) rfl ?_
              refine ZB_y rfl (y_ldc Try.underlying23 rfl rfl (((S18.blk 3 rfl).cell _).trans (by rfl))) rfl ?_
              refine ZB_y rfl (y_ldW Try.underlying57 rfl sz57 rfl (S18.blk 6 rfl) (show _ = opf o ∧ _ from ⟨rfl, rfl⟩)) rfl ?_
              refine ZB_y rfl (y_fieldA 3 Try.underlying57 rfl sz22 rfl rfl rfl) rfl ?_
              refine ZB_y rfl (y_ldc Try.underlying22 rfl rfl (((S18.blk 6 rfl).cell _).trans (by rfl))) rfl ?_
              refine ZB_y rfl (y_len Try.underlying22 rfl) rfl ?_
              refine ZB_o rfl (o_call Try.func27 rfl rfl (part o 0 o.p.n _ _ w18 (Rs.like hop S18.like0) rfl rfl (fun hc => by rw [hcp] at hc; cases hc) (fun _ => by omega) (by omega)) rfl rfl ?_)
              rintro e19 w19 ⟨v19, rfl, l19, q, rfl, hpv, O19⟩
              refine ⟨_, rfl, l19, ?_⟩
              have S19 := S18.adopt l19 O19
              have q19 := l19
              refine ZB_o rfl (o_bslL (opf q) te23 zz57 S19 rfl rfl rfl rfl rfl rfl rfl rfl fun b20 w20 l20 S20 => ?_)
              have q20 := Like.trans q19 l20
              refine ⟨q20, ?_⟩
              refine ZB_c rfl (o_app te23 S20 4 rfl rfl rfl (by first | exact S20.row 4 rfl | exact S20.fix 5 rfl | exact S20.row 7 rfl | exact S20.row 8 rfl) (opf_one q) rfl (by omega) (by omega) fun A21 c21 w21 S21 => ?_)
              have S21d := S21.drop (rs' := [_, _, _, _, _, _, _, _]) (.cons_cons _ (.cons_cons _ (.cons_cons _ (.cons_cons _ (.cons_cons _ (.cons_cons _ (.cons_cons _ (.cons_cons _ (.cons _ (.refl _))))))))))
              refine ZA_oy rfl (y_fieldA 2 Try.underlying25 rfl sz23 rfl rfl rfl) rfl ?_
              refine ZA_o rfl (o_st1 S21d 3 rfl rfl rfl rfl sz23 (by show 2 < 3; decide) fun w22 S22 => ?_)
              refine ZA_nil ?_
              refine hK18 _ _ ?_
              refine T_region ?_
              refine L_y (y_add rfl rfl (i64w (by omega))) rfl ?_
              refine L_y (y_move rfl) rfl ?_
              refine L_nil ?_
              have S91 := S22.blkc 3 rfl ((scA_set b t' A1 qs.length c1 A21 (qs.length + 1) c21).trans (show _ = scA b t' A21 (qs ++ [q]).length c21 from by simp))
              have S92 := S91.rowc 4 rfl (n' := (qs ++ [q]).length) (xs' := (qs ++ [q]).flatMap opf) (by simp) (by simp)
              have S93 := (S92.still 7 rfl).sel [0, 1, 2, 3, 4, 5, 7] (by decide)
              have S94 := famAdd (rs := [_, _, _, _, _, fam (ps.map partR)]) (ps := ps) (p := q.p) S93 5 rfl
              refine ⟨i + 1, A21, c21, qs ++ [q], ps ++ [q.p], by omega, ⟨⟨by omega, by rw [List.length_append, List.length_singleton]; omega, hin.add, by rw [thenV_step ho, if_neg (by rw [hcp]; exact Bool.false_ne_true), List.map_append, hqv, List.map_singleton, hpv, part_all hcp hop.lenb]⟩, S94⟩, ?_⟩
              exact (Sub.cons rfl (by first | rfl | exact congrArg (Value.int _) (by omega)) (Sub.cons rfl rfl (Sub.cons rfl rfl (Sub.cons rfl rfl (Sub.cons rfl rfl (Sub.cons rfl rfl (Sub.nil _)))))))
          ·
            refine T_exit ?_
            refine hK14 _ _ ?_
            refine T_seq fun K21 hK21 => ?_
            refine T_region ?_
            refine L_y (y_ldW Try.underlying25 rfl sz25 rfl (S11.blk 3 rfl) (show _ = (scA b t' A1 qs.length c1).toList ∧ _ from ⟨rfl, rfl⟩)) rfl ?_
            refine L_o (o_stW S11 2 rfl rfl rfl sz25 rfl (scA_one _ _ _ _ _) fun w23 S23 => ?_)
            refine L_y (y_assign rfl) rfl ?_
            refine L_nil ?_
            refine hK21 _ _ ?_
            refine T_ret ?_
            repeat (first | with_reducible refine up_then ?_ | with_reducible refine up_in ?_)
            refine retct rfl rfl rfl (S23.blk 2 rfl) Try.underlying25 rfl (by exact sz25) ?_
            first | exact ⟨_, rfl, S23.like0, none, 0, [], by rw [then_e1 h14]; rfl, Rs.nil _ 4, (fun o ho => (List.not_mem_nil ho).elim), by rw [then_e1 h14]; rfl⟩ | exact ⟨_, rfl, S23.like0, none, 0, [], by rw [then_e2 h140 h20]; rfl, Rs.nil _ 4, (fun o ho => (List.not_mem_nil ho).elim), by rw [then_e2 h140 h20]; rfl⟩ | exact ⟨_, rfl, S23.like0, none, 0, [], by rw [then_e3 h140 h200 h27]; rfl, Rs.nil _ 4, (fun o ho => (List.not_mem_nil ho).elim), by rw [then_e3 h140 h200 h27]; rfl⟩ | (have hie : i = m := by omega); subst hie; rw [List.take_of_length_le (by omega)] at hqv; exact ⟨_, rfl, S23.like0, A1, c1, qs, by rw [then_ok h140 h200 (by omega)], S23.row 4 rfl, okO_of hin (S23.get 5 rfl), by rw [then_ok h140 h200 (by omega)]; exact hqv⟩
end Go.Proofs.Ytpcgldkllnkaeaa

/-
  Then of the document.
-/
namespace Go.Proofs.Ytpcgldkllnkaeaa
open Go.RowKit Zk Zx
set_option linter.unusedVariables false
set_option linter.unusedSimpArgs false

theorem rt_newV {b : Int} {o : OP} (h : rtV b o.v = true) (hc : o.cp = false) : o.v = ⟨false, 0, 0, o.p.l⟩ := by
  unfold rtV at h
  rw [if_neg (show ¬ o.v.cp = true from by rw [show o.v.cp = o.cp from rfl, hc]; exact Bool.false_ne_true)] at h
  simp only [Bool.and_eq_true, decide_eq_true_eq] at h
  obtain ⟨⟨_, h1⟩, h2⟩ := h
  have h1' : o.fr = 0 := h1
  have h2' : o.n = 0 := h2
  unfold OP.v
  rw [hc, h1', h2']
theorem partV_cp {p : OP} {f n : Nat} (h : p.cp = true) : partV p.v f n = ⟨true, p.fr + (f : Int), (n : Int), []⟩ := by unfold partV; rw [if_pos (show p.v.cp = true from h)]; rfl
theorem partV_new {p : OP} {f n : Nat} (h : p.cp = false) : partV p.v f n = ⟨false, 0, 0, (p.p.l.drop f).take n⟩ := by unfold partV; rw [if_neg (show ¬ p.v.cp = true from by rw [show p.v.cp = p.cp from rfl, h]; exact Bool.false_ne_true)]; rfl
theorem errV_two {b t : Int} {l : List OV} (h : errV b t l ≠ 0) : errV b t l = 2 := by
  unfold errV at h ⊢
  split at h
  · exact (h rfl).elim
  · rename_i h1; rw [if_neg h1]
theorem okO_snoc {w : World} {rs : List OP} {q : OP} (h : OkO w rs) (hq : q.p.ok w) : OkO w (rs ++ [q]) := fun o ho => by
  rcases List.mem_append.1 ho with ho | ho
  · exact h o ho
  · rw [List.mem_singleton.1 ho]; exact hq
theorem okO_app {w : World} {rs qs : List OP} (h : OkO w qs) (hq : OkO w rs) : OkO w (qs ++ rs) := fun o ho => by
  rcases List.mem_append.1 ho with ho | ho
  · exact h o ho
  · exact hq o ho


set_option maxRecDepth 100000 in
theorem rthen (A : Option Addr) (n c : Nat) (l : List OP) (b t : Int) (B : Option Addr) (m d : Nat) (k : List OP) (b' t' : Int) (wB : World) (w0 : World) (hl : Rs w0 4 A n c (l.flatMap opf)) (hok : OkO w0 l) (hk : Rs w0 4 B m d (k.flatMap opf)) (hok2 : OkO w0 k) (hokB : OkO wB l) (hokB2 : OkO wB k) (hn4 : n ≤ 4000) (hm4 : m ≤ 4000) :
    Calls Try.prog 17 #[.agg (scA b t A n c), .agg (scA b' t' B m d)] w0 fun e w' => ∃ u, e = .returned u ∧ Like w0 w' ∧ ∃ A' c' qs, u = .tuple #[.agg (scA (thenR b t (l.map OP.v) b' t' (k.map OP.v)).1 (thenR b t (l.map OP.v) b' t' (k.map OP.v)).2.1 A' qs.length c'), .int .i64 (thenR b t (l.map OP.v) b' t' (k.map OP.v)).2.2.2] ∧ w'.ownsRow w0.heap.size 58 4 (.slice A' qs.length c') qs.length (qs.flatMap opf) ∧ OkO wB qs ∧ qs.map OP.v = (thenR b t (l.map OP.v) b' t' (k.map OP.v)).2.2.1 := by
  refine enter1 (env := [(0, .agg (scA b t A n c)), (1, .agg (scA b' t' B m d))]) [.agg (scA b t A n c), .agg (scA b' t' B m d)] Try.func17 rfl Try.ntmps17 rfl rfl ?_
  have hn := ops_n hl; have hcap := hl.cap; have hmax := hl.max; have S0 := St.start w0 noM; have hm := ops_n hk; have hcap2 := hk.cap; have hmax2 := hk.max
  refine T_seq fun K1 hK1 => ?_
  refine T_region ?_
  refine L_o (o_box rfl S0 rfl fun b1 w1 hb1 S1 => ?_)
  refine L_o (o_box rfl S1 rfl fun b2 w2 hb2 S2 => ?_)
  refine L_o (o_alloc zz30 S2 rfl fun b3 w3 hb3 S3 => ?_)
  refine L_y (y_assign rfl) rfl ?_
  refine L_nil ?_
  refine hK1 _ _ ?_
  refine T_seq fun K2 hK2 => ?_
  refine T_seq fun K3 hK3 => ?_
  refine T_region ?_
  refine L_y (y_ldW Try.underlying30 rfl sz30 rfl (S3.blk 0 rfl) (show _ = (scA b t A n c).toList ∧ _ from ⟨rfl, rfl⟩)) rfl ?_
  refine L_o (o_call Try.func21 rfl rfl (rcheck A n c l b t w3 (S3.rd hl) (hok.like S3.like0)) rfl rfl ?_)
  rintro e4 w4 ⟨v4, rfl, l4, rfl⟩
  refine ⟨_, rfl, ?_⟩
  have S4 := S3.like l4
  refine L_y (y_neq rfl rfl) rfl ?_
  refine L_y (y_move rfl) rfl ?_
  refine L_split 17 rfl (fun h17 => ?_) (fun h17 => ?_)
  ·
    refine L_gno rfl rfl rfl ?_
    refine L_gno rfl rfl rfl ?_
    refine L_gno rfl rfl rfl ?_
    refine L_y ((by first | exact y_pickT rfl rfl | exact y_pickF rfl rfl)) rfl ?_
    refine L_nil ?_
    refine hK3 _ _ ?_
    refine T_true rfl ?_
    refine T_seq fun K4 hK4 => ?_
    refine T_region ?_
    refine L_y (y_build rfl (show _ = some (scA 0 0 none 0 0) by kernel_rfl)) rfl ?_
    refine L_o (o_stW S4 2 rfl rfl rfl sz30 rfl (scA_one _ _ _ _ _) fun w6 S6 => ?_)
    refine L_y (y_assign rfl) rfl ?_
    refine L_nil ?_
    refine hK4 _ _ ?_
    refine T_ret ?_
    repeat (first | with_reducible refine up_then ?_ | with_reducible refine up_in ?_)
    refine retct rfl rfl rfl (S6.blk 2 rfl) Try.underlying30 rfl (by exact sz30) ?_
    first | exact ⟨_, rfl, S6.like0, none, 0, [], by rw [then_e1 h17, errV_two h17]; rfl, World.ownsRow_nil _ _ _ _, (fun o ho => (List.not_mem_nil ho).elim), by rw [then_e1 h17, errV_two h17]; rfl⟩ | exact ⟨_, rfl, S6.like0, none, 0, [], by rw [then_e2 (Decidable.byContradiction h17) h21, errV_two h21]; rfl, World.ownsRow_nil _ _ _ _, (fun o ho => (List.not_mem_nil ho).elim), by rw [then_e2 (Decidable.byContradiction h17) h21, errV_two h21]; rfl⟩ | exact ⟨_, rfl, S6.like0, none, 0, [], by rw [then_e3 h140 h200 h27]; rfl, World.ownsRow_nil _ _ _ _, (fun o ho => (List.not_mem_nil ho).elim), by rw [then_e3 h140 h200 h27]; rfl⟩ | (have hie : i = m := by omega); subst hie; rw [List.take_of_length_le (by omega)] at hqv; exact ⟨_, rfl, S6.like0, A1, c1, qs, by rw [then_ok h140 h200 (by omega)], S6.own 4 rfl, hoq, by rw [then_ok h140 h200 (by omega)]; exact hqv⟩
  ·
    refine L_gyes rfl rfl ?_
    refine L_y (y_ldW Try.underlying30 rfl sz30 rfl (S4.blk 1 rfl) (show _ = (scA b' t' B m d).toList ∧ _ from ⟨rfl, rfl⟩)) rfl ?_
    refine L_gyes rfl rfl ?_
    refine L_o (o_call Try.func21 rfl rfl (rcheck B m d k b' t' w4 (S4.rd hk) (hok2.like S4.like0)) rfl rfl ?_)
    rintro e7 w7 ⟨v7, rfl, l7, rfl⟩
    refine ⟨_, rfl, ?_⟩
    have S7 := S4.like l7
    refine L_gyes rfl rfl ?_
    refine L_y (y_neq rfl rfl) rfl ?_
    refine L_y ((by first | exact y_pickT rfl rfl | exact y_pickF rfl rfl)) rfl ?_
    refine L_nil ?_
    refine hK3 _ _ ?_
    refine T_cond rfl (fun h21 => ?_) (fun h21 => ?_)
    ·
      refine T_seq fun K5 hK5 => ?_
      refine T_region ?_
      refine L_y (y_build rfl (show _ = some (scA 0 0 none 0 0) by kernel_rfl)) rfl ?_
      refine L_o (o_stW S7 2 rfl rfl rfl sz30 rfl (scA_one _ _ _ _ _) fun w8 S8 => ?_)
      refine L_y (y_assign rfl) rfl ?_
      refine L_nil ?_
      refine hK5 _ _ ?_
      refine T_ret ?_
      repeat (first | with_reducible refine up_then ?_ | with_reducible refine up_in ?_)
      refine retct rfl rfl rfl (S8.blk 2 rfl) Try.underlying30 rfl (by exact sz30) ?_
      first | exact ⟨_, rfl, S8.like0, none, 0, [], by rw [then_e1 h17, errV_two h17]; rfl, World.ownsRow_nil _ _ _ _, (fun o ho => (List.not_mem_nil ho).elim), by rw [then_e1 h17, errV_two h17]; rfl⟩ | exact ⟨_, rfl, S8.like0, none, 0, [], by rw [then_e2 (Decidable.byContradiction h17) h21, errV_two h21]; rfl, World.ownsRow_nil _ _ _ _, (fun o ho => (List.not_mem_nil ho).elim), by rw [then_e2 (Decidable.byContradiction h17) h21, errV_two h21]; rfl⟩ | exact ⟨_, rfl, S8.like0, none, 0, [], by rw [then_e3 h140 h200 h27]; rfl, World.ownsRow_nil _ _ _ _, (fun o ho => (List.not_mem_nil ho).elim), by rw [then_e3 h140 h200 h27]; rfl⟩ | (have hie : i = m := by omega); subst hie; rw [List.take_of_length_le (by omega)] at hqv; exact ⟨_, rfl, S8.like0, A1, c1, qs, by rw [then_ok h140 h200 (by omega)], S8.own 4 rfl, hoq, by rw [then_ok h140 h200 (by omega)]; exact hqv⟩
    ·
      have h140 : errV b t (l.map OP.v) = 0 := Decidable.byContradiction h17
      have h200 : errV b' t' (k.map OP.v) = 0 := Decidable.byContradiction h21
      obtain ⟨hrg, hall⟩ := errV_zero h140
      obtain ⟨hrg2, hall2⟩ := errV_zero h200
      have hea := chkL_all (by omega) hall2
      refine T_skip ?_
      refine hK2 _ _ ?_
      refine T_seq fun K6 hK6 => ?_
      refine T_seq fun K7 hK7 => ?_
      refine T_region ?_
      refine L_y (y_fieldA 1 Try.underlying30 rfl sz3 rfl rfl rfl) rfl ?_
      refine L_y (y_ldc Try.underlying3 rfl rfl (((S7.blk 0 rfl).cell _).trans (by rfl))) rfl ?_
      refine L_y (y_fieldA 0 Try.underlying30 rfl sz3 rfl rfl rfl) rfl ?_
      refine L_y (y_ldc Try.underlying3 rfl rfl (((S7.blk 1 rfl).cell _).trans (by rfl))) rfl ?_
      refine L_y (y_neq rfl rfl) rfl ?_
      refine L_nil ?_
      refine hK7 _ _ ?_
      refine T_cond rfl (fun h27 => ?_) (fun h27 => ?_)
      ·
        refine T_seq fun K8 hK8 => ?_
        refine T_region ?_
        refine L_y (y_build rfl (show _ = some (scA 0 0 none 0 0) by kernel_rfl)) rfl ?_
        refine L_o (o_stW S7 2 rfl rfl rfl sz30 rfl (scA_one _ _ _ _ _) fun w9 S9 => ?_)
        refine L_y (y_assign rfl) rfl ?_
        refine L_nil ?_
        refine hK8 _ _ ?_
        refine T_ret ?_
        repeat (first | with_reducible refine up_then ?_ | with_reducible refine up_in ?_)
        refine retct rfl rfl rfl (S9.blk 2 rfl) Try.underlying30 rfl (by exact sz30) ?_
        first | exact ⟨_, rfl, S9.like0, none, 0, [], by rw [then_e1 h17, errV_two h17]; rfl, World.ownsRow_nil _ _ _ _, (fun o ho => (List.not_mem_nil ho).elim), by rw [then_e1 h17, errV_two h17]; rfl⟩ | exact ⟨_, rfl, S9.like0, none, 0, [], by rw [then_e2 (Decidable.byContradiction h17) h21, errV_two h21]; rfl, World.ownsRow_nil _ _ _ _, (fun o ho => (List.not_mem_nil ho).elim), by rw [then_e2 (Decidable.byContradiction h17) h21, errV_two h21]; rfl⟩ | exact ⟨_, rfl, S9.like0, none, 0, [], by rw [then_e3 h140 h200 h27]; rfl, World.ownsRow_nil _ _ _ _, (fun o ho => (List.not_mem_nil ho).elim), by rw [then_e3 h140 h200 h27]; rfl⟩ | (have hie : i = m := by omega); subst hie; rw [List.take_of_length_le (by omega)] at hqv; exact ⟨_, rfl, S9.like0, A1, c1, qs, by rw [then_ok h140 h200 (by omega)], S9.own 4 rfl, hoq, by rw [then_ok h140 h200 (by omega)]; exact hqv⟩
      ·
        refine T_skip ?_
        refine hK6 _ _ ?_
        refine T_seq fun K9 hK9 => ?_
        refine T_region ?_
        refine L_y (y_fieldA 0 Try.underlying30 rfl sz3 rfl rfl rfl) rfl ?_
        refine L_y (y_ldc Try.underlying3 rfl rfl (((S7.blk 0 rfl).cell _).trans (by rfl))) rfl ?_
        refine L_y (y_fieldA 1 Try.underlying30 rfl sz3 rfl rfl rfl) rfl ?_
        refine L_y (y_ldc Try.underlying3 rfl rfl (((S7.blk 1 rfl).cell _).trans (by rfl))) rfl ?_
        refine L_y (y_build rfl (show _ = some (scA b t' none 0 0) by kernel_rfl)) rfl ?_
        refine L_o (o_alloc zz30 S7 rfl fun b10 w10 hb10 S10 => ?_)
        refine L_o (o_stW S10 3 rfl rfl rfl sz30 rfl (scA_one _ _ _ _ _) fun w11 S11 => ?_)
        refine L_nil ?_
        refine hK9 _ _ ?_
        refine T_seq fun K10 hK10 => ?_
        refine T_seq fun K11 hK11 => ?_
        refine T_region ?_
        refine L_y (y_assign rfl) rfl ?_
        refine L_nil ?_
        refine hK11 _ _ ?_
        refine T_block ?_
        refine T_loop4 [(2, _), (3, _), (4, _), (6, _)] (fun (i : Nat) (A1 : Option Addr) (c1 : Nat) (qs : List OP) => [(7, .int .i64 (i : Int))]) (fun (i : Nat) (A1 : Option Addr) (c1 : Nat) (qs : List OP) => m - i) (fun (i : Nat) (A1 : Option Addr) (c1 : Nat) (qs : List OP) (w : World) => (i ≤ m ∧ qs.length ≤ i * 4001 ∧ OkO wB qs ∧ qs.map OP.v = thenV (l.map OP.v) ((k.take i).map OP.v)) ∧ St w0 noM [blk b1 30 (scA b t A n c), blk b2 30 (scA b' t' B m d), blk b3 30 #[.int .i64 0, .int .i64 0, .slice none 0 0], blk b10 30 (scA b t' A1 qs.length c1), row 58 4 A1 qs.length c1 (qs.flatMap opf)] w) 0 none 0 [] (Sub.cons rfl (by first | rfl | exact congrArg (Value.int _) (by omega)) (Sub.nil _)) (Sub.cons rfl rfl (Sub.cons rfl rfl (Sub.cons rfl rfl (Sub.cons rfl rfl (Sub.nil _))))) ?_ ?_
        ·
          have S9 := S11.nilrow 58 4
          exact ⟨⟨Nat.zero_le _, Nat.zero_le _, (fun o ho => (List.not_mem_nil ho).elim), rfl⟩, S9⟩
        ·
          intro i A1 c1 qs w12 hrel
          obtain ⟨⟨hi, hql, hoq, hqv⟩, S12⟩ := hrel
          refine T_seq fun K12 hK12 => ?_
          refine T_seq fun K13 hK13 => ?_
          refine T_region ?_
          refine L_y (y_move rfl) rfl ?_
          refine L_y (y_fieldA 2 Try.underlying30 rfl sz28 rfl rfl rfl) rfl ?_
          refine L_y (y_ldc Try.underlying28 rfl rfl (((S12.blk 1 rfl).cell _).trans (by rfl))) rfl ?_
          refine L_y (y_len Try.underlying28 rfl) rfl ?_
          refine L_y (y_lss rfl rfl) rfl ?_
          refine L_nil ?_
          refine hK13 _ _ ?_
          refine T_cond rfl (fun h38 => ?_) (fun h38 => ?_)
          ·
            obtain ⟨o, ho⟩ : ∃ o, k[i]? = some o := ⟨_, List.getElem?_eq_getElem (by omega)⟩
            have hom := List.mem_of_getElem? ho
            have hop := hok2 o hom
            have hopB := hokB2 o hom
            obtain ⟨hrt, hsz⟩ := hea o.v (List.mem_map.2 ⟨o, hom, rfl⟩)
            have hopl := hop.lenb
            refine T_skip ?_
            refine hK12 _ _ ?_
            refine T_seq fun K14 hK14 => ?_
            refine T_block ?_
            refine T_seq fun K15 hK15 => ?_
            refine T_region ?_
            refine L_y (y_fieldA 2 Try.underlying30 rfl sz28 rfl rfl rfl) rfl ?_
            refine L_y (y_ldc Try.underlying28 rfl rfl (((S12.blk 1 rfl).cell _).trans (by rfl))) rfl ?_
            refine L_y (y_move rfl) rfl ?_
            refine L_y (y_idx Try.underlying28 sz58 rfl rfl (S12.rd hk) (Nt.mk (by omega) : Nt _ (i)) (by omega)) rfl ?_
            refine L_y (y_ldp (f := opf) opf_len Try.underlying58 rfl sz58 rfl (S12.rd hk) (by omega) ho) rfl ?_
            refine L_o (o_alloc zz58 S12 rfl fun b13 w13 hb13 S13 => ?_)
            refine L_o (o_stW S13 5 rfl rfl rfl sz58 rfl (opf_one o) fun w14 S14 => ?_)
            refine L_nil ?_
            refine hK15 _ _ ?_
            refine T_seq fun K16 hK16 => ?_
            refine T_seq fun K17 hK17 => ?_
            refine T_region ?_
            refine L_y (y_fieldA 0 Try.underlying58 rfl sz4 rfl rfl rfl) rfl ?_
            refine L_y (y_ldc Try.underlying4 rfl rfl (((S14.blk 5 rfl).cell _).trans (by rfl))) rfl ?_
            refine L_y ((by first | exact y_notD rfl | exact y_not rfl)) rfl ?_
            refine L_nil ?_
            refine hK17 _ _ ?_
            refine T_condB rfl (fun h48 => ?_) (fun h48 => ?_)
            ·
              have hcp : o.cp = false := by simpa using h48
              refine T_seq fun K18 hK18 => ?_
              refine T_region ?_
              refine L_y (y_fieldA 2 Try.underlying30 rfl sz28 rfl rfl rfl) rfl ?_
              refine L_y (y_ldc Try.underlying28 rfl rfl (((S14.blk 3 rfl).cell _).trans (by rfl))) rfl ?_
              refine L_y (y_ldW Try.underlying58 rfl sz58 rfl (S14.blk 5 rfl) (show _ = opf o ∧ _ from ⟨rfl, rfl⟩)) rfl ?_
              refine L_o (o_bsl (opf o) te28 zz58 S14 rfl rfl rfl rfl rfl rfl rfl rfl fun b15 w15 S15 => ?_)
              refine L_o (o_app te28 S15 4 rfl rfl rfl (by first | exact S15.row 4 rfl | exact S15.row 6 rfl) (opf_one o) rfl (by omega) (by omega) fun A16 c16 w16 S16 => ?_)
              have S16d := S16.drop (rs' := [_, _, _, _, _, _]) (.cons_cons _ (.cons_cons _ (.cons_cons _ (.cons_cons _ (.cons_cons _ (.cons_cons _ (.cons _ (.refl _))))))))
              refine L_y (y_fieldA 2 Try.underlying30 rfl sz28 rfl rfl rfl) rfl ?_
              refine L_o (o_st1 S16d 3 rfl rfl rfl rfl sz28 (by show 2 < 3; decide) fun w17 S17 => ?_)
              refine L_nil ?_
              refine hK18 _ _ ?_
              refine T_exit ?_
              refine hK14 _ _ ?_
              refine T_region ?_
              refine L_y (y_move rfl) rfl ?_
              refine L_y (y_add rfl rfl (i64w (by omega))) rfl ?_
              refine L_y (y_assign rfl) rfl ?_
              refine L_nil ?_
              have S91 := S17.blkc 3 rfl ((scA_set b t' A1 qs.length c1 A16 (qs.length + 1) c16).trans (show _ = scA b t' A16 (qs ++ [o]).length c16 from by simp))
              have S92 := S91.rowc 4 rfl (n' := (qs ++ [o]).length) (xs' := (qs ++ [o]).flatMap opf) (by simp) (by simp)
              have S93 := S92.sel [0, 1, 2, 3, 4] (by decide)
              refine ⟨i + 1, A16, c16, qs ++ [o], by omega, ⟨⟨by omega, by rw [List.length_append, List.length_singleton]; omega, okO_snoc hoq hopB, by rw [thenV_step ho, if_neg (by rw [hcp]; exact Bool.false_ne_true), List.map_append, hqv, List.map_singleton, rt_newV hrt hcp]⟩, S93⟩, ?_⟩
              exact (Sub.cons rfl (by first | rfl | exact congrArg (Value.int _) (by omega)) (Sub.cons rfl rfl (Sub.cons rfl rfl (Sub.cons rfl rfl (Sub.cons rfl rfl (Sub.nil _))))))
            ·
              have hcp : o.cp = true := by simpa using h48
              obtain ⟨g1, g2, g3, g4, g5⟩ := rt_cp hrt hcp
              refine T_skip ?_
              refine hK16 _ _ ?_
              refine T_seq fun K19 hK19 => ?_
              refine T_region ?_
              refine L_y (y_assign rfl) rfl ?_
              refine L_nil ?_
              refine hK19 _ _ ?_
              refine T_seq fun K20 hK20 => ?_
              refine T_region ?_
              refine L_y (y_assign rfl) rfl ?_
              refine L_nil ?_
              refine hK20 _ _ ?_
              refine T_block ?_
              refine T_loop5 [(2, _), (3, _), (4, _), (6, _), (7, _), (8, _)] (fun (j : Nat) (at_ : Nat) (A2 : Option Addr) (c2 : Nat) (rs : List OP) => [(10, .int .i64 (j : Int)), (9, .int .i64 (at_ : Int))]) (fun (j : Nat) (at_ : Nat) (A2 : Option Addr) (c2 : Nat) (rs : List OP) => n - j) (fun (j : Nat) (at_ : Nat) (A2 : Option Addr) (c2 : Nat) (rs : List OP) (w : World) => (j ≤ n ∧ rs.length ≤ j ∧ (at_ : Int) ≤ t ∧ chkL b (t - (at_ : Int)) ((l.map OP.v).drop j) = true ∧ OkO wB rs ∧ rs.map OP.v ++ withinV ((l.map OP.v).drop j) at_ o.fr.toNat o.n.toNat = withinV (l.map OP.v) 0 o.fr.toNat o.n.toNat) ∧ St w0 noM [blk b1 30 (scA b t A n c), blk b2 30 (scA b' t' B m d), blk b3 30 #[.int .i64 0, .int .i64 0, .slice none 0 0], blk b10 30 (scA b t' A2 (qs ++ rs).length c2), row 58 4 A2 (qs ++ rs).length c2 ((qs ++ rs).flatMap opf), blk b13 58 (opf o).toArray] w) 0 0 A1 c1 [] (Sub.cons rfl (by first | rfl | exact congrArg (Value.int _) (by omega)) (Sub.cons rfl (by first | rfl | exact congrArg (Value.int _) (by omega)) (Sub.nil _))) (Sub.cons rfl rfl (Sub.cons rfl rfl (Sub.cons rfl rfl (Sub.cons rfl rfl (Sub.cons rfl rfl (Sub.cons rfl rfl (Sub.nil _))))))) ?_ ?_
              ·
                have S91 := S14.blkc 3 rfl (show _ = scA b t' A1 (qs ++ []).length c1 from by rw [List.append_nil])
                have S92 := S91.rowc 4 rfl (n' := (qs ++ []).length) (xs' := (qs ++ []).flatMap opf) (by rw [List.append_nil]) (by rw [List.append_nil])
                exact ⟨⟨Nat.zero_le _, Nat.le_refl _, by show (0 : Int) ≤ t; omega, by show chkL b (t - 0) _ = true; rw [Int.sub_zero]; exact hall, (fun o ho => (List.not_mem_nil ho).elim), rfl⟩, S92⟩
              ·
                intro j at_ A2 c2 rs w18 hrel
                obtain ⟨⟨hj, hrl, hat, hch, hors, hwv⟩, S18⟩ := hrel
                have hqr : (qs ++ rs).length = qs.length + rs.length := List.length_append
                refine T_seq fun K21 hK21 => ?_
                refine T_seq fun K22 hK22 => ?_
                refine T_region ?_
                refine L_y (y_move rfl) rfl ?_
                refine L_y (y_fieldA 2 Try.underlying30 rfl sz28 rfl rfl rfl) rfl ?_
                refine L_y (y_ldc Try.underlying28 rfl rfl (((S18.blk 0 rfl).cell _).trans (by rfl))) rfl ?_
                refine L_y (y_len Try.underlying28 rfl) rfl ?_
                refine L_y (y_lss rfl rfl) rfl ?_
                refine L_nil ?_
                refine hK22 _ _ ?_
                refine T_cond rfl (fun h59 => ?_) (fun h59 => ?_)
                ·
                  obtain ⟨p, hp⟩ : ∃ p, l[j]? = some p := ⟨_, List.getElem?_eq_getElem (by omega)⟩
                  have hpp := hok p (List.mem_of_getElem? hp)
                  have hppB := hokB p (List.mem_of_getElem? hp)
                  have hppl := hpp.lenb; have hppc := hpp.cap; have hppm := hpp.max
                  obtain ⟨hrtp, hszp, hrest⟩ := chkL_next hp hch
                  have hszq := sz_nonneg hrtp
                  refine T_skip ?_
                  refine hK21 _ _ ?_
                  refine T_seq fun K23 hK23 => ?_
                  refine T_block ?_
                  refine T_seq fun K24 hK24 => ?_
                  refine T_region ?_
                  refine L_y (y_fieldA 2 Try.underlying30 rfl sz28 rfl rfl rfl) rfl ?_
                  refine L_y (y_ldc Try.underlying28 rfl rfl (((S18.blk 0 rfl).cell _).trans (by rfl))) rfl ?_
                  refine L_y (y_move rfl) rfl ?_
                  refine L_y (y_idx Try.underlying28 sz58 rfl rfl (S18.rd hl) (Nt.mk (by omega) : Nt _ (j)) (by omega)) rfl ?_
                  refine L_y (y_ldp (f := opf) opf_len Try.underlying58 rfl sz58 rfl (S18.rd hl) (by omega) hp) rfl ?_
                  refine L_o (o_alloc zz58 S18 rfl fun b19 w19 hb19 S19 => ?_)
                  refine L_o (o_stW S19 6 rfl rfl rfl sz58 rfl (opf_one p) fun w20 S20 => ?_)
                  refine L_nil ?_
                  refine hK24 _ _ ?_
                  refine T_seq fun K25 hK25 => ?_
                  refine T_region ?_
                  refine L_y (y_ldW Try.underlying58 rfl sz58 rfl (S20.blk 6 rfl) (show _ = opf p ∧ _ from ⟨rfl, rfl⟩)) rfl ?_
                  refine L_o (o_call Try.func28 rfl rfl (rsize p w20 (Rs.like hpp S20.like0)) rfl rfl ?_)
                  rintro e21 w21 ⟨v21, rfl, l21, rfl⟩
                  refine ⟨_, rfl, ?_⟩
                  have S21 := S20.like l21
                  refine L_y (y_assign rfl) rfl ?_
                  refine L_y (y_assign rfl) rfl ?_
                  refine L_nil ?_
                  refine hK25 _ _ ?_
                  refine T_seqR (fun (e : Env) (w : World) => Sub [(2, .pointer (some ⟨b1, 0, none⟩)), (3, .pointer (some ⟨b2, 0, none⟩)), (4, .pointer (some ⟨b3, 0, none⟩)), (6, .pointer (some ⟨b10, 0, none⟩)), (7, .int .i64 (i : Int)), (8, .pointer (some ⟨b13, 0, none⟩)), (9, .int .i64 (at_ : Int)), (10, .int .i64 (j : Int)), (11, .pointer (some ⟨b19, 0, none⟩)), (12, .int .i64 (((o.fr.toNat - at_) : Nat) : Int)), (13, .int .i64 (szV p.v))] e ∧ St w0 noM [blk b1 30 (scA b t A n c), blk b2 30 (scA b' t' B m d), blk b3 30 #[.int .i64 0, .int .i64 0, .slice none 0 0], blk b10 30 (scA b t' A2 (qs ++ rs).length c2), row 58 4 A2 (qs ++ rs).length c2 ((qs ++ rs).flatMap opf), blk b13 58 (opf o).toArray, blk b19 58 (opf p).toArray] w) ?_ ?_
                  ·
                    refine T_seq fun K27 hK27 => ?_
                    refine T_region ?_
                    refine L_y (y_move rfl) rfl ?_
                    refine L_y (y_fieldA 1 Try.underlying58 rfl sz3 rfl rfl rfl) rfl ?_
                    refine L_y (y_ldc Try.underlying3 rfl rfl (((S21.blk 5 rfl).cell _).trans (by rfl))) rfl ?_
                    refine L_y (y_lss rfl rfl) rfl ?_
                    refine L_nil ?_
                    refine hK27 _ _ ?_
                    refine T_cond rfl (fun h72 => ?_) (fun h72 => ?_)
                    ·
                      refine T_region ?_
                      refine L_y (y_fieldA 1 Try.underlying58 rfl sz3 rfl rfl rfl) rfl ?_
                      refine L_y (y_ldc Try.underlying3 rfl rfl (((S21.blk 5 rfl).cell _).trans (by rfl))) rfl ?_
                      refine L_y (y_move rfl) rfl ?_
                      refine L_y (y_sub rfl rfl (i64w (by omega))) rfl ?_
                      refine L_y (y_assign rfl) rfl ?_
                      refine L_nil ?_
                      exact ⟨(Sub.cons rfl (by first | rfl | exact congrArg (Value.int _) (by omega)) (Sub.cons rfl (by first | rfl | exact congrArg (Value.int _) (by omega)) (Sub.cons rfl (by first | rfl | exact congrArg (Value.int _) (by omega)) (Sub.cons rfl (by first | rfl | exact congrArg (Value.int _) (by omega)) (Sub.cons rfl (by first | rfl | exact congrArg (Value.int _) (by omega)) (Sub.cons rfl (by first | rfl | exact congrArg (Value.int _) (by omega)) (Sub.cons rfl (by first | rfl | exact congrArg (Value.int _) (by omega)) (Sub.cons rfl (by first | rfl | exact congrArg (Value.int _) (by omega)) (Sub.cons rfl (by first | rfl | exact congrArg (Value.int _) (by omega)) (Sub.cons rfl (congrArg (Value.int _) (by omega)) (Sub.cons rfl (by first | rfl | exact congrArg (Value.int _) (by omega)) (Sub.nil _)))))))))))), S21⟩
                    ·
                      refine T_skip ?_
                      exact ⟨(Sub.cons rfl (by first | rfl | exact congrArg (Value.int _) (by omega)) (Sub.cons rfl (by first | rfl | exact congrArg (Value.int _) (by omega)) (Sub.cons rfl (by first | rfl | exact congrArg (Value.int _) (by omega)) (Sub.cons rfl (by first | rfl | exact congrArg (Value.int _) (by omega)) (Sub.cons rfl (by first | rfl | exact congrArg (Value.int _) (by omega)) (Sub.cons rfl (by first | rfl | exact congrArg (Value.int _) (by omega)) (Sub.cons rfl (by first | rfl | exact congrArg (Value.int _) (by omega)) (Sub.cons rfl (by first | rfl | exact congrArg (Value.int _) (by omega)) (Sub.cons rfl (by first | rfl | exact congrArg (Value.int _) (by omega)) (Sub.cons rfl (congrArg (Value.int _) (by omega)) (Sub.cons rfl (by first | rfl | exact congrArg (Value.int _) (by omega)) (Sub.nil _)))))))))))), S21⟩
                  ·
                    rintro e22 w22 ⟨hsub, S22⟩
                    refine T_weak hsub ?_
                    refine T_seqR (fun (e : Env) (w : World) => Sub [(2, .pointer (some ⟨b1, 0, none⟩)), (3, .pointer (some ⟨b2, 0, none⟩)), (4, .pointer (some ⟨b3, 0, none⟩)), (6, .pointer (some ⟨b10, 0, none⟩)), (7, .int .i64 (i : Int)), (8, .pointer (some ⟨b13, 0, none⟩)), (9, .int .i64 (at_ : Int)), (10, .int .i64 (j : Int)), (11, .pointer (some ⟨b19, 0, none⟩)), (12, .int .i64 (((o.fr.toNat - at_) : Nat) : Int)), (13, .int .i64 (min (o.fr + o.n) ((at_ : Int) + szV p.v) - (at_ : Int)))] e ∧ St w0 noM [blk b1 30 (scA b t A n c), blk b2 30 (scA b' t' B m d), blk b3 30 #[.int .i64 0, .int .i64 0, .slice none 0 0], blk b10 30 (scA b t' A2 (qs ++ rs).length c2), row 58 4 A2 (qs ++ rs).length c2 ((qs ++ rs).flatMap opf), blk b13 58 (opf o).toArray, blk b19 58 (opf p).toArray] w) ?_ ?_
                    ·
                      refine T_seq fun K29 hK29 => ?_
                      refine T_region ?_
                      refine L_y (y_move rfl) rfl ?_
                      refine L_y (y_move rfl) rfl ?_
                      refine L_y (y_add rfl rfl (i64w (by omega))) rfl ?_
                      refine L_y (y_fieldA 1 Try.underlying58 rfl sz3 rfl rfl rfl) rfl ?_
                      refine L_y (y_ldc Try.underlying3 rfl rfl (((S22.blk 5 rfl).cell _).trans (by rfl))) rfl ?_
                      refine L_y (y_fieldA 2 Try.underlying58 rfl sz3 rfl rfl rfl) rfl ?_
                      refine L_y (y_ldc Try.underlying3 rfl rfl (((S22.blk 5 rfl).cell _).trans (by rfl))) rfl ?_
                      refine L_y (y_add rfl rfl (i64w (by omega))) rfl ?_
                      refine L_y (y_gtr rfl rfl) rfl ?_
                      refine L_nil ?_
                      refine hK29 _ _ ?_
                      refine T_cond rfl (fun h85 => ?_) (fun h85 => ?_)
                      ·
                        refine T_region ?_
                        refine L_y (y_fieldA 1 Try.underlying58 rfl sz3 rfl rfl rfl) rfl ?_
                        refine L_y (y_ldc Try.underlying3 rfl rfl (((S22.blk 5 rfl).cell _).trans (by rfl))) rfl ?_
                        refine L_y (y_fieldA 2 Try.underlying58 rfl sz3 rfl rfl rfl) rfl ?_
                        refine L_y (y_ldc Try.underlying3 rfl rfl (((S22.blk 5 rfl).cell _).trans (by rfl))) rfl ?_
                        refine L_y (y_add rfl rfl (i64w (by omega))) rfl ?_
                        refine L_y (y_move rfl) rfl ?_
                        refine L_y (y_sub rfl rfl (i64w (by omega))) rfl ?_
                        refine L_y (y_assign rfl) rfl ?_
                        refine L_nil ?_
                        exact ⟨(Sub.cons rfl (by first | rfl | exact congrArg (Value.int _) (by omega)) (Sub.cons rfl (by first | rfl | exact congrArg (Value.int _) (by omega)) (Sub.cons rfl (by first | rfl | exact congrArg (Value.int _) (by omega)) (Sub.cons rfl (by first | rfl | exact congrArg (Value.int _) (by omega)) (Sub.cons rfl (by first | rfl | exact congrArg (Value.int _) (by omega)) (Sub.cons rfl (by first | rfl | exact congrArg (Value.int _) (by omega)) (Sub.cons rfl (by first | rfl | exact congrArg (Value.int _) (by omega)) (Sub.cons rfl (by first | rfl | exact congrArg (Value.int _) (by omega)) (Sub.cons rfl (by first | rfl | exact congrArg (Value.int _) (by omega)) (Sub.cons rfl (by first | rfl | exact congrArg (Value.int _) (by omega)) (Sub.cons rfl (congrArg (Value.int _) (by omega)) (Sub.nil _)))))))))))), S22⟩
                      ·
                        refine T_skip ?_
                        exact ⟨(Sub.cons rfl (by first | rfl | exact congrArg (Value.int _) (by omega)) (Sub.cons rfl (by first | rfl | exact congrArg (Value.int _) (by omega)) (Sub.cons rfl (by first | rfl | exact congrArg (Value.int _) (by omega)) (Sub.cons rfl (by first | rfl | exact congrArg (Value.int _) (by omega)) (Sub.cons rfl (by first | rfl | exact congrArg (Value.int _) (by omega)) (Sub.cons rfl (by first | rfl | exact congrArg (Value.int _) (by omega)) (Sub.cons rfl (by first | rfl | exact congrArg (Value.int _) (by omega)) (Sub.cons rfl (by first | rfl | exact congrArg (Value.int _) (by omega)) (Sub.cons rfl (by first | rfl | exact congrArg (Value.int _) (by omega)) (Sub.cons rfl (by first | rfl | exact congrArg (Value.int _) (by omega)) (Sub.cons rfl (congrArg (Value.int _) (by omega)) (Sub.nil _)))))))))))), S22⟩
                    ·
                      rintro e23 w23 ⟨hsub, S23⟩
                      refine T_weak hsub ?_
                      refine T_seq fun K30 hK30 => ?_
                      refine T_seq fun K31 hK31 => ?_
                      refine T_region ?_
                      refine L_y (y_move rfl) rfl ?_
                      refine L_y (y_move rfl) rfl ?_
                      refine L_y (y_lss rfl rfl) rfl ?_
                      refine L_y (y_move rfl) rfl ?_
                      refine L_split 96 rfl (fun h96 => ?_) (fun h96 => ?_)
                      ·
                        refine L_gyes rfl rfl ?_
                        refine L_y (y_fieldA 0 Try.underlying58 rfl sz4 rfl rfl rfl) rfl ?_
                        refine L_gyes rfl rfl ?_
                        refine L_y (y_ldc Try.underlying4 rfl rfl (((S23.blk 6 rfl).cell _).trans (by rfl))) rfl ?_
                        refine L_y ((by first | exact y_pickT rfl rfl | exact y_pickF rfl rfl)) rfl ?_
                        refine L_nil ?_
                        refine hK31 _ _ ?_
                        refine T_condB rfl (fun h99 => ?_) (fun h99 => ?_)
                        ·
                          have hpc : p.cp = true := h99
                          obtain ⟨e1, e2, e3, e4, e5⟩ := rt_cp hrtp hpc
                          refine T_region ?_
                          refine L_y (y_fieldA 2 Try.underlying30 rfl sz28 rfl rfl rfl) rfl ?_
                          refine L_y (y_ldc Try.underlying28 rfl rfl (((S23.blk 3 rfl).cell _).trans (by rfl))) rfl ?_
                          refine L_y (y_fieldA 1 Try.underlying58 rfl sz3 rfl rfl rfl) rfl ?_
                          refine L_y (y_ldc Try.underlying3 rfl rfl (((S23.blk 6 rfl).cell _).trans (by rfl))) rfl ?_
                          refine L_y (y_move rfl) rfl ?_
                          refine L_y (y_add rfl rfl (i64w (by omega))) rfl ?_
                          refine L_y (y_move rfl) rfl ?_
                          refine L_y (y_move rfl) rfl ?_
                          refine L_y (y_sub rfl rfl (i64w (by omega))) rfl ?_
                          refine L_y (y_build rfl (show _ = some #[Value.bool true, Value.int .i64 (p.fr + (((o.fr.toNat - at_) : Nat) : Int)), Value.int .i64 (min (o.fr + o.n) ((at_ : Int) + szV p.v) - (at_ : Int) - (((o.fr.toNat - at_) : Nat) : Int)), Value.slice none 0 0] by kernel_rfl)) rfl ?_
                          refine L_o (o_bsl [_, _, _, _] te28 zz58 S23 rfl rfl rfl rfl rfl rfl rfl rfl fun b25 w25 S25 => ?_)
                          refine L_o (o_app te28 S25 4 rfl rfl rfl (by first | exact S25.row 4 rfl | exact S25.row 7 rfl) (fun u hu => opf_one ⟨true, _, _, p0⟩ u hu) rfl (by omega) (by omega) fun A26 c26 w26 S26 => ?_)
                          have S26d := S26.drop (rs' := [_, _, _, _, _, _, _]) (.cons_cons _ (.cons_cons _ (.cons_cons _ (.cons_cons _ (.cons_cons _ (.cons_cons _ (.cons_cons _ (.cons _ (.refl _)))))))))
                          refine L_y (y_fieldA 2 Try.underlying30 rfl sz28 rfl rfl rfl) rfl ?_
                          refine L_o (o_st1 S26d 3 rfl rfl rfl rfl sz28 (by show 2 < 3; decide) fun w27 S27 => ?_)
                          refine L_nil ?_
                          refine hK30 _ _ ?_
                          refine T_seq fun K32 hK32 => ?_
                          refine T_seq fun K33 hK33 => ?_
                          refine T_region ?_
                          refine L_y (y_move rfl) rfl ?_
                          refine L_y (y_move rfl) rfl ?_
                          refine L_y (y_lss rfl rfl) rfl ?_
                          refine L_y (y_move rfl) rfl ?_
                          refine L_split 116 rfl (fun h116 => ?_) (fun h116 => ?_)
                          ·
                            refine L_gyes rfl rfl ?_
                            refine L_y (y_fieldA 0 Try.underlying58 rfl sz4 rfl rfl rfl) rfl ?_
                            refine L_gyes rfl rfl ?_
                            refine L_y (y_ldc Try.underlying4 rfl rfl (((S27.blk 6 rfl).cell _).trans (by rfl))) rfl ?_
                            refine L_gyes rfl rfl ?_
                            refine L_y ((by first | exact y_notD rfl | exact y_not rfl)) rfl ?_
                            refine L_y ((by first | exact y_pickT rfl rfl | exact y_pickF rfl rfl)) rfl ?_
                            refine L_nil ?_
                            refine hK33 _ _ ?_
                            refine T_condB rfl (fun h120 => ?_) (fun h120 => ?_)
                            ·
                              (exfalso; rw [hpc] at h120; cases h120)
                            ·
                              refine T_skip ?_
                              refine hK32 _ _ ?_
                              refine T_region ?_
                              refine L_y (y_move rfl) rfl ?_
                              refine L_y (y_ldW Try.underlying58 rfl sz58 rfl (S27.blk 6 rfl) (show _ = opf p ∧ _ from ⟨rfl, rfl⟩)) rfl ?_
                              refine L_o (o_call Try.func28 rfl rfl (rsize p w27 (Rs.like hpp S27.like0)) rfl rfl ?_)
                              rintro e29 w29 ⟨v29, rfl, l29, rfl⟩
                              refine ⟨_, rfl, ?_⟩
                              have S29 := S27.like l29
                              refine L_y (y_add rfl rfl (i64w (by omega))) rfl ?_
                              refine L_y (y_assign rfl) rfl ?_
                              refine L_nil ?_
                              refine hK23 _ _ ?_
                              refine T_region ?_
                              refine L_y (y_move rfl) rfl ?_
                              refine L_y (y_add rfl rfl (i64w (by omega))) rfl ?_
                              refine L_y (y_assign rfl) rfl ?_
                              refine L_nil ?_
                              have hqv2 : (⟨true, p.fr + (((o.fr.toNat - at_) : Nat) : Int), min (o.fr + o.n) ((at_ : Int) + szV p.v) - (at_ : Int) - (((o.fr.toNat - at_) : Nat) : Int), p0⟩ : OP).v = partV p.v (max o.fr.toNat at_ - at_) (min (o.fr.toNat + o.n.toNat) (at_ + (szV p.v).toNat) - max o.fr.toNat at_) := by rw [partV_cp hpc, show ((max o.fr.toNat at_ - at_ : Nat) : Int) = (((o.fr.toNat - at_) : Nat) : Int) from by omega, show ((min (o.fr.toNat + o.n.toNat) (at_ + (szV p.v).toNat) - max o.fr.toNat at_ : Nat) : Int) = min (o.fr + o.n) ((at_ : Int) + szV p.v) - (at_ : Int) - (((o.fr.toNat - at_) : Nat) : Int) from by omega]; rfl
                              have S91 := S29.blkc 3 rfl ((scA_set b t' A2 (qs ++ rs).length c2 A26 ((qs ++ rs).length + 1) c26).trans (show _ = scA b t' A26 (qs ++ (rs ++ [(⟨true, p.fr + (((o.fr.toNat - at_) : Nat) : Int), min (o.fr + o.n) ((at_ : Int) + szV p.v) - (at_ : Int) - (((o.fr.toNat - at_) : Nat) : Int), p0⟩ : OP)])).length c26 from by simp [Nat.add_assoc]))
                              have S92 := S91.rowc 4 rfl (n' := (qs ++ (rs ++ [(⟨true, p.fr + (((o.fr.toNat - at_) : Nat) : Int), min (o.fr + o.n) ((at_ : Int) + szV p.v) - (at_ : Int) - (((o.fr.toNat - at_) : Nat) : Int), p0⟩ : OP)])).length) (xs' := (qs ++ (rs ++ [(⟨true, p.fr + (((o.fr.toNat - at_) : Nat) : Int), min (o.fr + o.n) ((at_ : Int) + szV p.v) - (at_ : Int) - (((o.fr.toNat - at_) : Nat) : Int), p0⟩ : OP)])).flatMap opf) (by simp [Nat.add_assoc]) (by rw [← List.append_assoc, List.flatMap_append (xs := qs ++ rs)]; rfl)
                              have S93 := S92.sel [0, 1, 2, 3, 4, 5] (by decide)
                              refine ⟨j + 1, at_ + (szV p.v).toNat, A26, c26, rs ++ [(⟨true, p.fr + (((o.fr.toNat - at_) : Nat) : Int), min (o.fr + o.n) ((at_ : Int) + szV p.v) - (at_ : Int) - (((o.fr.toNat - at_) : Nat) : Int), p0⟩ : OP)], by omega, ⟨⟨by omega, by rw [List.length_append, List.length_singleton]; omega, by omega, by rw [show t - ((at_ + (szV p.v).toNat : Nat) : Int) = t - (at_ : Int) - szV p.v by omega]; exact hrest, okO_snoc hors (Rs.nil _ 1), by rw [← hwv, within_yes hp (by omega), List.map_append, ← hqv2]; simp⟩, S93⟩, ?_⟩
                              exact (Sub.cons rfl (by first | rfl | exact congrArg (Value.int _) (by omega)) (Sub.cons rfl (by first | rfl | exact congrArg (Value.int _) (by omega)) (Sub.cons rfl rfl (Sub.cons rfl rfl (Sub.cons rfl rfl (Sub.cons rfl rfl (Sub.cons rfl rfl (Sub.cons rfl rfl (Sub.nil _)))))))))
                          ·
                            omega
                        ·
                          have hpc : p.cp = false := h99
                          obtain ⟨e1, e2⟩ := rt_new hrtp hpc
                          refine T_skip ?_
                          refine hK30 _ _ ?_
                          refine T_seq fun K34 hK34 => ?_
                          refine T_seq fun K35 hK35 => ?_
                          refine T_region ?_
                          refine L_y (y_move rfl) rfl ?_
                          refine L_y (y_move rfl) rfl ?_
                          refine L_y (y_lss rfl rfl) rfl ?_
                          refine L_y (y_move rfl) rfl ?_
                          refine L_split 116 rfl (fun h116 => ?_) (fun h116 => ?_)
                          ·
                            refine L_gyes rfl rfl ?_
                            refine L_y (y_fieldA 0 Try.underlying58 rfl sz4 rfl rfl rfl) rfl ?_
                            refine L_gyes rfl rfl ?_
                            refine L_y (y_ldc Try.underlying4 rfl rfl (((S23.blk 6 rfl).cell _).trans (by rfl))) rfl ?_
                            refine L_gyes rfl rfl ?_
                            refine L_y ((by first | exact y_notD rfl | exact y_not rfl)) rfl ?_
                            refine L_y ((by first | exact y_pickT rfl rfl | exact y_pickF rfl rfl)) rfl ?_
                            refine L_nil ?_
                            refine hK35 _ _ ?_
                            refine T_condB rfl (fun h120 => ?_) (fun h120 => ?_)
                            ·
                              refine T_zed [0, 1, 2, 3, 4, 5, 6, 7, 8] 9 [(0, 1), (1, 1), (2, 1), (3, 1), (4, 1), (5, 1), (6, 1), (7, 1), (8, 2), (9, 3), (10, 3), (11, 3)] hmix (by kernel_rfl) fun w31 l31 => ?_
                              have S31 := S23.like l31
                              refine ZA_B (Like w31) (Like.refl _) ?_
                              refine ZB_y rfl (y_fieldA 2 Try.underlying30 rfl sz28 rfl rfl rfl) rfl ?_
                              refine ZB_y rfl (y_ldc Try.underlying28 rfl rfl (((S31.blk 3 rfl).cell _).trans (by rfl))) rfl ?_
                              refine ZB_y rfl (y_fieldA 3 Try.underlying58 rfl sz22 rfl rfl rfl) rfl ?_
                              refine ZB_y rfl (y_ldc Try.underlying22 rfl rfl (((S31.blk 6 rfl).cell _).trans (by rfl))) rfl ?_
                              refine ZB_y rfl (y_move rfl) rfl ?_
                              refine ZB_y rfl (y_move rfl) rfl ?_
                              refine ZB_y rfl (y_slice Try.underlying22 sz5 rfl rfl rfl (Nt.mk (by omega) : Nt _ ((o.fr.toNat - at_))) (Nt.mk (by omega) : Nt _ ((min (o.fr.toNat + o.n.toNat) (at_ + (szV p.v).toNat) - at_))) (by omega) (by omega)) rfl ?_
                              refine ZB_y rfl (y_build rfl (show _ = some #[Value.bool false, Value.int .i64 0, Value.int .i64 0, Value.slice (cutA p.p.A p.p.c (o.fr.toNat - at_) 1) ((min (o.fr.toNat + o.n.toNat) (at_ + (szV p.v).toNat) - at_) - (o.fr.toNat - at_)) (p.p.c - (o.fr.toNat - at_))] by kernel_rfl)) rfl ?_
                              refine ZB_o rfl (o_bslL [_, _, _, _] te28 zz58 S31 rfl rfl rfl rfl rfl rfl rfl rfl fun b32 w32 l32 S32 => ?_)
                              have q32 := l32
                              refine ⟨q32, ?_⟩
                              refine ZB_c rfl (o_app te28 S32 4 rfl rfl rfl (by first | exact S32.row 4 rfl | exact S32.row 7 rfl) (fun u hu => opf_one ⟨false, 0, 0, ⟨cutA p.p.A p.p.c (o.fr.toNat - at_) 1, (min (o.fr.toNat + o.n.toNat) (at_ + (szV p.v).toNat) - at_) - (o.fr.toNat - at_), p.p.c - (o.fr.toNat - at_), []⟩⟩ u hu) rfl (by omega) (by omega) fun A33 c33 w33 S33 => ?_)
                              have S33d := S33.drop (rs' := [_, _, _, _, _, _, _]) (.cons_cons _ (.cons_cons _ (.cons_cons _ (.cons_cons _ (.cons_cons _ (.cons_cons _ (.cons_cons _ (.cons _ (.refl _)))))))))
                              refine ZA_oy rfl (y_fieldA 2 Try.underlying30 rfl sz28 rfl rfl rfl) rfl ?_
                              refine ZA_o rfl (o_st1 S33d 3 rfl rfl rfl rfl sz28 (by show 2 < 3; decide) fun w34 S34 => ?_)
                              refine ZA_nil ?_
                              refine hK34 _ _ ?_
                              refine T_region ?_
                              refine L_y (y_move rfl) rfl ?_
                              refine L_y (y_ldW Try.underlying58 rfl sz58 rfl (S34.blk 6 rfl) (show _ = opf p ∧ _ from ⟨rfl, rfl⟩)) rfl ?_
                              refine L_o (o_call Try.func28 rfl rfl (rsize p w34 (Rs.like hpp S34.like0)) rfl rfl ?_)
                              rintro e35 w35 ⟨v35, rfl, l35, rfl⟩
                              refine ⟨_, rfl, ?_⟩
                              have S35 := S34.like l35
                              refine L_y (y_add rfl rfl (i64w (by omega))) rfl ?_
                              refine L_y (y_assign rfl) rfl ?_
                              refine L_nil ?_
                              refine hK23 _ _ ?_
                              refine T_region ?_
                              refine L_y (y_move rfl) rfl ?_
                              refine L_y (y_add rfl rfl (i64w (by omega))) rfl ?_
                              refine L_y (y_assign rfl) rfl ?_
                              refine L_nil ?_
                              have hqv2 : (⟨false, 0, 0, ⟨cutA p.p.A p.p.c (o.fr.toNat - at_) 1, (min (o.fr.toNat + o.n.toNat) (at_ + (szV p.v).toNat) - at_) - (o.fr.toNat - at_), p.p.c - (o.fr.toNat - at_), (p.p.l.drop (o.fr.toNat - at_)).take ((min (o.fr.toNat + o.n.toNat) (at_ + (szV p.v).toNat) - at_) - (o.fr.toNat - at_))⟩⟩ : OP).v = partV p.v (max o.fr.toNat at_ - at_) (min (o.fr.toNat + o.n.toNat) (at_ + (szV p.v).toNat) - max o.fr.toNat at_) := by rw [partV_new hpc, show max o.fr.toNat at_ - at_ = (o.fr.toNat - at_) by omega, show min (o.fr.toNat + o.n.toNat) (at_ + (szV p.v).toNat) - max o.fr.toNat at_ = (min (o.fr.toNat + o.n.toNat) (at_ + (szV p.v).toNat) - at_) - (o.fr.toNat - at_) by omega]; rfl
                              have S91 := S35.blkc 3 rfl ((scA_set b t' A2 (qs ++ rs).length c2 A33 ((qs ++ rs).length + 1) c33).trans (show _ = scA b t' A33 (qs ++ (rs ++ [(⟨false, 0, 0, ⟨cutA p.p.A p.p.c (o.fr.toNat - at_) 1, (min (o.fr.toNat + o.n.toNat) (at_ + (szV p.v).toNat) - at_) - (o.fr.toNat - at_), p.p.c - (o.fr.toNat - at_), (p.p.l.drop (o.fr.toNat - at_)).take ((min (o.fr.toNat + o.n.toNat) (at_ + (szV p.v).toNat) - at_) - (o.fr.toNat - at_))⟩⟩ : OP)])).length c33 from by simp [Nat.add_assoc]))
                              have S92 := S91.rowc 4 rfl (n' := (qs ++ (rs ++ [(⟨false, 0, 0, ⟨cutA p.p.A p.p.c (o.fr.toNat - at_) 1, (min (o.fr.toNat + o.n.toNat) (at_ + (szV p.v).toNat) - at_) - (o.fr.toNat - at_), p.p.c - (o.fr.toNat - at_), (p.p.l.drop (o.fr.toNat - at_)).take ((min (o.fr.toNat + o.n.toNat) (at_ + (szV p.v).toNat) - at_) - (o.fr.toNat - at_))⟩⟩ : OP)])).length) (xs' := (qs ++ (rs ++ [(⟨false, 0, 0, ⟨cutA p.p.A p.p.c (o.fr.toNat - at_) 1, (min (o.fr.toNat + o.n.toNat) (at_ + (szV p.v).toNat) - at_) - (o.fr.toNat - at_), p.p.c - (o.fr.toNat - at_), (p.p.l.drop (o.fr.toNat - at_)).take ((min (o.fr.toNat + o.n.toNat) (at_ + (szV p.v).toNat) - at_) - (o.fr.toNat - at_))⟩⟩ : OP)])).flatMap opf) (by simp [Nat.add_assoc]) (by rw [← List.append_assoc, List.flatMap_append (xs := qs ++ rs)]; rfl)
                              have S93 := S92.sel [0, 1, 2, 3, 4, 5] (by decide)
                              refine ⟨j + 1, at_ + (szV p.v).toNat, A33, c33, rs ++ [(⟨false, 0, 0, ⟨cutA p.p.A p.p.c (o.fr.toNat - at_) 1, (min (o.fr.toNat + o.n.toNat) (at_ + (szV p.v).toNat) - at_) - (o.fr.toNat - at_), p.p.c - (o.fr.toNat - at_), (p.p.l.drop (o.fr.toNat - at_)).take ((min (o.fr.toNat + o.n.toNat) (at_ + (szV p.v).toNat) - at_) - (o.fr.toNat - at_))⟩⟩ : OP)], by omega, ⟨⟨by omega, by rw [List.length_append, List.length_singleton]; omega, by omega, by rw [show t - ((at_ + (szV p.v).toNat : Nat) : Int) = t - (at_ : Int) - szV p.v by omega]; exact hrest, okO_snoc hors (cut_mid hppB (by omega) (by omega)), by rw [← hwv, within_yes hp (by omega), List.map_append, ← hqv2]; simp⟩, S93⟩, ?_⟩
                              exact (Sub.cons rfl (by first | rfl | exact congrArg (Value.int _) (by omega)) (Sub.cons rfl (by first | rfl | exact congrArg (Value.int _) (by omega)) (Sub.cons rfl rfl (Sub.cons rfl rfl (Sub.cons rfl rfl (Sub.cons rfl rfl (Sub.cons rfl rfl (Sub.cons rfl rfl (Sub.nil _)))))))))
                            ·
                              (exfalso; rw [hpc] at h120; cases h120)
                          ·
                            omega
                      ·
                        refine L_gno rfl rfl rfl ?_
                        refine L_gno rfl rfl rfl ?_
                        refine L_y ((by first | exact y_pickT rfl rfl | exact y_pickF rfl rfl)) rfl ?_
                        refine L_nil ?_
                        refine hK31 _ _ ?_
                        refine T_false rfl ?_
                        refine T_skip ?_
                        refine hK30 _ _ ?_
                        refine T_seq fun K36 hK36 => ?_
                        refine T_seq fun K37 hK37 => ?_
                        refine T_region ?_
                        refine L_y (y_move rfl) rfl ?_
                        refine L_y (y_move rfl) rfl ?_
                        refine L_y (y_lss rfl rfl) rfl ?_
                        refine L_y (y_move rfl) rfl ?_
                        refine L_split 116 rfl (fun h116 => ?_) (fun h116 => ?_)
                        ·
                          omega
                        ·
                          refine L_gno rfl rfl rfl ?_
                          refine L_gno rfl rfl rfl ?_
                          refine L_gno rfl rfl rfl ?_
                          refine L_y ((by first | exact y_pickT rfl rfl | exact y_pickF rfl rfl)) rfl ?_
                          refine L_nil ?_
                          refine hK37 _ _ ?_
                          refine T_false rfl ?_
                          refine T_skip ?_
                          refine hK36 _ _ ?_
                          refine T_region ?_
                          refine L_y (y_move rfl) rfl ?_
                          refine L_y (y_ldW Try.underlying58 rfl sz58 rfl (S23.blk 6 rfl) (show _ = opf p ∧ _ from ⟨rfl, rfl⟩)) rfl ?_
                          refine L_o (o_call Try.func28 rfl rfl (rsize p w23 (Rs.like hpp S23.like0)) rfl rfl ?_)
                          rintro e37 w37 ⟨v37, rfl, l37, rfl⟩
                          refine ⟨_, rfl, ?_⟩
                          have S37 := S23.like l37
                          refine L_y (y_add rfl rfl (i64w (by omega))) rfl ?_
                          refine L_y (y_assign rfl) rfl ?_
                          refine L_nil ?_
                          refine hK23 _ _ ?_
                          refine T_region ?_
                          refine L_y (y_move rfl) rfl ?_
                          refine L_y (y_add rfl rfl (i64w (by omega))) rfl ?_
                          refine L_y (y_assign rfl) rfl ?_
                          refine L_nil ?_
                          have S93 := S37.sel [0, 1, 2, 3, 4, 5] (by decide)
                          refine ⟨j + 1, at_ + (szV p.v).toNat, A2, c2, rs, by omega, ⟨⟨by omega, by omega, by omega, by rw [show t - ((at_ + (szV p.v).toNat : Nat) : Int) = t - (at_ : Int) - szV p.v by omega]; exact hrest, hors, by rw [← hwv, within_no hp (by omega)]⟩, S93⟩, ?_⟩
                          exact (Sub.cons rfl (by first | rfl | exact congrArg (Value.int _) (by omega)) (Sub.cons rfl (by first | rfl | exact congrArg (Value.int _) (by omega)) (Sub.cons rfl rfl (Sub.cons rfl rfl (Sub.cons rfl rfl (Sub.cons rfl rfl (Sub.cons rfl rfl (Sub.cons rfl rfl (Sub.nil _)))))))))
                ·
                  refine T_exit ?_
                  refine hK14 _ _ ?_
                  refine T_region ?_
                  refine L_y (y_move rfl) rfl ?_
                  refine L_y (y_add rfl rfl (i64w (by omega))) rfl ?_
                  refine L_y (y_assign rfl) rfl ?_
                  refine L_nil ?_
                  have hje : j = n := by omega
                  rw [within_end (by omega), List.append_nil] at hwv
                  have S93 := S18.sel [0, 1, 2, 3, 4] (by decide)
                  refine ⟨i + 1, A2, c2, qs ++ rs, by omega, ⟨⟨by omega, by rw [List.length_append]; omega, okO_app hoq hors, by rw [thenV_step ho, if_pos hcp, List.map_append, hqv, hwv]⟩, S93⟩, ?_⟩
                  exact (Sub.cons rfl (by first | rfl | exact congrArg (Value.int _) (by omega)) (Sub.cons rfl rfl (Sub.cons rfl rfl (Sub.cons rfl rfl (Sub.cons rfl rfl (Sub.nil _))))))
          ·
            refine T_exit ?_
            refine hK10 _ _ ?_
            refine T_seq fun K38 hK38 => ?_
            refine T_region ?_
            refine L_y (y_ldW Try.underlying30 rfl sz30 rfl (S12.blk 3 rfl) (show _ = (scA b t' A1 qs.length c1).toList ∧ _ from ⟨rfl, rfl⟩)) rfl ?_
            refine L_o (o_stW S12 2 rfl rfl rfl sz30 rfl (scA_one _ _ _ _ _) fun w38 S38 => ?_)
            refine L_y (y_assign rfl) rfl ?_
            refine L_nil ?_
            refine hK38 _ _ ?_
            refine T_ret ?_
            repeat (first | with_reducible refine up_then ?_ | with_reducible refine up_in ?_)
            refine retct rfl rfl rfl (S38.blk 2 rfl) Try.underlying30 rfl (by exact sz30) ?_
            first | exact ⟨_, rfl, S38.like0, none, 0, [], by rw [then_e1 h17, errV_two h17]; rfl, World.ownsRow_nil _ _ _ _, (fun o ho => (List.not_mem_nil ho).elim), by rw [then_e1 h17, errV_two h17]; rfl⟩ | exact ⟨_, rfl, S38.like0, none, 0, [], by rw [then_e2 (Decidable.byContradiction h17) h21, errV_two h21]; rfl, World.ownsRow_nil _ _ _ _, (fun o ho => (List.not_mem_nil ho).elim), by rw [then_e2 (Decidable.byContradiction h17) h21, errV_two h21]; rfl⟩ | exact ⟨_, rfl, S38.like0, none, 0, [], by rw [then_e3 h140 h200 h27]; rfl, World.ownsRow_nil _ _ _ _, (fun o ho => (List.not_mem_nil ho).elim), by rw [then_e3 h140 h200 h27]; rfl⟩ | (have hie : i = m := by omega); subst hie; rw [List.take_of_length_le (by omega)] at hqv; exact ⟨_, rfl, S38.like0, A1, c1, qs, by rw [then_ok h140 h200 (by omega)], S38.own 4 rfl, hoq, by rw [then_ok h140 h200 (by omega)]; exact hqv⟩
end Go.Proofs.Ytpcgldkllnkaeaa
