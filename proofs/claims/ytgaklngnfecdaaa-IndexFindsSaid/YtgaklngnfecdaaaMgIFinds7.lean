import Derived.Test.YtgaklngnfecdaaaMgIFinds6
import Derived.Test.YtgaklngnfecdaaaMgIFinds3
import Derived.Test.YtgaklngnfecdaaaMgIFinds2
import Derived.Laws.Small
import Derived.Test.YtgaklngnfecdaaaMgIFinds4

/-
  Places sorted by the document.
-/
namespace Go.Proofs.Ytgaklngnfecdaaa.Idx
open Go.RowKit Zk Zx
open Oid (idf idf_len cmpL)
set_option linter.unusedVariables false
set_option linter.unusedSimpArgs false

/-- Where a row goes among those of out up to k. -/
def posR (out : List Row) (x : Row) : Nat → Nat
  | 0 => 0
  | k + 1 => if Oid.lt x.id (out.getD k zR).id then posR out x k else k + 1
def insR (out : List Row) (x : Row) : List Row := out.take (posR out x out.length) ++ [x] ++ out.drop (posR out x out.length)
def sortR (l : List Row) : List Row := l.foldl insR []
theorem posR_le (out : List Row) (x : Row) : ∀ k, posR out x k ≤ k
  | 0 => Nat.le_refl _
  | k + 1 => by
    unfold posR
    split
    · have := posR_le out x k; omega
    · exact Nat.le_refl _
theorem insR_len (out : List Row) (x : Row) : (insR out x).length = out.length + 1 := by
  have := posR_le out x out.length
  simp [insR]
  omega
theorem insR_perm (out : List Row) (x : Row) : (insR out x).Perm (x :: out) := by
  unfold insR
  rw [List.append_assoc, List.singleton_append]
  exact List.perm_middle.trans (by rw [List.take_append_drop])
theorem sortR_step {l : List Row} {k : Nat} {x : Row} (hx : l[k]? = some x) : sortR (l.take (k + 1)) = insR (sortR (l.take k)) x := by
  unfold sortR
  rw [take1L hx, List.foldl_append]
  rfl
theorem foldR_perm : ∀ (l out : List Row), (l.foldl insR out).Perm (out ++ l)
  | [], out => by simp
  | x :: l, out => by
    rw [List.foldl_cons]
    refine (foldR_perm l _).trans ?_
    refine ((insR_perm out x).append_right l).trans ?_
    exact List.perm_middle.symm
theorem sortR_perm (l : List Row) : (sortR l).Perm l := by have := foldR_perm l []; simpa [sortR] using this
theorem sortR_len (l : List Row) : (sortR l).length = l.length := (sortR_perm l).length_eq
theorem posR_gt (out : List Row) (x : Row) : ∀ k i, posR out x k ≤ i → i < k → Oid.lt x.id (out.getD i zR).id = true
  | 0, i, _, h => by omega
  | k + 1, i, h, h2 => by
    unfold posR at h
    split at h
    · rename_i hc
      by_cases e : i = k
      · subst e; exact hc
      · exact posR_gt out x k i h (by omega)
    · omega
theorem posR_at (out : List Row) (x : Row) : ∀ k p, posR out x k = p + 1 → Oid.lt x.id (out.getD p zR).id = false
  | 0, p, h => by simp [posR] at h
  | k + 1, p, h => by
    unfold posR at h
    split at h
    · exact posR_at out x k p h
    · rename_i hc
      have e : p = k := by omega
      subst e
      simpa using hc
theorem lt_asym {a b : Oid.Id} (h : Oid.lt a b = true) : Oid.lt b a = false := by
  cases e : Oid.lt b a with
  | false => rfl
  | true => have := Oid.lt_trans _ _ _ h e; rw [Oid.lt_irr] at this; cases this
theorem le_trans_lt {a b c : Oid.Id} (h1 : Oid.lt b a = false) (h2 : Oid.lt c b = false) : Oid.lt c a = false := by
  cases e : Oid.lt c a with
  | false => rfl
  | true =>
    exfalso
    by_cases q : b = a
    · subst q; rw [h2] at e; cases e
    · have h3 := Oid.lt_total _ _ h1 q
      have h4 := Oid.lt_trans _ _ _ e h3
      rw [h2] at h4
      cases h4
def WkP (l : List Row) : Prop := l.Pairwise fun x y => Oid.lt y.id x.id = false
theorem WkP.wk {l : List Row} (h : WkP l) : WkR l := by
  unfold WkP at h
  rw [List.pairwise_iff_getElem] at h
  exact fun i j hi hj hij => h i j hi hj hij
theorem insR_wk {out : List Row} {x : Row} (h : WkP out) : WkP (insR out x) := by
  have hp := posR_le out x out.length
  have hg := posR_gt out x out.length
  have ha := posR_at out x out.length
  unfold insR WkP
  generalize posR out x out.length = p at *
  have h2 := h
  unfold WkP at h2
  have hix := List.pairwise_iff_getElem.1 h2
  rw [List.append_assoc, List.pairwise_append]
  refine ⟨h2.sublist (List.take_sublist _ _), ?_, ?_⟩
  · rw [List.singleton_append, List.pairwise_cons]
    refine ⟨fun y hy => ?_, h2.sublist (List.drop_sublist _ _)⟩
    obtain ⟨i, hi, rfl⟩ := List.getElem_of_mem hy
    rw [List.getElem_drop]
    rw [List.length_drop] at hi
    have h3 := hg (p + i) (by omega) (by omega)
    rw [List.getD_eq_getElem?_getD, List.getElem?_eq_getElem (by omega), Option.getD_some] at h3
    exact lt_asym h3
  · intro a ha' y hy
    obtain ⟨i, hi, rfl⟩ := List.getElem_of_mem ha'
    rw [List.getElem_take]
    rw [List.length_take] at hi
    rw [List.singleton_append, List.mem_cons] at hy
    rcases hy with rfl | hy
    · have h3 := ha (p - 1) (by omega)
      rw [List.getD_eq_getElem?_getD, List.getElem?_eq_getElem (by omega), Option.getD_some] at h3
      by_cases e : i = p - 1
      · subst e; exact h3
      · exact le_trans_lt (hix i (p - 1) (by omega) (by omega) (by omega)) h3
    · obtain ⟨j, hj, rfl⟩ := List.getElem_of_mem hy
      rw [List.getElem_drop]
      rw [List.length_drop] at hj
      exact hix i (p + j) (by omega) (by omega) (by omega)
theorem foldR_wk : ∀ (l out : List Row), WkP out → WkP (l.foldl insR out)
  | [], out, h => h
  | x :: l, out, h => foldR_wk l _ (insR_wk h)
theorem sortR_wk (l : List Row) : WkR (sortR l) := (foldR_wk l [] List.Pairwise.nil).wk
theorem flat_dropP (l : List Row) : ∀ a, (l.flatMap plf).drop (a * 34) = (l.drop a).flatMap plf
  | 0 => by simp
  | a + 1 => by
    cases l with
    | nil => simp
    | cons x l =>
      rw [List.flatMap_cons, List.drop_succ_cons, ← flat_dropP l a, show (a + 1) * 34 = (plf x).length + a * 34 by rw [plf_len]; omega, List.drop_append]
      simp
theorem sub_rsP {w : World} {A : Option Addr} {n c a b : Nat} {l : List Row} (h : Rs w 34 A n c (l.flatMap plf)) (h1 : a ≤ b) (h2 : b ≤ n) : Rs w 34 (cutA A c a 34) (b - a) (c - a) ((sub l a b).flatMap plf) := by
  have := h.cut h1 h2
  rwa [flat_dropP, flat_take plf plf_len] at this
theorem flatP_one (l : List Row) : ∀ u ∈ l.flatMap plf, u.oneCell' = true := fun u hu => by
  obtain ⟨x, _, hx⟩ := List.mem_flatMap.1 hu
  exact plf_one x u hx
theorem pl_part {l : List Row} {k : Nat} {x : Row} (h : l[k]? = some x) : ((l.flatMap plf).drop (k * 34 + 0)).take 32 = idf x.id := by
  rw [flat_part plf 34 plf_len l k 0 32 x h (by omega)]
  exact (pl_id x).1
theorem pl_c32 {l : List Row} {k : Nat} {x : Row} (h : l[k]? = some x) : (l.flatMap plf)[k * 34 + 32]? = some (.int .i64 x.at_) := (flat_at plf 34 plf_len l k x h 32 (by omega)).trans (by have := pl32 x; rwa [List.getElem?_toArray] at this)
theorem pl_c33 {l : List Row} {k : Nat} {x : Row} (h : l[k]? = some x) : (l.flatMap plf)[k * 34 + 33]? = some (.int .u32 x.sm) := (flat_at plf 34 plf_len l k x h 33 (by omega)).trans (by have := pl33 x; rwa [List.getElem?_toArray] at this)
theorem pl_c0 {l : List Row} {k : Nat} {x : Row} (h : l[k]? = some x) : (l.flatMap plf)[k * 34 + 0]? = some (.int .u8 (fb x : Int)) := (flat_at plf 34 plf_len l k x h 0 (by omega)).trans (by
  unfold plf fb idf
  have h := x.id.h
  cases hl : x.id.l with
  | nil => rw [hl] at h; cases h
  | cons a r => rfl)
theorem built_rpl (x : Row) : Try.prog.built 86 [(0, .agg (idf x.id).toArray), (1, .int .i64 x.at_), (2, .int .u32 x.sm)] = some (plf x).toArray := by
  obtain ⟨⟨l, h⟩, s, a⟩ := x
  obtain ⟨a0, a1, a2, a3, a4, a5, a6, a7, a8, a9, a10, a11, a12, a13, a14, a15, a16, a17, a18, a19, a20, a21, a22, a23, a24, a25, a26, a27, a28, a29, a30, a31, rfl⟩ := list32 l h
  kernel_rfl
theorem ins_flat {out : List Row} {x : Row} {p : Nat} (h : p ≤ out.length) (hp : posR out x out.length = p) : ([] ++ (sub out 0 p).flatMap plf ++ plf x) ++ (sub out p out.length).flatMap plf = (insR out x).flatMap plf := by
  unfold insR
  rw [hp]
  simp only [sub, List.drop_zero, Nat.sub_zero, List.nil_append, List.flatMap_append, List.flatMap_cons, List.flatMap_nil, List.append_nil]
  rw [List.take_of_length_le (l := out.drop p) (by rw [List.length_drop]; omega)]
theorem getD_of {l : List Row} {k : Nat} {x : Row} (h : l[k]? = some x) : l.getD k zR = x := by rw [List.getD_eq_getElem?_getD, h]; rfl


set_option maxRecDepth 100000 in
theorem plain (A : Option Addr) (n c : Nat) (l : List Row) (w0 : World) (hl : Rs w0 34 A n c (l.flatMap plf)) (hl9 : l.length ≤ 1000) :
    Calls Try.prog 27 #[.slice A n c] w0 fun e w' => ∃ u, e = .returned u ∧ Like w0 w' ∧ ∃ A' c', u = .slice A' l.length c' ∧ w'.ownsRow w0.heap.size 86 34 (.slice A' l.length c') l.length (l.flatMap plf) := by
  refine enter1 (env := [(0, .slice A n c)]) [.slice A n c] Try.func27 rfl Try.ntmps27 rfl rfl ?_
  have hn := places_len hl; have hcap := hl.cap; have hmax := hl.max
  have S0 := St.start w0 noM
  refine T_seq fun K1 hK1 => ?_
  refine T_region ?_
  refine L_y (y_assign rfl) rfl ?_
  refine L_nil ?_
  refine hK1 _ _ ?_
  refine T_seq fun K2 hK2 => ?_
  refine T_region ?_
  have S1 := S0.nilrow 86 34
  refine L_y (y_assign rfl) rfl ?_
  refine L_nil ?_
  refine hK2 _ _ ?_
  refine T_seq fun K3 hK3 => ?_
  refine T_seq fun K4 hK4 => ?_
  refine T_region ?_
  refine L_y (y_assign rfl) rfl ?_
  refine L_nil ?_
  refine hK4 _ _ ?_
  refine T_block ?_
  refine T_loop3 [(0, _)] (fun (k : Nat) (A1 : Option Addr) (c1 : Nat) => [(4, .int .i64 (k : Int)), (3, .slice A1 k c1)]) (fun (k : Nat) (A1 : Option Addr) (c1 : Nat) => l.length - k) (fun (k : Nat) (A1 : Option Addr) (c1 : Nat) (w : World) => k ≤ l.length ∧ Zx.St w0 noM [Zx.row 86 34 A1 k c1 ((l.take k).flatMap plf)] w) 0 none 0 (Sub.cons rfl (by first | rfl | exact congrArg (Value.int _) (by omega)) (Sub.cons rfl (by first | rfl | exact congrArg (Value.int _) (by omega)) (Sub.nil _))) (Sub.cons rfl rfl (Sub.nil _)) ?_ ?_
  ·
    have S70 : Zx.St w0 noM [Zx.row 86 34 none 0 0 ((l.take 0).flatMap plf)] w0 := S1.cast (by rw [List.take_zero]; rfl)
    exact ⟨by omega, S70⟩
  ·
    intro k A1 c1 w2 hrel
    obtain ⟨hk, S2⟩ := hrel
    refine T_seq fun K5 hK5 => ?_
    refine T_seq fun K6 hK6 => ?_
    refine T_region ?_
    refine L_y (y_move rfl) rfl ?_
    refine L_y (y_move rfl) rfl ?_
    refine L_y (y_len Try.underlying43 rfl) rfl ?_
    refine L_y (y_lss rfl rfl) rfl ?_
    refine L_nil ?_
    refine hK6 _ _ ?_
    refine T_cond rfl (fun h8 => ?_) (fun h8 => ?_)
    ·
      obtain ⟨x, hx⟩ : ∃ x, l[k]? = some x := ⟨_, List.getElem?_eq_getElem (by omega)⟩
      refine T_skip ?_
      refine hK5 _ _ ?_
      refine T_seq fun K7 hK7 => ?_
      refine T_block ?_
      refine T_zed [0, 1, 2, 3, 4, 5, 6, 7, 8, 9, 10, 11, 12, 13, 14, 15, 16, 17] 18 [(0, 1), (1, 1), (2, 1), (3, 1), (4, 1), (5, 1), (6, 1), (7, 1), (8, 1), (9, 1), (10, 1), (11, 1), (12, 1), (13, 1), (14, 1), (15, 1), (16, 1), (17, 2), (18, 3), (19, 3)] hmix (by kernel_rfl) fun w3 l3 => ?_
      have S3 := S2.like l3
      refine ZA_B (Like w3) (Like.refl _) ?_
      refine ZB_y rfl (y_move rfl) rfl ?_
      refine ZB_y rfl (y_move rfl) rfl ?_
      refine ZB_y rfl (y_move rfl) rfl ?_
      refine ZB_y rfl (y_idx Try.underlying43 sz62 rfl rfl (S3.rd hl) inferInstance (by omega)) rfl ?_
      refine ZB_y rfl (y_fieldR 0 Try.underlying62 rfl sz23 rfl rfl (S3.rd hl) (by omega) rfl) rfl ?_
      refine ZB_y rfl (y_ldfN Try.underlying23 rfl sz23 rfl (S3.rd hl) (by omega) (pl_part hx) (idf_len _)) rfl ?_
      refine ZB_y rfl (y_move rfl) rfl ?_
      refine ZB_y rfl (y_move rfl) rfl ?_
      refine ZB_y rfl (y_idx Try.underlying43 sz62 rfl rfl (S3.rd hl) inferInstance (by omega)) rfl ?_
      refine ZB_y rfl (y_fieldR 32 Try.underlying62 rfl sz3 rfl rfl (S3.rd hl) (by omega) rfl) rfl ?_
      refine ZB_y rfl (y_ldf Try.underlying3 rfl rfl (S3.rd hl) (by omega) (pl_c32 hx)) rfl ?_
      refine ZB_y rfl (y_move rfl) rfl ?_
      refine ZB_y rfl (y_move rfl) rfl ?_
      refine ZB_y rfl (y_idx Try.underlying43 sz62 rfl rfl (S3.rd hl) inferInstance (by omega)) rfl ?_
      refine ZB_y rfl (y_fieldR 33 Try.underlying62 rfl sz60 rfl rfl (S3.rd hl) (by omega) rfl) rfl ?_
      refine ZB_y rfl (y_ldf Try.underlying60 rfl rfl (S3.rd hl) (by omega) (pl_c33 hx)) rfl ?_
      refine ZB_y rfl (y_build rfl (built_rpl x)) rfl ?_
      refine ZB_o rfl (o_bslL (plf x) te46 zz86 S3 rfl rfl rfl (by simp [Value.cells, plf_len]) (by simp [Value.cells]) rfl rfl rfl fun b4 w4 l4 S4 => ?_)
      have q4 := l4
      refine ⟨q4, ?_⟩
      refine ZB_c rfl (o_app te46 S4 0 rfl rfl rfl (by first | exact S4.row 0 rfl | exact S4.row 1 rfl) (plf_one _) rfl (by omega) (by omega) fun A5 c5 w5 S5 => ?_)
      have S5d := S5.drop (rs' := [_]) (.cons_cons _ (.cons _ (.refl _)))
      refine ZA_oy rfl (y_assign rfl) rfl ?_
      refine ZA_nil ?_
      refine hK7 _ _ ?_
      refine T_region ?_
      refine L_y (y_move rfl) rfl ?_
      refine L_y (y_add rfl rfl (i64w (by omega))) rfl ?_
      refine L_y (y_assign rfl) rfl ?_
      refine L_nil ?_
      have S91 := S5d.sel [0] (by decide)
      have S92 := S91.rowc 0 rfl (n' := k + 1) (xs' := (l.take (k + 1)).flatMap plf) rfl (take1 plf hx).symm
      refine ⟨k + 1, _, _, by omega, ⟨by omega, S92⟩, ?_⟩
      exact (Sub.cons rfl (by first | rfl | exact congrArg (Value.int _) (by omega)) (Sub.cons rfl (by first | rfl | exact congrArg (Value.int _) (by omega)) (Sub.cons rfl rfl (Sub.nil _))))
    ·
      refine T_exit ?_
      refine hK3 _ _ ?_
      refine T_seq fun K8 hK8 => ?_
      refine T_region ?_
      refine L_y (y_move rfl) rfl ?_
      refine L_y (y_assign rfl) rfl ?_
      refine L_nil ?_
      refine hK8 _ _ ?_
      refine T_ret ?_
      repeat (first | with_reducible refine up_then ?_ | with_reducible refine up_in ?_)
      refine ret1 rfl rfl ?_
      have hke : k = l.length := by omega
      subst hke
      rw [List.take_length] at S2
      exact ⟨_, rfl, S2.like0, _, _, rfl, S2.own 0 rfl⟩


set_option maxRecDepth 100000 in
theorem rsorted (A : Option Addr) (n c : Nat) (l : List Row) (w0 : World) (hl : Rs w0 34 A n c (l.flatMap plf)) (hl9 : l.length ≤ 1000) :
    Calls Try.prog 66 #[.slice A n c] w0 fun e w' => ∃ u, e = .returned u ∧ Like w0 w' ∧ ∃ A' c', u = .slice A' l.length c' ∧ w'.ownsRow w0.heap.size 86 34 (.slice A' l.length c') l.length ((sortR l).flatMap plf) := by
  refine enter1 (env := [(0, .slice A n c)]) [.slice A n c] Try.func66 rfl Try.ntmps66 rfl rfl ?_
  have hn := places_len hl; have hcap := hl.cap; have hmax := hl.max
  have S0 := St.start w0 noM
  refine T_seq fun K1 hK1 => ?_
  refine T_region ?_
  refine L_y (y_assign rfl) rfl ?_
  refine L_nil ?_
  refine hK1 _ _ ?_
  refine T_seq fun K2 hK2 => ?_
  refine T_region ?_
  refine L_y (y_assign rfl) rfl ?_
  refine L_nil ?_
  refine hK2 _ _ ?_
  refine T_seq fun K3 hK3 => ?_
  refine T_seq fun K4 hK4 => ?_
  refine T_region ?_
  refine L_y (y_assign rfl) rfl ?_
  refine L_nil ?_
  refine hK4 _ _ ?_
  refine T_block ?_
  refine T_loop3 [(0, _)] (fun (k : Nat) (A1 : Option Addr) (c1 : Nat) => [(4, .int .i64 (k : Int)), (3, .slice A1 (sortR (l.take k)).length c1)]) (fun (k : Nat) (A1 : Option Addr) (c1 : Nat) => l.length - k) (fun (k : Nat) (A1 : Option Addr) (c1 : Nat) (w : World) => k ≤ l.length ∧ Zx.St w0 noM [Zx.row 86 34 A1 (sortR (l.take k)).length c1 ((sortR (l.take k)).flatMap plf)] w) 0 none 0 (Sub.cons rfl (by first | rfl | exact congrArg (Value.int _) (by omega)) (Sub.cons rfl (by first | rfl | exact congrArg (Value.int _) (by omega)) (Sub.nil _))) (Sub.cons rfl rfl (Sub.nil _)) ?_ ?_
  ·
    have S70 : Zx.St w0 noM [Zx.row 86 34 none (sortR (l.take 0)).length 0 ((sortR (l.take 0)).flatMap plf)] w0 := (S0.nilrow 86 34).cast (by rw [List.take_zero]; rfl)
    exact ⟨by omega, S70⟩
  ·
    intro k A1 c1 w1 hrel
    obtain ⟨hk, S1⟩ := hrel
    refine T_seq fun K5 hK5 => ?_
    refine T_seq fun K6 hK6 => ?_
    refine T_region ?_
    refine L_y (y_move rfl) rfl ?_
    refine L_y (y_move rfl) rfl ?_
    refine L_y (y_len Try.underlying46 rfl) rfl ?_
    refine L_y (y_lss rfl rfl) rfl ?_
    refine L_nil ?_
    refine hK6 _ _ ?_
    refine T_cond rfl (fun h10 => ?_) (fun h10 => ?_)
    ·
      obtain ⟨x, hx⟩ : ∃ x, l[k]? = some x := ⟨_, List.getElem?_eq_getElem (by omega)⟩
      have hol := sortR_len (l.take k); rw [List.length_take, Nat.min_eq_left (by omega)] at hol
      refine T_skip ?_
      refine hK5 _ _ ?_
      refine T_seq fun K7 hK7 => ?_
      refine T_block ?_
      refine T_seq fun K8 hK8 => ?_
      refine T_region ?_
      refine L_y (y_move rfl) rfl ?_
      refine L_y (y_len Try.underlying46 rfl) rfl ?_
      refine L_y (y_assign rfl) rfl ?_
      refine L_nil ?_
      refine hK8 _ _ ?_
      refine T_seq fun K9 hK9 => ?_
      refine T_block ?_
      refine T_loop1 [(0, _), (3, _), (4, _)] (fun (j : Nat) => [(5, .int .i64 (j : Int))]) (fun (j : Nat) => j) (fun (j : Nat) (w : World) => (j ≤ (sortR (l.take k)).length ∧ posR (sortR (l.take k)) x (sortR (l.take k)).length = posR (sortR (l.take k)) x j) ∧ Zx.St w0 noM [Zx.row 86 34 A1 (sortR (l.take k)).length c1 ((sortR (l.take k)).flatMap plf)] w) (sortR (l.take k)).length (Sub.cons rfl (by first | rfl | exact congrArg (Value.int _) (by omega)) (Sub.nil _)) (Sub.cons rfl rfl (Sub.cons rfl rfl (Sub.cons rfl rfl (Sub.nil _)))) ?_ ?_
      ·
        exact ⟨⟨by omega, rfl⟩, S1⟩
      ·
        intro j w2 hrel
        obtain ⟨⟨hj, hpos⟩, S2⟩ := hrel
        refine T_seq fun K10 hK10 => ?_
        refine T_seq fun K11 hK11 => ?_
        refine T_tail 14 hmix (by kernel_rfl) fun w3 l3 K12 hK12 => ?_
        have S3 := S2.like l3
        refine HL_y (y_move rfl) rfl ?_
        refine HL_y (y_gtr rfl rfl) rfl ?_
        refine HL_y (y_move rfl) rfl ?_
        refine HL_split 17 rfl (fun h17 => ?_) (fun h17 => ?_)
        ·
          obtain ⟨y, hy⟩ : ∃ y, (sortR (l.take k))[j - 1]? = some y := ⟨_, List.getElem?_eq_getElem (by omega)⟩
          refine HL_gyes rfl rfl ?_
          refine HL_y (y_move rfl) rfl ?_
          refine HL_gyes rfl rfl ?_
          refine HL_y (y_move rfl) rfl ?_
          refine HL_gyes rfl rfl ?_
          refine HL_y (y_idx Try.underlying46 sz86 rfl rfl (S3.rd hl) inferInstance (by omega)) rfl ?_
          refine HL_gyes rfl rfl ?_
          refine HL_y (y_fieldR 0 Try.underlying86 rfl sz23 rfl rfl (S3.rd hl) (by omega) rfl) rfl ?_
          refine HL_gyes rfl rfl ?_
          refine HL_y (y_ldfN Try.underlying23 rfl sz23 rfl (S3.rd hl) (by omega) (pl_part hx) (idf_len _)) rfl ?_
          refine HL_gyes rfl rfl ?_
          refine HL_y (y_move rfl) rfl ?_
          refine HL_gyes rfl rfl ?_
          refine HL_y (y_move rfl) rfl ?_
          refine HL_gyes rfl rfl ?_
          refine HL_y (y_sub rfl rfl (i64w (by omega))) rfl ?_
          refine HL_gyes rfl rfl ?_
          refine HL_y (y_idx Try.underlying46 sz86 rfl rfl (S3.row 0 rfl) (Nt.mk (by omega) : Nt _ (j - 1)) (by omega)) rfl ?_
          refine HL_gyes rfl rfl ?_
          refine HL_y (y_fieldR 0 Try.underlying86 rfl sz23 rfl rfl (S3.row 0 rfl) (by omega) rfl) rfl ?_
          refine HL_gyes rfl rfl ?_
          refine HL_y (y_ldfN Try.underlying23 rfl sz23 rfl (S3.row 0 rfl) (by omega) (pl_part hy) (idf_len _)) rfl ?_
          refine HL_nil ?_
          refine hK12 _ ?_
          refine L_gyes rfl rfl ?_
          refine L_o (o_call Try.func80 rfl rfl (Oid.cBelow x.id y.id w3) rfl rfl ?_)
          rintro e5 w5 ⟨v5, rfl, l5, rfl⟩
          refine ⟨_, rfl, ?_⟩
          have S5 := S3.like l5
          refine L_y ((by first | exact y_pickT rfl rfl | exact y_pickF rfl rfl)) rfl ?_
          refine L_nil ?_
          refine hK11 _ _ ?_
          refine T_condB rfl (fun h30 => ?_) (fun h30 => ?_)
          ·
            refine T_skip ?_
            refine hK10 _ _ ?_
            refine T_block ?_
            refine T_region ?_
            refine L_y (y_move rfl) rfl ?_
            refine L_y (y_sub rfl rfl (i64w (by omega))) rfl ?_
            refine L_y (y_assign rfl) rfl ?_
            refine L_nil ?_
            refine ⟨j - 1, by omega, ⟨⟨by omega, by rw [hpos, show j = (j - 1) + 1 by omega, posR, if_pos (by rw [getD_of hy]; exact h30)]; rfl⟩, S5⟩, ?_⟩
            exact (Sub.cons rfl (by first | rfl | exact congrArg (Value.int _) (by omega)) (Sub.cons rfl rfl (Sub.cons rfl rfl (Sub.cons rfl rfl (Sub.nil _)))))
          ·
            have hat0 : posR (sortR (l.take k)) x j = j := by rw [show j = (j - 1) + 1 by omega, posR, if_neg (by rw [getD_of hy, h30]; decide)]
            refine T_exit ?_
            refine hK9 _ _ ?_
            refine T_seq fun K13 hK13 => ?_
            refine T_region ?_
            have S6 := S5.nilrow 86 34
            refine L_y (y_assign rfl) rfl ?_
            refine L_nil ?_
            refine hK13 _ _ ?_
            refine T_seq fun K14 hK14 => ?_
            have hc9 := (S6.row 0 rfl).cap; have hm9 := (S6.row 0 rfl).max
            refine T_region ?_
            refine L_y (y_move rfl) rfl ?_
            refine L_y (y_move rfl) rfl ?_
            refine L_y (y_move rfl) rfl ?_
            refine L_y (y_sliceH Try.underlying46 sz86 rfl rfl inferInstance (by omega)) rfl ?_
            refine L_o (o_app te46 S6 1 rfl rfl rfl (sub_rsP (S6.row 0 rfl) (a := 0) (b := j) (by omega) (by omega)) (flatP_one _) rfl (by omega) (by omega) fun A7 c7 w7 S7 => ?_)
            refine L_y (y_assign rfl) rfl ?_
            refine L_nil ?_
            refine hK14 _ _ ?_
            refine T_seq fun K15 hK15 => ?_
            refine T_region ?_
            refine L_y (y_move rfl) rfl ?_
            refine L_y (y_move rfl) rfl ?_
            refine L_y (y_move rfl) rfl ?_
            refine L_y (y_idx Try.underlying46 sz86 rfl rfl (S7.rd hl) inferInstance (by omega)) rfl ?_
            refine L_y (y_ldp (f := plf) plf_len Try.underlying86 rfl sz86 rfl (S7.rd hl) (by omega) hx) rfl ?_
            refine L_o (o_bsl (plf x) te46 zz86 S7 rfl rfl rfl (by simp [Value.cells, plf_len]) (by simp [Value.cells]) rfl rfl rfl fun b8 w8 S8 => ?_)
            refine L_o (o_app te46 S8 1 rfl rfl rfl (by first | exact S8.row 0 rfl | exact S8.row 1 rfl | exact S8.row 2 rfl) (plf_one _) rfl (by omega) (by omega) fun A9 c9 w9 S9 => ?_)
            have S9d := S9.drop (rs' := [_, _]) (.cons_cons _ (.cons_cons _ (.cons _ (.refl _))))
            refine L_y (y_assign rfl) rfl ?_
            refine L_nil ?_
            refine hK15 _ _ ?_
            refine T_region ?_
            refine L_y (y_move rfl) rfl ?_
            refine L_y (y_move rfl) rfl ?_
            refine L_y (y_move rfl) rfl ?_
            refine L_y (y_sliceL Try.underlying46 sz86 rfl rfl inferInstance (by omega)) rfl ?_
            refine L_o (o_app te46 S9d 1 rfl rfl rfl (sub_rsP (S9d.row 0 rfl) (a := j) (b := (sortR (l.take k)).length) (by omega) (by omega)) (flatP_one _) rfl (by omega) (by omega) fun A10 c10 w10 S10 => ?_)
            refine L_y (y_assign rfl) rfl ?_
            refine L_nil ?_
            refine hK7 _ _ ?_
            refine T_region ?_
            refine L_y (y_move rfl) rfl ?_
            refine L_y (y_add rfl rfl (i64w (by omega))) rfl ?_
            refine L_y (y_assign rfl) rfl ?_
            refine L_nil ?_
            have S91 := S10.sel [1] (by decide)
            have S92 := S91.rowc 0 rfl (n' := (sortR (l.take (k + 1))).length) (xs' := (sortR (l.take (k + 1))).flatMap plf) (by rw [sortR_step hx, insR_len]; omega) (by rw [sortR_step hx, ← ins_flat hj (hpos.trans hat0)])
            refine ⟨k + 1, _, _, by omega, ⟨by omega, S92⟩, ?_⟩
            exact (Sub.cons rfl (by first | rfl | exact congrArg (Value.int _) (by omega)) (Sub.cons rfl (by rw [sortR_step hx, insR_len]; congr 1; omega) (Sub.cons rfl rfl (Sub.nil _))))
        ·
          have hat0 : posR (sortR (l.take k)) x j = j := by rw [show j = 0 by omega]; rfl
          refine HL_gno rfl rfl rfl ?_
          refine HL_gno rfl rfl rfl ?_
          refine HL_gno rfl rfl rfl ?_
          refine HL_gno rfl rfl rfl ?_
          refine HL_gno rfl rfl rfl ?_
          refine HL_gno rfl rfl rfl ?_
          refine HL_gno rfl rfl rfl ?_
          refine HL_gno rfl rfl rfl ?_
          refine HL_gno rfl rfl rfl ?_
          refine HL_gno rfl rfl rfl ?_
          refine HL_gno rfl rfl rfl ?_
          refine HL_nil ?_
          refine hK12 _ ?_
          refine L_gno rfl rfl rfl ?_
          refine L_y ((by first | exact y_pickT rfl rfl | exact y_pickF rfl rfl)) rfl ?_
          refine L_nil ?_
          refine hK11 _ _ ?_
          refine T_false rfl ?_
          refine T_exit ?_
          refine hK9 _ _ ?_
          refine T_seq fun K16 hK16 => ?_
          refine T_region ?_
          have S11 := S3.nilrow 86 34
          refine L_y (y_assign rfl) rfl ?_
          refine L_nil ?_
          refine hK16 _ _ ?_
          refine T_seq fun K17 hK17 => ?_
          have hc9 := (S11.row 0 rfl).cap; have hm9 := (S11.row 0 rfl).max
          refine T_region ?_
          refine L_y (y_move rfl) rfl ?_
          refine L_y (y_move rfl) rfl ?_
          refine L_y (y_move rfl) rfl ?_
          refine L_y (y_sliceH Try.underlying46 sz86 rfl rfl inferInstance (by omega)) rfl ?_
          refine L_o (o_app te46 S11 1 rfl rfl rfl (sub_rsP (S11.row 0 rfl) (a := 0) (b := j) (by omega) (by omega)) (flatP_one _) rfl (by omega) (by omega) fun A12 c12 w12 S12 => ?_)
          refine L_y (y_assign rfl) rfl ?_
          refine L_nil ?_
          refine hK17 _ _ ?_
          refine T_seq fun K18 hK18 => ?_
          refine T_region ?_
          refine L_y (y_move rfl) rfl ?_
          refine L_y (y_move rfl) rfl ?_
          refine L_y (y_move rfl) rfl ?_
          refine L_y (y_idx Try.underlying46 sz86 rfl rfl (S12.rd hl) inferInstance (by omega)) rfl ?_
          refine L_y (y_ldp (f := plf) plf_len Try.underlying86 rfl sz86 rfl (S12.rd hl) (by omega) hx) rfl ?_
          refine L_o (o_bsl (plf x) te46 zz86 S12 rfl rfl rfl (by simp [Value.cells, plf_len]) (by simp [Value.cells]) rfl rfl rfl fun b13 w13 S13 => ?_)
          refine L_o (o_app te46 S13 1 rfl rfl rfl (by first | exact S13.row 0 rfl | exact S13.row 1 rfl | exact S13.row 2 rfl) (plf_one _) rfl (by omega) (by omega) fun A14 c14 w14 S14 => ?_)
          have S14d := S14.drop (rs' := [_, _]) (.cons_cons _ (.cons_cons _ (.cons _ (.refl _))))
          refine L_y (y_assign rfl) rfl ?_
          refine L_nil ?_
          refine hK18 _ _ ?_
          refine T_region ?_
          refine L_y (y_move rfl) rfl ?_
          refine L_y (y_move rfl) rfl ?_
          refine L_y (y_move rfl) rfl ?_
          refine L_y (y_sliceL Try.underlying46 sz86 rfl rfl inferInstance (by omega)) rfl ?_
          refine L_o (o_app te46 S14d 1 rfl rfl rfl (sub_rsP (S14d.row 0 rfl) (a := j) (b := (sortR (l.take k)).length) (by omega) (by omega)) (flatP_one _) rfl (by omega) (by omega) fun A15 c15 w15 S15 => ?_)
          refine L_y (y_assign rfl) rfl ?_
          refine L_nil ?_
          refine hK7 _ _ ?_
          refine T_region ?_
          refine L_y (y_move rfl) rfl ?_
          refine L_y (y_add rfl rfl (i64w (by omega))) rfl ?_
          refine L_y (y_assign rfl) rfl ?_
          refine L_nil ?_
          have S91 := S15.sel [1] (by decide)
          have S92 := S91.rowc 0 rfl (n' := (sortR (l.take (k + 1))).length) (xs' := (sortR (l.take (k + 1))).flatMap plf) (by rw [sortR_step hx, insR_len]; omega) (by rw [sortR_step hx, ← ins_flat hj (hpos.trans hat0)])
          refine ⟨k + 1, _, _, by omega, ⟨by omega, S92⟩, ?_⟩
          exact (Sub.cons rfl (by first | rfl | exact congrArg (Value.int _) (by omega)) (Sub.cons rfl (by rw [sortR_step hx, insR_len]; congr 1; omega) (Sub.cons rfl rfl (Sub.nil _))))
    ·
      refine T_exit ?_
      refine hK3 _ _ ?_
      refine T_seq fun K19 hK19 => ?_
      refine T_region ?_
      refine L_y (y_move rfl) rfl ?_
      refine L_y (y_assign rfl) rfl ?_
      refine L_nil ?_
      refine hK19 _ _ ?_
      refine T_ret ?_
      repeat (first | with_reducible refine up_then ?_ | with_reducible refine up_in ?_)
      refine ret1 rfl rfl ?_
      have hke : k = l.length := by omega
      subst hke
      rw [List.take_length] at S1
      have S93 := S1.rowc 0 rfl (sortR_len l) rfl
      rw [List.take_length, sortR_len]
      exact ⟨_, rfl, S1.like0, _, _, rfl, S93.own 0 rfl⟩
end Go.Proofs.Ytgaklngnfecdaaa.Idx


/-
  Make of the document.
-/
namespace Go.Proofs.Ytgaklngnfecdaaa.Idx
open Go.RowKit Zk Zx
open Oid (idf idf_len cmpL)
set_option linter.unusedVariables false
set_option linter.unusedSimpArgs false

theorem cl_step {l : List Row} {j m : Nat} {y : Row} (hy : l[j]? = some y) : cl (l.take (j + 1)) m = cl (l.take j) m + (if fb y < m then 1 else 0) := by
  unfold cl
  rw [take1L hy, List.countP_append]
  by_cases h : fb y < m <;> simp [h]
theorem cl_take (l : List Row) (j m : Nat) : cl (l.take j) m ≤ l.length := Nat.le_trans (cl_le _ _) (by rw [List.length_take]; omega)
theorem i_u64 {x : Int} (h : 0 ≤ x) (h2 : x ≤ 4294967295) : IntKind.u64.wrap x = ((x.toNat : Nat) : Int) := by
  rw [IntKind.wrap_u64]
  omega
theorem catP2 (A B : Option Addr) (n c m d : Nat) (a b : List UInt8) : catP [⟨A, n, c, a⟩, ⟨B, m, d, b⟩] = a ++ b := by simp [catP]
theorem no_any {l : List Row} {k : Nat} {x : Row} (hx : l[k]? = some x) (h0 : (l.take k).any farB = false) (h1 : ¬ x.at_ < 0) (h2 : ¬ x.at_ > 1048576) : (l.take (k + 1)).any farB = false := by
  rw [any_step hx, h0]
  simp [farB]
  omega
theorem any_of {l : List Row} {k : Nat} {x : Row} (hx : l[k]? = some x) (h : x.at_ < 0 ∨ 1048576 < x.at_) : l.any farB = true := by
  rw [List.any_eq_true]
  refine ⟨x, List.mem_of_getElem? hx, ?_⟩
  simp [farB]
  omega
theorem any_perm {l m : List Row} (hp : l.Perm m) : l.any farB = m.any farB := by
  rw [Bool.eq_iff_iff, List.any_eq_true, List.any_eq_true]
  exact ⟨fun ⟨x, h, q⟩ => ⟨x, hp.mem_iff.1 h, q⟩, fun ⟨x, h, q⟩ => ⟨x, hp.mem_iff.2 h, q⟩⟩


set_option maxRecDepth 100000 in
theorem rmake (A : Option Addr) (n c : Nat) (l : List Row) (of : Oid.Id) (w0 : World) (hl : Rs w0 34 A n c (l.flatMap plf)) (hsm : ∀ x ∈ l, SumOk x) (hl9 : l.length ≤ 1000) :
    Calls Try.prog 26 #[.slice A n c, .agg (idf of).toArray] w0 fun e w' => ∃ u, e = .returned u ∧ Like w0 w' ∧ ∃ A' m c' bs, u = .tuple #[.slice A' m c', .int .i64 (mkE l)] ∧ Made l of bs ∧ w'.ownsRow w0.heap.size 5 1 (.slice A' m c') m (bL bs) := by
  refine enter1 (env := [(0, .slice A n c), (1, .agg (idf of).toArray)]) [.slice A n c, .agg (idf of).toArray] Try.func26 rfl Try.ntmps26 rfl rfl ?_
  have hn := places_len hl; have hcap := hl.cap; have hmax := hl.max
  have S0 := St.start w0 noM
  refine T_seq fun K1 hK1 => ?_
  refine T_region ?_
  refine L_o (o_box rfl S0 rfl fun b1 w1 hb1 S1 => ?_)
  refine L_y (y_assign rfl) rfl ?_
  refine L_y (y_assign rfl) rfl ?_
  refine L_nil ?_
  refine hK1 _ _ ?_
  refine T_seq fun K2 hK2 => ?_
  refine T_seq fun K3 hK3 => ?_
  refine T_region ?_
  refine L_y (y_move rfl) rfl ?_
  refine L_y (y_len Try.underlying46 rfl) rfl ?_
  refine L_y (y_gtr rfl rfl) rfl ?_
  refine L_nil ?_
  refine hK3 _ _ ?_
  refine T_cond rfl (fun h18 => ?_) (fun h18 => ?_)
  ·
    refine T_seq fun K4 hK4 => ?_
    refine T_region ?_
    refine L_y (y_assign rfl) rfl ?_
    refine L_y (y_assign rfl) rfl ?_
    refine L_nil ?_
    refine hK4 _ _ ?_
    refine T_ret ?_
    repeat (first | with_reducible refine up_then ?_ | with_reducible refine up_in ?_)
    refine ret2 rfl rfl rfl ?_
    have he : mkE l = 5 := by unfold mkE; rw [if_pos (by omega)]
    exact ⟨_, rfl, S1.like0, none, 0, 0, [], by rw [he], .inl ⟨by rw [he]; decide, rfl⟩, World.ownsRow_nil _ _ _ _⟩
  ·
    refine T_skip ?_
    refine hK2 _ _ ?_
    refine T_seq fun K5 hK5 => ?_
    refine T_region ?_
    refine L_y (y_move rfl) rfl ?_
    refine L_o (o_call Try.func66 rfl rfl (rsorted A n c l w1 (S1.rd hl) hl9) rfl rfl ?_)
    rintro e2 w2 ⟨v2, rfl, l2, A20, c20, rfl, O2⟩
    refine ⟨_, rfl, ?_⟩
    have S2 := S1.adopt l2 O2
    obtain ⟨zs, hzs⟩ : ∃ zs, zs = sortR l := ⟨_, rfl⟩
    rw [← hzs] at S2
    have hp : zs.Perm l := hzs ▸ sortR_perm l
    have hwk : WkR zs := hzs ▸ sortR_wk l
    have hzl : zs.length = l.length := hp.length_eq
    refine L_y (y_assign rfl) rfl ?_
    refine L_nil ?_
    refine hK5 _ _ ?_
    refine T_seq fun K6 hK6 => ?_
    refine T_seq fun K7 hK7 => ?_
    refine T_region ?_
    refine L_y (y_assign rfl) rfl ?_
    refine L_nil ?_
    refine hK7 _ _ ?_
    refine T_block ?_
    refine T_loop1 [(3, _), (6, _)] (fun (k : Nat) => [(7, .int .i64 (k : Int))]) (fun (k : Nat) => l.length - k) (fun (k : Nat) (w : World) => (k ≤ l.length ∧ ∀ i x y, i < k → zs[i]? = some x → zs[i + 1]? = some y → x.id ≠ y.id) ∧ Zx.St w0 noM [blk b1 23 (idf of).toArray, Zx.row 86 34 A20 l.length c20 (zs.flatMap plf)] w) 0 (Sub.cons rfl (by first | rfl | exact congrArg (Value.int _) (by omega)) (Sub.nil _)) (Sub.cons rfl rfl (Sub.cons rfl rfl (Sub.nil _))) ?_ ?_
    ·
      exact ⟨⟨by omega, fun i x y hi => by omega⟩, S2⟩
    ·
      intro k w3 hrel
      obtain ⟨⟨hk, hdf⟩, S3⟩ := hrel
      refine T_seq fun K8 hK8 => ?_
      refine T_seq fun K9 hK9 => ?_
      refine T_region ?_
      refine L_y (y_move rfl) rfl ?_
      refine L_y (y_add rfl rfl (i64w (by omega))) rfl ?_
      refine L_y (y_move rfl) rfl ?_
      refine L_y (y_len Try.underlying46 rfl) rfl ?_
      refine L_y (y_lss rfl rfl) rfl ?_
      refine L_nil ?_
      refine hK9 _ _ ?_
      refine T_cond rfl (fun h25 => ?_) (fun h25 => ?_)
      ·
        obtain ⟨x, hx⟩ : ∃ x, zs[k]? = some x := ⟨_, List.getElem?_eq_getElem (by omega)⟩
        obtain ⟨y, hy⟩ : ∃ y, zs[k + 1]? = some y := ⟨_, List.getElem?_eq_getElem (by omega)⟩
        refine T_skip ?_
        refine hK8 _ _ ?_
        refine T_seq fun K10 hK10 => ?_
        refine T_block ?_
        refine T_seq fun K11 hK11 => ?_
        refine T_drawnL [(0, true), (1, true), (2, true), (3, true), (4, true), (5, true), (6, true), (7, true), (8, true), (9, true), (10, true), (11, true)] hmix (by kernel_rfl) fun w4 l4 => ?_
        have S4 := S3.like l4
        refine DL_y rfl (y_move rfl) rfl ?_
        refine DL_y rfl (y_move rfl) rfl ?_
        refine DL_y rfl (y_idx Try.underlying46 sz86 rfl rfl (S4.row 1 rfl) inferInstance (by omega)) rfl ?_
        refine DL_y rfl (y_fieldR 0 Try.underlying86 rfl sz23 rfl rfl (S4.row 1 rfl) (by omega) rfl) rfl ?_
        refine DL_y rfl (y_ldfN Try.underlying23 rfl sz23 rfl (S4.row 1 rfl) (by omega) (pl_part hx) (idf_len _)) rfl ?_
        refine DL_y rfl (y_move rfl) rfl ?_
        refine DL_y rfl (y_move rfl) rfl ?_
        refine DL_y rfl (y_add rfl rfl (i64w (by omega))) rfl ?_
        refine DL_y rfl (y_idx Try.underlying46 sz86 rfl rfl (S4.row 1 rfl) (Nt.mk (by omega) : Nt _ (k + 1)) (by omega)) rfl ?_
        refine DL_y rfl (y_fieldR 0 Try.underlying86 rfl sz23 rfl rfl (S4.row 1 rfl) (by omega) rfl) rfl ?_
        refine DL_y rfl (y_ldfN Try.underlying23 rfl sz23 rfl (S4.row 1 rfl) (by omega) (pl_part hy) (idf_len _)) rfl ?_
        refine DL_y rfl (y_eqB Try.underlying23 Try.underlying5 sz5 (by kernel_rfl) rfl rfl (Oid.Id.h _) (Oid.Id.h _)) rfl ?_
        refine DL_nil ?_
        refine hK11 _ _ ?_
        refine T_cond rfl (fun h39 => ?_) (fun h39 => ?_)
        ·
          refine T_seq fun K12 hK12 => ?_
          refine T_region ?_
          refine L_y (y_assign rfl) rfl ?_
          refine L_y (y_assign rfl) rfl ?_
          refine L_nil ?_
          refine hK12 _ _ ?_
          refine T_ret ?_
          repeat (first | with_reducible refine up_then ?_ | with_reducible refine up_in ?_)
          refine ret2 rfl rfl rfl ?_
          have hnn : ¬ (l.map Row.id).Nodup := fun hn9 => not_nodup hx hy (Oid.Id.ext h39) ((hp.map Row.id).nodup_iff.2 hn9)
          have he : mkE l = 17 := by unfold mkE; rw [if_neg (by omega), if_pos hnn]
          exact ⟨_, rfl, S4.like0, none, 0, 0, [], by rw [he], .inl ⟨by rw [he]; decide, rfl⟩, World.ownsRow_nil _ _ _ _⟩
        ·
          refine T_skip ?_
          refine hK10 _ _ ?_
          refine T_region ?_
          refine L_y (y_move rfl) rfl ?_
          refine L_y (y_add rfl rfl (i64w (by omega))) rfl ?_
          refine L_y (y_assign rfl) rfl ?_
          refine L_nil ?_
          refine ⟨k + 1, by omega, ⟨⟨by omega, fun i p q hi hp9 hq9 => by rcases Nat.lt_or_ge i k with r | r; exact hdf i p q r hp9 hq9; (have e9 : i = k := by omega); subst e9; rw [hx] at hp9; cases hp9; rw [hy] at hq9; cases hq9; exact fun e => h39 (by rw [e])⟩, S4⟩, ?_⟩
          exact (Sub.cons rfl (by first | rfl | exact congrArg (Value.int _) (by omega)) (Sub.cons rfl rfl (Sub.cons rfl rfl (Sub.nil _))))
      ·
        have hst : StR zs := WkR.strict hwk (fun i x y hi hx hy => hdf i x y (by omega) hx hy)
        have hnd : (l.map Row.id).Nodup := (hp.map Row.id).nodup_iff.1 hst.nodup
        refine T_exit ?_
        refine hK6 _ _ ?_
        refine T_seq fun K13 hK13 => ?_
        refine T_seq fun K14 hK14 => ?_
        refine T_region ?_
        refine L_y (y_assign rfl) rfl ?_
        refine L_nil ?_
        refine hK14 _ _ ?_
        refine T_block ?_
        refine T_loop1 [(3, _), (6, _)] (fun (k : Nat) => [(8, .int .i64 (k : Int))]) (fun (k : Nat) => l.length - k) (fun (k : Nat) (w : World) => (k ≤ l.length ∧ (zs.take k).any farB = false) ∧ Zx.St w0 noM [blk b1 23 (idf of).toArray, Zx.row 86 34 A20 l.length c20 (zs.flatMap plf)] w) 0 (Sub.cons rfl (by first | rfl | exact congrArg (Value.int _) (by omega)) (Sub.nil _)) (Sub.cons rfl rfl (Sub.cons rfl rfl (Sub.nil _))) ?_ ?_
        ·
          exact ⟨⟨by omega, rfl⟩, S3⟩
        ·
          intro k w5 hrel
          obtain ⟨⟨hk, hfk⟩, S5⟩ := hrel
          refine T_seq fun K15 hK15 => ?_
          refine T_seq fun K16 hK16 => ?_
          refine T_region ?_
          refine L_y (y_move rfl) rfl ?_
          refine L_y (y_move rfl) rfl ?_
          refine L_y (y_len Try.underlying46 rfl) rfl ?_
          refine L_y (y_lss rfl rfl) rfl ?_
          refine L_nil ?_
          refine hK16 _ _ ?_
          refine T_cond rfl (fun h43 => ?_) (fun h43 => ?_)
          ·
            obtain ⟨x, hx⟩ : ∃ x, zs[k]? = some x := ⟨_, List.getElem?_eq_getElem (by omega)⟩
            refine T_skip ?_
            refine hK15 _ _ ?_
            refine T_seq fun K17 hK17 => ?_
            refine T_block ?_
            refine T_seq fun K18 hK18 => ?_
            refine T_region ?_
            refine L_y (y_move rfl) rfl ?_
            refine L_y (y_move rfl) rfl ?_
            refine L_y (y_idx Try.underlying46 sz86 rfl rfl (S5.row 1 rfl) inferInstance (by omega)) rfl ?_
            refine L_y (y_fieldR 32 Try.underlying86 rfl sz3 rfl rfl (S5.row 1 rfl) (by omega) rfl) rfl ?_
            refine L_y (y_ldf Try.underlying3 rfl rfl (S5.row 1 rfl) (by omega) (pl_c32 hx)) rfl ?_
            refine L_y (y_lss rfl rfl) rfl ?_
            refine L_y (y_move rfl) rfl ?_
            refine L_split 52 rfl (fun h52 => ?_) (fun h52 => ?_)
            ·
              refine L_gno rfl rfl rfl ?_
              refine L_gno rfl rfl rfl ?_
              refine L_gno rfl rfl rfl ?_
              refine L_gno rfl rfl rfl ?_
              refine L_gno rfl rfl rfl ?_
              refine L_gno rfl rfl rfl ?_
              refine L_y ((by first | exact y_pickT rfl rfl | exact y_pickF rfl rfl)) rfl ?_
              refine L_nil ?_
              refine hK18 _ _ ?_
              refine T_true rfl ?_
              refine T_seq fun K19 hK19 => ?_
              refine T_region ?_
              refine L_y (y_assign rfl) rfl ?_
              refine L_y (y_assign rfl) rfl ?_
              refine L_nil ?_
              refine hK19 _ _ ?_
              refine T_ret ?_
              repeat (first | with_reducible refine up_then ?_ | with_reducible refine up_in ?_)
              refine ret2 rfl rfl rfl ?_
              have hfa : l.any farB = true := by rw [← any_perm hp]; exact any_of hx (by omega)
              have he : mkE l = 2 := by unfold mkE; rw [if_neg (by omega), if_neg (fun h => h hnd), if_pos hfa]
              exact ⟨_, rfl, S5.like0, none, 0, 0, [], by rw [he], .inl ⟨by rw [he]; decide, rfl⟩, World.ownsRow_nil _ _ _ _⟩
            ·
              refine L_gyes rfl rfl ?_
              refine L_y (y_move rfl) rfl ?_
              refine L_gyes rfl rfl ?_
              refine L_y (y_move rfl) rfl ?_
              refine L_gyes rfl rfl ?_
              refine L_y (y_idx Try.underlying46 sz86 rfl rfl (S5.row 1 rfl) inferInstance (by omega)) rfl ?_
              refine L_gyes rfl rfl ?_
              refine L_y (y_fieldR 32 Try.underlying86 rfl sz3 rfl rfl (S5.row 1 rfl) (by omega) rfl) rfl ?_
              refine L_gyes rfl rfl ?_
              refine L_y (y_ldf Try.underlying3 rfl rfl (S5.row 1 rfl) (by omega) (pl_c32 hx)) rfl ?_
              refine L_gyes rfl rfl ?_
              refine L_y (y_gtr rfl rfl) rfl ?_
              refine L_y ((by first | exact y_pickT rfl rfl | exact y_pickF rfl rfl)) rfl ?_
              refine L_nil ?_
              refine hK18 _ _ ?_
              refine T_cond rfl (fun h59 => ?_) (fun h59 => ?_)
              ·
                refine T_seq fun K20 hK20 => ?_
                refine T_region ?_
                refine L_y (y_assign rfl) rfl ?_
                refine L_y (y_assign rfl) rfl ?_
                refine L_nil ?_
                refine hK20 _ _ ?_
                refine T_ret ?_
                repeat (first | with_reducible refine up_then ?_ | with_reducible refine up_in ?_)
                refine ret2 rfl rfl rfl ?_
                have hfa : l.any farB = true := by rw [← any_perm hp]; exact any_of hx (by omega)
                have he : mkE l = 2 := by unfold mkE; rw [if_neg (by omega), if_neg (fun h => h hnd), if_pos hfa]
                exact ⟨_, rfl, S5.like0, none, 0, 0, [], by rw [he], .inl ⟨by rw [he]; decide, rfl⟩, World.ownsRow_nil _ _ _ _⟩
              ·
                refine T_skip ?_
                refine hK17 _ _ ?_
                refine T_region ?_
                refine L_y (y_move rfl) rfl ?_
                refine L_y (y_add rfl rfl (i64w (by omega))) rfl ?_
                refine L_y (y_assign rfl) rfl ?_
                refine L_nil ?_
                refine ⟨k + 1, by omega, ⟨⟨by omega, no_any hx hfk h52 h59⟩, S5⟩, ?_⟩
                exact (Sub.cons rfl (by first | rfl | exact congrArg (Value.int _) (by omega)) (Sub.cons rfl rfl (Sub.cons rfl rfl (Sub.nil _))))
          ·
            have hke : k = l.length := by omega
            subst hke
            have hfar : zs.any farB = false := by rw [List.take_of_length_le (by omega)] at hfk; exact hfk
            have hro : ∀ x ∈ zs, RowOk x := fun x hx => rowOk_of hsm (by rw [← any_perm hp]; exact hfar) x (hp.mem_iff.1 hx)
            refine T_exit ?_
            refine hK13 _ _ ?_
            refine T_seq fun K21 hK21 => ?_
            refine T_region ?_
            refine L_o (o_bsl [_, _, _, _] te27 zz5 S5 rfl rfl rfl rfl rfl rfl rfl rfl fun b7 w7 S7 => ?_)
            refine L_o (o_bconst S7 2 rfl Try.underlying27 Try.underlying5 rfl (by omega) rfl fun w8 S8 => ?_)
            refine L_o (o_call Try.func68 rfl rfl (Oct.refbig (1) 4 w8 (by omega) (by omega)) rfl rfl ?_)
            rintro e9 w9 ⟨v9, rfl, l9, A9, m9, c9, rfl, O9⟩
            refine ⟨_, rfl, ?_⟩
            have S9 := S8.adopt l9 O9
            have hm9 := (S9.row 3 rfl).lenb; rw [Oct.length_tl] at hm9
            refine L_o (o_bsl [_, _] te177 zz27 S9 rfl rfl rfl rfl rfl rfl rfl rfl fun b10 w10 S10 => ?_)
            refine L_o (o_call Try.func67 rfl rfl (rjoin _ _ _ [⟨_, 4, 4, [73, 78, 68, 88]⟩, ⟨_, _, _, Oct.tl 1 4⟩] w10 (S10.row 4 rfl) (okP.cons (S10.fix 2 rfl) (show 4 ≤ 100000 by omega) (okP.cons (S10.row 3 rfl) (show m9 ≤ 100000 by omega) (okP.nil _ _))) (by simp)) rfl rfl ?_)
            rintro e11 w11 ⟨v11, rfl, l11, A11, c11, rfl, O11⟩
            refine ⟨_, rfl, ?_⟩
            have S11 := S10.adopt l11 O11
            refine L_y (y_assign rfl) rfl ?_
            refine L_nil ?_
            refine hK21 _ _ ?_
            refine T_seq fun K22 hK22 => ?_
            refine T_seq fun K23 hK23 => ?_
            refine T_region ?_
            refine L_y (y_assign rfl) rfl ?_
            refine L_nil ?_
            refine hK23 _ _ ?_
            refine T_block ?_
            refine T_loop3 [(3, _), (6, _)] (fun (k : Nat) (A1 : Option Addr) (c1 : Nat) => [(10, .int .i64 (k : Int)), (9, .slice A1 (8 + 4 * k) c1)]) (fun (k : Nat) (A1 : Option Addr) (c1 : Nat) => 256 - k) (fun (k : Nat) (A1 : Option Addr) (c1 : Nat) (w : World) => k ≤ 256 ∧ Zx.St w0 noM [blk b1 23 (idf of).toArray, Zx.row 86 34 A20 l.length c20 (zs.flatMap plf), Zx.row 5 1 A1 (8 + 4 * k) c1 (bL (headB ++ fanB zs k))] w) 0 A11 c11 (Sub.cons rfl (by first | rfl | exact congrArg (Value.int _) (by omega) | (congr 1; omega)) (Sub.cons rfl (by first | rfl | exact congrArg (Value.int _) (by omega) | (congr 1; omega)) (Sub.nil _))) (Sub.cons rfl rfl (Sub.cons rfl rfl (Sub.nil _))) ?_ ?_
            ·
              have S90 := S11.sel [0, 1, 5] (by decide)
              have S91 := S90.rowc 2 rfl (n' := 8 + 4 * 0) (xs' := bL (headB ++ fanB zs 0)) (by rw [catP2, List.length_append, Oct.length_tl]; rfl) (by rw [catP2]; rfl)
              exact ⟨by omega, S91⟩
            ·
              intro k A1 c1 w12 hrel
              obtain ⟨hk, S12⟩ := hrel
              refine T_seq fun K24 hK24 => ?_
              refine T_seq fun K25 hK25 => ?_
              refine T_region ?_
              refine L_y (y_move rfl) rfl ?_
              refine L_y (y_lss rfl rfl) rfl ?_
              refine L_nil ?_
              refine hK25 _ _ ?_
              refine T_cond rfl (fun h66 => ?_) (fun h66 => ?_)
              ·
                refine T_skip ?_
                refine hK24 _ _ ?_
                refine T_seq fun K26 hK26 => ?_
                refine T_block ?_
                refine T_seq fun K27 hK27 => ?_
                refine T_region ?_
                refine L_y (y_assign rfl) rfl ?_
                refine L_nil ?_
                refine hK27 _ _ ?_
                refine T_seq fun K28 hK28 => ?_
                refine T_seq fun K29 hK29 => ?_
                refine T_region ?_
                refine L_y (y_assign rfl) rfl ?_
                refine L_nil ?_
                refine hK29 _ _ ?_
                refine T_block ?_
                refine T_loop1 [(3, _), (6, _), (9, _), (10, _)] (fun (j : Nat) => [(12, .int .i64 (j : Int)), (11, .int .i64 (cl (zs.take j) (k + 1) : Int))]) (fun (j : Nat) => l.length - j) (fun (j : Nat) (w : World) => j ≤ l.length ∧ Zx.St w0 noM [blk b1 23 (idf of).toArray, Zx.row 86 34 A20 l.length c20 (zs.flatMap plf), Zx.row 5 1 A1 (8 + 4 * k) c1 (bL (headB ++ fanB zs k))] w) 0 (Sub.cons rfl (by first | rfl | (rw [List.take_zero]; rfl)) (Sub.cons rfl (by first | rfl | (rw [List.take_zero]; rfl)) (Sub.nil _))) (Sub.cons rfl rfl (Sub.cons rfl rfl (Sub.cons rfl rfl (Sub.cons rfl rfl (Sub.nil _))))) ?_ ?_
                ·
                  exact ⟨by omega, S12⟩
                ·
                  intro j w13 hrel
                  obtain ⟨hj, S13⟩ := hrel
                  refine T_seq fun K30 hK30 => ?_
                  refine T_seq fun K31 hK31 => ?_
                  refine T_region ?_
                  refine L_y (y_move rfl) rfl ?_
                  refine L_y (y_move rfl) rfl ?_
                  refine L_y (y_len Try.underlying46 rfl) rfl ?_
                  refine L_y (y_lss rfl rfl) rfl ?_
                  refine L_nil ?_
                  refine hK31 _ _ ?_
                  refine T_cond rfl (fun h72 => ?_) (fun h72 => ?_)
                  ·
                    obtain ⟨y, hy⟩ : ∃ y, zs[j]? = some y := ⟨_, List.getElem?_eq_getElem (by omega)⟩
                    have hcj := cl_take zs j (k + 1)
                    have hfy := fb_lt y
                    refine T_skip ?_
                    refine hK30 _ _ ?_
                    refine T_seq fun K32 hK32 => ?_
                    refine T_block ?_
                    refine T_seq fun K33 hK33 => ?_
                    refine T_region ?_
                    refine L_y (y_move rfl) rfl ?_
                    refine L_y (y_move rfl) rfl ?_
                    refine L_y (y_idx Try.underlying46 sz86 rfl rfl (S13.row 1 rfl) inferInstance (by omega)) rfl ?_
                    refine L_y (y_fieldR 0 Try.underlying86 rfl sz23 rfl rfl (S13.row 1 rfl) (by omega) rfl) rfl ?_
                    refine L_y (y_idxAR Try.underlying23 sz5 rfl (S13.row 1 rfl) (by omega) rfl inferInstance (by omega)) rfl ?_
                    refine L_y (y_ldf Try.underlying5 rfl rfl (S13.row 1 rfl) (by omega) (pl_c0 hy)) rfl ?_
                    refine L_y (y_conv is5 Try.underlying3 rfl (i64w (by omega))) rfl ?_
                    refine L_y (y_move rfl) rfl ?_
                    refine L_y (y_leq rfl rfl) rfl ?_
                    refine L_nil ?_
                    refine hK33 _ _ ?_
                    refine T_cond rfl (fun h83 => ?_) (fun h83 => ?_)
                    ·
                      refine T_region ?_
                      refine L_y (y_move rfl) rfl ?_
                      refine L_y (y_add rfl rfl (i64w (by omega))) rfl ?_
                      refine L_y (y_assign rfl) rfl ?_
                      refine L_nil ?_
                      refine hK32 _ _ ?_
                      refine T_region ?_
                      refine L_y (y_move rfl) rfl ?_
                      refine L_y (y_add rfl rfl (i64w (by omega))) rfl ?_
                      refine L_y (y_assign rfl) rfl ?_
                      refine L_nil ?_
                      refine ⟨j + 1, by omega, ⟨by omega, S13⟩, ?_⟩
                      exact (Sub.cons rfl (by first | rfl | exact congrArg (Value.int _) (by omega)) (Sub.cons rfl (congrArg (Value.int _) (by rw [cl_step hy]; first | (rw [if_pos (by omega)]; omega) | (rw [if_neg (by omega)]; omega))) (Sub.cons rfl rfl (Sub.cons rfl rfl (Sub.cons rfl rfl (Sub.cons rfl rfl (Sub.nil _)))))))
                    ·
                      refine T_skip ?_
                      refine hK32 _ _ ?_
                      refine T_region ?_
                      refine L_y (y_move rfl) rfl ?_
                      refine L_y (y_add rfl rfl (i64w (by omega))) rfl ?_
                      refine L_y (y_assign rfl) rfl ?_
                      refine L_nil ?_
                      refine ⟨j + 1, by omega, ⟨by omega, S13⟩, ?_⟩
                      exact (Sub.cons rfl (by first | rfl | exact congrArg (Value.int _) (by omega)) (Sub.cons rfl (congrArg (Value.int _) (by rw [cl_step hy]; first | (rw [if_pos (by omega)]; omega) | (rw [if_neg (by omega)]; omega))) (Sub.cons rfl rfl (Sub.cons rfl rfl (Sub.cons rfl rfl (Sub.cons rfl rfl (Sub.nil _)))))))
                  ·
                    have hje : j = zs.length := by omega
                    subst hje
                    simp only [List.take_length]
                    have hck := cl_le zs (k + 1)
                    refine T_exit ?_
                    refine hK28 _ _ ?_
                    refine T_region ?_
                    refine L_y (y_move rfl) rfl ?_
                    refine L_y (y_move rfl) rfl ?_
                    refine L_y (y_conv is3 Try.underlying127 rfl (u64w (by omega))) rfl ?_
                    refine L_o (o_call Try.func68 rfl rfl (Oct.refbig (cl zs (k + 1)) 4 w13 (by omega) (by omega)) rfl rfl ?_)
                    rintro e14 w14 ⟨v14, rfl, l14, A14, m14, c14, rfl, O14⟩
                    refine ⟨_, rfl, ?_⟩
                    have S14 := S13.adopt l14 O14
                    have hm14 := (S14.row 3 rfl).lenb; rw [Oct.length_tl] at hm14
                    refine L_o (o_app te27 S14 2 rfl rfl rfl (by first | exact S14.row 1 rfl | exact S14.row 2 rfl | exact S14.row 3 rfl) (by first | exact bL_one _ | exact iL_one _ | (intro u hu; simp at hu; subst hu; rfl) | (simp; done) | (simp [Value.oneCell']; done)) rfl (by omega) (by omega) fun A15 c15 w15 S15 => ?_)
                    refine L_y (y_assign rfl) rfl ?_
                    refine L_nil ?_
                    refine hK26 _ _ ?_
                    refine T_region ?_
                    refine L_y (y_move rfl) rfl ?_
                    refine L_y (y_add rfl rfl (i64w (by omega))) rfl ?_
                    refine L_y (y_assign rfl) rfl ?_
                    refine L_nil ?_
                    have S91 := S15.sel [0, 1, 2] (by decide)
                    have S92 := S91.rowc 2 rfl (n' := 8 + 4 * (k + 1)) (xs' := bL (headB ++ fanB zs (k + 1))) (by omega) (by rw [bL_appI, List.append_assoc, fan_step])
                    refine ⟨k + 1, _, _, by omega, ⟨by omega, S92⟩, ?_⟩
                    exact (Sub.cons rfl (by first | rfl | exact congrArg (Value.int _) (by omega)) (Sub.cons rfl (by first | rfl | (congr 1; omega) | (congr 1)) (Sub.cons rfl rfl (Sub.cons rfl rfl (Sub.nil _)))))
              ·
                have hke : k = 256 := by omega
                subst hke
                refine T_exit ?_
                refine hK22 _ _ ?_
                refine T_seq fun K34 hK34 => ?_
                refine T_seq fun K35 hK35 => ?_
                refine T_region ?_
                refine L_y (y_assign rfl) rfl ?_
                refine L_nil ?_
                refine hK35 _ _ ?_
                refine T_block ?_
                refine T_loop3 [(3, _), (6, _)] (fun (k : Nat) (A1 : Option Addr) (c1 : Nat) => [(13, .int .i64 (k : Int)), (9, .slice A1 (1032 + 32 * k) c1)]) (fun (k : Nat) (A1 : Option Addr) (c1 : Nat) => l.length - k) (fun (k : Nat) (A1 : Option Addr) (c1 : Nat) (w : World) => k ≤ l.length ∧ Zx.St w0 noM [blk b1 23 (idf of).toArray, Zx.row 86 34 A20 l.length c20 (zs.flatMap plf), Zx.row 5 1 A1 (1032 + 32 * k) c1 (bL (headB ++ fanB zs 256 ++ idsB (zs.take k)))] w) 0 A1 c1 (Sub.cons rfl (by first | rfl | exact congrArg (Value.int _) (by omega) | (congr 1; omega)) (Sub.cons rfl (by first | rfl | exact congrArg (Value.int _) (by omega) | (congr 1; omega)) (Sub.nil _))) (Sub.cons rfl rfl (Sub.cons rfl rfl (Sub.nil _))) ?_ ?_
                ·
                  have S90 := S12.sel [0, 1, 2] (by decide)
                  have S91 := S90.rowc 2 rfl (n' := 1032 + 32 * 0) (xs' := bL (headB ++ fanB zs 256 ++ idsB (zs.take 0))) (by omega) (by rw [List.take_zero]; simp [idsB])
                  exact ⟨by omega, S91⟩
                ·
                  intro k A1 c1 w16 hrel
                  obtain ⟨hk, S16⟩ := hrel
                  refine T_seq fun K36 hK36 => ?_
                  refine T_seq fun K37 hK37 => ?_
                  refine T_region ?_
                  refine L_y (y_move rfl) rfl ?_
                  refine L_y (y_move rfl) rfl ?_
                  refine L_y (y_len Try.underlying46 rfl) rfl ?_
                  refine L_y (y_lss rfl rfl) rfl ?_
                  refine L_nil ?_
                  refine hK37 _ _ ?_
                  refine T_cond rfl (fun h94 => ?_) (fun h94 => ?_)
                  ·
                    obtain ⟨x, hx⟩ : ∃ x, zs[k]? = some x := ⟨_, List.getElem?_eq_getElem (by omega)⟩
                    refine T_skip ?_
                    refine hK36 _ _ ?_
                    refine T_seq fun K38 hK38 => ?_
                    refine T_block ?_
                    refine T_region ?_
                    refine L_y (y_move rfl) rfl ?_
                    refine L_y (y_move rfl) rfl ?_
                    refine L_y (y_move rfl) rfl ?_
                    refine L_y (y_idx Try.underlying46 sz86 rfl rfl (S16.row 1 rfl) inferInstance (by omega)) rfl ?_
                    refine L_y (y_fieldR 0 Try.underlying86 rfl sz23 rfl rfl (S16.row 1 rfl) (by omega) rfl) rfl ?_
                    refine L_y (y_ldfN Try.underlying23 rfl sz23 rfl (S16.row 1 rfl) (by omega) (pl_part hx) (idf_len _)) rfl ?_
                    refine L_o (o_call Try.func69 rfl rfl (rbytes x.id w16) rfl rfl ?_)
                    rintro e17 w17 ⟨v17, rfl, l17, A17, c17, rfl, O17⟩
                    refine ⟨_, rfl, ?_⟩
                    have S17 := S16.adopt l17 O17
                    refine L_o (o_app te27 S17 2 rfl rfl rfl (by first | exact S17.row 1 rfl | exact S17.row 2 rfl | exact S17.row 3 rfl) (by first | exact bL_one _ | exact iL_one _ | (intro u hu; simp at hu; subst hu; rfl) | (simp; done) | (simp [Value.oneCell']; done)) rfl (by omega) (by omega) fun A18 c18 w18 S18 => ?_)
                    refine L_y (y_assign rfl) rfl ?_
                    refine L_nil ?_
                    refine hK38 _ _ ?_
                    refine T_region ?_
                    refine L_y (y_move rfl) rfl ?_
                    refine L_y (y_add rfl rfl (i64w (by omega))) rfl ?_
                    refine L_y (y_assign rfl) rfl ?_
                    refine L_nil ?_
                    have S91 := S18.sel [0, 1, 2] (by decide)
                    have S92 := S91.rowc 2 rfl (n' := 1032 + 32 * (k + 1)) (xs' := bL (headB ++ fanB zs 256 ++ idsB (zs.take (k + 1)))) (by omega) (by rw [bL_appI, List.append_assoc (headB ++ fanB zs 256), ids_step hx])
                    refine ⟨k + 1, _, _, by omega, ⟨by omega, S92⟩, ?_⟩
                    exact (Sub.cons rfl (by first | rfl | exact congrArg (Value.int _) (by omega)) (Sub.cons rfl (by first | rfl | (congr 1; omega) | (congr 1)) (Sub.cons rfl rfl (Sub.cons rfl rfl (Sub.nil _)))))
                  ·
                    have hke : k = zs.length := by omega
                    subst hke
                    rw [List.take_length] at S16
                    refine T_exit ?_
                    refine hK34 _ _ ?_
                    refine T_seq fun K39 hK39 => ?_
                    refine T_seq fun K40 hK40 => ?_
                    refine T_region ?_
                    refine L_y (y_assign rfl) rfl ?_
                    refine L_nil ?_
                    refine hK40 _ _ ?_
                    refine T_block ?_
                    refine T_loop3 [(3, _), (6, _)] (fun (k : Nat) (A1 : Option Addr) (c1 : Nat) => [(14, .int .i64 (k : Int)), (9, .slice A1 (1032 + 32 * l.length + 4 * k) c1)]) (fun (k : Nat) (A1 : Option Addr) (c1 : Nat) => l.length - k) (fun (k : Nat) (A1 : Option Addr) (c1 : Nat) (w : World) => k ≤ l.length ∧ Zx.St w0 noM [blk b1 23 (idf of).toArray, Zx.row 86 34 A20 l.length c20 (zs.flatMap plf), Zx.row 5 1 A1 (1032 + 32 * l.length + 4 * k) c1 (bL (headB ++ fanB zs 256 ++ idsB zs ++ smsB (zs.take k)))] w) 0 A1 c1 (Sub.cons rfl (by first | rfl | exact congrArg (Value.int _) (by omega) | (congr 1; omega)) (Sub.cons rfl (by first | rfl | exact congrArg (Value.int _) (by omega) | (congr 1; omega)) (Sub.nil _))) (Sub.cons rfl rfl (Sub.cons rfl rfl (Sub.nil _))) ?_ ?_
                    ·
                      have S90 := S16.sel [0, 1, 2] (by decide)
                      have S91 := S90.rowc 2 rfl (n' := 1032 + 32 * l.length + 4 * 0) (xs' := bL (headB ++ fanB zs 256 ++ idsB zs ++ smsB (zs.take 0))) (by omega) (by rw [List.take_zero]; simp [smsB])
                      exact ⟨by omega, S91⟩
                    ·
                      intro k A1 c1 w19 hrel
                      obtain ⟨hk, S19⟩ := hrel
                      refine T_seq fun K41 hK41 => ?_
                      refine T_seq fun K42 hK42 => ?_
                      refine T_region ?_
                      refine L_y (y_move rfl) rfl ?_
                      refine L_y (y_move rfl) rfl ?_
                      refine L_y (y_len Try.underlying46 rfl) rfl ?_
                      refine L_y (y_lss rfl rfl) rfl ?_
                      refine L_nil ?_
                      refine hK42 _ _ ?_
                      refine T_cond rfl (fun h108 => ?_) (fun h108 => ?_)
                      ·
                        obtain ⟨x, hx⟩ : ∃ x, zs[k]? = some x := ⟨_, List.getElem?_eq_getElem (by omega)⟩
                        have hr := hro x (List.mem_of_getElem? hx)
                        have hr0 := hr.s0; have hr1 := hr.s1
                        refine T_skip ?_
                        refine hK41 _ _ ?_
                        refine T_seq fun K43 hK43 => ?_
                        refine T_block ?_
                        refine T_region ?_
                        refine L_y (y_move rfl) rfl ?_
                        refine L_y (y_move rfl) rfl ?_
                        refine L_y (y_move rfl) rfl ?_
                        refine L_y (y_idx Try.underlying46 sz86 rfl rfl (S19.row 1 rfl) inferInstance (by omega)) rfl ?_
                        refine L_y (y_fieldR 33 Try.underlying86 rfl sz60 rfl rfl (S19.row 1 rfl) (by omega) rfl) rfl ?_
                        refine L_y (y_ldf Try.underlying60 rfl rfl (S19.row 1 rfl) (by omega) (pl_c33 hx)) rfl ?_
                        refine L_y (y_conv is60 Try.underlying127 rfl (i_u64 hr0 hr1)) rfl ?_
                        refine L_o (o_call Try.func68 rfl rfl (Oct.refbig (x.sm.toNat) 4 w19 (by omega) (by omega)) rfl rfl ?_)
                        rintro e20 w20 ⟨v20, rfl, l20, A20, m20, c20, rfl, O20⟩
                        refine ⟨_, rfl, ?_⟩
                        have S20 := S19.adopt l20 O20
                        have hm20 := (S20.row 3 rfl).lenb; rw [Oct.length_tl] at hm20
                        refine L_o (o_app te27 S20 2 rfl rfl rfl (by first | exact S20.row 1 rfl | exact S20.row 2 rfl | exact S20.row 3 rfl) (by first | exact bL_one _ | exact iL_one _ | (intro u hu; simp at hu; subst hu; rfl) | (simp; done) | (simp [Value.oneCell']; done)) rfl (by omega) (by omega) fun A21 c21 w21 S21 => ?_)
                        refine L_y (y_assign rfl) rfl ?_
                        refine L_nil ?_
                        refine hK43 _ _ ?_
                        refine T_region ?_
                        refine L_y (y_move rfl) rfl ?_
                        refine L_y (y_add rfl rfl (i64w (by omega))) rfl ?_
                        refine L_y (y_assign rfl) rfl ?_
                        refine L_nil ?_
                        have S91 := S21.sel [0, 1, 2] (by decide)
                        have S92 := S91.rowc 2 rfl (n' := 1032 + 32 * l.length + 4 * (k + 1)) (xs' := bL (headB ++ fanB zs 256 ++ idsB zs ++ smsB (zs.take (k + 1)))) (by omega) (by rw [bL_appI, List.append_assoc (headB ++ fanB zs 256 ++ idsB zs), sms_step hx])
                        refine ⟨k + 1, _, _, by omega, ⟨by omega, S92⟩, ?_⟩
                        exact (Sub.cons rfl (by first | rfl | exact congrArg (Value.int _) (by omega)) (Sub.cons rfl (by first | rfl | (congr 1; omega) | (congr 1)) (Sub.cons rfl rfl (Sub.cons rfl rfl (Sub.nil _)))))
                      ·
                        have hke : k = zs.length := by omega
                        subst hke
                        rw [List.take_length] at S19
                        refine T_exit ?_
                        refine hK39 _ _ ?_
                        refine T_seq fun K44 hK44 => ?_
                        refine T_seq fun K45 hK45 => ?_
                        refine T_region ?_
                        refine L_y (y_assign rfl) rfl ?_
                        refine L_nil ?_
                        refine hK45 _ _ ?_
                        refine T_block ?_
                        refine T_loop3 [(3, _), (6, _)] (fun (k : Nat) (A1 : Option Addr) (c1 : Nat) => [(15, .int .i64 (k : Int)), (9, .slice A1 (1032 + 36 * l.length + 4 * k) c1)]) (fun (k : Nat) (A1 : Option Addr) (c1 : Nat) => l.length - k) (fun (k : Nat) (A1 : Option Addr) (c1 : Nat) (w : World) => k ≤ l.length ∧ Zx.St w0 noM [blk b1 23 (idf of).toArray, Zx.row 86 34 A20 l.length c20 (zs.flatMap plf), Zx.row 5 1 A1 (1032 + 36 * l.length + 4 * k) c1 (bL (headB ++ fanB zs 256 ++ idsB zs ++ smsB zs ++ atsB (zs.take k)))] w) 0 A1 c1 (Sub.cons rfl (by first | rfl | exact congrArg (Value.int _) (by omega) | (congr 1; omega)) (Sub.cons rfl (by first | rfl | exact congrArg (Value.int _) (by omega) | (congr 1; omega)) (Sub.nil _))) (Sub.cons rfl rfl (Sub.cons rfl rfl (Sub.nil _))) ?_ ?_
                        ·
                          have S90 := S19.sel [0, 1, 2] (by decide)
                          have S91 := S90.rowc 2 rfl (n' := 1032 + 36 * l.length + 4 * 0) (xs' := bL (headB ++ fanB zs 256 ++ idsB zs ++ smsB zs ++ atsB (zs.take 0))) (by omega) (by rw [List.take_zero]; simp [atsB])
                          exact ⟨by omega, S91⟩
                        ·
                          intro k A1 c1 w22 hrel
                          obtain ⟨hk, S22⟩ := hrel
                          refine T_seq fun K46 hK46 => ?_
                          refine T_seq fun K47 hK47 => ?_
                          refine T_region ?_
                          refine L_y (y_move rfl) rfl ?_
                          refine L_y (y_move rfl) rfl ?_
                          refine L_y (y_len Try.underlying46 rfl) rfl ?_
                          refine L_y (y_lss rfl rfl) rfl ?_
                          refine L_nil ?_
                          refine hK47 _ _ ?_
                          refine T_cond rfl (fun h123 => ?_) (fun h123 => ?_)
                          ·
                            obtain ⟨x, hx⟩ : ∃ x, zs[k]? = some x := ⟨_, List.getElem?_eq_getElem (by omega)⟩
                            have hr := hro x (List.mem_of_getElem? hx)
                            have hr0 := hr.a0; have hr1 := hr.a1
                            refine T_skip ?_
                            refine hK46 _ _ ?_
                            refine T_seq fun K48 hK48 => ?_
                            refine T_block ?_
                            refine T_region ?_
                            refine L_y (y_move rfl) rfl ?_
                            refine L_y (y_move rfl) rfl ?_
                            refine L_y (y_move rfl) rfl ?_
                            refine L_y (y_idx Try.underlying46 sz86 rfl rfl (S22.row 1 rfl) inferInstance (by omega)) rfl ?_
                            refine L_y (y_fieldR 32 Try.underlying86 rfl sz3 rfl rfl (S22.row 1 rfl) (by omega) rfl) rfl ?_
                            refine L_y (y_ldf Try.underlying3 rfl rfl (S22.row 1 rfl) (by omega) (pl_c32 hx)) rfl ?_
                            refine L_y (y_conv is3 Try.underlying127 rfl (i_u64 hr0 (by omega))) rfl ?_
                            refine L_o (o_call Try.func68 rfl rfl (Oct.refbig (x.at_.toNat) 4 w22 (by omega) (by omega)) rfl rfl ?_)
                            rintro e23 w23 ⟨v23, rfl, l23, A23, m23, c23, rfl, O23⟩
                            refine ⟨_, rfl, ?_⟩
                            have S23 := S22.adopt l23 O23
                            have hm23 := (S23.row 3 rfl).lenb; rw [Oct.length_tl] at hm23
                            refine L_o (o_app te27 S23 2 rfl rfl rfl (by first | exact S23.row 1 rfl | exact S23.row 2 rfl | exact S23.row 3 rfl) (by first | exact bL_one _ | exact iL_one _ | (intro u hu; simp at hu; subst hu; rfl) | (simp; done) | (simp [Value.oneCell']; done)) rfl (by omega) (by omega) fun A24 c24 w24 S24 => ?_)
                            refine L_y (y_assign rfl) rfl ?_
                            refine L_nil ?_
                            refine hK48 _ _ ?_
                            refine T_region ?_
                            refine L_y (y_move rfl) rfl ?_
                            refine L_y (y_add rfl rfl (i64w (by omega))) rfl ?_
                            refine L_y (y_assign rfl) rfl ?_
                            refine L_nil ?_
                            have S91 := S24.sel [0, 1, 2] (by decide)
                            have S92 := S91.rowc 2 rfl (n' := 1032 + 36 * l.length + 4 * (k + 1)) (xs' := bL (headB ++ fanB zs 256 ++ idsB zs ++ smsB zs ++ atsB (zs.take (k + 1)))) (by omega) (by rw [bL_appI, List.append_assoc (headB ++ fanB zs 256 ++ idsB zs ++ smsB zs), ats_step hx])
                            refine ⟨k + 1, _, _, by omega, ⟨by omega, S92⟩, ?_⟩
                            exact (Sub.cons rfl (by first | rfl | exact congrArg (Value.int _) (by omega)) (Sub.cons rfl (by first | rfl | (congr 1; omega) | (congr 1)) (Sub.cons rfl rfl (Sub.cons rfl rfl (Sub.nil _)))))
                          ·
                            have hke : k = zs.length := by omega
                            subst hke
                            rw [List.take_length] at S22
                            refine T_exit ?_
                            refine hK44 _ _ ?_
                            refine T_seq fun K49 hK49 => ?_
                            refine T_region ?_
                            refine L_y (y_move rfl) rfl ?_
                            refine L_y (y_ldW Try.underlying23 rfl sz23 rfl (S22.blk 0 rfl) (id_whole of)) rfl ?_
                            refine L_o (o_call Try.func69 rfl rfl (rbytes of w22) rfl rfl ?_)
                            rintro e25 w25 ⟨v25, rfl, l25, A25, c25, rfl, O25⟩
                            refine ⟨_, rfl, ?_⟩
                            have S25 := S22.adopt l25 O25
                            refine L_o (o_app te27 S25 2 rfl rfl rfl (by first | exact S25.row 1 rfl | exact S25.row 2 rfl | exact S25.row 3 rfl) (by first | exact bL_one _ | exact iL_one _ | (intro u hu; simp at hu; subst hu; rfl) | (simp; done) | (simp [Value.oneCell']; done)) rfl (by omega) (by omega) fun A26 c26 w26 S26 => ?_)
                            refine L_o (o_call Try.func70 rfl rfl (rclosed _ _ _ (bodyB zs of) w26 (by rw [bodyB_eq, ← bL_appI]; exact S26.row 2 rfl) (by omega)) rfl rfl ?_)
                            rintro e27 w27 ⟨v27, rfl, l27, A27, c27, rfl, O27⟩
                            refine ⟨_, rfl, ?_⟩
                            have S27 := S26.adopt l27 O27
                            refine L_y (y_assign rfl) rfl ?_
                            refine L_y (y_assign rfl) rfl ?_
                            refine L_nil ?_
                            refine hK49 _ _ ?_
                            refine T_ret ?_
                            repeat (first | with_reducible refine up_then ?_ | with_reducible refine up_in ?_)
                            refine ret2 rfl rfl rfl ?_
                            have he : mkE l = 0 := by unfold mkE; rw [if_neg (by omega), if_neg (fun h => h hnd), if_neg (by rw [← any_perm hp, hfar]; decide)]
                            exact ⟨_, rfl, S27.like0, _, _, _, _, by rw [he], .inr ⟨he, zs, hp, hst, rfl⟩, S27.own 4 rfl⟩
end Go.Proofs.Ytgaklngnfecdaaa.Idx


/-
  What is laid is opened.
-/
namespace Go.Proofs.Ytgaklngnfecdaaa.Idx
open Go.RowKit Zk Zx
open Oid (idf idf_len cmpL)
set_option linter.unusedVariables false
set_option linter.unusedSimpArgs false

theorem be_all : ∀ (l : List UInt8) (a : Nat), l.foldl (fun n c => n * 256 + c.toNat) a = a * 256 ^ l.length + Oct.be l
  | [], a => by simp [Oct.be]
  | c :: l, a => by
    have e : Oct.be (c :: l) = c.toNat * 256 ^ l.length + Oct.be l := by
      rw [Oct.be, List.foldl_cons, be_all l]
      simp
    rw [List.foldl_cons, be_all l, e, List.length_cons, Nat.pow_succ, Nat.add_mul, Nat.mul_assoc a, Nat.mul_comm 256, Nat.add_assoc]
theorem be_cons (c : UInt8) (l : List UInt8) : Oct.be (c :: l) = c.toNat * 256 ^ l.length + Oct.be l := by
  rw [Oct.be, List.foldl_cons, be_all l]
  simp
theorem be_tl (v : Nat) : ∀ j, Oct.be (Oct.tl v j) = v % 256 ^ j
  | 0 => by simp [Oct.tl, Oct.be, Nat.mod_one]
  | j + 1 => by
    rw [Oct.tl, be_cons, Oct.length_tl, be_tl v j, UInt8.toNat_ofNat', Nat.mod_mod, Nat.pow_succ, Nat.mod_mul, Nat.add_comm, Nat.mul_comm]
theorem be_tl4 {v : Nat} (h : v < 4294967296) : Oct.be (Oct.tl v 4) = v := by
  rw [be_tl, Nat.mod_eq_of_lt (by simpa using h)]
theorem tl_be4 {l : List UInt8} (h : l.length = 4) : Oct.tl (Oct.be l) 4 = l := by
  match l, h with
  | [a, b, c, d], _ =>
    have ha := a.toNat_lt
    have hb := b.toNat_lt
    have hc := c.toNat_lt
    have hd := d.toNat_lt
    simp only [Oct.be, Oct.tl, List.foldl_cons, List.foldl_nil, Nat.zero_mul, Nat.zero_add]
    have e1 : (((a.toNat * 256 + b.toNat) * 256 + c.toNat) * 256 + d.toNat) / 256 ^ 3 % 256 = a.toNat := by omega
    have e2 : (((a.toNat * 256 + b.toNat) * 256 + c.toNat) * 256 + d.toNat) / 256 ^ 2 % 256 = b.toNat := by omega
    have e3 : (((a.toNat * 256 + b.toNat) * 256 + c.toNat) * 256 + d.toNat) / 256 ^ 1 % 256 = c.toNat := by omega
    have e4 : (((a.toNat * 256 + b.toNat) * 256 + c.toNat) * 256 + d.toNat) / 256 ^ 0 % 256 = d.toNat := by omega
    rw [e1, e2, e3, e4]
    simp
/-- A chunk of many of one size. -/
theorem cutC {α : Type} (f : α → List UInt8) (s : Nat) (hf : ∀ x, (f x).length = s) : ∀ (l : List α) (k : Nat) (x : α), l[k]? = some x → ((l.flatMap f).drop (k * s)).take s = f x
  | [], k, x, h => by cases h
  | y :: l, 0, x, h => by
    cases h
    rw [List.flatMap_cons, Nat.zero_mul, List.drop_zero, List.take_append_of_le_length (by rw [hf]; omega), List.take_of_length_le (by rw [hf]; omega)]
  | y :: l, k + 1, x, h => by
    rw [List.flatMap_cons, show (k + 1) * s = (f y).length + k * s by rw [hf, Nat.succ_mul]; omega, ← List.drop_drop, List.drop_append_of_le_length (Nat.le_refl _), List.drop_of_length_le (Nat.le_refl _), List.nil_append]
    exact cutC f s hf l k x (by simpa using h)
/-- A part in the midst. -/
theorem midC {p q r : List UInt8} {a j s : Nat} (ha : a = p.length + j) (h : j + s ≤ q.length) : ((p ++ q ++ r).drop a).take s = (q.drop j).take s := by
  subst ha
  rw [List.append_assoc, ← List.drop_drop, List.drop_append_of_le_length (Nat.le_refl _), List.drop_of_length_le (Nat.le_refl _), List.nil_append, List.drop_append_of_le_length (by omega), List.take_append_of_le_length (by rw [List.length_drop]; omega)]
theorem idAt_of {t : List UInt8} {p : Nat} {z : Oid.Id} (h : (t.drop p).take 32 = z.l) : idAt t p = z := by
  unfold idAt
  rw [dif_pos (by rw [h]; exact z.h)]
  exact Oid.Id.ext h
theorem cl_all (l : List Row) : cl l 256 = l.length := by
  unfold cl
  rw [List.countP_eq_length]
  intro x _
  simpa using fb_lt x
section
variable {zs : List Row} {of : Oid.Id}
theorem layB_len : (layB zs of).length = 1096 + 40 * zs.length := by
  unfold layB
  rw [List.length_append, bodyB_len, Sha.length_ofL]
  omega
theorem lay_head : (layB zs of).take 4 = INDX := by
  unfold layB
  rw [bodyB_eq]
  unfold headB
  simp only [List.append_assoc]
  rfl
theorem lay_ver : b4 (layB zs of) 4 = 1 := by
  unfold b4 layB
  have h := midC (p := [73, 78, 68, 88]) (q := Oct.tl 1 4) (r := fanB zs 256 ++ idsB zs ++ smsB zs ++ atsB zs ++ of.l ++ Sha.ofL (bodyB zs of)) (a := 4) (j := 0) (s := 4) rfl (by rw [Oct.length_tl]; omega)
  have e : bodyB zs of ++ Sha.ofL (bodyB zs of) = [73, 78, 68, 88] ++ Oct.tl 1 4 ++ (fanB zs 256 ++ idsB zs ++ smsB zs ++ atsB zs ++ of.l ++ Sha.ofL (bodyB zs of)) := by
    rw [bodyB_eq]; unfold headB; simp only [List.append_assoc]
  rw [e, h, List.drop_zero, List.take_of_length_le (by rw [Oct.length_tl]; omega)]
  exact be_tl4 (by omega)
theorem lay_fan {c : Nat} (hc : c < 256) (hn : zs.length ≤ 600) : b4 (layB zs of) (8 + 4 * c) = cl zs (c + 1) := by
  unfold b4 layB
  have e : bodyB zs of ++ Sha.ofL (bodyB zs of) = headB ++ fanB zs 256 ++ (idsB zs ++ smsB zs ++ atsB zs ++ of.l ++ Sha.ofL (bodyB zs of)) := by
    rw [bodyB_eq]; simp only [List.append_assoc]
  have h := midC (p := headB) (q := fanB zs 256) (r := idsB zs ++ smsB zs ++ atsB zs ++ of.l ++ Sha.ofL (bodyB zs of)) (a := 8 + 4 * c) (j := 4 * c) (s := 4) (by rw [headB_len]) (by rw [fanB_len]; omega)
  rw [e, h, Nat.mul_comm 4 c]
  have h2 := cutC (fun c => Oct.tl (cl zs (c + 1)) 4) 4 (fun c => Oct.length_tl _ 4) (List.range 256) c c (by simp [hc])
  unfold fanB
  rw [h2]
  have := cl_le zs (c + 1)
  exact be_tl4 (by omega)
theorem lay_last (hn : zs.length ≤ 600) : lastN (layB zs of) = zs.length := by
  unfold lastN
  rw [show 1028 = 8 + 4 * 255 by omega, lay_fan (by omega) hn, show 255 + 1 = 256 by omega, cl_all]
theorem lay_id {i : Nat} {x : Row} (hx : zs[i]? = some x) : idAt ((layB zs of).drop 8) (1024 + 32 * i) = x.id := by
  refine idAt_of ?_
  have hi := (List.getElem?_eq_some_iff.1 hx).1
  rw [List.drop_drop]
  unfold layB
  have e : bodyB zs of ++ Sha.ofL (bodyB zs of) = (headB ++ fanB zs 256) ++ idsB zs ++ (smsB zs ++ atsB zs ++ of.l ++ Sha.ofL (bodyB zs of)) := by
    rw [bodyB_eq]; simp only [List.append_assoc]
  have h := midC (p := headB ++ fanB zs 256) (q := idsB zs) (r := smsB zs ++ atsB zs ++ of.l ++ Sha.ofL (bodyB zs of)) (a := 8 + (1024 + 32 * i)) (j := 32 * i) (s := 32) (by rw [List.length_append, headB_len, fanB_len]; omega) (by rw [idsB_len]; omega)
  rw [e, h, Nat.mul_comm 32 i]
  exact cutC (fun x : Row => x.id.l) 32 (fun x => x.id.h) zs i x hx
theorem lay_sm {i : Nat} {x : Row} (hx : zs[i]? = some x) (h0 : 0 ≤ x.sm) (h1 : x.sm ≤ 4294967295) : (b4 ((layB zs of).drop 8) (1024 + 32 * zs.length + 4 * i) : Int) = x.sm := by
  have hi := (List.getElem?_eq_some_iff.1 hx).1
  unfold b4
  rw [List.drop_drop]
  unfold layB
  have e : bodyB zs of ++ Sha.ofL (bodyB zs of) = (headB ++ fanB zs 256 ++ idsB zs) ++ smsB zs ++ (atsB zs ++ of.l ++ Sha.ofL (bodyB zs of)) := by
    rw [bodyB_eq]; simp only [List.append_assoc]
  have h := midC (p := headB ++ fanB zs 256 ++ idsB zs) (q := smsB zs) (r := atsB zs ++ of.l ++ Sha.ofL (bodyB zs of)) (a := 8 + (1024 + 32 * zs.length + 4 * i)) (j := 4 * i) (s := 4) (by rw [List.length_append, List.length_append, headB_len, fanB_len, idsB_len]; omega) (by rw [smsB_len]; omega)
  rw [e, h, Nat.mul_comm 4 i]
  have h2 := cutC (fun x : Row => Oct.tl x.sm.toNat 4) 4 (fun x => Oct.length_tl _ 4) zs i x hx
  unfold smsB
  rw [h2, be_tl4 (by omega)]
  omega
theorem lay_at {i : Nat} {x : Row} (hx : zs[i]? = some x) (h0 : 0 ≤ x.at_) (h1 : x.at_ ≤ 1048576) : (b4 ((layB zs of).drop 8) (1024 + 36 * zs.length + 4 * i) : Int) = x.at_ := by
  have hi := (List.getElem?_eq_some_iff.1 hx).1
  unfold b4
  rw [List.drop_drop]
  unfold layB
  have e : bodyB zs of ++ Sha.ofL (bodyB zs of) = (headB ++ fanB zs 256 ++ idsB zs ++ smsB zs) ++ atsB zs ++ (of.l ++ Sha.ofL (bodyB zs of)) := by
    rw [bodyB_eq]; simp only [List.append_assoc]
  have h := midC (p := headB ++ fanB zs 256 ++ idsB zs ++ smsB zs) (q := atsB zs) (r := of.l ++ Sha.ofL (bodyB zs of)) (a := 8 + (1024 + 36 * zs.length + 4 * i)) (j := 4 * i) (s := 4) (by rw [List.length_append, List.length_append, List.length_append, headB_len, fanB_len, idsB_len, smsB_len]; omega) (by rw [atsB_len]; omega)
  rw [e, h, Nat.mul_comm 4 i]
  have h2 := cutC (fun x : Row => Oct.tl x.at_.toNat 4) 4 (fun x => Oct.length_tl _ 4) zs i x hx
  unfold atsB
  rw [h2, be_tl4 (by omega)]
  omega
theorem lay_of (hn : zs.length ≤ 600) : ofB (layB zs of) = of := by
  unfold ofB
  rw [lay_last hn]
  refine idAt_of ?_
  rw [List.drop_drop]
  unfold layB
  have e : bodyB zs of ++ Sha.ofL (bodyB zs of) = (headB ++ fanB zs 256 ++ idsB zs ++ smsB zs ++ atsB zs) ++ of.l ++ Sha.ofL (bodyB zs of) := by
    rw [bodyB_eq]
  have h := midC (p := headB ++ fanB zs 256 ++ idsB zs ++ smsB zs ++ atsB zs) (q := of.l) (r := Sha.ofL (bodyB zs of)) (a := 8 + (1024 + 40 * zs.length)) (j := 0) (s := 32) (by rw [List.length_append, List.length_append, List.length_append, List.length_append, headB_len, fanB_len, idsB_len, smsB_len, atsB_len]; omega) (by rw [of.h]; omega)
  rw [e, h, List.drop_zero, List.take_of_length_le (by rw [of.h]; omega)]
theorem lay_rows (hn : zs.length ≤ 600) (hok : ∀ x ∈ zs, RowOk x) : rowsB (layB zs of) = zs := by
  unfold rowsB
  rw [lay_last hn]
  apply List.ext_getElem?
  intro i
  by_cases hi : i < zs.length
  · obtain ⟨x, hx⟩ : ∃ x, zs[i]? = some x := ⟨_, List.getElem?_eq_getElem hi⟩
    have hr := hok x (List.mem_of_getElem? hx)
    rw [rowsP_get hi, hx, if_pos hi, if_pos hi, if_pos hi, lay_id hx, lay_sm hx hr.s0 hr.s1, lay_at hx hr.a0 hr.a1]
  · rw [List.getElem?_eq_none (by rw [rowsP_len]; omega), List.getElem?_eq_none (by omega)]
/-- What is laid is opened. -/
theorem open_lay (hn : zs.length ≤ 600) (hok : ∀ x ∈ zs, RowOk x) (hs : StR zs) : openE (layB zs of) = 0 := by
  have hl := layB_len (zs := zs) (of := of)
  have hpre : Pre (layB zs of) := ⟨by omega, fun q => by rcases q with q | q; exact q lay_head; exact q lay_ver, by rw [lay_last hn]; omega, by rw [lay_last hn]; omega, by rw [lay_last hn]; omega⟩
  refine openE_0 hpre ?_ (by rw [lay_rows hn hok]; exact hs) (fun c hc => by rw [lay_rows hn hok]; have := lay_fan (of := of) hc hn; unfold b4 at this ⊢; rw [List.drop_drop, this]) ?_
  · have hb : (bodyB zs of).length = (layB zs of).length - 32 := by rw [bodyB_len]; omega
    unfold layB at hb ⊢
    rw [← hb, List.take_append_of_le_length (Nat.le_refl _), List.take_of_length_le (Nat.le_refl _), List.drop_append_of_le_length (Nat.le_refl _), List.drop_of_length_le (Nat.le_refl _), List.nil_append]
    exact fun q => q rfl
  · rw [lay_rows hn hok]
    exact no_far fun i x _ hx => by have := (hok x (List.mem_of_getElem? hx)).a1; omega
end
end Go.Proofs.Ytgaklngnfecdaaa.Idx


/-
  The law IndexMakes.
-/
namespace Go.Proofs.Ytgaklngnfecdaaa.Idx
open Go.RowKit Zk Zx
open Oid (idf idf_len cmpL)
set_option linter.unusedVariables false
set_option linter.unusedSimpArgs false

theorem mk0 {l : List Row} (h : mkE l = 0) : l.length ≤ 600 ∧ (l.map Row.id).Nodup ∧ l.any farB = false := by
  unfold mkE at h
  split at h
  · cases h
  · rename_i h1
    split at h
    · cases h
    · rename_i h2
      split at h
      · cases h
      · rename_i h3
        refine ⟨by omega, Classical.byContradiction fun q => h2 q, by simpa using h3⟩
theorem openLay (B : Option Addr) (m d : Nat) (zs : List Row) (of : Oid.Id) (w0 : World) (hb : Rs w0 1 B m d (bL (layB zs of))) (hn : zs.length ≤ 600) (hok : ∀ x ∈ zs, RowOk x) (hs : StR zs) :
    Calls Try.prog 28 #[.slice B m d] w0 fun e w' => ∃ u, e = .returned u ∧ Like w0 w' ∧ ∃ g A, u = .tuple #[.pointer (some ⟨g, 0, none⟩), .int .i64 0] ∧ Zx.St w0 noM [Zx.row 119 34 A zs.length zs.length (zs.flatMap rowf), blk g 97 (idxf A zs.length zs.length zs of).toArray] w' :=
  (open_ B m d _ w0 hb).mono fun e w' ⟨u, h1, h2⟩ => by
    rcases h2 with ⟨h2, _⟩ | ⟨_, g, A, h3, h4⟩
    · exact absurd (open_lay hn hok hs) h2
    · rw [lay_rows hn hok, lay_of hn] at h4
      exact ⟨u, h1, h4.like0, g, A, h3, h4⟩
theorem found_yes {l : List Row} {k : Nat} {x : Row} {z : Oid.Id} {u : Value} (hs : StR l) (hx : l[k]? = some x) (hz : x.id = z) (h : Found l z u) : u = .tuple #[.agg (plf x).toArray, .bool true] := by
  rcases h with ⟨j, y, hy, e, rfl⟩ | ⟨h, _⟩
  · have e2 : x = y := by
      rcases Nat.lt_trichotomy k j with q | q | q
      · have := hs.at hx hy q
        rw [hz, ← e, Oid.lt_irr] at this
        cases this
      · subst q; rw [hx] at hy; cases hy; rfl
      · have := hs.at hy hx q
        rw [hz, ← e, Oid.lt_irr] at this
        cases this
    rw [e2]
  · exact absurd hz (h x (List.mem_of_getElem? hx))
def wI : Oid.Id := ⟨7 :: List.replicate 31 0, rfl⟩
def wO : Oid.Id := ⟨1 :: List.replicate 31 0, rfl⟩
def wR : Row := ⟨wI, 5, 12⟩
theorem made_w {bs : List UInt8} (h : Made [wR] wO bs) : mkE [wR] = 0 ∧ bs = layB [wR] wO := by
  have h0 : mkE [wR] = 0 := by decide +kernel
  rcases h with ⟨e, _⟩ | ⟨e, zs, hp, _, rfl⟩
  · exact absurd h0 e
  · exact ⟨h0, by rw [List.perm_singleton.1 hp]⟩
theorem w_ok : ∀ x ∈ [wR], RowOk x := fun x hx => by
  obtain rfl := List.mem_singleton.1 hx
  exact ⟨by decide, by decide, by decide, by decide⟩
theorem w_st : StR [wR] := List.pairwise_singleton _ _


set_option maxRecDepth 100000 in
theorem works  (w0 : World)  :
    Calls Try.prog 24 #[] w0 fun e w' => ∃ u, e = .returned u ∧ Like w0 w' ∧ u = .bool true := by
  refine enter1 (env := []) [] Try.func24 rfl Try.ntmps24 rfl rfl ?_
  have S0 := St.start w0 noM
  refine T_seq fun K1 hK1 => ?_
  refine T_region ?_
  refine L_y (y_assign rfl) rfl ?_
  refine L_nil ?_
  refine hK1 _ _ ?_
  refine T_seq fun K2 hK2 => ?_
  refine T_region ?_
  refine L_y (y_build rfl (show _ = some (idf wI).toArray by kernel_rfl)) rfl ?_
  refine L_y (y_build rfl (show _ = some (plf wR).toArray by kernel_rfl)) rfl ?_
  refine L_o (o_bsl (plf wR) te43 zz62 S0 rfl rfl rfl (by simp [Value.cells, plf_len]) (by simp [Value.cells]) rfl rfl rfl fun b1 w1 S1 => ?_)
  refine L_y (y_build rfl (show _ = some (idf wO).toArray by kernel_rfl)) rfl ?_
  refine L_o (o_call Try.func25 rfl rfl (make _ _ _ [wR] wO w1 (by have h := S1.row 0 rfl; simpa using h) (fun x hx => ⟨(w_ok x hx).s0, (w_ok x hx).s1⟩)) rfl rfl ?_)
  rintro e2 w2 ⟨v2, rfl, l2, A1, m1, c1, bs, rfl, hM, O2⟩
  refine ⟨_, rfl, ?_⟩
  have S2 := S1.adopt l2 O2
  obtain ⟨he, rfl⟩ := made_w hM
  rw [he]
  have hm1 := (S2.row 1 rfl).lenb; rw [layB_len] at hm1
  have hwl : [wR].length = 1 := rfl
  rw [hwl] at hm1
  refine L_y (y_move rfl) rfl ?_
  refine L_y (y_extract rfl rfl) rfl ?_
  refine L_y (y_extract rfl rfl) rfl ?_
  refine L_y (y_assign rfl) rfl ?_
  refine L_y (y_assign rfl) rfl ?_
  refine L_nil ?_
  refine hK2 _ _ ?_
  refine T_seq fun K3 hK3 => ?_
  refine T_region ?_
  refine L_y (y_move rfl) rfl ?_
  refine L_o (o_call Try.func28 rfl rfl (openLay _ _ _ [wR] wO w2 (S2.row 1 rfl) (by rw [hwl]; omega) w_ok w_st) rfl rfl ?_)
  rintro e3 w3 ⟨v3, rfl, l3, g2, A2, rfl, T3⟩
  refine ⟨_, rfl, ?_⟩
  have S3 := S2.adoptS T3
  refine L_y (y_move rfl) rfl ?_
  refine L_y (y_extract rfl rfl) rfl ?_
  refine L_y (y_extract rfl rfl) rfl ?_
  refine L_y (y_assign rfl) rfl ?_
  refine L_y (y_assign rfl) rfl ?_
  refine L_nil ?_
  refine hK3 _ _ ?_
  refine T_seq fun K4 hK4 => ?_
  refine T_region ?_
  refine L_y (y_move rfl) rfl ?_
  refine L_y (y_build rfl (show _ = some (idf wI).toArray by kernel_rfl)) rfl ?_
  refine L_o (o_call Try.func33 rfl rfl (find g2 A2 1 1 [wR] wO wI w3 (S3.blk 3 rfl) (S3.row 2 rfl) (S3.row_ne 2 3 rfl rfl rfl) w_st (by rw [hwl]; omega)) rfl rfl ?_)
  rintro e4 w4 ⟨v4, rfl, l4, hF4⟩
  refine ⟨_, rfl, ?_⟩
  have S4 := S3.like l4
  have hF := found_yes (k := 0) (x := wR) w_st rfl rfl hF4
  subst hF
  refine L_y (y_move rfl) rfl ?_
  refine L_y (y_extract rfl rfl) rfl ?_
  refine L_y (y_extract rfl rfl) rfl ?_
  refine L_o (o_alloc zz62 S4 rfl fun b5 w5 hb5 S5 => ?_)
  refine L_o (o_stW S5 4 rfl rfl rfl (by rw [plf_sz]; exact sz62) (by first | (rw [plf_sz, plf_sz]; done) | (rw [plf_sz]; rfl)) (fun u hu => plf_one _ u (by rw [List.toList_toArray] at hu; exact hu)) fun w6 S6 => ?_)
  refine L_y (y_assign rfl) rfl ?_
  refine L_nil ?_
  refine hK4 _ _ ?_
  refine T_seq fun K5 hK5 => ?_
  refine T_region ?_
  refine L_y (y_move rfl) rfl ?_
  refine L_y (y_eql rfl rfl) rfl ?_
  refine L_y (y_move rfl) rfl ?_
  refine L_split 28 rfl (fun h28 => ?_) (fun h28 => ?_)
  ·
    refine L_gyes rfl rfl ?_
    refine L_y (y_move rfl) rfl ?_
    refine L_gyes rfl rfl ?_
    refine L_y (y_eql rfl rfl) rfl ?_
    refine L_y ((by first | exact y_pickT rfl rfl | exact y_pickF rfl rfl)) rfl ?_
    refine L_y (y_move rfl) rfl ?_
    refine L_split 32 rfl (fun h32 => ?_) (fun h32 => ?_)
    ·
      refine L_gyes rfl rfl ?_
      refine L_y (y_move rfl) rfl ?_
      refine L_gyes rfl rfl ?_
      refine L_y (y_len Try.underlying27 rfl) rfl ?_
      refine L_gyes rfl rfl ?_
      refine L_y (y_eql rfl rfl) rfl ?_
      refine L_y ((by first | exact y_pickT rfl rfl | exact y_pickF rfl rfl)) rfl ?_
      refine L_y (y_move rfl) rfl ?_
      refine L_split 37 rfl (fun h37 => ?_) (fun h37 => ?_)
      ·
        refine L_gyes rfl rfl ?_
        refine L_y (y_move rfl) rfl ?_
        refine L_gyes rfl rfl ?_
        refine L_o (o_call Try.func31 rfl rfl (lenX g2 A2 1 1 [wR] wO w6 (S6.blk 3 rfl) (S6.row 2 rfl)) rfl rfl ?_)
        rintro e10 w10 ⟨v10, rfl, l10, rfl⟩
        refine ⟨_, rfl, ?_⟩
        have S10 := S6.like l10
        refine L_gyes rfl rfl ?_
        refine L_y (y_eql rfl rfl) rfl ?_
        refine L_y ((by first | exact y_pickT rfl rfl | exact y_pickF rfl rfl)) rfl ?_
        refine L_y (y_move rfl) rfl ?_
        refine L_split 42 rfl (fun h42 => ?_) (fun h42 => ?_)
        ·
          refine L_gyes rfl rfl ?_
          refine L_y (y_move rfl) rfl ?_
          refine L_y ((by first | exact y_pickT rfl rfl | exact y_pickF rfl rfl)) rfl ?_
          refine L_y (y_move rfl) rfl ?_
          refine L_gyes rfl rfl ?_
          refine L_y (y_fieldA 32 Try.underlying62 rfl sz3 rfl rfl rfl) rfl ?_
          refine L_gyes rfl rfl ?_
          refine L_y (y_ldc Try.underlying3 rfl rfl (((S10.blk 4 rfl).cell _).trans (pl32 wR))) rfl ?_
          refine L_gyes rfl rfl ?_
          refine L_y (y_eql rfl rfl) rfl ?_
          refine L_y ((by first | exact y_pickT rfl rfl | exact y_pickF rfl rfl)) rfl ?_
          refine L_y (y_move rfl) rfl ?_
          refine L_split 50 rfl (fun h50 => ?_) (fun h50 => ?_)
          ·
            refine L_gyes rfl rfl ?_
            refine L_y (y_move rfl) rfl ?_
            refine L_gyes rfl rfl ?_
            refine L_o (o_call Try.func32 rfl rfl (ofX g2 A2 1 1 [wR] wO w10 (S10.blk 3 rfl) (S10.row 2 rfl)) rfl rfl ?_)
            rintro e13 w13 ⟨v13, rfl, l13, rfl⟩
            refine ⟨_, rfl, ?_⟩
            have S13 := S10.like l13
            refine L_gyes rfl rfl ?_
            refine L_y (y_build rfl (show _ = some (idf wO).toArray by kernel_rfl)) rfl ?_
            refine L_gyes rfl rfl ?_
            refine L_y (y_eqB Try.underlying23 Try.underlying5 sz5 (by kernel_rfl) rfl rfl (Oid.Id.h wO) (Oid.Id.h wO)) rfl ?_
            refine L_y ((by first | exact y_pickT rfl rfl | exact y_pickF rfl rfl)) rfl ?_
            refine L_y (y_assign rfl) rfl ?_
            refine L_nil ?_
            refine hK5 _ _ ?_
            refine T_ret ?_
            repeat (first | with_reducible refine up_then ?_ | with_reducible refine up_in ?_)
            refine ret1 rfl rfl ?_
            exact ⟨_, rfl, S13.like0, by simp⟩
          ·
            exact absurd rfl h50
        ·
          exact absurd rfl h42
      ·
        exact absurd (by omega) h37
    ·
      exact absurd rfl h32
  ·
    exact absurd rfl h28


section
open Go.ChangeShapes Go.WideShapes Go.ChangeAt Go.Deep
set_option maxRecDepth 100000
variable {H : Type} {enc : TypeId × Value → H} {w : World} {base : Nat} {spare : Nat → Bool} {held : Bool}
theorem c23 : Try.prog.cellsOf 23 = 32 := by kernel_rfl
theorem c3 : Try.prog.cellsOf 3 = 1 := by kernel_rfl
theorem c60 : Try.prog.cellsOf 60 = 1 := by kernel_rfl
theorem u32_wf {v : Int} (h : (Lit.int .u32 v).wf = true) : 0 ≤ v ∧ v ≤ 4294967295 := by
  have hx : 0 ≤ v ∧ v ≤ 4294967295 := by simpa [Lit.wf, IntKind.min, IntKind.max, IntKind.signed, IntKind.bits] using h
  exact hx
theorem read_pl {fuel : Nat} {cs : List Value} {x : DataW H × List MemPlace} (hlen : cs.length = 34) (h : DataW.trod enc Try.prog w base spare held fuel 62 cs = some x) : ∃ y : Row, cs = plf y ∧ SumOk y := by
  obtain ⟨xs, n, _, hx, hl, hlen2, hg⟩ := DataW.trod_struct Try.underlying62 h
  have e0 := hg 0 _ rfl
  have e1 := hg 1 _ rfl
  have e2 := hg 2 _ rfl
  change DataW.trod enc Try.prog w base spare held n 23 ((cs.drop 0).take (Try.prog.cellsOf 23)) = _ at e0
  change DataW.trod enc Try.prog w base spare held n 3 ((cs.drop 32).take (Try.prog.cellsOf 3)) = _ at e1
  change DataW.trod enc Try.prog w base spare held n 60 ((cs.drop 33).take (Try.prog.cellsOf 60)) = _ at e2
  rw [c23] at e0
  rw [c3] at e1
  rw [c60] at e2
  have hxl : xs.length = 3 := hlen2
  match xs, hxl with
  | [y0, y1, y2], _ =>
    have e0 : DataW.trod enc Try.prog w base spare held n 23 ((cs.drop 0).take 32) = some y0 := e0
    have e1 : DataW.trod enc Try.prog w base spare held n 3 ((cs.drop 32).take 1) = some y1 := e1
    have e2 : DataW.trod enc Try.prog w base spare held n 60 ((cs.drop 33).take 1) = some y2 := e2
    obtain ⟨z, hz⟩ := Oid.read_id e0
    obtain ⟨k, ha, _, _⟩ := DataW.trod_int Try.underlying3 e1
    obtain ⟨s, hs, _, hw⟩ := DataW.trod_int Try.underlying60 e2
    have hw2 := u32_wf hw
    refine ⟨⟨z, s, k⟩, ?_, ⟨hw2.1, hw2.2⟩⟩
    rw [List.drop_zero] at hz
    have q : cs = cs.take 32 ++ ((cs.drop 32).take 1 ++ (cs.drop 33).take 1) := by
      have g : ∀ k, k < cs.length → cs.drop k = (cs.drop k).take 1 ++ cs.drop (k + 1) := fun k hk => by rw [List.drop_eq_getElem_cons hk]; rfl
      have g4 : (cs.drop 33).take 1 = cs.drop 33 := List.take_of_length_le (by rw [List.length_drop]; omega)
      rw [g4, ← g 32 (by omega), List.take_append_drop]
    rw [q, hz, ha, hs]
    rfl
theorem open_pls {r : Reach} {b0 : Nat} {v : Value} {d : DataW H} {p : List MemPlace} (hv : Value.okWide Try.prog w r b0 43 v) (h : DataW.Trod enc Try.prog w base spare held 43 v d p) : ∃ A n c, ∃ l : List Row, v = .slice A n c ∧ Rs w 34 A n c (l.flatMap plf) ∧ ∀ x ∈ l, SumOk x := by
  obtain ⟨fuel, hf⟩ := h
  obtain ⟨A, n, c, l, h1, h2, h3, _⟩ := read_rowN plf SumOk 34 Try.underlying43 (by kernel_rfl) (by decide) plf_len (fun k cs x hl hx => read_pl hl hx) hf
  exact ⟨A, n, c, l, slice_of_cells Try.underlying43 hv h1, h2, h3⟩
end
end Go.Proofs.Ytgaklngnfecdaaa.Idx


/-
  An id of the document's reader.
-/
namespace Go.Proofs.Ytgaklngnfecdaaa.Idx
open Go.RowKit Zk Zx
open Oid (idf idf_len cmpL)
set_option linter.unusedVariables false
set_option linter.unusedSimpArgs false

open Oct (xr xr_lt)
/-- An id of which k bytes are there. -/
def idp (l : List UInt8) (k : Nat) : List UInt8 := l.take k ++ List.replicate (32 - k) 0
theorem idp_len {l : List UInt8} (h : l.length = 32) {k : Nat} (hk : k ≤ 32) : (idp l k).length = 32 := by simp [idp]; omega
theorem idp_set {l : List UInt8} {k : Nat} {x : UInt8} (hx : l[k]? = some x) (hl : l.length = 32) (hk : k < 32) : (bA (idp l k)).setIfInBounds k (.int .u8 (x.toNat : Int)) = bA (idp l (k + 1)) := by
  show ((bL (idp l k)).toArray).setIfInBounds k _ = (bL (idp l (k + 1))).toArray
  rw [List.setIfInBounds_toArray]
  refine congrArg List.toArray ?_
  have e : (bL (idp l k)).set k (.int .u8 (x.toNat : Int)) = bL ((idp l k).set k x) := by
    unfold bL
    rw [List.map_set]
    rfl
  rw [e]
  refine congrArg bL ?_
  unfold idp
  rw [List.set_append_right _ _ (by rw [List.length_take]; omega), take1L hx, List.append_assoc, List.length_take, Nat.min_eq_left (by omega), Nat.sub_self, show 32 - k = (32 - (k + 1)) + 1 by omega, List.replicate_succ]
  rfl
theorem idp_all {l : List UInt8} (h : l.length = 32) : idp l 32 = l := by
  unfold idp
  rw [List.take_of_length_le (by omega)]
  simp
theorem b_whole {l : List UInt8} (h : l.length = 32) : ((bA l).toList.drop 0).take 32 = bL l ∧ (bL l).length = 32 := ⟨by rw [List.drop_zero]; exact List.take_of_length_le (by show (bL l).toArray.toList.length ≤ 32; rw [List.toList_toArray, length_bL]; omega), by rw [length_bL]; exact h⟩


set_option maxRecDepth 100000 in
theorem rid (g : Nat) (A : Option Addr) (n c : Nat) (l : List UInt8) (p : Nat) (z : Oid.Id) (w0 : World) (hw : (xr g A n c p 0).holds w0) (hb : Rs w0 1 A n c (bL l)) (hp : p + 32 ≤ l.length) (hn : n ≤ 70368744177664) (hbg : ∀ ad, 0 < n → A = some ad → ad.block ≠ g) (hz : z.l = (l.drop p).take 32) :
    Calls Try.prog 78 #[.pointer (some ⟨g, 0, none⟩)] w0 fun e w' => ∃ u, e = .returned u ∧ Turned w0 w' (xr g A n c p 0) (xr g A n c (p + 32) 0) ∧ u = .agg (idf z).toArray := by
  refine enter1 (env := [(0, .pointer (some ⟨g, 0, none⟩))]) [.pointer (some ⟨g, 0, none⟩)] Try.func78 rfl Try.ntmps78 rfl rfl ?_
  have S0 := St.borrow1 (xr g A n c p 0) hw (xr_lt hw)
  refine T_seq fun K1 hK1 => ?_
  refine T_region ?_
  refine L_o (o_alloc zz23 S0 rfl fun b1 w1 hb1 S1 => ?_)
  refine L_nil ?_
  refine hK1 _ _ ?_
  refine T_seq fun K2 hK2 => ?_
  refine T_region ?_
  refine L_y (y_move rfl) rfl ?_
  refine L_o (o_call Try.func120 rfl rfl (Oct.xraw g A n c l p 0 (32 : Nat) w1 (S1.get 0 rfl) (S1.rdM hb hbg) (by omega) hn hbg (by omega)) rfl rfl ?_)
  rintro e2 w2 ⟨v2, rfl, T2, B7, d7, rfl, hr2, hd2⟩
  refine ⟨_, rfl, ?_⟩
  have S2 := S1.turn 0 rfl T2
  obtain ⟨e1, e2, e3⟩ := Oct.rn_ok (l := l) (p := p) (k := 32) (by omega)
  rw [e1, ← hz] at hr2 hd2
  have S3 := St.newT S1 0 rfl T2 (fun i hi => hi) hr2 (fun i hi => ⟨hd2 i hi, (World.ownsRow.lt hr2 i hi).2⟩)
  rw [e2, e3] at S3
  rw [e1, ← hz, z.h]
  rw [z.h] at S3
  refine L_y (y_assign rfl) rfl ?_
  refine L_nil ?_
  refine hK2 _ _ ?_
  refine T_seq fun K3 hK3 => ?_
  refine T_region ?_
  refine L_o (o_alloc zz23 S3 rfl fun b4 w4 hb4 S4 => ?_)
  refine L_nil ?_
  refine hK3 _ _ ?_
  refine T_seq fun K4 hK4 => ?_
  refine T_seq fun K5 hK5 => ?_
  refine T_region ?_
  refine L_y (y_assign rfl) rfl ?_
  refine L_nil ?_
  refine hK5 _ _ ?_
  refine T_block ?_
  refine T_loop1 [(2, _), (3, _), (4, _)] (fun (k : Nat) => [(5, .int .i64 (k : Int))]) (fun (k : Nat) => 32 - k) (fun (k : Nat) (w : World) => k ≤ 32 ∧ Zx.St w0 (xr g A n c p 0).dom [xr g A n c (p + 32) 0, blk b1 23 (bA (idp z.l 0)), Zx.row 5 1 B7 32 d7 (bL z.l), blk b4 23 (bA (idp z.l k))] w) 0 (Sub.cons rfl (by first | rfl | exact congrArg (Value.int _) (by omega)) (Sub.nil _)) (Sub.cons rfl rfl (Sub.cons rfl rfl (Sub.cons rfl rfl (Sub.nil _)))) ?_ ?_
  ·
    have S70 : Zx.St w0 (xr g A n c p 0).dom [xr g A n c (p + 32) 0, blk b1 23 (bA (idp z.l 0)), Zx.row 5 1 B7 32 d7 (bL z.l), blk b4 23 (bA (idp z.l 0))] w4 := S4.cast (by kernel_rfl)
    exact ⟨by omega, S70⟩
  ·
    intro k w5 hrel
    obtain ⟨hk, S5⟩ := hrel
    refine T_seq fun K6 hK6 => ?_
    refine T_seq fun K7 hK7 => ?_
    refine T_region ?_
    refine L_y (y_move rfl) rfl ?_
    refine L_y (y_move rfl) rfl ?_
    refine L_y (y_len Try.underlying27 rfl) rfl ?_
    refine L_y (y_lss rfl rfl) rfl ?_
    refine L_nil ?_
    refine hK7 _ _ ?_
    refine T_cond rfl (fun h11 => ?_) (fun h11 => ?_)
    ·
      have hz32 := z.h
      obtain ⟨x, hx⟩ : ∃ x, z.l[k]? = some x := ⟨_, List.getElem?_eq_getElem (by omega)⟩
      refine T_skip ?_
      refine hK6 _ _ ?_
      refine T_seq fun K8 hK8 => ?_
      refine T_block ?_
      refine T_region ?_
      refine L_y (y_move rfl) rfl ?_
      refine L_y (y_move rfl) rfl ?_
      refine L_y (y_move rfl) rfl ?_
      refine L_y (y_idx Try.underlying27 sz5 rfl rfl (S5.row 2 rfl) inferInstance (by omega)) rfl ?_
      refine L_y (y_ldr Try.underlying5 rfl rfl (S5.row 2 rfl) (bL_get _ _ _ hx)) rfl ?_
      refine L_y (y_idxA0 Try.underlying23 sz5 rfl rfl inferInstance (by omega)) rfl ?_
      refine L_o (o_st1 S5 3 rfl rfl rfl rfl sz5 (by show k < (bL (idp z.l k)).toArray.size; rw [List.size_toArray, length_bL, idp_len z.h (by omega)]; omega) fun w6 S6 => ?_)
      have S90 := S6.blkc 3 rfl (idp_set hx z.h (by omega))
      refine L_nil ?_
      refine hK8 _ _ ?_
      refine T_region ?_
      refine L_y (y_move rfl) rfl ?_
      refine L_y (y_add rfl rfl (i64w (by omega))) rfl ?_
      refine L_y (y_assign rfl) rfl ?_
      refine L_nil ?_
      refine ⟨k + 1, by omega, ⟨by omega, S90⟩, ?_⟩
      exact (Sub.cons rfl (by first | rfl | exact congrArg (Value.int _) (by omega)) (Sub.cons rfl rfl (Sub.cons rfl rfl (Sub.cons rfl rfl (Sub.nil _)))))
    ·
      obtain rfl : k = 32 := by omega
      rw [idp_all z.h] at S5
      refine T_exit ?_
      refine hK4 _ _ ?_
      refine T_seq fun K9 hK9 => ?_
      refine T_region ?_
      refine L_y (y_ldW Try.underlying23 rfl sz23 rfl (S5.blk 3 rfl) (b_whole z.h)) rfl ?_
      refine L_o (o_stW S5 1 rfl rfl rfl (by rw [List.size_toArray, length_bL, z.h]; exact sz23) (by rw [size_bA, List.size_toArray, length_bL, z.h, idp_len z.h (by omega)]) (bL_one _) fun w7 S7 => ?_)
      refine L_nil ?_
      refine hK9 _ _ ?_
      refine T_ret ?_
      repeat (first | with_reducible refine up_then ?_ | with_reducible refine up_in ?_)
      refine retc rfl rfl (S7.blk 1 rfl) Try.underlying23 rfl (by rw [List.size_toArray, length_bL, z.h]; exact sz23) ?_
      exact ⟨_, rfl, S7.turned1 0 rfl, rfl⟩
end Go.Proofs.Ytgaklngnfecdaaa.Idx


/-
  Open of the document.
-/
namespace Go.Proofs.Ytgaklngnfecdaaa.Idx
open Go.RowKit Zk Zx
open Oid (idf idf_len cmpL)
set_option linter.unusedVariables false
set_option linter.unusedSimpArgs false

open Oct (xr xr_lt)
/-- The document's index: its places, its trailer. -/
def rixf (A : Option Addr) (n c : Nat) (of : Oid.Id) : List Value := .slice A n c :: idf of
theorem rixf_len (A : Option Addr) (n c : Nat) (of : Oid.Id) : (rixf A n c of).length = 33 := by simp [rixf, idf_len]
theorem rixf_one (A : Option Addr) (n c : Nat) (of : Oid.Id) : ∀ u ∈ rixf A n c of, u.oneCell' = true := fun u hu => by
  rcases List.mem_cons.1 hu with rfl | h
  · rfl
  · exact bL_one _ u h
theorem rixf_row (A : Option Addr) (n c : Nat) (of : Oid.Id) : (rixf A n c of).toArray[0]? = some (.slice A n c) := rfl
theorem rixf_whole (A : Option Addr) (n c : Nat) (of : Oid.Id) : ((rixf A n c of).toArray.toList.drop 0).take 33 = rixf A n c of ∧ (rixf A n c of).length = 33 := ⟨by rw [List.drop_zero, List.toList_toArray]; exact List.take_of_length_le (by rw [rixf_len]; omega), rixf_len A n c of⟩
theorem rixf_setr {A A' : Option Addr} {n c n' c' : Nat} {of : Oid.Id} : (rixf A n c of).toArray.setIfInBounds 0 (.slice A' n' c') = (rixf A' n' c' of).toArray := by
  rw [List.setIfInBounds_toArray]
  rfl
theorem rixf_seto {A : Option Addr} {n c : Nat} {of z : Oid.Id} : ((rixf A n c of).toArray.toList.take 1 ++ (idf z).toArray.toList ++ (rixf A n c of).toArray.toList.drop (1 + (idf z).toArray.size)).toArray = (rixf A n c z).toArray := by
  refine congrArg List.toArray ?_
  rw [List.drop_of_length_le (by rw [List.toList_toArray, rixf_len, List.size_toArray, idf_len]; omega), List.append_nil]
  rfl
/-- What the document's Open answers. -/
def ROpened (w0 w' : World) (b : List UInt8) (u : Value) : Prop := (openE b ≠ 0 ∧ u = .tuple #[.agg (rixf none 0 0 zI).toArray, .int .i64 (openE b)]) ∨ (openE b = 0 ∧ ∃ A c, u = .tuple #[.agg (rixf A (rowsB b).length c (ofB b)).toArray, .int .i64 0] ∧ w'.ownsRow w0.heap.size 86 34 (.slice A (rowsB b).length c) (rowsB b).length ((rowsB b).flatMap plf))
theorem idAt_8 (b : List UInt8) (p : Nat) : idAt (b.drop 8) p = idAt b (8 + p) := by unfold idAt; simp only [List.drop_drop]
theorem b4_8 (b : List UInt8) (p : Nat) : b4 (b.drop 8) p = b4 b (8 + p) := by unfold b4; rw [List.drop_drop]
/-- The rows read so far, in places. -/
theorem pl_set32 (x : Row) (v : Int) : plf { x with at_ := v } = (plf x).set 32 (.int .i64 v) := by
  unfold plf
  rw [List.set_append_right _ _ (by rw [idf_len]; omega), idf_len]
  rfl
theorem pl_set33 (x : Row) (v : Int) : plf { x with sm := v } = (plf x).set 33 (.int .u32 v) := by
  unfold plf
  rw [List.set_append_right _ _ (by rw [idf_len]; omega), idf_len]
  rfl
theorem flat_fldP {L : List Row} {k o : Nat} {x y : Row} {v : Value} (hx : L[k]? = some x) (ho : o < 34) (hy : plf y = (plf x).set o v) : (L.flatMap plf).set (k * 34 + o) v = (L.set k y).flatMap plf := by
  have hk := (List.getElem?_eq_some_iff.1 hx).1
  have hself : L.set k x = L := by
    obtain ⟨h1, h2⟩ := List.getElem?_eq_some_iff.1 hx
    rw [← h2, List.set_getElem_self]
  have e0 := flat_set plf plf_len L k x hk
  rw [hself] at e0
  rw [← flat_set plf plf_len L k _ hk, hy]
  have hT : ((L.flatMap plf).take (k * 34)).length = k * 34 := by
    rw [List.length_take, flat_len plf 34 plf_len]
    have : (k + 1) * 34 ≤ L.length * 34 := Nat.mul_le_mul_right _ hk
    omega
  conv => lhs; rw [← e0]
  rw [List.set_append_left _ _ (by rw [List.length_append, hT, plf_len]; omega), List.set_append_right _ _ (by rw [hT]; omega), hT, show k * 34 + o - k * 34 = o by omega]
theorem ver_iff (b : List UInt8) (h : 8 ≤ b.length) : (b.drop 4).take (8 - 4) = Oct.tl 1 4 ↔ b4 b 4 = 1 := by
  constructor
  · intro q
    unfold b4
    rw [show (8 - 4 : Nat) = 4 from rfl] at q
    rw [q]
    exact be_tl4 (by omega)
  · intro q
    have h4 : ((b.drop 4).take 4).length = 4 := by rw [List.length_take, List.length_drop]; omega
    have := tl_be4 h4
    unfold b4 at q
    rw [q] at this
    exact this.symm
theorem built_rz (z : Oid.Id) : Try.prog.built 86 [(0, .agg (idf z).toArray)] = some (plf ⟨z, 0, 0⟩).toArray := by
  obtain ⟨l, h⟩ := z
  obtain ⟨a0, a1, a2, a3, a4, a5, a6, a7, a8, a9, a10, a11, a12, a13, a14, a15, a16, a17, a18, a19, a20, a21, a22, a23, a24, a25, a26, a27, a28, a29, a30, a31, rfl⟩ := list32 l h
  kernel_rfl

theorem head_rs {w : World} {A : Option Addr} {n c : Nat} {b : List UInt8} (h : Rs w 1 A n c (bL b)) (h1 : 4 ≤ n) : Rs w 1 (cutA A c 0 1) (4 - 0) (c - 0) (bL (b.take 4)) := h.cutb (l := 0) (u := 4) (by omega) h1


set_option maxRecDepth 100000 in
theorem ropen (B : Option Addr) (m d : Nat) (b : List UInt8) (w0 : World) (hb : Rs w0 1 B m d (bL b)) (hm9 : m ≤ 100000) :
    Calls Try.prog 29 #[.slice B m d] w0 fun e w' => ∃ u, e = .returned u ∧ Like w0 w' ∧ ROpened w0 w' b u := by
  refine enter1 (env := [(0, .slice B m d)]) [.slice B m d] Try.func29 rfl Try.ntmps29 rfl rfl ?_
  have hm := hb.lenb; have hcap := hb.cap; have hmax := hb.max
  have S0 := St.start w0 noM
  refine T_seq fun K1 hK1 => ?_
  refine T_region ?_
  refine L_o (o_alloc zz53 S0 rfl fun b1 w1 hb1 S1 => ?_)
  have S2 : Zx.St w0 noM [blk b1 53 (rixf none 0 0 zI).toArray] w1 := S1.cast (by kernel_rfl)
  refine L_y (y_assign rfl) rfl ?_
  refine L_nil ?_
  refine hK1 _ _ ?_
  refine T_seq fun K2 hK2 => ?_
  refine T_seq fun K3 hK3 => ?_
  refine T_region ?_
  refine L_y (y_move rfl) rfl ?_
  refine L_y (y_len Try.underlying27 rfl) rfl ?_
  refine L_y (y_lss rfl rfl) rfl ?_
  refine L_nil ?_
  refine hK3 _ _ ?_
  refine T_cond rfl (fun h20 => ?_) (fun h20 => ?_)
  ·
    refine T_seq fun K4 hK4 => ?_
    refine T_region ?_
    refine L_y (y_build rfl (show _ = some (rixf none 0 0 zI).toArray by kernel_rfl)) rfl ?_
    refine L_o (o_stW S2 0 rfl rfl rfl (by rw [List.size_toArray, rixf_len]; exact sz53) (by first | (rw [List.size_toArray, List.size_toArray, rixf_len, rixf_len]; done) | (rw [List.size_toArray, rixf_len]; rfl) | (rw [List.size_toArray, rixf_len])) (fun u hu => rixf_one _ _ _ _ u (by rw [List.toList_toArray] at hu; exact hu)) fun w3 S3 => ?_)
    refine L_y (y_assign rfl) rfl ?_
    refine L_nil ?_
    refine hK4 _ _ ?_
    refine T_ret ?_
    repeat (first | with_reducible refine up_then ?_ | with_reducible refine up_in ?_)
    refine retct rfl rfl rfl (S3.blk 0 rfl) Try.underlying53 rfl (by rw [List.size_toArray, rixf_len]; exact sz53) ?_
    have he : openE b = 10 := openE_10 (by omega)
    exact ⟨_, rfl, S3.like0, .inl ⟨by rw [he]; decide, by rw [he]⟩⟩
  ·
    refine T_skip ?_
    refine hK2 _ _ ?_
    refine T_seq fun K5 hK5 => ?_
    refine T_seq fun K6 hK6 => ?_
    refine T_drawnL [(0, true), (1, true), (2, true), (3, true), (4, true), (5, true), (6, true), (7, false), (8, false), (9, true), (10, true)] hmix (by kernel_rfl) fun w4 l4 => ?_
    have S4 := S2.like l4
    refine DL_y rfl (y_move rfl) rfl ?_
    refine DL_y rfl (y_sliceH Try.underlying27 sz5 rfl rfl inferInstance (by omega)) rfl ?_
    refine DL_y rfl (y_bstr Try.underlying27 Try.underlying5 Try.underlying9 rfl (head_rs (S4.rd hb) (by omega))) rfl ?_
    refine DL_y rfl (y_sneq rfl rfl) rfl ?_
    refine DL_y rfl (y_move rfl) rfl ?_
    refine DL_split 26 rfl (fun h26 => ?_) (fun h26 => ?_)
    ·
      refine DL_gno rfl rfl rfl rfl ?_
      refine DL_gno rfl rfl rfl rfl ?_
      refine DL_ogno rfl rfl rfl rfl ?_
      refine DL_ogno rfl rfl rfl rfl ?_
      refine DL_gno rfl rfl rfl rfl ?_
      refine DL_y rfl ((by first | exact y_pickT rfl rfl | exact y_pickF rfl rfl)) rfl ?_
      refine DL_nil ?_
      refine hK6 _ _ ?_
      refine T_true rfl ?_
      refine T_seq fun K7 hK7 => ?_
      refine T_region ?_
      refine L_y (y_build rfl (show _ = some (rixf none 0 0 zI).toArray by kernel_rfl)) rfl ?_
      refine L_o (o_stW S4 0 rfl rfl rfl (by rw [List.size_toArray, rixf_len]; exact sz53) (by first | (rw [List.size_toArray, List.size_toArray, rixf_len, rixf_len]; done) | (rw [List.size_toArray, rixf_len]; rfl) | (rw [List.size_toArray, rixf_len])) (fun u hu => rixf_one _ _ _ _ u (by rw [List.toList_toArray] at hu; exact hu)) fun w5 S5 => ?_)
      refine L_y (y_assign rfl) rfl ?_
      refine L_nil ?_
      refine hK7 _ _ ?_
      refine T_ret ?_
      repeat (first | with_reducible refine up_then ?_ | with_reducible refine up_in ?_)
      refine retct rfl rfl rfl (S5.blk 0 rfl) Try.underlying53 rfl (by rw [List.size_toArray, rixf_len]; exact sz53) ?_
      have he : openE b = 12 := openE_12 (by omega) (.inl ((indx_ne _).1 h26))
      exact ⟨_, rfl, S5.like0, .inl ⟨by rw [he]; decide, by rw [he]⟩⟩
    ·
      have hx0 : b.take 4 = INDX := by by_cases q : b.take 4 = INDX; exact q; exact absurd ((indx_ne _).2 q) h26
      refine DL_gyes rfl rfl rfl (y_move rfl) rfl ?_
      refine DL_gyes rfl rfl rfl (y_slice Try.underlying27 sz5 rfl rfl rfl inferInstance inferInstance (by omega) (by omega)) rfl ?_
      refine DL_ogyes rfl rfl rfl (o_call Try.func68 rfl rfl (Oct.refbig 1 4 w4 (by omega) (by omega)) rfl rfl ?_)
      rintro e6 w6 ⟨v6, rfl, l6, A6, m6, c6, rfl, O6⟩
      refine ⟨_, rfl, l6, ?_⟩
      have S6 := S4.adopt l6 O6
      have q6 := l6
      refine DL_ogyes rfl rfl rfl (o_call Try.func18 rfl rfl (Oct.same _ _ _ _ _ _ _ _ w6 ((S6.rd hb).cutb (l := 4) (u := 8) (by omega) (by omega)) (S6.row 1 rfl)) rfl rfl ?_)
      rintro e7 w7 ⟨v7, rfl, l7, rfl⟩
      refine ⟨_, rfl, (Like.trans q6 l7), ?_⟩
      have S7 := S6.like l7
      have q7 := (Like.trans q6 l7)
      refine DL_gyes rfl rfl rfl ((by first | exact y_notD rfl | exact y_not rfl)) rfl ?_
      refine DL_y rfl ((by first | exact y_pickT rfl rfl | exact y_pickF rfl rfl)) rfl ?_
      refine DL_nil ?_
      refine hK6 _ _ ?_
      refine T_cond rfl (fun h32 => ?_) (fun h32 => ?_)
      ·
        refine T_seq fun K8 hK8 => ?_
        refine T_region ?_
        refine L_y (y_build rfl (show _ = some (rixf none 0 0 zI).toArray by kernel_rfl)) rfl ?_
        refine L_o (o_stW S7 0 rfl rfl rfl (by rw [List.size_toArray, rixf_len]; exact sz53) (by first | (rw [List.size_toArray, List.size_toArray, rixf_len, rixf_len]; done) | (rw [List.size_toArray, rixf_len]; rfl) | (rw [List.size_toArray, rixf_len])) (fun u hu => rixf_one _ _ _ _ u (by rw [List.toList_toArray] at hu; exact hu)) fun w8 S8 => ?_)
        refine L_y (y_assign rfl) rfl ?_
        refine L_nil ?_
        refine hK8 _ _ ?_
        refine T_ret ?_
        repeat (first | with_reducible refine up_then ?_ | with_reducible refine up_in ?_)
        refine retct rfl rfl rfl (S8.blk 0 rfl) Try.underlying53 rfl (by rw [List.size_toArray, rixf_len]; exact sz53) ?_
        have he : openE b = 12 := openE_12 (by omega) (.inr fun q => h32 ((ver_iff b (by omega)).2 q))
        exact ⟨_, rfl, S8.like0, .inl ⟨by rw [he]; decide, by rw [he]⟩⟩
      ·
        have hform : ¬ (b.take 4 ≠ INDX ∨ b4 b 4 ≠ 1) := fun q => by rcases q with q | q; exact q hx0; exact q ((ver_iff b (by omega)).1 (Classical.not_not.1 h32))
        refine T_skip ?_
        refine hK5 _ _ ?_
        refine T_seq fun K9 hK9 => ?_
        refine T_region ?_
        refine L_y (y_move rfl) rfl ?_
        refine L_y (y_build rfl (show _ = some #[Value.slice B m d, Value.int .i64 1028, Value.int .i64 0] by kernel_rfl)) rfl ?_
        refine L_o (o_box rfl S7 rfl fun b9 w9 hb9 S9 => ?_)
        have S10 := S9.sel [0, 2] (by decide)
        have S11 : Zx.St w0 noM [blk b1 53 (rixf none 0 0 zI).toArray, xr b9 B m d (1028) 0] w9 := S10.cast (by kernel_rfl)
        refine L_y (y_assign rfl) rfl ?_
        refine L_nil ?_
        refine hK9 _ _ ?_
        refine T_seq fun K10 hK10 => ?_
        refine T_region ?_
        refine L_y (y_move rfl) rfl ?_
        refine L_o (o_call Try.func77 rfl rfl (Oct.xbig b9 B m d b (1028) 0 4 w9 (S11.get 1 rfl) (S11.rd hb) (by omega) (by omega) (fun ad hn9 hA9 => by have h9 := old_block hb hn9 hA9; omega) (by omega)) rfl rfl ?_)
        rintro e12 w12 ⟨v12, rfl, rfl, T12⟩
        refine ⟨_, rfl, ?_⟩
        have S12 := S11.turn 1 rfl T12
        obtain ⟨e1, e2, e3⟩ := rw_ok (l := b) (p := 1028) (k := 4) (by omega)
        rw [e2, e3] at S12
        have e9 : Oct.be ((b.drop (1028)).take 4) = lastN b := rfl
        rw [e1, e9]
        have hlast : lastN b < 4294967296 := b4_lt _ _
        refine L_y (y_assign rfl) rfl ?_
        refine L_nil ?_
        refine hK10 _ _ ?_
        refine T_seq fun K11 hK11 => ?_
        refine T_seq fun K12 hK12 => ?_
        refine T_region ?_
        refine L_y (y_move rfl) rfl ?_
        refine L_y (y_gtr rfl rfl) rfl ?_
        refine L_nil ?_
        refine hK12 _ _ ?_
        refine T_cond rfl (fun h40 => ?_) (fun h40 => ?_)
        ·
          refine T_seq fun K13 hK13 => ?_
          refine T_region ?_
          refine L_y (y_build rfl (show _ = some (rixf none 0 0 zI).toArray by kernel_rfl)) rfl ?_
          refine L_o (o_stW S12 0 rfl rfl rfl (by rw [List.size_toArray, rixf_len]; exact sz53) (by first | (rw [List.size_toArray, List.size_toArray, rixf_len, rixf_len]; done) | (rw [List.size_toArray, rixf_len]; rfl) | (rw [List.size_toArray, rixf_len])) (fun u hu => rixf_one _ _ _ _ u (by rw [List.toList_toArray] at hu; exact hu)) fun w13 S13 => ?_)
          refine L_y (y_assign rfl) rfl ?_
          refine L_nil ?_
          refine hK13 _ _ ?_
          refine T_ret ?_
          repeat (first | with_reducible refine up_then ?_ | with_reducible refine up_in ?_)
          refine retct rfl rfl rfl (S13.blk 0 rfl) Try.underlying53 rfl (by rw [List.size_toArray, rixf_len]; exact sz53) ?_
          have he : openE b = 5 := openE_5 (by omega) hform (by omega)
          exact ⟨_, rfl, S13.like0, .inl ⟨by rw [he]; decide, by rw [he]⟩⟩
        ·
          refine T_skip ?_
          refine hK11 _ _ ?_
          refine T_seq fun K14 hK14 => ?_
          refine T_region ?_
          refine L_y (y_move rfl) rfl ?_
          refine L_y (y_conv is127 Try.underlying3 rfl (i64w (by omega))) rfl ?_
          refine L_y (y_assign rfl) rfl ?_
          refine L_nil ?_
          refine hK14 _ _ ?_
          refine T_seq fun K15 hK15 => ?_
          refine T_seq fun K16 hK16 => ?_
          refine T_region ?_
          refine L_y (y_move rfl) rfl ?_
          refine L_y (y_len Try.underlying27 rfl) rfl ?_
          refine L_y (y_move rfl) rfl ?_
          refine L_y (y_mul rfl rfl (i64w (by omega))) rfl ?_
          refine L_y (y_add rfl rfl (i64w (by omega))) rfl ?_
          refine L_y (y_lss rfl rfl) rfl ?_
          refine L_nil ?_
          refine hK16 _ _ ?_
          refine T_cond rfl (fun h49 => ?_) (fun h49 => ?_)
          ·
            refine T_seq fun K17 hK17 => ?_
            refine T_region ?_
            refine L_y (y_build rfl (show _ = some (rixf none 0 0 zI).toArray by kernel_rfl)) rfl ?_
            refine L_o (o_stW S12 0 rfl rfl rfl (by rw [List.size_toArray, rixf_len]; exact sz53) (by first | (rw [List.size_toArray, List.size_toArray, rixf_len, rixf_len]; done) | (rw [List.size_toArray, rixf_len]; rfl) | (rw [List.size_toArray, rixf_len])) (fun u hu => rixf_one _ _ _ _ u (by rw [List.toList_toArray] at hu; exact hu)) fun w14 S14 => ?_)
            refine L_y (y_assign rfl) rfl ?_
            refine L_nil ?_
            refine hK17 _ _ ?_
            refine T_ret ?_
            repeat (first | with_reducible refine up_then ?_ | with_reducible refine up_in ?_)
            refine retct rfl rfl rfl (S14.blk 0 rfl) Try.underlying53 rfl (by rw [List.size_toArray, rixf_len]; exact sz53) ?_
            have he : openE b = 10 := openE_10b (by omega) hform (by omega) (by omega)
            exact ⟨_, rfl, S14.like0, .inl ⟨by rw [he]; decide, by rw [he]⟩⟩
          ·
            refine T_skip ?_
            refine hK15 _ _ ?_
            refine T_seq fun K18 hK18 => ?_
            refine T_seq fun K19 hK19 => ?_
            refine T_region ?_
            refine L_y (y_move rfl) rfl ?_
            refine L_y (y_len Try.underlying27 rfl) rfl ?_
            refine L_y (y_move rfl) rfl ?_
            refine L_y (y_mul rfl rfl (i64w (by omega))) rfl ?_
            refine L_y (y_add rfl rfl (i64w (by omega))) rfl ?_
            refine L_y (y_gtr rfl rfl) rfl ?_
            refine L_nil ?_
            refine hK19 _ _ ?_
            refine T_cond rfl (fun h56 => ?_) (fun h56 => ?_)
            ·
              refine T_seq fun K20 hK20 => ?_
              refine T_region ?_
              refine L_y (y_build rfl (show _ = some (rixf none 0 0 zI).toArray by kernel_rfl)) rfl ?_
              refine L_o (o_stW S12 0 rfl rfl rfl (by rw [List.size_toArray, rixf_len]; exact sz53) (by first | (rw [List.size_toArray, List.size_toArray, rixf_len, rixf_len]; done) | (rw [List.size_toArray, rixf_len]; rfl) | (rw [List.size_toArray, rixf_len])) (fun u hu => rixf_one _ _ _ _ u (by rw [List.toList_toArray] at hu; exact hu)) fun w15 S15 => ?_)
              refine L_y (y_assign rfl) rfl ?_
              refine L_nil ?_
              refine hK20 _ _ ?_
              refine T_ret ?_
              repeat (first | with_reducible refine up_then ?_ | with_reducible refine up_in ?_)
              refine retct rfl rfl rfl (S15.blk 0 rfl) Try.underlying53 rfl (by rw [List.size_toArray, rixf_len]; exact sz53) ?_
              have he : openE b = 11 := openE_11 (by omega) hform (by omega) (by omega) (by omega)
              exact ⟨_, rfl, S15.like0, .inl ⟨by rw [he]; decide, by rw [he]⟩⟩
            ·
              have hpre : Pre b := ⟨by omega, hform, by omega, by omega, by omega⟩
              have hbl : b.length = 1096 + 40 * lastN b := by omega
              have hlen : (rowsB b).length = lastN b := rowsP_len _ _ _ _ _
              have e32 : (b.drop (b.length - 32)).take 32 = b.drop (b.length - 32) := List.take_of_length_le (by rw [List.length_drop]; omega)
              refine T_skip ?_
              refine hK18 _ _ ?_
              refine T_seq fun K21 hK21 => ?_
              refine T_region ?_
              refine L_y (y_move rfl) rfl ?_
              refine L_y (y_move rfl) rfl ?_
              refine L_y (y_len Try.underlying27 rfl) rfl ?_
              refine L_y (y_sub rfl rfl (i64w (by omega))) rfl ?_
              refine L_y (y_build rfl (show _ = some #[Value.slice B m d, Value.int .i64 ((m : Int) - 32), Value.int .i64 0] by kernel_rfl)) rfl ?_
              refine L_o (o_box rfl S12 rfl fun b16 w16 hb16 S16 => ?_)
              have S72 := S16.blkc 2 rfl (show #[Value.slice B m d, .int .i64 ((m : Int) - 32), .int .i64 0] = #[Value.slice B m d, .int .i64 ((b.length - 32 : Nat) : Int), .int .i64 ((0 : Nat) : Int)] by rw [show ((b.length - 32 : Nat) : Int) = (m : Int) - 32 by omega]; rfl)
              refine L_y (y_assign rfl) rfl ?_
              refine L_nil ?_
              refine hK21 _ _ ?_
              refine T_seq fun K22 hK22 => ?_
              refine T_seq fun K23 hK23 => ?_
              refine T_drawnX (fun w => Rs w 1 B m d (bL b)) hmix (by kernel_rfl) (fun w l => ((S72.like l).rd hb)) fun w17 l17 => ?_
              have S17 := S72.like l17
              refine DX_y 0 (by kernel_rfl) rfl (y_move rfl) rfl ?_
              refine DX_y 2 (by kernel_rfl) rfl (y_move rfl) rfl ?_
              refine DX_y 3 (by kernel_rfl) rfl (y_move rfl) rfl ?_
              refine DX_y 4 (by kernel_rfl) rfl (y_len Try.underlying27 rfl) rfl ?_
              refine DX_y 5 (by kernel_rfl) rfl (y_sub rfl rfl (i64w (by omega))) rfl ?_
              refine DX_y 6 (by kernel_rfl) rfl (y_sliceH Try.underlying27 sz5 rfl rfl (Nt.mk (by omega) : Nt _ (b.length - 32)) (by omega)) rfl ?_
              refine DX_o1 1 (by kernel_rfl) rfl ?_
              refine o_call Try.func78 rfl rfl (rid b16 B m d b (b.length - 32) (idAt b (b.length - 32)) w17 (S17.get 2 rfl) (S17.rd hb) (by omega) (by omega) (fun ad hn9 hA9 => by have h9 := old_block hb hn9 hA9; omega) (idAt_l (by omega))) rfl rfl ?_
              rintro e18 w18 ⟨v18, rfl, T18, rfl⟩
              refine ⟨_, rfl, ?_⟩
              have S18 := S17.turn 2 rfl T18
              refine ⟨(S18.rd hb), ?_⟩
              refine DX_o1 7 (by kernel_rfl) rfl ?_
              refine o_call Try.func79 rfl rfl (Sha.refof (b.take (b.length - 32)) _ _ _ w18 ((S18.rd hb).cutb (l := 0) (u := b.length - 32) (by omega) (by omega)) (by omega)) rfl rfl ?_
              rintro e19 w19 ⟨v19, rfl, l19, rfl⟩
              refine ⟨_, rfl, ?_⟩
              have S19 := S18.like l19
              refine ⟨(S19.rd hb), ?_⟩
              refine DX_y 8 (by kernel_rfl) rfl (y_neB Try.underlying23 Try.underlying5 sz5 (by kernel_rfl) rfl rfl (Oid.Id.h _) (Sha.length_ofL _)) rfl ?_
              refine DX_nil (by kernel_rfl) ?_
              refine hK23 _ _ ?_
              refine T_cond rfl (fun h72 => ?_) (fun h72 => ?_)
              ·
                rw [idAt_l (by omega), e32] at h72
                refine T_seq fun K24 hK24 => ?_
                refine T_region ?_
                refine L_y (y_build rfl (show _ = some (rixf none 0 0 zI).toArray by kernel_rfl)) rfl ?_
                refine L_o (o_stW S19 0 rfl rfl rfl (by rw [List.size_toArray, rixf_len]; exact sz53) (by first | (rw [List.size_toArray, List.size_toArray, rixf_len, rixf_len]; done) | (rw [List.size_toArray, rixf_len]; rfl) | (rw [List.size_toArray, rixf_len])) (fun u hu => rixf_one _ _ _ _ u (by rw [List.toList_toArray] at hu; exact hu)) fun w20 S20 => ?_)
                refine L_y (y_assign rfl) rfl ?_
                refine L_nil ?_
                refine hK24 _ _ ?_
                refine T_ret ?_
                repeat (first | with_reducible refine up_then ?_ | with_reducible refine up_in ?_)
                refine retct rfl rfl rfl (S20.blk 0 rfl) Try.underlying53 rfl (by rw [List.size_toArray, rixf_len]; exact sz53) ?_
                have he : openE b = 13 := openE_13 hpre (fun q => h72 q.symm)
                exact ⟨_, rfl, S20.like0, .inl ⟨by rw [he]; decide, by rw [he]⟩⟩
              ·
                rw [idAt_l (by omega), e32] at h72
                have hsum : ¬ Sha.ofL (b.take (b.length - 32)) ≠ b.drop (b.length - 32) := fun q => h72 (fun e => q e.symm)
                refine T_skip ?_
                refine hK22 _ _ ?_
                refine T_seq fun K25 hK25 => ?_
                refine T_region ?_
                refine L_o (o_alloc zz53 S19 rfl fun b21 w21 hb21 S21 => ?_)
                have S22 := S21.sel [0, 1, 3] (by decide)
                have S23 : Zx.St w0 noM [blk b1 53 (rixf none 0 0 zI).toArray, xr b9 B m d (1028 + 4) 0, blk b21 53 (rixf none 0 0 zI).toArray] w21 := S22.cast (by kernel_rfl)
                have S24 := S23.nilrow 86 34
                refine L_nil ?_
                refine hK25 _ _ ?_
                refine T_seq fun K26 hK26 => ?_
                refine T_seq fun K27 hK27 => ?_
                refine T_region ?_
                refine L_y (y_assign rfl) rfl ?_
                refine L_nil ?_
                refine hK27 _ _ ?_
                refine T_block ?_
                refine T_loop3 [(0, _), (2, _), (4, _), (6, _), (8, _)] (fun (k : Nat) (A1 : Option Addr) (c1 : Nat) => [(9, .int .i64 (k : Int))]) (fun (k : Nat) (A1 : Option Addr) (c1 : Nat) => (lastN b) - k) (fun (k : Nat) (A1 : Option Addr) (c1 : Nat) (w : World) => k ≤ (lastN b) ∧ Zx.St w0 noM [blk b1 53 (rixf none 0 0 zI).toArray, xr b9 B m d (1032 + 32 * k) 0, blk b21 53 (rixf A1 k c1 zI).toArray, Zx.row 86 34 A1 k c1 (((rowsP (b.drop 8) (lastN b) (lastN b) 0 0).take k).flatMap plf)] w) 0 none 0 (Sub.cons rfl (by first | rfl | exact congrArg (Value.int _) (by omega)) (Sub.nil _)) (Sub.cons rfl rfl (Sub.cons rfl rfl (Sub.cons rfl rfl (Sub.cons rfl rfl (Sub.cons rfl rfl (Sub.nil _)))))) ?_ ?_
                ·
                  have S71 : Zx.St w0 noM [blk b1 53 (rixf none 0 0 zI).toArray, xr b9 B m d (1032 + 32 * 0) 0, blk b21 53 (rixf none 0 0 zI).toArray, Zx.row 86 34 none 0 0 (((rowsP (b.drop 8) (lastN b) (lastN b) 0 0).take 0).flatMap plf)] w21 := S24.cast (by rw [List.take_zero]; rfl)
                  exact ⟨by omega, S71⟩
                ·
                  intro k A1 c1 w25 hrel
                  obtain ⟨hk, S25⟩ := hrel
                  refine T_seq fun K28 hK28 => ?_
                  refine T_seq fun K29 hK29 => ?_
                  refine T_region ?_
                  refine L_y (y_move rfl) rfl ?_
                  refine L_y (y_move rfl) rfl ?_
                  refine L_y (y_lss rfl rfl) rfl ?_
                  refine L_nil ?_
                  refine hK29 _ _ ?_
                  refine T_cond rfl (fun h76 => ?_) (fun h76 => ?_)
                  ·
                    have hx : (rowsP (b.drop 8) (lastN b) (lastN b) 0 0)[k]? = some ⟨idAt (b.drop 8) (1024 + 32 * k), 0, 0⟩ := by rw [rowsP_get (by omega), if_pos (by omega), if_neg (by omega), if_neg (by omega)]
                    refine T_skip ?_
                    refine hK28 _ _ ?_
                    refine T_seq fun K30 hK30 => ?_
                    refine T_block ?_
                    refine T_zed [0, 1, 2, 3, 4, 5] 6 [(0, 1), (1, 1), (2, 1), (3, 2), (4, 1), (5, 2), (6, 3), (7, 3), (8, 3)] hmix (by kernel_rfl) fun w26 l26 => ?_
                    have S26 := S25.like l26
                    refine ZA_B (fun w => Blk w b21 53 (rixf A1 k c1 zI).toArray) (S26.blk 2 rfl) ?_
                    refine ZB_y rfl (y_fieldA 0 Try.underlying53 rfl sz46 rfl rfl rfl) rfl ?_
                    refine ZB_y rfl (y_of fun w hw => y_ldc Try.underlying46 rfl rfl ((hw.cell _).trans (rixf_row _ _ _ _))) rfl ?_
                    refine ZB_y rfl (y_move rfl) rfl ?_
                    refine ZB_o rfl (o_call Try.func78 rfl rfl (rid b9 B m d b (1032 + 32 * k) (idAt (b.drop 8) (1024 + 32 * k)) w26 (S26.get 1 rfl) (S26.rd hb) (by omega) (by omega) (fun ad hn9 hA9 => by have h9 := old_block hb hn9 hA9; omega) (by rw [idAt_8, show 8 + (1024 + 32 * k) = 1032 + 32 * k by omega]; exact idAt_l (by omega))) rfl rfl ?_)
                    rintro e27 w27 ⟨v27, rfl, T27, rfl⟩
                    refine ⟨_, rfl, ?_⟩
                    have S27 := S26.turn 1 rfl T27
                    rw [show 1032 + 32 * k + 32 = 1032 + 32 * (k + 1) by omega] at S27
                    refine ⟨(S27.blk 2 rfl), ?_⟩
                    refine ZB_y rfl (y_build rfl (built_rz _)) rfl ?_
                    refine ZB_o rfl (o_bsl (plf ⟨idAt (b.drop 8) (1024 + 32 * k), 0, 0⟩) te46 zz86 S27 rfl rfl rfl (by simp [Value.cells, plf_len]) (by simp [Value.cells]) rfl rfl rfl fun b28 w28 S28 => ?_)
                    refine ⟨(S28.blk 2 rfl), ?_⟩
                    refine ZB_c rfl (o_app te46 S28 3 rfl rfl rfl (by first | exact S28.rd hb | exact S28.row 3 rfl | exact S28.row 4 rfl) (plf_one _) rfl (by omega) (by omega) fun A29 c29 w29 S29 => ?_)
                    have S29d := S29.drop (rs' := [_, _, _, _]) (.cons_cons _ (.cons_cons _ (.cons_cons _ (.cons_cons _ (.cons _ (.refl _))))))
                    refine ZA_oy rfl (y_fieldA 0 Try.underlying53 rfl sz46 rfl rfl rfl) rfl ?_
                    refine ZA_o rfl (o_st1 S29d 2 rfl rfl rfl rfl sz46 (by rw [List.size_toArray, rixf_len]; omega) fun w30 S30 => ?_)
                    have S90 := S30.blkc 2 rfl rixf_setr
                    refine ZA_nil ?_
                    refine hK30 _ _ ?_
                    refine T_region ?_
                    refine L_y (y_move rfl) rfl ?_
                    refine L_y (y_add rfl rfl (i64w (by omega))) rfl ?_
                    refine L_y (y_assign rfl) rfl ?_
                    refine L_nil ?_
                    have S91 := S90.sel [0, 1, 2, 3] (by decide)
                    have S92 := S91.rowc 3 rfl (n' := k + 1) (xs' := ((rowsP (b.drop 8) (lastN b) (lastN b) 0 0).take (k + 1)).flatMap plf) rfl (take1 plf hx).symm
                    refine ⟨k + 1, _, _, by omega, ⟨by omega, S92⟩, ?_⟩
                    exact (Sub.cons rfl (by first | rfl | exact congrArg (Value.int _) (by omega)) (Sub.cons rfl rfl (Sub.cons rfl rfl (Sub.cons rfl rfl (Sub.cons rfl rfl (Sub.cons rfl rfl (Sub.nil _)))))))
                  ·
                    have hke : k = lastN b := by omega
                    subst hke
                    rw [List.take_of_length_le (by rw [rowsP_len]; omega)] at S25
                    refine T_exit ?_
                    refine hK26 _ _ ?_
                    refine T_seq fun K31 hK31 => ?_
                    refine T_seq fun K32 hK32 => ?_
                    refine T_region ?_
                    refine L_y (y_assign rfl) rfl ?_
                    refine L_nil ?_
                    refine hK32 _ _ ?_
                    refine T_block ?_
                    refine T_loop1 [(0, _), (2, _), (4, _), (6, _), (8, _)] (fun (k : Nat) => [(10, .int .i64 (k : Int))]) (fun (k : Nat) => (lastN b) - k) (fun (k : Nat) (w : World) => k ≤ (lastN b) ∧ Zx.St w0 noM [blk b1 53 (rixf none 0 0 zI).toArray, xr b9 B m d (1032 + 32 * lastN b + 4 * k) 0, blk b21 53 (rixf A1 (lastN b) c1 zI).toArray, Zx.row 86 34 A1 (lastN b) c1 ((rowsP (b.drop 8) (lastN b) (lastN b) k 0).flatMap plf)] w) 0 (Sub.cons rfl (by first | rfl | exact congrArg (Value.int _) (by omega)) (Sub.nil _)) (Sub.cons rfl rfl (Sub.cons rfl rfl (Sub.cons rfl rfl (Sub.cons rfl rfl (Sub.cons rfl rfl (Sub.nil _)))))) ?_ ?_
                    ·
                      exact ⟨by omega, S25⟩
                    ·
                      intro k w31 hrel
                      obtain ⟨hk, S31⟩ := hrel
                      refine T_seq fun K33 hK33 => ?_
                      refine T_seq fun K34 hK34 => ?_
                      refine T_region ?_
                      refine L_y (y_move rfl) rfl ?_
                      refine L_y (y_move rfl) rfl ?_
                      refine L_y (y_lss rfl rfl) rfl ?_
                      refine L_nil ?_
                      refine hK34 _ _ ?_
                      refine T_cond rfl (fun h89 => ?_) (fun h89 => ?_)
                      ·
                        obtain ⟨x, hx⟩ : ∃ x, (rowsP (b.drop 8) (lastN b) (lastN b) k 0)[k]? = some x := ⟨_, List.getElem?_eq_getElem (by rw [rowsP_len]; omega)⟩
                        refine T_skip ?_
                        refine hK33 _ _ ?_
                        refine T_seq fun K35 hK35 => ?_
                        refine T_block ?_
                        refine T_drawnX (fun w => Blk w b21 53 (rixf A1 (lastN b) c1 zI).toArray) hmix (by kernel_rfl) (fun w l => ((S31.like l).blk 2 rfl)) fun w32 l32 => ?_
                        have S32 := S31.like l32
                        refine DX_y 0 (by kernel_rfl) rfl (y_fieldA 0 Try.underlying53 rfl sz46 rfl rfl rfl) rfl ?_
                        refine DX_y 1 (by kernel_rfl) rfl (y_of fun w hw => y_ldc Try.underlying46 rfl rfl ((hw.cell _).trans (rixf_row _ _ _ _))) rfl ?_
                        refine DX_y 2 (by kernel_rfl) rfl (y_move rfl) rfl ?_
                        refine DX_y 3 (by kernel_rfl) rfl (y_move rfl) rfl ?_
                        refine DX_o1 4 (by kernel_rfl) rfl ?_
                        refine o_call Try.func77 rfl rfl (Oct.xbig b9 B m d b (1032 + 32 * lastN b + 4 * k) 0 4 w32 (S32.get 1 rfl) (S32.rd hb) (by omega) (by omega) (fun ad hn9 hA9 => by have h9 := old_block hb hn9 hA9; omega) (by omega)) rfl rfl ?_
                        rintro e33 w33 ⟨v33, rfl, rfl, T33⟩
                        refine ⟨_, rfl, ?_⟩
                        have S33 := S32.turn 1 rfl T33
                        obtain ⟨e1, e2, e3⟩ := rw_ok (l := b) (p := 1032 + 32 * lastN b + 4 * k) (k := 4) (by omega)
                        rw [e2, e3] at S33
                        have e9 : Oct.be ((b.drop (1032 + 32 * lastN b + 4 * k)).take 4) = b4 (b.drop 8) (1024 + 32 * lastN b + 4 * k) := (by rw [b4_8, show 8 + (1024 + 32 * lastN b + 4 * k) = 1032 + 32 * lastN b + 4 * k by omega]; rfl)
                        rw [e1, e9]
                        rw [show 1032 + 32 * lastN b + 4 * k + 4 = 1032 + 32 * lastN b + 4 * (k + 1) by omega] at S33
                        have hb4 := b4_lt (b.drop 8) (1024 + 32 * lastN b + 4 * k)
                        refine ⟨(S33.blk 2 rfl), ?_⟩
                        refine DX_y 5 (by kernel_rfl) rfl (y_conv is127 Try.underlying60 rfl (u32w (by omega))) rfl ?_
                        refine DX_y 6 (by kernel_rfl) rfl (y_idx Try.underlying46 sz86 rfl rfl (S32.row 3 rfl) inferInstance (by omega)) rfl ?_
                        refine DX_y 7 (by kernel_rfl) rfl (y_fieldR 33 Try.underlying86 rfl sz60 rfl rfl (S32.row 3 rfl) (by omega) rfl) rfl ?_
                        refine DX_o1 8 (by kernel_rfl) rfl ?_
                        refine o_strowN S33 3 rfl rfl rfl rfl sz60 (by omega) fun w34 S34 => ?_
                        refine ⟨(S34.blk 2 rfl), ?_⟩
                        refine DX_nil (by kernel_rfl) ?_
                        refine hK35 _ _ ?_
                        refine T_region ?_
                        refine L_y (y_move rfl) rfl ?_
                        refine L_y (y_add rfl rfl (i64w (by omega))) rfl ?_
                        refine L_y (y_assign rfl) rfl ?_
                        refine L_nil ?_
                        have S91 := S34.rowc 3 rfl rfl ((flat_fldP (y := { x with sm := (b4 (b.drop 8) (1024 + 32 * lastN b + 4 * k) : Int) }) hx (by omega) (pl_set33 x _)).trans (congrArg (fun q => q.flatMap plf) (rowsP_sm (by omega) hx)))
                        refine ⟨k + 1, by omega, ⟨by omega, S91⟩, ?_⟩
                        exact (Sub.cons rfl (by first | rfl | exact congrArg (Value.int _) (by omega)) (Sub.cons rfl rfl (Sub.cons rfl rfl (Sub.cons rfl rfl (Sub.cons rfl rfl (Sub.cons rfl rfl (Sub.nil _)))))))
                      ·
                        have hke : k = lastN b := by omega
                        subst hke
                        rw [show 1032 + 32 * lastN b + 4 * lastN b = 1032 + 36 * lastN b + 4 * 0 by omega] at S31
                        refine T_exit ?_
                        refine hK31 _ _ ?_
                        refine T_seq fun K36 hK36 => ?_
                        refine T_seq fun K37 hK37 => ?_
                        refine T_region ?_
                        refine L_y (y_assign rfl) rfl ?_
                        refine L_nil ?_
                        refine hK37 _ _ ?_
                        refine T_block ?_
                        refine T_loop1 [(0, _), (2, _), (4, _), (6, _), (8, _)] (fun (k : Nat) => [(11, .int .i64 (k : Int))]) (fun (k : Nat) => (lastN b) - k) (fun (k : Nat) (w : World) => k ≤ (lastN b) ∧ Zx.St w0 noM [blk b1 53 (rixf none 0 0 zI).toArray, xr b9 B m d (1032 + 36 * lastN b + 4 * k) 0, blk b21 53 (rixf A1 (lastN b) c1 zI).toArray, Zx.row 86 34 A1 (lastN b) c1 ((rowsP (b.drop 8) (lastN b) (lastN b) (lastN b) k).flatMap plf)] w) 0 (Sub.cons rfl (by first | rfl | exact congrArg (Value.int _) (by omega)) (Sub.nil _)) (Sub.cons rfl rfl (Sub.cons rfl rfl (Sub.cons rfl rfl (Sub.cons rfl rfl (Sub.cons rfl rfl (Sub.nil _)))))) ?_ ?_
                        ·
                          exact ⟨by omega, S31⟩
                        ·
                          intro k w35 hrel
                          obtain ⟨hk, S35⟩ := hrel
                          refine T_seq fun K38 hK38 => ?_
                          refine T_seq fun K39 hK39 => ?_
                          refine T_region ?_
                          refine L_y (y_move rfl) rfl ?_
                          refine L_y (y_move rfl) rfl ?_
                          refine L_y (y_lss rfl rfl) rfl ?_
                          refine L_nil ?_
                          refine hK39 _ _ ?_
                          refine T_cond rfl (fun h102 => ?_) (fun h102 => ?_)
                          ·
                            obtain ⟨x, hx⟩ : ∃ x, (rowsP (b.drop 8) (lastN b) (lastN b) (lastN b) k)[k]? = some x := ⟨_, List.getElem?_eq_getElem (by rw [rowsP_len]; omega)⟩
                            refine T_skip ?_
                            refine hK38 _ _ ?_
                            refine T_seq fun K40 hK40 => ?_
                            refine T_block ?_
                            refine T_drawnX (fun w => Blk w b21 53 (rixf A1 (lastN b) c1 zI).toArray) hmix (by kernel_rfl) (fun w l => ((S35.like l).blk 2 rfl)) fun w36 l36 => ?_
                            have S36 := S35.like l36
                            refine DX_y 0 (by kernel_rfl) rfl (y_fieldA 0 Try.underlying53 rfl sz46 rfl rfl rfl) rfl ?_
                            refine DX_y 1 (by kernel_rfl) rfl (y_of fun w hw => y_ldc Try.underlying46 rfl rfl ((hw.cell _).trans (rixf_row _ _ _ _))) rfl ?_
                            refine DX_y 2 (by kernel_rfl) rfl (y_move rfl) rfl ?_
                            refine DX_y 3 (by kernel_rfl) rfl (y_move rfl) rfl ?_
                            refine DX_o1 4 (by kernel_rfl) rfl ?_
                            refine o_call Try.func77 rfl rfl (Oct.xbig b9 B m d b (1032 + 36 * lastN b + 4 * k) 0 4 w36 (S36.get 1 rfl) (S36.rd hb) (by omega) (by omega) (fun ad hn9 hA9 => by have h9 := old_block hb hn9 hA9; omega) (by omega)) rfl rfl ?_
                            rintro e37 w37 ⟨v37, rfl, rfl, T37⟩
                            refine ⟨_, rfl, ?_⟩
                            have S37 := S36.turn 1 rfl T37
                            obtain ⟨e1, e2, e3⟩ := rw_ok (l := b) (p := 1032 + 36 * lastN b + 4 * k) (k := 4) (by omega)
                            rw [e2, e3] at S37
                            have e9 : Oct.be ((b.drop (1032 + 36 * lastN b + 4 * k)).take 4) = b4 (b.drop 8) (1024 + 36 * lastN b + 4 * k) := (by rw [b4_8, show 8 + (1024 + 36 * lastN b + 4 * k) = 1032 + 36 * lastN b + 4 * k by omega]; rfl)
                            rw [e1, e9]
                            rw [show 1032 + 36 * lastN b + 4 * k + 4 = 1032 + 36 * lastN b + 4 * (k + 1) by omega] at S37
                            have hb4 := b4_lt (b.drop 8) (1024 + 36 * lastN b + 4 * k)
                            refine ⟨(S37.blk 2 rfl), ?_⟩
                            refine DX_y 5 (by kernel_rfl) rfl (y_conv is127 Try.underlying3 rfl (i64w (by omega))) rfl ?_
                            refine DX_y 6 (by kernel_rfl) rfl (y_idx Try.underlying46 sz86 rfl rfl (S36.row 3 rfl) inferInstance (by omega)) rfl ?_
                            refine DX_y 7 (by kernel_rfl) rfl (y_fieldR 32 Try.underlying86 rfl sz3 rfl rfl (S36.row 3 rfl) (by omega) rfl) rfl ?_
                            refine DX_o1 8 (by kernel_rfl) rfl ?_
                            refine o_strowN S37 3 rfl rfl rfl rfl sz3 (by omega) fun w38 S38 => ?_
                            refine ⟨(S38.blk 2 rfl), ?_⟩
                            refine DX_nil (by kernel_rfl) ?_
                            refine hK40 _ _ ?_
                            refine T_region ?_
                            refine L_y (y_move rfl) rfl ?_
                            refine L_y (y_add rfl rfl (i64w (by omega))) rfl ?_
                            refine L_y (y_assign rfl) rfl ?_
                            refine L_nil ?_
                            have S91 := S38.rowc 3 rfl rfl ((flat_fldP (y := { x with at_ := (b4 (b.drop 8) (1024 + 36 * lastN b + 4 * k) : Int) }) hx (by omega) (pl_set32 x _)).trans (congrArg (fun q => q.flatMap plf) (rowsP_at (by omega) hx)))
                            refine ⟨k + 1, by omega, ⟨by omega, S91⟩, ?_⟩
                            exact (Sub.cons rfl (by first | rfl | exact congrArg (Value.int _) (by omega)) (Sub.cons rfl rfl (Sub.cons rfl rfl (Sub.cons rfl rfl (Sub.cons rfl rfl (Sub.cons rfl rfl (Sub.nil _)))))))
                          ·
                            have hke : k = lastN b := by omega
                            subst hke
                            rw [show 1032 + 36 * lastN b + 4 * lastN b = 1032 + 40 * lastN b by omega] at S35
                            refine T_exit ?_
                            refine hK36 _ _ ?_
                            refine T_seq fun K41 hK41 => ?_
                            refine T_region ?_
                            refine L_y (y_move rfl) rfl ?_
                            refine L_o (o_call Try.func78 rfl rfl (rid b9 B m d b (1032 + 40 * lastN b) (ofB b) w35 (S35.get 1 rfl) (S35.rd hb) (by omega) (by omega) (fun ad hn9 hA9 => by have h9 := old_block hb hn9 hA9; omega) (by unfold ofB; rw [idAt_8, show 8 + (1024 + 40 * lastN b) = 1032 + 40 * lastN b by omega]; exact idAt_l (by omega))) rfl rfl ?_)
                            rintro e39 w39 ⟨v39, rfl, T39, rfl⟩
                            refine ⟨_, rfl, ?_⟩
                            have S39 := S35.turn 1 rfl T39
                            refine L_y (y_fieldA 1 Try.underlying53 rfl sz23 rfl rfl rfl) rfl ?_
                            refine L_o (o_stR S39 2 rfl rfl rfl (by rw [List.size_toArray, idf_len]; exact sz23) (by rw [List.size_toArray, List.size_toArray, rixf_len, idf_len]; omega) (fun u hu => bL_one _ u (by rw [List.toList_toArray] at hu; exact hu)) fun w40 S40 => ?_)
                            have S90 := S40.blkc 2 rfl rixf_seto
                            refine L_nil ?_
                            refine hK41 _ _ ?_
                            refine T_seq fun K42 hK42 => ?_
                            refine T_region ?_
                            refine L_y (y_move rfl) rfl ?_
                            refine L_y (y_build rfl (show _ = some #[Value.slice B m d, Value.int .i64 8, Value.int .i64 0] by kernel_rfl)) rfl ?_
                            refine L_o (o_box rfl S90 rfl fun b41 w41 hb41 S41 => ?_)
                            have S42 := S41.sel [0, 2, 3, 4] (by decide)
                            have S43 : Zx.St w0 noM [blk b1 53 (rixf none 0 0 zI).toArray, blk b21 53 (rixf A1 (lastN b) c1 (ofB b)).toArray, Zx.row 86 34 A1 (lastN b) c1 ((rowsB b).flatMap plf), xr b41 B m d (8) 0] w41 := S42.cast (by kernel_rfl)
                            refine L_y (y_assign rfl) rfl ?_
                            refine L_nil ?_
                            refine hK42 _ _ ?_
                            refine T_seq fun K43 hK43 => ?_
                            refine T_seq fun K44 hK44 => ?_
                            refine T_region ?_
                            refine L_y (y_assign rfl) rfl ?_
                            refine L_nil ?_
                            refine hK44 _ _ ?_
                            refine T_block ?_
                            refine T_loop1 [(2, _), (6, _), (8, _), (12, _)] (fun (k : Nat) => [(13, .int .i64 (k : Int))]) (fun (k : Nat) => (lastN b) - k) (fun (k : Nat) (w : World) => (k ≤ (lastN b) ∧ ∀ i x y, i < k → (rowsB b)[i]? = some x → (rowsB b)[i + 1]? = some y → Oid.lt x.id y.id = true) ∧ Zx.St w0 noM [blk b1 53 (rixf none 0 0 zI).toArray, blk b21 53 (rixf A1 (lastN b) c1 (ofB b)).toArray, Zx.row 86 34 A1 (lastN b) c1 ((rowsB b).flatMap plf), xr b41 B m d (8) 0] w) 0 (Sub.cons rfl (by first | rfl | exact congrArg (Value.int _) (by omega)) (Sub.nil _)) (Sub.cons rfl rfl (Sub.cons rfl rfl (Sub.cons rfl rfl (Sub.cons rfl rfl (Sub.nil _))))) ?_ ?_
                            ·
                              exact ⟨⟨by omega, fun i x y hi => by omega⟩, S43⟩
                            ·
                              intro k w44 hrel
                              obtain ⟨⟨hk, hasc⟩, S44⟩ := hrel
                              refine T_seq fun K45 hK45 => ?_
                              refine T_seq fun K46 hK46 => ?_
                              refine T_region ?_
                              refine L_y (y_move rfl) rfl ?_
                              refine L_y (y_add rfl rfl (i64w (by omega))) rfl ?_
                              refine L_y (y_move rfl) rfl ?_
                              refine L_y (y_lss rfl rfl) rfl ?_
                              refine L_nil ?_
                              refine hK46 _ _ ?_
                              refine T_cond rfl (fun h122 => ?_) (fun h122 => ?_)
                              ·
                                obtain ⟨x, hx⟩ : ∃ x, (rowsB b)[k]? = some x := ⟨_, List.getElem?_eq_getElem (by omega)⟩
                                obtain ⟨y, hy⟩ : ∃ y, (rowsB b)[k + 1]? = some y := ⟨_, List.getElem?_eq_getElem (by omega)⟩
                                refine T_skip ?_
                                refine hK45 _ _ ?_
                                refine T_seq fun K47 hK47 => ?_
                                refine T_block ?_
                                refine T_seq fun K48 hK48 => ?_
                                refine T_tail 13 hmix (by kernel_rfl) fun w45 l45 K49 hK49 => ?_
                                have S45 := S44.like l45
                                refine HL_y (y_fieldA 0 Try.underlying53 rfl sz46 rfl rfl rfl) rfl ?_
                                refine HL_y (y_ldc Try.underlying46 rfl rfl (((S45.blk 1 rfl).cell _).trans (rixf_row _ _ _ _))) rfl ?_
                                refine HL_y (y_move rfl) rfl ?_
                                refine HL_y (y_idx Try.underlying46 sz86 rfl rfl (S45.row 2 rfl) inferInstance (by omega)) rfl ?_
                                refine HL_y (y_fieldR 0 Try.underlying86 rfl sz23 rfl rfl (S45.row 2 rfl) (by omega) rfl) rfl ?_
                                refine HL_y (y_ldfN Try.underlying23 rfl sz23 rfl (S45.row 2 rfl) (by omega) (pl_part hx) (idf_len _)) rfl ?_
                                refine HL_y (y_fieldA 0 Try.underlying53 rfl sz46 rfl rfl rfl) rfl ?_
                                refine HL_y (y_ldc Try.underlying46 rfl rfl (((S45.blk 1 rfl).cell _).trans (rixf_row _ _ _ _))) rfl ?_
                                refine HL_y (y_move rfl) rfl ?_
                                refine HL_y (y_add rfl rfl (i64w (by omega))) rfl ?_
                                refine HL_y (y_idx Try.underlying46 sz86 rfl rfl (S45.row 2 rfl) (Nt.mk (by omega) : Nt _ (k + 1)) (by omega)) rfl ?_
                                refine HL_y (y_fieldR 0 Try.underlying86 rfl sz23 rfl rfl (S45.row 2 rfl) (by omega) rfl) rfl ?_
                                refine HL_y (y_ldfN Try.underlying23 rfl sz23 rfl (S45.row 2 rfl) (by omega) (pl_part hy) (idf_len _)) rfl ?_
                                refine HL_nil ?_
                                refine hK49 _ ?_
                                refine L_o (o_call Try.func80 rfl rfl (Oid.cBelow x.id y.id w45) rfl rfl ?_)
                                rintro e46 w46 ⟨v46, rfl, l46, rfl⟩
                                refine ⟨_, rfl, ?_⟩
                                have S46 := S45.like l46
                                refine L_y ((by first | exact y_notD rfl | exact y_not rfl)) rfl ?_
                                refine L_nil ?_
                                refine hK48 _ _ ?_
                                refine T_condB rfl (fun h139 => ?_) (fun h139 => ?_)
                                ·
                                  refine T_seq fun K50 hK50 => ?_
                                  refine T_region ?_
                                  refine L_y (y_build rfl (show _ = some (rixf none 0 0 zI).toArray by kernel_rfl)) rfl ?_
                                  refine L_o (o_stW S46 0 rfl rfl rfl (by rw [List.size_toArray, rixf_len]; exact sz53) (by first | (rw [List.size_toArray, List.size_toArray, rixf_len, rixf_len]; done) | (rw [List.size_toArray, rixf_len]; rfl) | (rw [List.size_toArray, rixf_len])) (fun u hu => rixf_one _ _ _ _ u (by rw [List.toList_toArray] at hu; exact hu)) fun w47 S47 => ?_)
                                  refine L_y (y_assign rfl) rfl ?_
                                  refine L_nil ?_
                                  refine hK50 _ _ ?_
                                  refine T_ret ?_
                                  repeat (first | with_reducible refine up_then ?_ | with_reducible refine up_in ?_)
                                  refine retct rfl rfl rfl (S47.blk 0 rfl) Try.underlying53 rfl (by rw [List.size_toArray, rixf_len]; exact sz53) ?_
                                  have he : openE b = 18 := openE_18 hpre hsum (not_str hx hy (by simpa using h139))
                                  exact ⟨_, rfl, S47.like0, .inl ⟨by rw [he]; decide, by rw [he]⟩⟩
                                ·
                                  refine T_skip ?_
                                  refine hK47 _ _ ?_
                                  refine T_region ?_
                                  refine L_y (y_move rfl) rfl ?_
                                  refine L_y (y_add rfl rfl (i64w (by omega))) rfl ?_
                                  refine L_y (y_assign rfl) rfl ?_
                                  refine L_nil ?_
                                  refine ⟨k + 1, by omega, ⟨⟨by omega, fun i p q hi hp9 hq9 => by rcases Nat.lt_or_ge i k with r | r; exact hasc i p q r hp9 hq9; (have e9 : i = k := by omega); subst e9; rw [hx] at hp9; cases hp9; rw [hy] at hq9; cases hq9; simpa using h139⟩, S46⟩, ?_⟩
                                  exact (Sub.cons rfl (by first | rfl | exact congrArg (Value.int _) (by omega)) (Sub.cons rfl rfl (Sub.cons rfl rfl (Sub.cons rfl rfl (Sub.cons rfl rfl (Sub.nil _))))))
                              ·
                                have hst : StR (rowsB b) := str_of_adj (fun i x y hi hx hy => hasc i x y (by omega) hx hy)
                                refine T_exit ?_
                                refine hK43 _ _ ?_
                                refine T_seq fun K51 hK51 => ?_
                                refine T_seq fun K52 hK52 => ?_
                                refine T_region ?_
                                refine L_y (y_assign rfl) rfl ?_
                                refine L_nil ?_
                                refine hK52 _ _ ?_
                                refine T_block ?_
                                refine T_loop1 [(2, _), (6, _), (8, _), (12, _)] (fun (i : Nat) => [(14, .int .i64 (i : Int))]) (fun (i : Nat) => 256 - i) (fun (i : Nat) (w : World) => (i ≤ 256 ∧ ∀ j, j < i → (cl (rowsB b) (j + 1) : Int) = (b4 b (8 + 4 * j) : Int)) ∧ Zx.St w0 noM [blk b1 53 (rixf none 0 0 zI).toArray, blk b21 53 (rixf A1 (lastN b) c1 (ofB b)).toArray, Zx.row 86 34 A1 (lastN b) c1 ((rowsB b).flatMap plf), xr b41 B m d (8 + 4 * i) 0] w) 0 (Sub.cons rfl (by first | rfl | exact congrArg (Value.int _) (by omega)) (Sub.nil _)) (Sub.cons rfl rfl (Sub.cons rfl rfl (Sub.cons rfl rfl (Sub.cons rfl rfl (Sub.nil _))))) ?_ ?_
                                ·
                                  exact ⟨⟨by omega, fun j hj => by omega⟩, S44⟩
                                ·
                                  intro i w48 hrel
                                  obtain ⟨⟨hi, hfk⟩, S48⟩ := hrel
                                  refine T_seq fun K53 hK53 => ?_
                                  refine T_seq fun K54 hK54 => ?_
                                  refine T_region ?_
                                  refine L_y (y_move rfl) rfl ?_
                                  refine L_y (y_lss rfl rfl) rfl ?_
                                  refine L_nil ?_
                                  refine hK54 _ _ ?_
                                  refine T_cond rfl (fun h142 => ?_) (fun h142 => ?_)
                                  ·
                                    refine T_skip ?_
                                    refine hK53 _ _ ?_
                                    refine T_seq fun K55 hK55 => ?_
                                    refine T_block ?_
                                    refine T_seq fun K56 hK56 => ?_
                                    refine T_region ?_
                                    refine L_y (y_assign rfl) rfl ?_
                                    refine L_nil ?_
                                    refine hK56 _ _ ?_
                                    refine T_seq fun K57 hK57 => ?_
                                    refine T_seq fun K58 hK58 => ?_
                                    refine T_region ?_
                                    refine L_y (y_assign rfl) rfl ?_
                                    refine L_nil ?_
                                    refine hK58 _ _ ?_
                                    refine T_block ?_
                                    refine T_loop1 [(2, _), (6, _), (8, _), (12, _), (14, _)] (fun (j : Nat) => [(16, .int .i64 (j : Int)), (15, .int .i64 (cl ((rowsB b).take j) (i + 1) : Int))]) (fun (j : Nat) => (lastN b) - j) (fun (j : Nat) (w : World) => j ≤ (lastN b) ∧ Zx.St w0 noM [blk b1 53 (rixf none 0 0 zI).toArray, blk b21 53 (rixf A1 (lastN b) c1 (ofB b)).toArray, Zx.row 86 34 A1 (lastN b) c1 ((rowsB b).flatMap plf), xr b41 B m d (8 + 4 * i) 0] w) 0 (Sub.cons rfl (by first | rfl | (rw [List.take_zero]; rfl)) (Sub.cons rfl (by first | rfl | (rw [List.take_zero]; rfl)) (Sub.nil _))) (Sub.cons rfl rfl (Sub.cons rfl rfl (Sub.cons rfl rfl (Sub.cons rfl rfl (Sub.cons rfl rfl (Sub.nil _)))))) ?_ ?_
                                    ·
                                      exact ⟨by omega, S48⟩
                                    ·
                                      intro j w49 hrel
                                      obtain ⟨hj, S49⟩ := hrel
                                      refine T_seq fun K59 hK59 => ?_
                                      refine T_seq fun K60 hK60 => ?_
                                      refine T_region ?_
                                      refine L_y (y_move rfl) rfl ?_
                                      refine L_y (y_move rfl) rfl ?_
                                      refine L_y (y_lss rfl rfl) rfl ?_
                                      refine L_nil ?_
                                      refine hK60 _ _ ?_
                                      refine T_cond rfl (fun h147 => ?_) (fun h147 => ?_)
                                      ·
                                        obtain ⟨y, hy⟩ : ∃ y, (rowsB b)[j]? = some y := ⟨_, List.getElem?_eq_getElem (by omega)⟩
                                        have hcj := cl_take (rowsB b) j (i + 1)
                                        have hfy := fb_lt y
                                        refine T_skip ?_
                                        refine hK59 _ _ ?_
                                        refine T_seq fun K61 hK61 => ?_
                                        refine T_block ?_
                                        refine T_seq fun K62 hK62 => ?_
                                        refine T_region ?_
                                        refine L_y (y_fieldA 0 Try.underlying53 rfl sz46 rfl rfl rfl) rfl ?_
                                        refine L_y (y_ldc Try.underlying46 rfl rfl (((S49.blk 1 rfl).cell _).trans (rixf_row _ _ _ _))) rfl ?_
                                        refine L_y (y_move rfl) rfl ?_
                                        refine L_y (y_idx Try.underlying46 sz86 rfl rfl (S49.row 2 rfl) inferInstance (by omega)) rfl ?_
                                        refine L_y (y_fieldR 0 Try.underlying86 rfl sz23 rfl rfl (S49.row 2 rfl) (by omega) rfl) rfl ?_
                                        refine L_y (y_idxAR Try.underlying23 sz5 rfl (S49.row 2 rfl) (by omega) rfl inferInstance (by omega)) rfl ?_
                                        refine L_y (y_ldf Try.underlying5 rfl rfl (S49.row 2 rfl) (by omega) (pl_c0 hy)) rfl ?_
                                        refine L_y (y_conv is5 Try.underlying3 rfl (i64w (by omega))) rfl ?_
                                        refine L_y (y_move rfl) rfl ?_
                                        refine L_y (y_leq rfl rfl) rfl ?_
                                        refine L_nil ?_
                                        refine hK62 _ _ ?_
                                        refine T_cond rfl (fun h159 => ?_) (fun h159 => ?_)
                                        ·
                                          refine T_region ?_
                                          refine L_y (y_move rfl) rfl ?_
                                          refine L_y (y_add rfl rfl (i64w (by omega))) rfl ?_
                                          refine L_y (y_assign rfl) rfl ?_
                                          refine L_nil ?_
                                          refine hK61 _ _ ?_
                                          refine T_region ?_
                                          refine L_y (y_move rfl) rfl ?_
                                          refine L_y (y_add rfl rfl (i64w (by omega))) rfl ?_
                                          refine L_y (y_assign rfl) rfl ?_
                                          refine L_nil ?_
                                          refine ⟨j + 1, by omega, ⟨by omega, S49⟩, ?_⟩
                                          exact (Sub.cons rfl (by first | rfl | exact congrArg (Value.int _) (by omega)) (Sub.cons rfl (congrArg (Value.int _) (by rw [cl_step hy]; first | (rw [if_pos (by omega)]; omega) | (rw [if_neg (by omega)]; omega))) (Sub.cons rfl rfl (Sub.cons rfl rfl (Sub.cons rfl rfl (Sub.cons rfl rfl (Sub.cons rfl rfl (Sub.nil _))))))))
                                        ·
                                          refine T_skip ?_
                                          refine hK61 _ _ ?_
                                          refine T_region ?_
                                          refine L_y (y_move rfl) rfl ?_
                                          refine L_y (y_add rfl rfl (i64w (by omega))) rfl ?_
                                          refine L_y (y_assign rfl) rfl ?_
                                          refine L_nil ?_
                                          refine ⟨j + 1, by omega, ⟨by omega, S49⟩, ?_⟩
                                          exact (Sub.cons rfl (by first | rfl | exact congrArg (Value.int _) (by omega)) (Sub.cons rfl (congrArg (Value.int _) (by rw [cl_step hy]; first | (rw [if_pos (by omega)]; omega) | (rw [if_neg (by omega)]; omega))) (Sub.cons rfl rfl (Sub.cons rfl rfl (Sub.cons rfl rfl (Sub.cons rfl rfl (Sub.cons rfl rfl (Sub.nil _))))))))
                                      ·
                                        have hje : j = (rowsB b).length := by omega
                                        subst hje
                                        simp only [List.take_length]
                                        have hck := cl_le (rowsB b) (i + 1)
                                        refine T_exit ?_
                                        refine hK57 _ _ ?_
                                        refine T_seq fun K63 hK63 => ?_
                                        refine T_region ?_
                                        refine L_y (y_move rfl) rfl ?_
                                        refine L_o (o_call Try.func77 rfl rfl (Oct.xbig b41 B m d b (8 + 4 * i) 0 4 w49 (S49.get 3 rfl) (S49.rd hb) (by omega) (by omega) (fun ad hn9 hA9 => by have h9 := old_block hb hn9 hA9; omega) (by omega)) rfl rfl ?_)
                                        rintro e50 w50 ⟨v50, rfl, rfl, T50⟩
                                        refine ⟨_, rfl, ?_⟩
                                        have S50 := S49.turn 3 rfl T50
                                        obtain ⟨e1, e2, e3⟩ := rw_ok (l := b) (p := 8 + 4 * i) (k := 4) (by omega)
                                        rw [e2, e3, show 8 + 4 * i + 4 = 8 + 4 * (i + 1) by omega] at S50
                                        have e9 : Oct.be ((b.drop (8 + 4 * i)).take 4) = b4 b (8 + 4 * i) := rfl
                                        rw [e1, e9]
                                        refine L_y (y_move rfl) rfl ?_
                                        refine L_y (y_conv is3 Try.underlying127 rfl (u64w (by omega))) rfl ?_
                                        refine L_y (y_neq rfl rfl) rfl ?_
                                        refine L_nil ?_
                                        refine hK63 _ _ ?_
                                        refine T_cond rfl (fun h166 => ?_) (fun h166 => ?_)
                                        ·
                                          refine T_seq fun K64 hK64 => ?_
                                          refine T_region ?_
                                          refine L_y (y_build rfl (show _ = some (rixf none 0 0 zI).toArray by kernel_rfl)) rfl ?_
                                          refine L_o (o_stW S50 0 rfl rfl rfl (by rw [List.size_toArray, rixf_len]; exact sz53) (by first | (rw [List.size_toArray, List.size_toArray, rixf_len, rixf_len]; done) | (rw [List.size_toArray, rixf_len]; rfl) | (rw [List.size_toArray, rixf_len])) (fun u hu => rixf_one _ _ _ _ u (by rw [List.toList_toArray] at hu; exact hu)) fun w51 S51 => ?_)
                                          refine L_y (y_assign rfl) rfl ?_
                                          refine L_nil ?_
                                          refine hK64 _ _ ?_
                                          refine T_ret ?_
                                          repeat (first | with_reducible refine up_then ?_ | with_reducible refine up_in ?_)
                                          refine retct rfl rfl rfl (S51.blk 0 rfl) Try.underlying53 rfl (by rw [List.size_toArray, rixf_len]; exact sz53) ?_
                                          have he : openE b = 18 := openE_18b hpre hsum hst (fun q => by have h9 := q i (by omega); rw [b4_8] at h9; omega)
                                          exact ⟨_, rfl, S51.like0, .inl ⟨by rw [he]; decide, by rw [he]⟩⟩
                                        ·
                                          refine T_skip ?_
                                          refine hK55 _ _ ?_
                                          refine T_region ?_
                                          refine L_y (y_move rfl) rfl ?_
                                          refine L_y (y_add rfl rfl (i64w (by omega))) rfl ?_
                                          refine L_y (y_assign rfl) rfl ?_
                                          refine L_nil ?_
                                          refine ⟨i + 1, by omega, ⟨⟨by omega, fun j hj => by rcases Nat.lt_or_ge j i with r | r; exact hfk j r; (have e9 : j = i := by omega); subst e9; omega⟩, S50⟩, ?_⟩
                                          exact (Sub.cons rfl (by first | rfl | exact congrArg (Value.int _) (by omega)) (Sub.cons rfl rfl (Sub.cons rfl rfl (Sub.cons rfl rfl (Sub.cons rfl rfl (Sub.nil _))))))
                                  ·
                                    have hfan : FanOk b (rowsB b) := fun c hc => by rw [b4_8]; exact hfk c (by omega)
                                    obtain rfl : i = 256 := by omega
                                    refine T_exit ?_
                                    refine hK51 _ _ ?_
                                    refine T_seq fun K65 hK65 => ?_
                                    refine T_seq fun K66 hK66 => ?_
                                    refine T_region ?_
                                    refine L_y (y_assign rfl) rfl ?_
                                    refine L_nil ?_
                                    refine hK66 _ _ ?_
                                    refine T_block ?_
                                    refine T_loop1 [(2, _), (6, _), (8, _)] (fun (k : Nat) => [(17, .int .i64 (k : Int))]) (fun (k : Nat) => (lastN b) - k) (fun (k : Nat) (w : World) => (k ≤ (lastN b) ∧ ∀ i x, i < k → (rowsB b)[i]? = some x → ¬ 1048576 < x.at_) ∧ Zx.St w0 noM [blk b1 53 (rixf none 0 0 zI).toArray, blk b21 53 (rixf A1 (lastN b) c1 (ofB b)).toArray, Zx.row 86 34 A1 (lastN b) c1 ((rowsB b).flatMap plf), xr b41 B m d (8 + 4 * 256) 0] w) 0 (Sub.cons rfl (by first | rfl | exact congrArg (Value.int _) (by omega)) (Sub.nil _)) (Sub.cons rfl rfl (Sub.cons rfl rfl (Sub.cons rfl rfl (Sub.nil _)))) ?_ ?_
                                    ·
                                      exact ⟨⟨by omega, fun i x hi => by omega⟩, S48⟩
                                    ·
                                      intro k w52 hrel
                                      obtain ⟨⟨hk, hno⟩, S52⟩ := hrel
                                      refine T_seq fun K67 hK67 => ?_
                                      refine T_seq fun K68 hK68 => ?_
                                      refine T_region ?_
                                      refine L_y (y_move rfl) rfl ?_
                                      refine L_y (y_move rfl) rfl ?_
                                      refine L_y (y_lss rfl rfl) rfl ?_
                                      refine L_nil ?_
                                      refine hK68 _ _ ?_
                                      refine T_cond rfl (fun h170 => ?_) (fun h170 => ?_)
                                      ·
                                        obtain ⟨x, hx⟩ : ∃ x, (rowsB b)[k]? = some x := ⟨_, List.getElem?_eq_getElem (by omega)⟩
                                        refine T_skip ?_
                                        refine hK67 _ _ ?_
                                        refine T_seq fun K69 hK69 => ?_
                                        refine T_block ?_
                                        refine T_seq fun K70 hK70 => ?_
                                        refine T_region ?_
                                        refine L_y (y_fieldA 0 Try.underlying53 rfl sz46 rfl rfl rfl) rfl ?_
                                        refine L_y (y_ldc Try.underlying46 rfl rfl (((S52.blk 1 rfl).cell _).trans (rixf_row _ _ _ _))) rfl ?_
                                        refine L_y (y_move rfl) rfl ?_
                                        refine L_y (y_idx Try.underlying46 sz86 rfl rfl (S52.row 2 rfl) inferInstance (by omega)) rfl ?_
                                        refine L_y (y_fieldR 32 Try.underlying86 rfl sz3 rfl rfl (S52.row 2 rfl) (by omega) rfl) rfl ?_
                                        refine L_y (y_ldf Try.underlying3 rfl rfl (S52.row 2 rfl) (by omega) (pl_c32 hx)) rfl ?_
                                        refine L_y (y_gtr rfl rfl) rfl ?_
                                        refine L_nil ?_
                                        refine hK70 _ _ ?_
                                        refine T_cond rfl (fun h179 => ?_) (fun h179 => ?_)
                                        ·
                                          refine T_seq fun K71 hK71 => ?_
                                          refine T_region ?_
                                          refine L_y (y_build rfl (show _ = some (rixf none 0 0 zI).toArray by kernel_rfl)) rfl ?_
                                          refine L_o (o_stW S52 0 rfl rfl rfl (by rw [List.size_toArray, rixf_len]; exact sz53) (by first | (rw [List.size_toArray, List.size_toArray, rixf_len, rixf_len]; done) | (rw [List.size_toArray, rixf_len]; rfl) | (rw [List.size_toArray, rixf_len])) (fun u hu => rixf_one _ _ _ _ u (by rw [List.toList_toArray] at hu; exact hu)) fun w53 S53 => ?_)
                                          refine L_y (y_assign rfl) rfl ?_
                                          refine L_nil ?_
                                          refine hK71 _ _ ?_
                                          refine T_ret ?_
                                          repeat (first | with_reducible refine up_then ?_ | with_reducible refine up_in ?_)
                                          refine retct rfl rfl rfl (S53.blk 0 rfl) Try.underlying53 rfl (by rw [List.size_toArray, rixf_len]; exact sz53) ?_
                                          have he : openE b = 2 := openE_2 hpre hsum hst hfan (any_far hx (by omega))
                                          exact ⟨_, rfl, S53.like0, .inl ⟨by rw [he]; decide, by rw [he]⟩⟩
                                        ·
                                          refine T_skip ?_
                                          refine hK69 _ _ ?_
                                          refine T_region ?_
                                          refine L_y (y_move rfl) rfl ?_
                                          refine L_y (y_add rfl rfl (i64w (by omega))) rfl ?_
                                          refine L_y (y_assign rfl) rfl ?_
                                          refine L_nil ?_
                                          refine ⟨k + 1, by omega, ⟨⟨by omega, fun i y hi hy => by rcases Nat.lt_or_ge i k with r | r; exact hno i y r hy; (have e9 : i = k := by omega); subst e9; rw [hx] at hy; cases hy; omega⟩, S52⟩, ?_⟩
                                          exact (Sub.cons rfl (by first | rfl | exact congrArg (Value.int _) (by omega)) (Sub.cons rfl rfl (Sub.cons rfl rfl (Sub.cons rfl rfl (Sub.nil _)))))
                                      ·
                                        refine T_exit ?_
                                        refine hK65 _ _ ?_
                                        refine T_seq fun K72 hK72 => ?_
                                        refine T_region ?_
                                        refine L_y (y_ldW Try.underlying53 rfl sz53 rfl (S52.blk 1 rfl) (rixf_whole _ _ _ _)) rfl ?_
                                        refine L_o (o_stW S52 0 rfl rfl rfl (by rw [List.size_toArray, rixf_len]; exact sz53) (by first | (rw [List.size_toArray, List.size_toArray, rixf_len, rixf_len]; done) | (rw [List.size_toArray, rixf_len]; rfl) | (rw [List.size_toArray, rixf_len])) (fun u hu => rixf_one _ _ _ _ u (by rw [List.toList_toArray] at hu; exact hu)) fun w54 S54 => ?_)
                                        refine L_y (y_assign rfl) rfl ?_
                                        refine L_nil ?_
                                        refine hK72 _ _ ?_
                                        refine T_ret ?_
                                        repeat (first | with_reducible refine up_then ?_ | with_reducible refine up_in ?_)
                                        refine retct rfl rfl rfl (S54.blk 0 rfl) Try.underlying53 rfl (by rw [List.size_toArray, rixf_len]; exact sz53) ?_
                                        have he : openE b = 0 := openE_0 hpre hsum hst hfan (no_far fun i x hi hx => hno i x (by omega) hx)
                                        exact ⟨_, rfl, S54.like0, .inr ⟨he, A1, c1, by rw [hlen], by rw [hlen]; exact S54.own 2 rfl⟩⟩
end Go.Proofs.Ytgaklngnfecdaaa.Idx


/-
  '!=' on truth values; bytes turned.
-/
namespace Go.Proofs.Ytgaklngnfecdaaa.Zx
open Go.RowKit Zk
set_option linter.unusedVariables false
set_option linter.unusedSimpArgs false
section
variable {P : Program} {env : Env} {S : World → Prop} {dst : Option Tmp} {ty : TypeId} {pos : String} {after : Array Edge} {g : Option (Nat × Bool)}
theorem y_neBool {x y : Operand} {t u : TypeId} {a b : Bool} (ht : P.underlying t = some .bool) (hx : ev env x = some (.bool a)) (hy : ev env y = some (.bool b)) : Y P S env ⟨dst, .binOp .neq t x y u, ty, pos, after, g⟩ (.bool (!(a == b))) := fun N e w ha _ => by
  have h := run_neq_bool (P := P) (w := w) t a b ht
  have hg : (eqGuard .neq t x y (.bool a) (.bool b)).run P w = .ok () w := by simp [eqGuard]
  simp only [execOp, ha.eval hx, ha.eval hy, Sem.run_bind, hg, h, Result.andThen_ok, Sem.run_pure]
end
end Go.Proofs.Ytgaklngnfecdaaa.Zx


/-
  The law IndexOpens.
-/
namespace Go.Proofs.Ytgaklngnfecdaaa.Idx
open Go.RowKit Zk Zx
open Oid (idf idf_len cmpL)
set_option linter.unusedVariables false
set_option linter.unusedSimpArgs false

theorem ropenGood (B : Option Addr) (m d : Nat) (b : List UInt8) (w0 : World) (hb : Rs w0 1 B m d (bL b)) (hm9 : m ≤ 100000) (he : openE b = 0) : Calls Try.prog 29 #[.slice B m d] w0 fun e w' => ∃ u, e = .returned u ∧ Like w0 w' ∧ ∃ A c, u = .tuple #[.agg (rixf A (rowsB b).length c (ofB b)).toArray, .int .i64 0] ∧ w'.ownsRow w0.heap.size 86 34 (.slice A (rowsB b).length c) (rowsB b).length ((rowsB b).flatMap plf) :=
  (ropen B m d _ w0 hb hm9).mono fun e w' ⟨u, h1, l, h2⟩ => by
    rcases h2 with ⟨h, _⟩ | ⟨_, A, c, h3, h4⟩
    · exact absurd he h
    · exact ⟨u, h1, l, A, c, h3, h4⟩
set_option maxRecDepth 100000 in
theorem oneT (x : Row) (w0 : World)  :
    Calls Try.prog 46 #[.agg (plf x).toArray, .agg (plf x).toArray] w0 fun e w' => ∃ u, e = .returned u ∧ Like w0 w' ∧ u = .bool true := by
  refine enter1 (env := [(0, .agg (plf x).toArray), (1, .agg (plf x).toArray)]) [.agg (plf x).toArray, .agg (plf x).toArray] Try.func46 rfl Try.ntmps46 rfl rfl ?_
  have S0 := St.start w0 noM
  refine T_seq fun K1 hK1 => ?_
  refine T_region ?_
  refine L_o (o_box rfl S0 rfl fun b1 w1 hb1 S1 => ?_)
  refine L_o (o_box rfl S1 rfl fun b2 w2 hb2 S2 => ?_)
  refine L_y (y_assign rfl) rfl ?_
  refine L_nil ?_
  refine hK1 _ _ ?_
  refine T_seq fun K2 hK2 => ?_
  refine T_region ?_
  refine L_y (y_fieldA 0 Try.underlying62 rfl sz23 rfl rfl rfl) rfl ?_
  refine L_y (y_ldW Try.underlying23 rfl sz23 rfl (S2.blk 0 rfl) (pl_id x)) rfl ?_
  refine L_y (y_fieldA 0 Try.underlying86 rfl sz23 rfl rfl rfl) rfl ?_
  refine L_y (y_ldW Try.underlying23 rfl sz23 rfl (S2.blk 1 rfl) (pl_id x)) rfl ?_
  refine L_y (y_eqB Try.underlying23 Try.underlying5 sz5 (by kernel_rfl) rfl rfl (Oid.Id.h _) (Oid.Id.h _)) rfl ?_
  refine L_y (y_move rfl) rfl ?_
  refine L_split 10 rfl (fun h10 => ?_) (fun h10 => ?_)
  ·
    refine L_gyes rfl rfl ?_
    refine L_y (y_fieldA 32 Try.underlying62 rfl sz3 rfl rfl rfl) rfl ?_
    refine L_gyes rfl rfl ?_
    refine L_y (y_ldc Try.underlying3 rfl rfl (((S2.blk 0 rfl).cell _).trans (pl32 x))) rfl ?_
    refine L_gyes rfl rfl ?_
    refine L_y (y_fieldA 32 Try.underlying86 rfl sz3 rfl rfl rfl) rfl ?_
    refine L_gyes rfl rfl ?_
    refine L_y (y_ldc Try.underlying3 rfl rfl (((S2.blk 1 rfl).cell _).trans (pl32 x))) rfl ?_
    refine L_gyes rfl rfl ?_
    refine L_y (y_eql rfl rfl) rfl ?_
    refine L_y ((by first | exact y_pickT rfl rfl | exact y_pickF rfl rfl)) rfl ?_
    refine L_y (y_move rfl) rfl ?_
    refine L_split 17 rfl (fun h17 => ?_) (fun h17 => ?_)
    ·
      refine L_gyes rfl rfl ?_
      refine L_y (y_fieldA 33 Try.underlying62 rfl sz60 rfl rfl rfl) rfl ?_
      refine L_gyes rfl rfl ?_
      refine L_y (y_ldc Try.underlying60 rfl rfl (((S2.blk 0 rfl).cell _).trans (pl33 x))) rfl ?_
      refine L_gyes rfl rfl ?_
      refine L_y (y_fieldA 33 Try.underlying86 rfl sz60 rfl rfl rfl) rfl ?_
      refine L_gyes rfl rfl ?_
      refine L_y (y_ldc Try.underlying60 rfl rfl (((S2.blk 1 rfl).cell _).trans (pl33 x))) rfl ?_
      refine L_gyes rfl rfl ?_
      refine L_y (y_eql rfl rfl) rfl ?_
      refine L_y ((by first | exact y_pickT rfl rfl | exact y_pickF rfl rfl)) rfl ?_
      refine L_y (y_assign rfl) rfl ?_
      refine L_nil ?_
      refine hK2 _ _ ?_
      refine T_ret ?_
      repeat (first | with_reducible refine up_then ?_ | with_reducible refine up_in ?_)
      refine ret1 rfl rfl ?_
      exact ⟨_, rfl, S2.like0, by simp⟩
    ·
      exact absurd rfl h17
  ·
    exact absurd rfl h10


end Go.Proofs.Ytgaklngnfecdaaa.Idx
