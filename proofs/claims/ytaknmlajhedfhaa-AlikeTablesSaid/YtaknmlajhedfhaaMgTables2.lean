import Derived.Test.YtaknmlajhedfhaaMgTables1
import Derived.ArgAppend
import Derived.Scope
import Derived.Lib.Bytealg
import Derived.Sort.Grow
import Derived.Deep.Draws
import Derived.Shelf.SlSortCmp.InsertionK
import Derived.Shelf.SlSortCmp.NoneTotal

/-
  The document's list of pieces, in order: plain laws.
-/
namespace Go.Proofs.Ytaknmlajhedfhaa
open Go.RowKit Zk Zx
set_option linter.unusedVariables false
/-- a before b. -/
def bl (a b : List UInt8) : Bool := Op.bytesLess a b
theorem sLt_eq (a b : List UInt8) : sLt ⟨a.toArray⟩ ⟨b.toArray⟩ = bl a b := by
  unfold sLt
  rw [toList_eq, toList_eq]
  rfl
theorem bl_nil (a : List UInt8) : bl a [] = false := by cases a <;> rfl
theorem bl_cons (x y : UInt8) (a b : List UInt8) : bl (x :: a) (y :: b) = (decide (x < y) || (x == y && bl a b)) := rfl
theorem bl_irr : ∀ a, bl a a = false
  | [] => rfl
  | x :: a => by rw [bl_cons, bl_irr a]; simp
theorem bl_trans : ∀ a b c, bl a b = true → bl b c = true → bl a c = true
  | _, [], _, h, _ => by rw [bl_nil] at h; cases h
  | _, _ :: _, [], _, h => by rw [bl_nil] at h; cases h
  | [], _ :: _, _ :: _, _, _ => rfl
  | x :: a, y :: b, z :: c, h1, h2 => by
    rw [bl_cons] at h1 h2 ⊢
    simp only [Bool.or_eq_true, decide_eq_true_eq, Bool.and_eq_true, beq_iff_eq] at h1 h2 ⊢
    rcases h1 with h1 | ⟨h1, h3⟩
    · rcases h2 with h2 | ⟨h2, h4⟩
      · exact .inl (UInt8.lt_trans h1 h2)
      · subst h2; exact .inl h1
    · subst h1
      rcases h2 with h2 | ⟨h2, h4⟩
      · exact .inl h2
      · exact .inr ⟨h2, bl_trans a b c h3 h4⟩
theorem bl_total : ∀ a b, bl a b = false → a ≠ b → bl b a = true
  | [], [], _, h => absurd rfl h
  | [], _ :: _, h, _ => by cases h
  | _ :: _, [], _, _ => rfl
  | x :: a, y :: b, h, hn => by
    rw [bl_cons] at h ⊢
    simp only [Bool.or_eq_false_iff, decide_eq_false_iff_not, Bool.and_eq_false_iff, beq_eq_false_iff_ne] at h
    simp only [Bool.or_eq_true, decide_eq_true_eq, Bool.and_eq_true, beq_iff_eq]
    by_cases hxy : x = y
    · subst hxy
      rcases h.2 with h2 | h2
      · exact absurd rfl h2
      · exact .inr ⟨rfl, bl_total a b h2 (fun e => hn (by rw [e]))⟩
    · left
      rcases UInt8.lt_or_lt_of_ne hxy with h3 | h3
      · exact absurd h3 h.1
      · exact h3
structure PC where
  t : List UInt8
  n : Nat
def pcf (p : PC) : List Value := [sV p.t, .int .i64 (p.n : Int)]
theorem pcf_len (p : PC) : (pcf p).length = 2 := rfl
theorem pc_one (xs : List PC) : ∀ u ∈ xs.flatMap pcf, u.oneCell' = true := fun u hu => by
  obtain ⟨p, _, hp⟩ := List.mem_flatMap.1 hu
  simp only [pcf, List.mem_cons, List.not_mem_nil, or_false] at hp
  rcases hp with rfl | rfl <;> rfl
theorem pc_get : ∀ (xs : List PC) (i : Nat) (x : PC), xs[i]? = some x → (xs.flatMap pcf)[i * 2]? = some (sV x.t) ∧ (xs.flatMap pcf)[i * 2 + 1]? = some (Value.int .i64 (x.n : Int))
  | [], i, x, h => by cases h
  | y :: xs, 0, x, h => by
    obtain rfl : y = x := by simpa using h
    exact ⟨rfl, rfl⟩
  | y :: xs, i + 1, x, h => by
    have := pc_get xs i x (by simpa using h)
    rw [List.flatMap_cons, show (i + 1) * 2 = i * 2 + 1 + 1 by omega]
    exact this
theorem pc_set : ∀ (xs : List PC) (i : Nat) (x : PC) (m : Nat), xs[i]? = some x → (xs.flatMap pcf).set (i * 2 + 1) (Value.int .i64 (m : Int)) = (xs.set i ⟨x.t, m⟩).flatMap pcf
  | [], i, x, m, h => by cases h
  | y :: xs, 0, x, m, h => by
    obtain rfl : y = x := by simpa using h
    rfl
  | y :: xs, i + 1, x, m, h => by
    have := pc_set xs i x m (by simpa using h)
    rw [List.set_cons_succ, List.flatMap_cons, List.flatMap_cons, ← this, show (i + 1) * 2 + 1 = i * 2 + 1 + 1 + 1 by omega]
    rfl
theorem pc_take : ∀ (xs : List PC) (i : Nat), (xs.flatMap pcf).take (i * 2) = (xs.take i).flatMap pcf
  | _, 0 => by simp
  | [], i + 1 => by simp
  | y :: xs, i + 1 => by
    rw [List.flatMap_cons, List.take_succ_cons, List.flatMap_cons, ← pc_take xs i, show (i + 1) * 2 = i * 2 + 1 + 1 by omega]
    rfl
theorem pc_drop : ∀ (xs : List PC) (i : Nat), (xs.flatMap pcf).drop (i * 2) = (xs.drop i).flatMap pcf
  | _, 0 => by simp
  | [], i + 1 => by simp
  | y :: xs, i + 1 => by
    rw [List.flatMap_cons, List.drop_succ_cons, ← pc_drop xs i, show (i + 1) * 2 = i * 2 + 1 + 1 by omega]
    rfl
/-- xs: the pieces L in order, each once, and how often it stands there. -/
def PS (xs : List PC) (L : List (List UInt8)) : Prop := (xs.map PC.t).Pairwise (fun a b => bl a b = true) ∧ (∀ x ∈ xs, x.t ∈ L ∧ x.n = L.count x.t) ∧ ∀ t ∈ L, t ∈ xs.map PC.t
theorem PS.nil : PS [] [] := ⟨List.Pairwise.nil, (fun x hx => by cases hx), (fun t ht => by cases ht)⟩
theorem PS.nodup {xs : List PC} {L : List (List UInt8)} (h : PS xs L) : (xs.map PC.t).Nodup := h.1.imp fun {a b} hab e => by rw [e, bl_irr] at hab; cases hab
theorem PS.mem {xs : List PC} {L : List (List UInt8)} (h : PS xs L) (t : List UInt8) : t ∈ xs.map PC.t ↔ t ∈ L :=
  ⟨fun ht => by obtain ⟨x, hx, rfl⟩ := List.mem_map.1 ht; exact (h.2.1 x hx).1, h.2.2 t⟩
theorem PS.inc {xs : List PC} {L : List (List UInt8)} (h : PS xs L) {i : Nat} {x : PC} (hx : xs[i]? = some x) : PS (xs.set i ⟨x.t, x.n + 1⟩) (L ++ [x.t]) := by
  have hmap : (xs.set i ⟨x.t, x.n + 1⟩).map PC.t = xs.map PC.t := by
    rw [List.map_set]
    apply List.ext_getElem?
    intro j
    rw [List.getElem?_set]
    split
    · rename_i hij
      subst hij
      rw [List.getElem?_map, hx]
      have hl : i < (xs.map PC.t).length := by rw [List.length_map]; exact (List.getElem?_eq_some_iff.1 hx).1
      simp [List.length_map] at hl
      simp [hl]
    · rfl
  have hxm : x ∈ xs := List.mem_of_getElem? hx
  refine ⟨by rw [hmap]; exact h.1, fun y hy => ?_, fun t ht => ?_⟩
  · obtain ⟨j, hj, rfl⟩ := List.getElem_of_mem hy
    rw [List.getElem_set]
    split
    · exact ⟨by simp, by rw [List.count_append, ← (h.2.1 x hxm).2]; simp⟩
    · rename_i hij
      have hj' : j < xs.length := by simpa using hj
      have hym : xs[j] ∈ xs := List.getElem_mem hj'
      obtain ⟨h1, h2⟩ := h.2.1 _ hym
      refine ⟨List.mem_append_left _ h1, ?_⟩
      have hne : x.t ≠ xs[j].t := fun e => by
        have hn := h.nodup
        have hil := (List.getElem?_eq_some_iff.1 hx).1
        have e1 : (xs.map PC.t)[i]'(by simpa using hil) = (xs.map PC.t)[j]'(by simpa using hj') := by
          rw [List.getElem_map, List.getElem_map, (List.getElem?_eq_some_iff.1 hx).2]
          exact e
        have hp := List.pairwise_iff_getElem.1 hn
        rcases Nat.lt_or_gt_of_ne hij with h3 | h3
        · exact hp i j _ _ h3 e1
        · exact hp j i _ _ h3 e1.symm
      rw [h2, List.count_append, List.count_cons_of_ne hne, List.count_nil]
      rfl
  · rw [hmap]
    rcases List.mem_append.1 ht with ht | ht
    · exact h.2.2 t ht
    · obtain rfl := List.mem_singleton.1 ht
      exact List.mem_map.2 ⟨x, hxm, rfl⟩
theorem PS.ins {xs : List PC} {L : List (List UInt8)} (h : PS xs L) {i : Nat} {p : List UInt8} (hlow : ∀ j y, j < i → xs[j]? = some y → bl y.t p = true) (hat : ∀ y, xs[i]? = some y → bl y.t p = false ∧ y.t ≠ p) :
    PS (xs.take i ++ [⟨p, 1⟩] ++ xs.drop i) (L ++ [p]) := by
  have hsp : xs.take i ++ xs.drop i = xs := List.take_append_drop i xs
  have hS := h.1
  rw [← hsp, List.map_append, List.pairwise_append] at hS
  obtain ⟨s1, s2, s3⟩ := hS
  have hA : ∀ a ∈ (xs.take i).map PC.t, bl a p = true := fun a ha => by
    obtain ⟨y, hy, rfl⟩ := List.mem_map.1 ha
    obtain ⟨j, hj, rfl⟩ := List.getElem_of_mem hy
    have hj2 : j < i := by rw [List.length_take] at hj; omega
    have hj3 : j < xs.length := by rw [List.length_take] at hj; omega
    rw [List.getElem_take]
    exact hlow j _ hj2 (List.getElem?_eq_getElem hj3)
  have hB : ∀ b ∈ (xs.drop i).map PC.t, bl p b = true := by
    cases hd : xs.drop i with
    | nil => intro b hb; cases hb
    | cons y ys =>
      have hy : xs[i]? = some y := by
        have := List.getElem?_drop (xs := xs) (i := i) (j := 0)
        rw [hd] at this
        simpa using this.symm
      obtain ⟨h1, h2⟩ := hat y hy
      have hpy := bl_total _ _ h1 h2
      intro b hb
      rw [List.map_cons] at hb
      rcases List.mem_cons.1 hb with rfl | hb
      · exact hpy
      · rw [hd, List.map_cons, List.pairwise_cons] at s2
        exact bl_trans _ _ _ hpy (s2.1 b hb)
  have hno : p ∉ xs.map PC.t := fun hm => by
    rw [← hsp, List.map_append] at hm
    rcases List.mem_append.1 hm with hm | hm
    · have := hA p hm; rw [bl_irr] at this; cases this
    · have := hB p hm; rw [bl_irr] at this; cases this
  have hnL : p ∉ L := fun hm => hno ((h.mem p).2 hm)
  refine ⟨?_, fun x hx => ?_, fun t ht => ?_⟩
  · rw [List.map_append, List.map_append, List.append_assoc, List.pairwise_append]
    refine ⟨s1, ?_, fun a ha b hb => ?_⟩
    · rw [List.map_cons, List.map_nil, List.singleton_append, List.pairwise_cons]
      exact ⟨hB, s2⟩
    · rw [List.map_cons, List.map_nil, List.singleton_append] at hb
      rcases List.mem_cons.1 hb with rfl | hb
      · exact hA a ha
      · exact s3 a ha b hb
  · have hx2 : x = ⟨p, 1⟩ ∨ x ∈ xs := by
      rw [List.append_assoc] at hx
      rcases List.mem_append.1 hx with hx | hx
      · exact .inr (List.mem_of_mem_take hx)
      · rcases List.mem_append.1 hx with hx | hx
        · exact .inl (List.mem_singleton.1 hx)
        · exact .inr (List.mem_of_mem_drop hx)
    rcases hx2 with rfl | hx2
    · exact ⟨by simp, by rw [List.count_append, List.count_eq_zero_of_not_mem hnL]; simp⟩
    · obtain ⟨h1, h2⟩ := h.2.1 x hx2
      have hne : p ≠ x.t := fun e => hno (List.mem_map.2 ⟨x, hx2, e.symm⟩)
      refine ⟨List.mem_append_left _ h1, ?_⟩
      rw [h2, List.count_append, List.count_cons_of_ne hne, List.count_nil]
      rfl
  · rw [List.map_append, List.map_append, List.mem_append, List.mem_append]
    rcases List.mem_append.1 ht with ht | ht
    · have := h.2.2 t ht
      rw [← hsp, List.map_append] at this
      rcases List.mem_append.1 this with h1 | h1
      · exact .inl (.inl h1)
      · exact .inr h1
    · obtain rfl := List.mem_singleton.1 ht
      exact .inl (.inr (by simp))
/-- What a piece has in common with a list. -/
def rowS (x : PC) (ys : List PC) : Nat := (ys.map fun y => if y.t = x.t then min x.n y.n * x.t.length else 0).sum
theorem rowS_of {ys : List PC} {B : List (List UInt8)} (h : PS ys B) (x : PC) : rowS x ys = min x.n (B.count x.t) * x.t.length := by
  have key : ∀ zs : List PC, (zs.map PC.t).Nodup → (∀ z ∈ zs, z.n = B.count z.t) → rowS x zs = if x.t ∈ zs.map PC.t then min x.n (B.count x.t) * x.t.length else 0 := by
    intro zs
    induction zs with
    | nil => intro _ _; rfl
    | cons z zs ih =>
      intro hn hc
      rw [List.map_cons, List.nodup_cons] at hn
      have ih' := ih hn.2 (fun y hy => hc y (List.mem_cons_of_mem _ hy))
      have e : rowS x (z :: zs) = (if z.t = x.t then min x.n z.n * x.t.length else 0) + rowS x zs := by
        unfold rowS
        rw [List.map_cons, List.sum_cons]
      rw [e, ih']
      by_cases hz : z.t = x.t
      · rw [if_pos hz, if_neg (by rw [← hz]; exact hn.1), if_pos (by rw [← hz]; exact List.mem_cons_self), hc z List.mem_cons_self, hz]
        rfl
      · rw [if_neg hz]
        by_cases hm : x.t ∈ zs.map PC.t
        · rw [if_pos hm, if_pos (by rw [List.map_cons]; exact List.mem_cons_of_mem _ hm)]; omega
        · rw [if_neg hm, if_neg (by rw [List.map_cons]; intro h5; rcases List.mem_cons.1 h5 with h5 | h5; exact hz h5.symm; exact hm h5)]
  rw [key ys h.nodup (fun z hz => (h.2.1 z hz).2)]
  by_cases hm : x.t ∈ ys.map PC.t
  · rw [if_pos hm]
  · rw [if_neg hm, List.count_eq_zero_of_not_mem (fun h2 => hm ((h.mem _).2 h2))]
    simp
theorem all_com {xs ys : List PC} {A B : List (List UInt8)} (hx : PS xs A) (hy : PS ys B) : (xs.map fun x => rowS x ys).sum = comT A B := by
  rw [← comT_of hx.nodup (fun t => hx.mem t), com, List.map_map]
  congr 1
  refine List.map_congr_left fun x hxm => ?_
  rw [rowS_of hy x, (hx.2.1 x hxm).2]
  rfl
end Go.Proofs.Ytaknmlajhedfhaa


/-
  The document: Pieces.
-/
namespace Go.Proofs.Ytaknmlajhedfhaa
open Go.RowKit Zk Zx
set_option linter.unusedVariables false
set_option linter.unusedSimpArgs false

theorem ins_flat (xs : List PC) (i n : Nat) (q : List UInt8) (hi : i ≤ xs.length) (hn : xs.length = n) : [] ++ ((xs.flatMap pcf).drop (0 * 2)).take ((i - 0) * 2) ++ [sV q, Value.int .i64 1] ++ ((xs.flatMap pcf).drop (i * 2)).take ((n - i) * 2) = (xs.take i ++ [(⟨q, 1⟩ : PC)] ++ xs.drop i).flatMap pcf := by
  have e1 : ((xs.flatMap pcf).drop (0 * 2)).take ((i - 0) * 2) = (xs.take i).flatMap pcf := by rw [Nat.zero_mul, List.drop_zero, Nat.sub_zero, pc_take]
  have e2 : ((xs.flatMap pcf).drop (i * 2)).take ((n - i) * 2) = (xs.drop i).flatMap pcf := by rw [pc_drop, pc_take, List.take_of_length_le (by rw [List.length_drop]; omega)]
  rw [e1, e2, List.nil_append, List.flatMap_append, List.flatMap_append]
  rfl
theorem le_sum_mem : ∀ (l : List Nat) (x : Nat), x ∈ l → x ≤ l.sum
  | [], _, h => by cases h
  | y :: l, x, h => by
    rw [List.sum_cons]
    rcases List.mem_cons.1 h with rfl | h
    · omega
    · have := le_sum_mem l x h; omega
theorem str_inj {a b : List UInt8} (h : (⟨a.toArray⟩ : ByteArray) = ⟨b.toArray⟩) : a = b := by simpa using h


set_option maxRecDepth 100000 in
theorem rpieces (A : Option Addr) (n cc : Nat) (l : List UInt8) (w0 : World) (hb : Rs w0 1 A n cc (bL l)) (hn : n ≤ 4398046511104) :
    Calls Try.prog 14 #[.slice A n cc] w0 fun e w' => ∃ u, e = .returned u ∧ Like w0 w' ∧ ∃ A m c xs, u = .slice A m c ∧ w'.ownsRow w0.heap.size 34 2 (.slice A m c) m (xs.flatMap pcf) ∧ PS xs (cuts l) := by
  refine enter1 (env := [(0, .slice A n cc)]) [.slice A n cc] Try.func14 rfl Try.ntmps14 rfl rfl ?_
  have hln := hb.lenb; have hcap := hb.cap; have hmx := hb.max; have S0 := St.start w0 noM
  refine T_seq fun K1 hK1 => ?_
  refine T_region ?_
  refine L_y (y_assign rfl) rfl ?_
  refine L_nil ?_
  refine hK1 _ _ ?_
  refine T_seq fun K2 hK2 => ?_
  refine T_region ?_
  refine L_y (y_move rfl) rfl ?_
  refine L_o (o_call Try.func24 rfl rfl (rcut A n cc l w0 (S0.rd hb) hn) rfl rfl ?_)
  rintro e1 w1 ⟨v1, rfl, l1, A2, m2, c2, rfl, O1⟩
  refine ⟨_, rfl, ?_⟩
  have S1 := S0.adopt l1 O1
  have hm2 : m2 = (cuts l).length := by have := (S1.row 0 rfl).len; simpa using this.symm
  subst hm2
  have hcl : (cuts l).length ≤ n := by have := cutF_len l []; unfold cuts; simp at this; omega
  refine L_y (y_assign rfl) rfl ?_
  refine L_nil ?_
  refine hK2 _ _ ?_
  refine T_seq fun K3 hK3 => ?_
  refine T_region ?_
  refine L_y (y_assign rfl) rfl ?_
  refine L_nil ?_
  refine hK3 _ _ ?_
  refine T_seq fun K4 hK4 => ?_
  refine T_seq fun K5 hK5 => ?_
  refine T_region ?_
  refine L_y (y_assign rfl) rfl ?_
  refine L_nil ?_
  refine hK5 _ _ ?_
  refine T_block ?_
  refine T_loop4 [(3, _)] (fun (k : Nat) (A1 : Option Addr) (c1 : Nat) (xs : List PC) => [(4, .slice A1 xs.length c1), (5, .int .i64 (k : Int))]) (fun (k : Nat) (A1 : Option Addr) (c1 : Nat) (xs : List PC) => (cuts l).length - k) (fun (k : Nat) (A1 : Option Addr) (c1 : Nat) (xs : List PC) (w : World) => ((k ≤ (cuts l).length ∧ xs.length ≤ k) ∧ PS xs ((cuts l).take k)) ∧ St w0 noM [row 9 1 A2 (cuts l).length c2 ((cuts l).map sV), row 34 2 A1 xs.length c1 (xs.flatMap pcf)] w) 0 none 0 [] (Sub.cons rfl (by first | rfl | exact congrArg (Value.int _) (by omega)) (Sub.cons rfl (by first | rfl | exact congrArg (Value.int _) (by omega)) (Sub.nil _))) (Sub.cons rfl rfl (Sub.nil _)) ?_ ?_
  ·
    have S9 := S1.nilrow 34 2
    exact ⟨⟨⟨by omega, by simp⟩, by simpa using PS.nil⟩, S9⟩
  ·
    intro k A1 c1 xs w2 hrel
    obtain ⟨⟨⟨hk, hxk⟩, hps⟩, S2⟩ := hrel
    refine T_seq fun K6 hK6 => ?_
    refine T_seq fun K7 hK7 => ?_
    refine T_region ?_
    refine L_y (y_move rfl) rfl ?_
    refine L_y (y_move rfl) rfl ?_
    refine L_y (y_len Try.underlying53 rfl) rfl ?_
    refine L_y (y_lss rfl rfl) rfl ?_
    refine L_nil ?_
    refine hK7 _ _ ?_
    refine T_cond rfl (fun h13 => ?_) (fun h13 => ?_)
    ·
      obtain ⟨q, hq⟩ : ∃ q, (cuts l)[k]? = some q := ⟨_, List.getElem?_eq_getElem (by omega)⟩
      have hql : q.length ≤ n := by have h1 := cuts_sum l; have h2 := List.mem_of_getElem? hq; have h3 := le_sum_mem _ _ (List.mem_map.2 ⟨q, h2, rfl⟩ : q.length ∈ (cuts l).map List.length); omega
      refine T_skip ?_
      refine hK6 _ _ ?_
      refine T_seq fun K8 hK8 => ?_
      refine T_block ?_
      refine T_seq fun K9 hK9 => ?_
      refine T_region ?_
      refine L_y (y_assign rfl) rfl ?_
      refine L_nil ?_
      refine hK9 _ _ ?_
      refine T_seq fun K10 hK10 => ?_
      refine T_block ?_
      refine T_loop1 [(3, _), (4, _), (5, _)] (fun (j : Nat) => [(6, .int .i64 (j : Int))]) (fun (j : Nat) => xs.length - j) (fun (j : Nat) (w : World) => (j ≤ xs.length ∧ ∀ i y, i < j → xs[i]? = some y → bl y.t q = true) ∧ St w0 noM [row 9 1 A2 (cuts l).length c2 ((cuts l).map sV), row 34 2 A1 xs.length c1 (xs.flatMap pcf)] w) 0 (Sub.cons rfl (by first | rfl | exact congrArg (Value.int _) (by omega)) (Sub.nil _)) (Sub.cons rfl rfl (Sub.cons rfl rfl (Sub.cons rfl rfl (Sub.nil _)))) ?_ ?_
      ·
        exact ⟨⟨by omega, fun i y hi => by omega⟩, S2⟩
      ·
        intro j w3 hrel
        obtain ⟨⟨hj, hlow⟩, S3⟩ := hrel
        refine T_seq fun K11 hK11 => ?_
        refine T_seq fun K12 hK12 => ?_
        refine T_drawnL [(0, true), (1, true), (2, true), (3, true), (4, true), (5, true), (6, true), (7, true), (8, true), (9, true), (10, true), (11, true), (12, true), (13, true), (14, true), (15, true)] hmix (by kernel_rfl) fun w4 l4 => ?_
        have S4 := S3.like l4
        refine DL_y rfl (y_move rfl) rfl ?_
        refine DL_y rfl (y_move rfl) rfl ?_
        refine DL_y rfl (y_len Try.underlying30 rfl) rfl ?_
        refine DL_y rfl (y_lss rfl rfl) rfl ?_
        refine DL_y rfl (y_move rfl) rfl ?_
        refine DL_split 20 rfl (fun h20 => ?_) (fun h20 => ?_)
        ·
          obtain ⟨x, hx⟩ : ∃ x, xs[j]? = some x := ⟨_, List.getElem?_eq_getElem (by omega)⟩
          have hpg := pc_get xs j x hx
          refine DL_gyes rfl rfl rfl (y_move rfl) rfl ?_
          refine DL_gyes rfl rfl rfl (y_move rfl) rfl ?_
          refine DL_gyes rfl rfl rfl (y_idx Try.underlying30 sz34 rfl rfl (S4.row 1 rfl) inferInstance (by omega)) rfl ?_
          refine DL_gyes rfl rfl rfl (y_fieldR 0 Try.underlying34 rfl sz9 rfl rfl (S4.row 1 rfl) (by omega) rfl) rfl ?_
          refine DL_gyes rfl rfl rfl (y_ldf Try.underlying9 rfl rfl (S4.row 1 rfl) (by omega) hpg.1) rfl ?_
          refine DL_gyes rfl rfl rfl (y_move rfl) rfl ?_
          refine DL_gyes rfl rfl rfl (y_move rfl) rfl ?_
          refine DL_gyes rfl rfl rfl (y_idx Try.underlying53 sz9 rfl rfl (S4.row 0 rfl) inferInstance (by omega)) rfl ?_
          refine DL_gyes rfl rfl rfl (y_ldr Try.underlying9 rfl rfl (S4.row 0 rfl) (show ((cuts l).map sV)[k]? = some (sV q) by rw [List.getElem?_map, hq]; rfl)) rfl ?_
          refine DL_gyes rfl rfl rfl (y_slss rfl rfl) rfl ?_
          refine DL_y rfl ((by first | exact y_pickT rfl rfl | exact y_pickF rfl rfl)) rfl ?_
          refine DL_nil ?_
          refine hK12 _ _ ?_
          refine T_condB rfl (fun h31 => ?_) (fun h31 => ?_)
          ·
            refine T_skip ?_
            refine hK11 _ _ ?_
            refine T_block ?_
            refine T_region ?_
            refine L_y (y_move rfl) rfl ?_
            refine L_y (y_add rfl rfl (i64w (by omega))) rfl ?_
            refine L_y (y_assign rfl) rfl ?_
            refine L_nil ?_
            refine ⟨j + 1, by omega, ⟨⟨by omega, fun i y hi hy => by rcases Nat.lt_or_eq_of_le (Nat.le_of_lt_succ hi) with h3 | h3; exact hlow i y h3 hy; subst h3; rw [hx] at hy; cases hy; rw [← sLt_eq]; exact h31⟩, S4⟩, ?_⟩
            exact (Sub.cons rfl (by first | rfl | exact congrArg (Value.int _) (by omega)) (Sub.cons rfl rfl (Sub.cons rfl rfl (Sub.cons rfl rfl (Sub.nil _)))))
          ·
            refine T_exit ?_
            refine hK10 _ _ ?_
            refine T_seq fun K13 hK13 => ?_
            refine T_seq fun K14 hK14 => ?_
            refine T_drawnL [(0, true), (1, true), (2, true), (3, true), (4, true), (5, true), (6, true), (7, true), (8, true), (9, true), (10, true), (11, true), (12, true), (13, true), (14, true), (15, true)] hmix (by kernel_rfl) fun w5 l5 => ?_
            have S5 := S4.like l5
            refine DL_y rfl (y_move rfl) rfl ?_
            refine DL_y rfl (y_move rfl) rfl ?_
            refine DL_y rfl (y_len Try.underlying30 rfl) rfl ?_
            refine DL_y rfl (y_lss rfl rfl) rfl ?_
            refine DL_y rfl (y_move rfl) rfl ?_
            refine DL_split 38 rfl (fun h38 => ?_) (fun h38 => ?_)
            ·
              skip
              refine DL_gyes rfl rfl rfl (y_move rfl) rfl ?_
              refine DL_gyes rfl rfl rfl (y_move rfl) rfl ?_
              refine DL_gyes rfl rfl rfl (y_idx Try.underlying30 sz34 rfl rfl (S5.row 1 rfl) inferInstance (by omega)) rfl ?_
              refine DL_gyes rfl rfl rfl (y_fieldR 0 Try.underlying34 rfl sz9 rfl rfl (S5.row 1 rfl) (by omega) rfl) rfl ?_
              refine DL_gyes rfl rfl rfl (y_ldf Try.underlying9 rfl rfl (S5.row 1 rfl) (by omega) hpg.1) rfl ?_
              refine DL_gyes rfl rfl rfl (y_move rfl) rfl ?_
              refine DL_gyes rfl rfl rfl (y_move rfl) rfl ?_
              refine DL_gyes rfl rfl rfl (y_idx Try.underlying53 sz9 rfl rfl (S5.row 0 rfl) inferInstance (by omega)) rfl ?_
              refine DL_gyes rfl rfl rfl (y_ldr Try.underlying9 rfl rfl (S5.row 0 rfl) (show ((cuts l).map sV)[k]? = some (sV q) by rw [List.getElem?_map, hq]; rfl)) rfl ?_
              refine DL_gyes rfl rfl rfl (y_seql rfl rfl) rfl ?_
              refine DL_y rfl ((by first | exact y_pickT rfl rfl | exact y_pickF rfl rfl)) rfl ?_
              refine DL_nil ?_
              refine hK14 _ _ ?_
              refine T_cond rfl (fun h49 => ?_) (fun h49 => ?_)
              ·
                refine T_seq fun K15 hK15 => ?_
                have hxn : x.n ≤ n := by have h1 := (hps.2.1 x (List.mem_of_getElem? hx)).2; have h2 := List.count_le_length (a := x.t) (l := (cuts l).take k); rw [← h1, List.length_take] at h2; omega
                refine T_region ?_
                refine L_y (y_move rfl) rfl ?_
                refine L_y (y_move rfl) rfl ?_
                refine L_y (y_idx Try.underlying30 sz34 rfl rfl (S5.row 1 rfl) inferInstance (by omega)) rfl ?_
                refine L_y (y_fieldR 1 Try.underlying34 rfl sz3 rfl rfl (S5.row 1 rfl) (by omega) rfl) rfl ?_
                refine L_y (y_ldf Try.underlying3 rfl rfl (S5.row 1 rfl) (by omega) hpg.2) rfl ?_
                refine L_y (y_add rfl rfl (i64w (by omega))) rfl ?_
                refine L_y (y_idx Try.underlying30 sz34 rfl rfl (S5.row 1 rfl) inferInstance (by omega)) rfl ?_
                refine L_y (y_fieldR 1 Try.underlying34 rfl sz3 rfl rfl (S5.row 1 rfl) (by omega) rfl) rfl ?_
                refine L_o (o_strowN S5 1 rfl rfl rfl rfl sz3 (by omega) fun w6 S6 => ?_)
                refine L_nil ?_
                refine hK15 _ _ ?_
                refine T_exit ?_
                refine hK8 _ _ ?_
                refine T_region ?_
                refine L_y (y_move rfl) rfl ?_
                refine L_y (y_add rfl rfl (i64w (by omega))) rfl ?_
                refine L_y (y_assign rfl) rfl ?_
                refine L_nil ?_
                have S9 := S6.rowc 1 rfl (n' := (xs.set j ⟨x.t, x.n + 1⟩).length) (xs' := (xs.set j ⟨x.t, x.n + 1⟩).flatMap pcf) (by simp) (by rw [← pc_set xs j x _ hx]; rfl)
                have hps2 := hps.inc hx
                have hxq : x.t = q := str_inj h49
                rw [hxq] at hps2
                refine ⟨k + 1, A1, c1, xs.set j ⟨x.t, x.n + 1⟩, by omega, ⟨⟨⟨by omega, by rw [List.length_set]; omega⟩, by rw [List.take_add_one, hq, hxq]; exact hps2⟩, S9⟩, ?_⟩
                exact (Sub.cons rfl (by first | rfl | (rw [hlen]; rfl) | (rw [hlen]; congr 1; omega) | (rw [List.length_set])) (Sub.cons rfl (by first | rfl | exact congrArg (Value.int _) (by omega)) (Sub.cons rfl rfl (Sub.nil _))))
              ·
                refine T_skip ?_
                refine hK13 _ _ ?_
                refine T_seq fun K16 hK16 => ?_
                have hcp := (S5.row 1 rfl).cap
                have hno : ∀ y, xs[j]? = some y → bl y.t q = false ∧ y.t ≠ q := fun y hy => by rw [hx] at hy; cases hy; exact ⟨by rw [← sLt_eq]; exact h31, fun e => h49 (by rw [e])⟩
                refine T_region ?_
                have S7 := S5.nilrow 34 2
                refine L_y (y_assign rfl) rfl ?_
                refine L_nil ?_
                refine hK16 _ _ ?_
                refine T_seq fun K17 hK17 => ?_
                refine T_region ?_
                refine L_y (y_move rfl) rfl ?_
                refine L_y (y_move rfl) rfl ?_
                refine L_y (y_move rfl) rfl ?_
                refine L_y (y_sliceH Try.underlying30 sz34 rfl rfl inferInstance (by omega)) rfl ?_
                refine L_o (o_app te30 S7 2 rfl rfl rfl ((S7.row 1 rfl).cut (l := 0) (u := j) (Nat.zero_le _) (by omega)) (fun u hu => pc_one _ _ (List.mem_of_mem_drop (List.mem_of_mem_take hu))) rfl (by omega) (by omega) fun A8 c8 w8 S8 => ?_)
                refine L_y (y_assign rfl) rfl ?_
                refine L_nil ?_
                refine hK17 _ _ ?_
                refine T_seq fun K18 hK18 => ?_
                refine T_region ?_
                refine L_y (y_move rfl) rfl ?_
                refine L_y (y_move rfl) rfl ?_
                refine L_y (y_move rfl) rfl ?_
                refine L_y (y_idx Try.underlying53 sz9 rfl rfl (S8.row 0 rfl) inferInstance (by omega)) rfl ?_
                refine L_y (y_ldr Try.underlying9 rfl rfl (S8.row 0 rfl) (show ((cuts l).map sV)[k]? = some (sV q) by rw [List.getElem?_map, hq]; rfl)) rfl ?_
                refine L_y (y_build rfl (show _ = some #[sV q, Value.int .i64 1] by kernel_rfl)) rfl ?_
                refine L_o (o_bsl [_, _] te30 zz34 S8 rfl rfl rfl rfl rfl rfl rfl rfl fun b9 w9 S9 => ?_)
                refine L_o (o_app te30 S9 2 rfl rfl rfl (by first | exact S9.row 0 rfl | exact S9.row 1 rfl | exact S9.row 2 rfl | exact S9.row 3 rfl) (fun u hu => pc_one [⟨q, 1⟩] u hu) rfl (by omega) (by omega) fun A10 c10 w10 S10 => ?_)
                have S10d := S10.drop (rs' := [_, _, _]) (.cons_cons _ (.cons_cons _ (.cons_cons _ (.cons _ (.refl _)))))
                refine L_y (y_assign rfl) rfl ?_
                refine L_nil ?_
                refine hK18 _ _ ?_
                refine T_region ?_
                refine L_y (y_move rfl) rfl ?_
                refine L_y (y_move rfl) rfl ?_
                refine L_y (y_move rfl) rfl ?_
                refine L_y (y_sliceL Try.underlying30 sz34 rfl rfl inferInstance (by omega)) rfl ?_
                refine L_o (o_app te30 S10d 2 rfl rfl rfl ((S10d.row 1 rfl).cut (l := j) (u := xs.length) (by omega) (Nat.le_refl _)) (fun u hu => pc_one _ _ (List.mem_of_mem_drop (List.mem_of_mem_take hu))) rfl (by omega) (by omega) fun A11 c11 w11 S11 => ?_)
                refine L_y (y_assign rfl) rfl ?_
                refine L_nil ?_
                refine hK8 _ _ ?_
                refine T_region ?_
                refine L_y (y_move rfl) rfl ?_
                refine L_y (y_add rfl rfl (i64w (by omega))) rfl ?_
                refine L_y (y_assign rfl) rfl ?_
                refine L_nil ?_
                have hps2 := hps.ins hlow hno
                have hlen : (xs.take j ++ [(⟨q, 1⟩ : PC)] ++ xs.drop j : List PC).length = xs.length + 1 := by simp; omega
                have S9 := S11.rowc 2 rfl (n' := (xs.take j ++ [(⟨q, 1⟩ : PC)] ++ xs.drop j : List PC).length) (xs' := (xs.take j ++ [(⟨q, 1⟩ : PC)] ++ xs.drop j : List PC).flatMap pcf) (by rw [hlen]; omega) (ins_flat xs j _ q (by omega) rfl)
                have S10 := S9.drop (.cons_cons _ (.cons _ (.refl _)))
                refine ⟨k + 1, _, _, xs.take j ++ [(⟨q, 1⟩ : PC)] ++ xs.drop j, by omega, ⟨⟨⟨by omega, by omega⟩, by rw [List.take_add_one, hq]; exact hps2⟩, S10⟩, ?_⟩
                exact (Sub.cons rfl (by first | rfl | (rw [hlen]; rfl) | (rw [hlen]; congr 1; omega) | (rw [List.length_set])) (Sub.cons rfl (by first | rfl | exact congrArg (Value.int _) (by omega)) (Sub.cons rfl rfl (Sub.nil _))))
            ·
              refine DL_gno rfl rfl rfl rfl ?_
              refine DL_gno rfl rfl rfl rfl ?_
              refine DL_gno rfl rfl rfl rfl ?_
              refine DL_gno rfl rfl rfl rfl ?_
              refine DL_gno rfl rfl rfl rfl ?_
              refine DL_gno rfl rfl rfl rfl ?_
              refine DL_gno rfl rfl rfl rfl ?_
              refine DL_gno rfl rfl rfl rfl ?_
              refine DL_gno rfl rfl rfl rfl ?_
              refine DL_gno rfl rfl rfl rfl ?_
              refine DL_y rfl ((by first | exact y_pickT rfl rfl | exact y_pickF rfl rfl)) rfl ?_
              refine DL_nil ?_
              refine hK14 _ _ ?_
              refine T_false rfl ?_
              refine T_skip ?_
              refine hK13 _ _ ?_
              refine T_seq fun K19 hK19 => ?_
              have hcp := (S5.row 1 rfl).cap
              have hno : ∀ y, xs[j]? = some y → bl y.t q = false ∧ y.t ≠ q := fun y hy => by have := (List.getElem?_eq_some_iff.1 hy).1; omega
              refine T_region ?_
              have S12 := S5.nilrow 34 2
              refine L_y (y_assign rfl) rfl ?_
              refine L_nil ?_
              refine hK19 _ _ ?_
              refine T_seq fun K20 hK20 => ?_
              refine T_region ?_
              refine L_y (y_move rfl) rfl ?_
              refine L_y (y_move rfl) rfl ?_
              refine L_y (y_move rfl) rfl ?_
              refine L_y (y_sliceH Try.underlying30 sz34 rfl rfl inferInstance (by omega)) rfl ?_
              refine L_o (o_app te30 S12 2 rfl rfl rfl ((S12.row 1 rfl).cut (l := 0) (u := j) (Nat.zero_le _) (by omega)) (fun u hu => pc_one _ _ (List.mem_of_mem_drop (List.mem_of_mem_take hu))) rfl (by omega) (by omega) fun A13 c13 w13 S13 => ?_)
              refine L_y (y_assign rfl) rfl ?_
              refine L_nil ?_
              refine hK20 _ _ ?_
              refine T_seq fun K21 hK21 => ?_
              refine T_region ?_
              refine L_y (y_move rfl) rfl ?_
              refine L_y (y_move rfl) rfl ?_
              refine L_y (y_move rfl) rfl ?_
              refine L_y (y_idx Try.underlying53 sz9 rfl rfl (S13.row 0 rfl) inferInstance (by omega)) rfl ?_
              refine L_y (y_ldr Try.underlying9 rfl rfl (S13.row 0 rfl) (show ((cuts l).map sV)[k]? = some (sV q) by rw [List.getElem?_map, hq]; rfl)) rfl ?_
              refine L_y (y_build rfl (show _ = some #[sV q, Value.int .i64 1] by kernel_rfl)) rfl ?_
              refine L_o (o_bsl [_, _] te30 zz34 S13 rfl rfl rfl rfl rfl rfl rfl rfl fun b14 w14 S14 => ?_)
              refine L_o (o_app te30 S14 2 rfl rfl rfl (by first | exact S14.row 0 rfl | exact S14.row 1 rfl | exact S14.row 2 rfl | exact S14.row 3 rfl) (fun u hu => pc_one [⟨q, 1⟩] u hu) rfl (by omega) (by omega) fun A15 c15 w15 S15 => ?_)
              have S15d := S15.drop (rs' := [_, _, _]) (.cons_cons _ (.cons_cons _ (.cons_cons _ (.cons _ (.refl _)))))
              refine L_y (y_assign rfl) rfl ?_
              refine L_nil ?_
              refine hK21 _ _ ?_
              refine T_region ?_
              refine L_y (y_move rfl) rfl ?_
              refine L_y (y_move rfl) rfl ?_
              refine L_y (y_move rfl) rfl ?_
              refine L_y (y_sliceL Try.underlying30 sz34 rfl rfl inferInstance (by omega)) rfl ?_
              refine L_o (o_app te30 S15d 2 rfl rfl rfl ((S15d.row 1 rfl).cut (l := j) (u := xs.length) (by omega) (Nat.le_refl _)) (fun u hu => pc_one _ _ (List.mem_of_mem_drop (List.mem_of_mem_take hu))) rfl (by omega) (by omega) fun A16 c16 w16 S16 => ?_)
              refine L_y (y_assign rfl) rfl ?_
              refine L_nil ?_
              refine hK8 _ _ ?_
              refine T_region ?_
              refine L_y (y_move rfl) rfl ?_
              refine L_y (y_add rfl rfl (i64w (by omega))) rfl ?_
              refine L_y (y_assign rfl) rfl ?_
              refine L_nil ?_
              have hps2 := hps.ins hlow hno
              have hlen : (xs.take j ++ [(⟨q, 1⟩ : PC)] ++ xs.drop j : List PC).length = xs.length + 1 := by simp; omega
              have S9 := S16.rowc 2 rfl (n' := (xs.take j ++ [(⟨q, 1⟩ : PC)] ++ xs.drop j : List PC).length) (xs' := (xs.take j ++ [(⟨q, 1⟩ : PC)] ++ xs.drop j : List PC).flatMap pcf) (by rw [hlen]; omega) (ins_flat xs j _ q (by omega) rfl)
              have S10 := S9.drop (.cons_cons _ (.cons _ (.refl _)))
              refine ⟨k + 1, _, _, xs.take j ++ [(⟨q, 1⟩ : PC)] ++ xs.drop j, by omega, ⟨⟨⟨by omega, by omega⟩, by rw [List.take_add_one, hq]; exact hps2⟩, S10⟩, ?_⟩
              exact (Sub.cons rfl (by first | rfl | (rw [hlen]; rfl) | (rw [hlen]; congr 1; omega) | (rw [List.length_set])) (Sub.cons rfl (by first | rfl | exact congrArg (Value.int _) (by omega)) (Sub.cons rfl rfl (Sub.nil _))))
        ·
          refine DL_gno rfl rfl rfl rfl ?_
          refine DL_gno rfl rfl rfl rfl ?_
          refine DL_gno rfl rfl rfl rfl ?_
          refine DL_gno rfl rfl rfl rfl ?_
          refine DL_gno rfl rfl rfl rfl ?_
          refine DL_gno rfl rfl rfl rfl ?_
          refine DL_gno rfl rfl rfl rfl ?_
          refine DL_gno rfl rfl rfl rfl ?_
          refine DL_gno rfl rfl rfl rfl ?_
          refine DL_gno rfl rfl rfl rfl ?_
          refine DL_y rfl ((by first | exact y_pickT rfl rfl | exact y_pickF rfl rfl)) rfl ?_
          refine DL_nil ?_
          refine hK12 _ _ ?_
          refine T_false rfl ?_
          refine T_exit ?_
          refine hK10 _ _ ?_
          refine T_seq fun K22 hK22 => ?_
          refine T_seq fun K23 hK23 => ?_
          refine T_drawnL [(0, true), (1, true), (2, true), (3, true), (4, true), (5, true), (6, true), (7, true), (8, true), (9, true), (10, true), (11, true), (12, true), (13, true), (14, true), (15, true)] hmix (by kernel_rfl) fun w17 l17 => ?_
          have S17 := S4.like l17
          refine DL_y rfl (y_move rfl) rfl ?_
          refine DL_y rfl (y_move rfl) rfl ?_
          refine DL_y rfl (y_len Try.underlying30 rfl) rfl ?_
          refine DL_y rfl (y_lss rfl rfl) rfl ?_
          refine DL_y rfl (y_move rfl) rfl ?_
          refine DL_split 38 rfl (fun h38 => ?_) (fun h38 => ?_)
          ·
            obtain ⟨x, hx⟩ : ∃ x, xs[j]? = some x := ⟨_, List.getElem?_eq_getElem (by omega)⟩
            have hpg := pc_get xs j x hx
            refine DL_gyes rfl rfl rfl (y_move rfl) rfl ?_
            refine DL_gyes rfl rfl rfl (y_move rfl) rfl ?_
            refine DL_gyes rfl rfl rfl (y_idx Try.underlying30 sz34 rfl rfl (S17.row 1 rfl) inferInstance (by omega)) rfl ?_
            refine DL_gyes rfl rfl rfl (y_fieldR 0 Try.underlying34 rfl sz9 rfl rfl (S17.row 1 rfl) (by omega) rfl) rfl ?_
            refine DL_gyes rfl rfl rfl (y_ldf Try.underlying9 rfl rfl (S17.row 1 rfl) (by omega) hpg.1) rfl ?_
            refine DL_gyes rfl rfl rfl (y_move rfl) rfl ?_
            refine DL_gyes rfl rfl rfl (y_move rfl) rfl ?_
            refine DL_gyes rfl rfl rfl (y_idx Try.underlying53 sz9 rfl rfl (S17.row 0 rfl) inferInstance (by omega)) rfl ?_
            refine DL_gyes rfl rfl rfl (y_ldr Try.underlying9 rfl rfl (S17.row 0 rfl) (show ((cuts l).map sV)[k]? = some (sV q) by rw [List.getElem?_map, hq]; rfl)) rfl ?_
            refine DL_gyes rfl rfl rfl (y_seql rfl rfl) rfl ?_
            refine DL_y rfl ((by first | exact y_pickT rfl rfl | exact y_pickF rfl rfl)) rfl ?_
            refine DL_nil ?_
            refine hK23 _ _ ?_
            refine T_cond rfl (fun h49 => ?_) (fun h49 => ?_)
            ·
              refine T_seq fun K24 hK24 => ?_
              have hxn : x.n ≤ n := by have h1 := (hps.2.1 x (List.mem_of_getElem? hx)).2; have h2 := List.count_le_length (a := x.t) (l := (cuts l).take k); rw [← h1, List.length_take] at h2; omega
              refine T_region ?_
              refine L_y (y_move rfl) rfl ?_
              refine L_y (y_move rfl) rfl ?_
              refine L_y (y_idx Try.underlying30 sz34 rfl rfl (S17.row 1 rfl) inferInstance (by omega)) rfl ?_
              refine L_y (y_fieldR 1 Try.underlying34 rfl sz3 rfl rfl (S17.row 1 rfl) (by omega) rfl) rfl ?_
              refine L_y (y_ldf Try.underlying3 rfl rfl (S17.row 1 rfl) (by omega) hpg.2) rfl ?_
              refine L_y (y_add rfl rfl (i64w (by omega))) rfl ?_
              refine L_y (y_idx Try.underlying30 sz34 rfl rfl (S17.row 1 rfl) inferInstance (by omega)) rfl ?_
              refine L_y (y_fieldR 1 Try.underlying34 rfl sz3 rfl rfl (S17.row 1 rfl) (by omega) rfl) rfl ?_
              refine L_o (o_strowN S17 1 rfl rfl rfl rfl sz3 (by omega) fun w18 S18 => ?_)
              refine L_nil ?_
              refine hK24 _ _ ?_
              refine T_exit ?_
              refine hK8 _ _ ?_
              refine T_region ?_
              refine L_y (y_move rfl) rfl ?_
              refine L_y (y_add rfl rfl (i64w (by omega))) rfl ?_
              refine L_y (y_assign rfl) rfl ?_
              refine L_nil ?_
              have S9 := S18.rowc 1 rfl (n' := (xs.set j ⟨x.t, x.n + 1⟩).length) (xs' := (xs.set j ⟨x.t, x.n + 1⟩).flatMap pcf) (by simp) (by rw [← pc_set xs j x _ hx]; rfl)
              have hps2 := hps.inc hx
              have hxq : x.t = q := str_inj h49
              rw [hxq] at hps2
              refine ⟨k + 1, A1, c1, xs.set j ⟨x.t, x.n + 1⟩, by omega, ⟨⟨⟨by omega, by rw [List.length_set]; omega⟩, by rw [List.take_add_one, hq, hxq]; exact hps2⟩, S9⟩, ?_⟩
              exact (Sub.cons rfl (by first | rfl | (rw [hlen]; rfl) | (rw [hlen]; congr 1; omega) | (rw [List.length_set])) (Sub.cons rfl (by first | rfl | exact congrArg (Value.int _) (by omega)) (Sub.cons rfl rfl (Sub.nil _))))
            ·
              refine T_skip ?_
              refine hK22 _ _ ?_
              refine T_seq fun K25 hK25 => ?_
              have hcp := (S17.row 1 rfl).cap
              have hno : ∀ y, xs[j]? = some y → bl y.t q = false ∧ y.t ≠ q := fun y hy => by have := (List.getElem?_eq_some_iff.1 hy).1; omega
              refine T_region ?_
              have S19 := S17.nilrow 34 2
              refine L_y (y_assign rfl) rfl ?_
              refine L_nil ?_
              refine hK25 _ _ ?_
              refine T_seq fun K26 hK26 => ?_
              refine T_region ?_
              refine L_y (y_move rfl) rfl ?_
              refine L_y (y_move rfl) rfl ?_
              refine L_y (y_move rfl) rfl ?_
              refine L_y (y_sliceH Try.underlying30 sz34 rfl rfl inferInstance (by omega)) rfl ?_
              refine L_o (o_app te30 S19 2 rfl rfl rfl ((S19.row 1 rfl).cut (l := 0) (u := j) (Nat.zero_le _) (by omega)) (fun u hu => pc_one _ _ (List.mem_of_mem_drop (List.mem_of_mem_take hu))) rfl (by omega) (by omega) fun A20 c20 w20 S20 => ?_)
              refine L_y (y_assign rfl) rfl ?_
              refine L_nil ?_
              refine hK26 _ _ ?_
              refine T_seq fun K27 hK27 => ?_
              refine T_region ?_
              refine L_y (y_move rfl) rfl ?_
              refine L_y (y_move rfl) rfl ?_
              refine L_y (y_move rfl) rfl ?_
              refine L_y (y_idx Try.underlying53 sz9 rfl rfl (S20.row 0 rfl) inferInstance (by omega)) rfl ?_
              refine L_y (y_ldr Try.underlying9 rfl rfl (S20.row 0 rfl) (show ((cuts l).map sV)[k]? = some (sV q) by rw [List.getElem?_map, hq]; rfl)) rfl ?_
              refine L_y (y_build rfl (show _ = some #[sV q, Value.int .i64 1] by kernel_rfl)) rfl ?_
              refine L_o (o_bsl [_, _] te30 zz34 S20 rfl rfl rfl rfl rfl rfl rfl rfl fun b21 w21 S21 => ?_)
              refine L_o (o_app te30 S21 2 rfl rfl rfl (by first | exact S21.row 0 rfl | exact S21.row 1 rfl | exact S21.row 2 rfl | exact S21.row 3 rfl) (fun u hu => pc_one [⟨q, 1⟩] u hu) rfl (by omega) (by omega) fun A22 c22 w22 S22 => ?_)
              have S22d := S22.drop (rs' := [_, _, _]) (.cons_cons _ (.cons_cons _ (.cons_cons _ (.cons _ (.refl _)))))
              refine L_y (y_assign rfl) rfl ?_
              refine L_nil ?_
              refine hK27 _ _ ?_
              refine T_region ?_
              refine L_y (y_move rfl) rfl ?_
              refine L_y (y_move rfl) rfl ?_
              refine L_y (y_move rfl) rfl ?_
              refine L_y (y_sliceL Try.underlying30 sz34 rfl rfl inferInstance (by omega)) rfl ?_
              refine L_o (o_app te30 S22d 2 rfl rfl rfl ((S22d.row 1 rfl).cut (l := j) (u := xs.length) (by omega) (Nat.le_refl _)) (fun u hu => pc_one _ _ (List.mem_of_mem_drop (List.mem_of_mem_take hu))) rfl (by omega) (by omega) fun A23 c23 w23 S23 => ?_)
              refine L_y (y_assign rfl) rfl ?_
              refine L_nil ?_
              refine hK8 _ _ ?_
              refine T_region ?_
              refine L_y (y_move rfl) rfl ?_
              refine L_y (y_add rfl rfl (i64w (by omega))) rfl ?_
              refine L_y (y_assign rfl) rfl ?_
              refine L_nil ?_
              have hps2 := hps.ins hlow hno
              have hlen : (xs.take j ++ [(⟨q, 1⟩ : PC)] ++ xs.drop j : List PC).length = xs.length + 1 := by simp; omega
              have S9 := S23.rowc 2 rfl (n' := (xs.take j ++ [(⟨q, 1⟩ : PC)] ++ xs.drop j : List PC).length) (xs' := (xs.take j ++ [(⟨q, 1⟩ : PC)] ++ xs.drop j : List PC).flatMap pcf) (by rw [hlen]; omega) (ins_flat xs j _ q (by omega) rfl)
              have S10 := S9.drop (.cons_cons _ (.cons _ (.refl _)))
              refine ⟨k + 1, _, _, xs.take j ++ [(⟨q, 1⟩ : PC)] ++ xs.drop j, by omega, ⟨⟨⟨by omega, by omega⟩, by rw [List.take_add_one, hq]; exact hps2⟩, S10⟩, ?_⟩
              exact (Sub.cons rfl (by first | rfl | (rw [hlen]; rfl) | (rw [hlen]; congr 1; omega) | (rw [List.length_set])) (Sub.cons rfl (by first | rfl | exact congrArg (Value.int _) (by omega)) (Sub.cons rfl rfl (Sub.nil _))))
          ·
            refine DL_gno rfl rfl rfl rfl ?_
            refine DL_gno rfl rfl rfl rfl ?_
            refine DL_gno rfl rfl rfl rfl ?_
            refine DL_gno rfl rfl rfl rfl ?_
            refine DL_gno rfl rfl rfl rfl ?_
            refine DL_gno rfl rfl rfl rfl ?_
            refine DL_gno rfl rfl rfl rfl ?_
            refine DL_gno rfl rfl rfl rfl ?_
            refine DL_gno rfl rfl rfl rfl ?_
            refine DL_gno rfl rfl rfl rfl ?_
            refine DL_y rfl ((by first | exact y_pickT rfl rfl | exact y_pickF rfl rfl)) rfl ?_
            refine DL_nil ?_
            refine hK23 _ _ ?_
            refine T_false rfl ?_
            refine T_skip ?_
            refine hK22 _ _ ?_
            refine T_seq fun K28 hK28 => ?_
            have hcp := (S17.row 1 rfl).cap
            have hno : ∀ y, xs[j]? = some y → bl y.t q = false ∧ y.t ≠ q := fun y hy => by have := (List.getElem?_eq_some_iff.1 hy).1; omega
            refine T_region ?_
            have S24 := S17.nilrow 34 2
            refine L_y (y_assign rfl) rfl ?_
            refine L_nil ?_
            refine hK28 _ _ ?_
            refine T_seq fun K29 hK29 => ?_
            refine T_region ?_
            refine L_y (y_move rfl) rfl ?_
            refine L_y (y_move rfl) rfl ?_
            refine L_y (y_move rfl) rfl ?_
            refine L_y (y_sliceH Try.underlying30 sz34 rfl rfl inferInstance (by omega)) rfl ?_
            refine L_o (o_app te30 S24 2 rfl rfl rfl ((S24.row 1 rfl).cut (l := 0) (u := j) (Nat.zero_le _) (by omega)) (fun u hu => pc_one _ _ (List.mem_of_mem_drop (List.mem_of_mem_take hu))) rfl (by omega) (by omega) fun A25 c25 w25 S25 => ?_)
            refine L_y (y_assign rfl) rfl ?_
            refine L_nil ?_
            refine hK29 _ _ ?_
            refine T_seq fun K30 hK30 => ?_
            refine T_region ?_
            refine L_y (y_move rfl) rfl ?_
            refine L_y (y_move rfl) rfl ?_
            refine L_y (y_move rfl) rfl ?_
            refine L_y (y_idx Try.underlying53 sz9 rfl rfl (S25.row 0 rfl) inferInstance (by omega)) rfl ?_
            refine L_y (y_ldr Try.underlying9 rfl rfl (S25.row 0 rfl) (show ((cuts l).map sV)[k]? = some (sV q) by rw [List.getElem?_map, hq]; rfl)) rfl ?_
            refine L_y (y_build rfl (show _ = some #[sV q, Value.int .i64 1] by kernel_rfl)) rfl ?_
            refine L_o (o_bsl [_, _] te30 zz34 S25 rfl rfl rfl rfl rfl rfl rfl rfl fun b26 w26 S26 => ?_)
            refine L_o (o_app te30 S26 2 rfl rfl rfl (by first | exact S26.row 0 rfl | exact S26.row 1 rfl | exact S26.row 2 rfl | exact S26.row 3 rfl) (fun u hu => pc_one [⟨q, 1⟩] u hu) rfl (by omega) (by omega) fun A27 c27 w27 S27 => ?_)
            have S27d := S27.drop (rs' := [_, _, _]) (.cons_cons _ (.cons_cons _ (.cons_cons _ (.cons _ (.refl _)))))
            refine L_y (y_assign rfl) rfl ?_
            refine L_nil ?_
            refine hK30 _ _ ?_
            refine T_region ?_
            refine L_y (y_move rfl) rfl ?_
            refine L_y (y_move rfl) rfl ?_
            refine L_y (y_move rfl) rfl ?_
            refine L_y (y_sliceL Try.underlying30 sz34 rfl rfl inferInstance (by omega)) rfl ?_
            refine L_o (o_app te30 S27d 2 rfl rfl rfl ((S27d.row 1 rfl).cut (l := j) (u := xs.length) (by omega) (Nat.le_refl _)) (fun u hu => pc_one _ _ (List.mem_of_mem_drop (List.mem_of_mem_take hu))) rfl (by omega) (by omega) fun A28 c28 w28 S28 => ?_)
            refine L_y (y_assign rfl) rfl ?_
            refine L_nil ?_
            refine hK8 _ _ ?_
            refine T_region ?_
            refine L_y (y_move rfl) rfl ?_
            refine L_y (y_add rfl rfl (i64w (by omega))) rfl ?_
            refine L_y (y_assign rfl) rfl ?_
            refine L_nil ?_
            have hps2 := hps.ins hlow hno
            have hlen : (xs.take j ++ [(⟨q, 1⟩ : PC)] ++ xs.drop j : List PC).length = xs.length + 1 := by simp; omega
            have S9 := S28.rowc 2 rfl (n' := (xs.take j ++ [(⟨q, 1⟩ : PC)] ++ xs.drop j : List PC).length) (xs' := (xs.take j ++ [(⟨q, 1⟩ : PC)] ++ xs.drop j : List PC).flatMap pcf) (by rw [hlen]; omega) (ins_flat xs j _ q (by omega) rfl)
            have S10 := S9.drop (.cons_cons _ (.cons _ (.refl _)))
            refine ⟨k + 1, _, _, xs.take j ++ [(⟨q, 1⟩ : PC)] ++ xs.drop j, by omega, ⟨⟨⟨by omega, by omega⟩, by rw [List.take_add_one, hq]; exact hps2⟩, S10⟩, ?_⟩
            exact (Sub.cons rfl (by first | rfl | (rw [hlen]; rfl) | (rw [hlen]; congr 1; omega) | (rw [List.length_set])) (Sub.cons rfl (by first | rfl | exact congrArg (Value.int _) (by omega)) (Sub.cons rfl rfl (Sub.nil _))))
    ·
      have hke : k = (cuts l).length := by omega
      rw [hke, List.take_length] at hps
      refine T_exit ?_
      refine hK4 _ _ ?_
      refine T_seq fun K31 hK31 => ?_
      refine T_region ?_
      refine L_y (y_move rfl) rfl ?_
      refine L_y (y_assign rfl) rfl ?_
      refine L_nil ?_
      refine hK31 _ _ ?_
      refine T_ret ?_
      repeat (first | with_reducible refine up_then ?_ | with_reducible refine up_in ?_)
      refine ret1 rfl rfl ?_
      exact ⟨_, rfl, S2.like0, _, _, _, _, rfl, S2.own 1 rfl, hps⟩
end Go.Proofs.Ytaknmlajhedfhaa


/-
  The document: Common, Score.
-/
namespace Go.Proofs.Ytaknmlajhedfhaa
open Go.RowKit Zk Zx
set_option linter.unusedVariables false
set_option linter.unusedSimpArgs false

theorem take_sum_step {α : Type} (f : α → Nat) : ∀ (l : List α) (i : Nat) (x : α), l[i]? = some x → ((l.take (i + 1)).map f).sum = ((l.take i).map f).sum + f x := fun l i x h => by
  rw [List.take_add_one, h, List.map_append, List.sum_append]
  simp
theorem take_sum_le {α : Type} (f : α → Nat) (l : List α) (i : Nat) : ((l.take i).map f).sum ≤ (l.map f).sum := by
  have e : (l.map f).sum = ((l.take i).map f).sum + ((l.drop i).map f).sum := by rw [← List.sum_append, ← List.map_append, List.take_append_drop]
  omega
def rowsS (xs ys : List PC) (k : Nat) : Nat := ((xs.take k).map fun x => rowS x ys).sum
theorem rowsS_step {xs ys : List PC} {k : Nat} {x : PC} (h : xs[k]? = some x) : rowsS xs ys (k + 1) = rowsS xs ys k + rowS x ys := take_sum_step (fun x => rowS x ys) xs k x h
theorem rowsS_le (xs ys : List PC) (k : Nat) : rowsS xs ys k ≤ rowsS xs ys xs.length := by
  unfold rowsS
  rw [List.take_length]
  exact take_sum_le _ _ _
theorem rowS_step {ys : List PC} {j : Nat} {y : PC} (x : PC) (h : ys[j]? = some y) : rowS x (ys.take (j + 1)) = rowS x (ys.take j) + if y.t = x.t then min x.n y.n * x.t.length else 0 := take_sum_step (fun y : PC => if y.t = x.t then min x.n y.n * x.t.length else 0) ys j y h
theorem rowS_le (x : PC) (ys : List PC) (j : Nat) : rowS x (ys.take j) ≤ rowS x ys := take_sum_le _ _ _
theorem pcs_len (xs : List PC) : (xs.flatMap pcf).length = xs.length * 2 := by
  rw [List.length_flatMap]
  simp only [pcf_len]
  induction xs with
  | nil => rfl
  | cons x xs ih => simp only [List.map_cons, List.sum_cons, List.length_cons, ih]; omega
theorem minmul2 (a b c z : Nat) (hc : c = min a b) (h : min a b * z ≤ 4398046511104) : IntKind.i64.wrap ((c : Int) * (z : Int)) = ((min a b * z : Nat) : Int) := by
  rw [hc, ← Int.natCast_mul]
  exact i64w (by omega)


set_option maxRecDepth 100000 in
theorem rcommon (A B : Option Addr) (n cc m dd : Nat) (la lb : List UInt8) (w0 : World) (ha : Rs w0 1 A n cc (bL la)) (hb : Rs w0 1 B m dd (bL lb)) (hn : n ≤ 4398046511104) (hm : m ≤ 4398046511104) :
    Calls Try.prog 12 #[.slice A n cc, .slice B m dd] w0 fun e w' => ∃ u, e = .returned u ∧ Like w0 w' ∧ u = .int .i64 (comT (cuts la) (cuts lb) : Int) := by
  refine enter1 (env := [(0, .slice A n cc), (1, .slice B m dd)]) [.slice A n cc, .slice B m dd] Try.func12 rfl Try.ntmps12 rfl rfl ?_
  have hla := ha.lenb; have hlb := hb.lenb; have S0 := St.start w0 noM
  refine T_seq fun K1 hK1 => ?_
  refine T_region ?_
  refine L_y (y_assign rfl) rfl ?_
  refine L_nil ?_
  refine hK1 _ _ ?_
  refine T_seq fun K2 hK2 => ?_
  refine T_region ?_
  refine L_y (y_move rfl) rfl ?_
  refine L_o (o_call Try.func14 rfl rfl (rpieces A n cc la w0 (S0.rd ha) (by omega)) rfl rfl ?_)
  rintro e1 w1 ⟨v1, rfl, l1, PA, pm, pc, xs, rfl, O1, hpx⟩
  refine ⟨_, rfl, ?_⟩
  have S1 := S0.adopt l1 O1
  have hpm : pm = xs.length := by have := (S1.row 0 rfl).len; rw [pcs_len] at this; omega
  subst hpm
  refine L_y (y_move rfl) rfl ?_
  refine L_o (o_call Try.func14 rfl rfl (rpieces B m dd lb w1 (S1.rd hb) (by omega)) rfl rfl ?_)
  rintro e2 w2 ⟨v2, rfl, l2, QA, qm, qc, ys, rfl, O2, hpy⟩
  refine ⟨_, rfl, ?_⟩
  have S2 := S1.adopt l2 O2
  have hqm : qm = ys.length := by have := (S2.row 1 rfl).len; rw [pcs_len] at this; omega
  subst hqm
  have hall : rowsS xs ys xs.length ≤ n := by have h1 := all_com hpx hpy; have h2 := (comT_le (cuts la) (cuts lb)).1; rw [cuts_sum] at h2; unfold rowsS; rw [List.take_length, h1]; omega
  refine L_y (y_assign rfl) rfl ?_
  refine L_y (y_assign rfl) rfl ?_
  refine L_nil ?_
  refine hK2 _ _ ?_
  refine T_seq fun K3 hK3 => ?_
  refine T_region ?_
  refine L_y (y_assign rfl) rfl ?_
  refine L_nil ?_
  refine hK3 _ _ ?_
  refine T_seq fun K4 hK4 => ?_
  refine T_seq fun K5 hK5 => ?_
  refine T_region ?_
  refine L_y (y_assign rfl) rfl ?_
  refine L_nil ?_
  refine hK5 _ _ ?_
  refine T_block ?_
  refine T_loop1 [(5, _), (6, _)] (fun (k : Nat) => [(7, .int .i64 (rowsS xs ys k : Int)), (8, .int .i64 (k : Int))]) (fun (k : Nat) => xs.length - k) (fun (k : Nat) (w : World) => k ≤ xs.length ∧ St w0 noM [row 34 2 PA xs.length pc (xs.flatMap pcf), row 34 2 QA ys.length qc (ys.flatMap pcf)] w) 0 (Sub.cons rfl (by first | rfl | exact congrArg (Value.int _) (by omega)) (Sub.cons rfl (by first | rfl | exact congrArg (Value.int _) (by omega)) (Sub.nil _))) (Sub.cons rfl rfl (Sub.cons rfl rfl (Sub.nil _))) ?_ ?_
  ·
    exact ⟨by omega, S2⟩
  ·
    intro k w3 hrel
    obtain ⟨hk, S3⟩ := hrel
    refine T_seq fun K6 hK6 => ?_
    refine T_seq fun K7 hK7 => ?_
    refine T_region ?_
    refine L_y (y_move rfl) rfl ?_
    refine L_y (y_move rfl) rfl ?_
    refine L_y (y_len Try.underlying30 rfl) rfl ?_
    refine L_y (y_lss rfl rfl) rfl ?_
    refine L_nil ?_
    refine hK7 _ _ ?_
    refine T_cond rfl (fun h18 => ?_) (fun h18 => ?_)
    ·
      obtain ⟨x, hx⟩ : ∃ x, xs[k]? = some x := ⟨_, List.getElem?_eq_getElem (by omega)⟩
      have hpg := pc_get xs k x hx
      have hrs := rowsS_step (ys := ys) hx
      have hr1 := rowsS_le xs ys (k + 1)
      have hxc := (S3.row 0 rfl).cap
      have hxm := (S3.row 0 rfl).max
      refine T_skip ?_
      refine hK6 _ _ ?_
      refine T_seq fun K8 hK8 => ?_
      refine T_block ?_
      refine T_seq fun K9 hK9 => ?_
      refine T_region ?_
      refine L_y (y_assign rfl) rfl ?_
      refine L_nil ?_
      refine hK9 _ _ ?_
      refine T_block ?_
      refine T_loop1 [(5, _), (6, _), (8, _)] (fun (j : Nat) => [(7, .int .i64 ((rowsS xs ys k + rowS x (ys.take j) : Nat) : Int)), (9, .int .i64 (j : Int))]) (fun (j : Nat) => ys.length - j) (fun (j : Nat) (w : World) => j ≤ ys.length ∧ St w0 noM [row 34 2 PA xs.length pc (xs.flatMap pcf), row 34 2 QA ys.length qc (ys.flatMap pcf)] w) 0 (Sub.cons rfl (by first | rfl | exact congrArg (Value.int _) (by omega)) (Sub.cons rfl (by first | rfl | exact congrArg (Value.int _) (by omega)) (Sub.nil _))) (Sub.cons rfl rfl (Sub.cons rfl rfl (Sub.cons rfl rfl (Sub.nil _)))) ?_ ?_
      ·
        exact ⟨by omega, S3⟩
      ·
        intro j w4 hrel
        obtain ⟨hj, S4⟩ := hrel
        refine T_seq fun K10 hK10 => ?_
        refine T_seq fun K11 hK11 => ?_
        refine T_region ?_
        refine L_y (y_move rfl) rfl ?_
        refine L_y (y_move rfl) rfl ?_
        refine L_y (y_len Try.underlying30 rfl) rfl ?_
        refine L_y (y_lss rfl rfl) rfl ?_
        refine L_nil ?_
        refine hK11 _ _ ?_
        refine T_cond rfl (fun h24 => ?_) (fun h24 => ?_)
        ·
          obtain ⟨y, hy⟩ : ∃ y, ys[j]? = some y := ⟨_, List.getElem?_eq_getElem (by omega)⟩
          have hqg := pc_get ys j y hy
          have hstep := rowS_step x hy
          have hrl := rowS_le x ys (j + 1)
          have hyc := (S4.row 1 rfl).cap
          have hym := (S4.row 1 rfl).max
          refine T_skip ?_
          refine hK10 _ _ ?_
          refine T_seq fun K12 hK12 => ?_
          refine T_block ?_
          refine T_seq fun K13 hK13 => ?_
          refine T_seq fun K14 hK14 => ?_
          refine T_drawnL [(0, true), (1, true), (2, true), (3, true), (4, true), (5, true), (6, true), (7, true), (8, true), (9, true), (10, true)] hmix (by kernel_rfl) fun w5 l5 => ?_
          have S5 := S4.like l5
          refine DL_y rfl (y_move rfl) rfl ?_
          refine DL_y rfl (y_move rfl) rfl ?_
          refine DL_y rfl (y_idx Try.underlying30 sz34 rfl rfl (S5.row 0 rfl) inferInstance (by omega)) rfl ?_
          refine DL_y rfl (y_fieldR 0 Try.underlying34 rfl sz9 rfl rfl (S5.row 0 rfl) (by omega) rfl) rfl ?_
          refine DL_y rfl (y_ldf Try.underlying9 rfl rfl (S5.row 0 rfl) (by omega) hpg.1) rfl ?_
          refine DL_y rfl (y_move rfl) rfl ?_
          refine DL_y rfl (y_move rfl) rfl ?_
          refine DL_y rfl (y_idx Try.underlying30 sz34 rfl rfl (S5.row 1 rfl) inferInstance (by omega)) rfl ?_
          refine DL_y rfl (y_fieldR 0 Try.underlying34 rfl sz9 rfl rfl (S5.row 1 rfl) (by omega) rfl) rfl ?_
          refine DL_y rfl (y_ldf Try.underlying9 rfl rfl (S5.row 1 rfl) (by omega) hqg.1) rfl ?_
          refine DL_y rfl (y_sneq rfl rfl) rfl ?_
          refine DL_nil ?_
          refine hK14 _ _ ?_
          refine T_cond rfl (fun h37 => ?_) (fun h37 => ?_)
          ·
            refine T_exit ?_
            refine hK12 _ _ ?_
            refine T_region ?_
            refine L_y (y_move rfl) rfl ?_
            refine L_y (y_add rfl rfl (i64w (by omega))) rfl ?_
            refine L_y (y_assign rfl) rfl ?_
            refine L_nil ?_
            refine ⟨j + 1, by omega, ⟨by omega, S5⟩, ?_⟩
            exact (Sub.cons rfl (congrArg (Value.int _) (by first | omega | (have hne : y.t ≠ x.t := (fun e => h37 (by rw [e])); rw [if_neg hne] at hstep; omega))) (Sub.cons rfl (by first | rfl | exact congrArg (Value.int _) (by omega)) (Sub.cons rfl rfl (Sub.cons rfl rfl (Sub.cons rfl rfl (Sub.nil _))))))
          ·
            have hyx : y.t = x.t := (str_inj (by first | exact h37 | exact Classical.byContradiction h37)).symm
            rw [if_pos hyx] at hstep
            refine T_skip ?_
            refine hK13 _ _ ?_
            refine T_seq fun K15 hK15 => ?_
            refine T_region ?_
            refine L_y (y_move rfl) rfl ?_
            refine L_y (y_move rfl) rfl ?_
            refine L_y (y_idx Try.underlying30 sz34 rfl rfl (S5.row 0 rfl) inferInstance (by omega)) rfl ?_
            refine L_y (y_fieldR 1 Try.underlying34 rfl sz3 rfl rfl (S5.row 0 rfl) (by omega) rfl) rfl ?_
            refine L_y (y_ldf Try.underlying3 rfl rfl (S5.row 0 rfl) (by omega) hpg.2) rfl ?_
            refine L_y (y_assign rfl) rfl ?_
            refine L_nil ?_
            refine hK15 _ _ ?_
            refine T_seq fun K16 hK16 => ?_
            refine T_seq fun K17 hK17 => ?_
            refine T_region ?_
            refine L_y (y_move rfl) rfl ?_
            refine L_y (y_move rfl) rfl ?_
            refine L_y (y_idx Try.underlying30 sz34 rfl rfl (S5.row 1 rfl) inferInstance (by omega)) rfl ?_
            refine L_y (y_fieldR 1 Try.underlying34 rfl sz3 rfl rfl (S5.row 1 rfl) (by omega) rfl) rfl ?_
            refine L_y (y_ldf Try.underlying3 rfl rfl (S5.row 1 rfl) (by omega) hqg.2) rfl ?_
            refine L_y (y_move rfl) rfl ?_
            refine L_y (y_lss rfl rfl) rfl ?_
            refine L_nil ?_
            refine hK17 _ _ ?_
            refine T_cond rfl (fun h49 => ?_) (fun h49 => ?_)
            ·
              refine T_region ?_
              refine L_y (y_move rfl) rfl ?_
              refine L_y (y_move rfl) rfl ?_
              refine L_y (y_idx Try.underlying30 sz34 rfl rfl (S5.row 1 rfl) inferInstance (by omega)) rfl ?_
              refine L_y (y_fieldR 1 Try.underlying34 rfl sz3 rfl rfl (S5.row 1 rfl) (by omega) rfl) rfl ?_
              refine L_y (y_ldf Try.underlying3 rfl rfl (S5.row 1 rfl) (by omega) hqg.2) rfl ?_
              refine L_y (y_assign rfl) rfl ?_
              refine L_nil ?_
              refine hK16 _ _ ?_
              refine T_region ?_
              refine L_y (y_move rfl) rfl ?_
              refine L_y (y_move rfl) rfl ?_
              refine L_y (y_move rfl) rfl ?_
              refine L_y (y_move rfl) rfl ?_
              refine L_y (y_idx Try.underlying30 sz34 rfl rfl (S5.row 0 rfl) inferInstance (by omega)) rfl ?_
              refine L_y (y_fieldR 0 Try.underlying34 rfl sz9 rfl rfl (S5.row 0 rfl) (by omega) rfl) rfl ?_
              refine L_y (y_ldf Try.underlying9 rfl rfl (S5.row 0 rfl) (by omega) hpg.1) rfl ?_
              refine L_y (y_lens Try.underlying9 rfl) rfl ?_
              refine L_y (y_mul rfl rfl (minmul2 x.n y.n _ x.t.length (by omega) (by omega))) rfl ?_
              refine L_y (y_add rfl rfl (i64w (by omega))) rfl ?_
              refine L_y (y_assign rfl) rfl ?_
              refine L_nil ?_
              refine hK12 _ _ ?_
              refine T_region ?_
              refine L_y (y_move rfl) rfl ?_
              refine L_y (y_add rfl rfl (i64w (by omega))) rfl ?_
              refine L_y (y_assign rfl) rfl ?_
              refine L_nil ?_
              refine ⟨j + 1, by omega, ⟨by omega, S5⟩, ?_⟩
              exact (Sub.cons rfl (congrArg (Value.int _) (by first | omega | (have hne : y.t ≠ x.t := (fun e => h37 (by rw [e])); rw [if_neg hne] at hstep; omega))) (Sub.cons rfl (by first | rfl | exact congrArg (Value.int _) (by omega)) (Sub.cons rfl rfl (Sub.cons rfl rfl (Sub.cons rfl rfl (Sub.nil _))))))
            ·
              refine T_skip ?_
              refine hK16 _ _ ?_
              refine T_region ?_
              refine L_y (y_move rfl) rfl ?_
              refine L_y (y_move rfl) rfl ?_
              refine L_y (y_move rfl) rfl ?_
              refine L_y (y_move rfl) rfl ?_
              refine L_y (y_idx Try.underlying30 sz34 rfl rfl (S5.row 0 rfl) inferInstance (by omega)) rfl ?_
              refine L_y (y_fieldR 0 Try.underlying34 rfl sz9 rfl rfl (S5.row 0 rfl) (by omega) rfl) rfl ?_
              refine L_y (y_ldf Try.underlying9 rfl rfl (S5.row 0 rfl) (by omega) hpg.1) rfl ?_
              refine L_y (y_lens Try.underlying9 rfl) rfl ?_
              refine L_y (y_mul rfl rfl (minmul2 x.n y.n _ x.t.length (by omega) (by omega))) rfl ?_
              refine L_y (y_add rfl rfl (i64w (by omega))) rfl ?_
              refine L_y (y_assign rfl) rfl ?_
              refine L_nil ?_
              refine hK12 _ _ ?_
              refine T_region ?_
              refine L_y (y_move rfl) rfl ?_
              refine L_y (y_add rfl rfl (i64w (by omega))) rfl ?_
              refine L_y (y_assign rfl) rfl ?_
              refine L_nil ?_
              refine ⟨j + 1, by omega, ⟨by omega, S5⟩, ?_⟩
              exact (Sub.cons rfl (congrArg (Value.int _) (by first | omega | (have hne : y.t ≠ x.t := (fun e => h37 (by rw [e])); rw [if_neg hne] at hstep; omega))) (Sub.cons rfl (by first | rfl | exact congrArg (Value.int _) (by omega)) (Sub.cons rfl rfl (Sub.cons rfl rfl (Sub.cons rfl rfl (Sub.nil _))))))
        ·
          have hje : j = ys.length := by omega
          refine T_exit ?_
          refine hK8 _ _ ?_
          refine T_region ?_
          refine L_y (y_move rfl) rfl ?_
          refine L_y (y_add rfl rfl (i64w (by omega))) rfl ?_
          refine L_y (y_assign rfl) rfl ?_
          refine L_nil ?_
          refine ⟨k + 1, by omega, ⟨by omega, S4⟩, ?_⟩
          exact (Sub.cons rfl (congrArg (Value.int _) (by rw [rowsS_step hx, hje, List.take_length])) (Sub.cons rfl (by first | rfl | exact congrArg (Value.int _) (by omega)) (Sub.cons rfl rfl (Sub.cons rfl rfl (Sub.nil _)))))
    ·
      have hke : k = xs.length := by omega
      refine T_exit ?_
      refine hK4 _ _ ?_
      refine T_seq fun K18 hK18 => ?_
      refine T_region ?_
      refine L_y (y_move rfl) rfl ?_
      refine L_y (y_assign rfl) rfl ?_
      refine L_nil ?_
      refine hK18 _ _ ?_
      refine T_ret ?_
      repeat (first | with_reducible refine up_then ?_ | with_reducible refine up_in ?_)
      refine ret1 rfl rfl ?_
      exact ⟨_, rfl, S3.like0, by rw [hke, ← all_com hpx hpy, rowsS, List.take_length]⟩


set_option maxRecDepth 100000 in
theorem rscore (A B : Option Addr) (n cc m dd : Nat) (la lb : List UInt8) (w0 : World) (ha : Rs w0 1 A n cc (bL la)) (hb : Rs w0 1 B m dd (bL lb)) (hn : n ≤ 4398046511104) (hm : m ≤ 4398046511104) :
    Calls Try.prog 9 #[.slice A n cc, .slice B m dd] w0 fun e w' => ∃ u, e = .returned u ∧ Like w0 w' ∧ u = .int .i64 (scoreF (comT (cuts la) (cuts lb)) n m : Int) := by
  refine enter1 (env := [(0, .slice A n cc), (1, .slice B m dd)]) [.slice A n cc, .slice B m dd] Try.func9 rfl Try.ntmps9 rfl rfl ?_
  have hla := ha.lenb; have hlb := hb.lenb; have S0 := St.start w0 noM
  refine T_seq fun K1 hK1 => ?_
  refine T_region ?_
  refine L_y (y_assign rfl) rfl ?_
  refine L_nil ?_
  refine hK1 _ _ ?_
  refine T_seq fun K2 hK2 => ?_
  refine T_region ?_
  refine L_y (y_move rfl) rfl ?_
  refine L_y (y_len Try.underlying22 rfl) rfl ?_
  refine L_y (y_assign rfl) rfl ?_
  refine L_nil ?_
  refine hK2 _ _ ?_
  refine T_seq fun K3 hK3 => ?_
  refine T_seq fun K4 hK4 => ?_
  refine T_region ?_
  refine L_y (y_move rfl) rfl ?_
  refine L_y (y_len Try.underlying22 rfl) rfl ?_
  refine L_y (y_move rfl) rfl ?_
  refine L_y (y_gtr rfl rfl) rfl ?_
  refine L_nil ?_
  refine hK4 _ _ ?_
  refine T_cond rfl (fun h11 => ?_) (fun h11 => ?_)
  ·
    refine T_region ?_
    refine L_y (y_move rfl) rfl ?_
    refine L_y (y_len Try.underlying22 rfl) rfl ?_
    refine L_y (y_assign rfl) rfl ?_
    refine L_nil ?_
    refine hK3 _ _ ?_
    refine T_seq fun K5 hK5 => ?_
    refine T_seq fun K6 hK6 => ?_
    refine T_region ?_
    refine L_y (y_move rfl) rfl ?_
    refine L_y (y_eql rfl rfl) rfl ?_
    refine L_nil ?_
    refine hK6 _ _ ?_
    refine T_cond rfl (fun h15 => ?_) (fun h15 => ?_)
    ·
      refine T_seq fun K7 hK7 => ?_
      refine T_region ?_
      refine L_y (y_assign rfl) rfl ?_
      refine L_nil ?_
      refine hK7 _ _ ?_
      refine T_ret ?_
      repeat (first | with_reducible refine up_then ?_ | with_reducible refine up_in ?_)
      refine ret1 rfl rfl ?_
      first | exact ⟨_, rfl, S0.like0, by rw [scoreF, if_pos (by omega)]; rfl⟩ | exact ⟨_, rfl, S0.like0, by rw [← score_eq _ _ _ (by omega), show max (n : Int) (m : Int) = (m : Int) by omega]⟩ | exact ⟨_, rfl, S0.like0, by rw [← score_eq _ _ _ (by omega), show max (n : Int) (m : Int) = (n : Int) by omega]⟩
    ·
      refine T_skip ?_
      refine hK5 _ _ ?_
      refine T_seq fun K8 hK8 => ?_
      refine T_region ?_
      refine L_y (y_move rfl) rfl ?_
      refine L_y (y_move rfl) rfl ?_
      refine L_o (o_call Try.func12 rfl rfl (rcommon A B n cc m dd la lb w0 (S0.rd ha) (S0.rd hb) hn hm) rfl rfl ?_)
      rintro e1 w1 ⟨v1, rfl, l1, rfl⟩
      refine ⟨_, rfl, ?_⟩
      have S1 := S0.like l1
      have hcl := (comT_le (cuts la) (cuts lb)).1
      rw [cuts_sum] at hcl
      refine L_y (y_mul rfl rfl (i64w (by omega))) rfl ?_
      refine L_y (y_move rfl) rfl ?_
      refine L_y (y_quo rfl rfl (by omega) (quoI (by omega) (by omega))) rfl ?_
      refine L_y (y_assign rfl) rfl ?_
      refine L_nil ?_
      refine hK8 _ _ ?_
      refine T_ret ?_
      repeat (first | with_reducible refine up_then ?_ | with_reducible refine up_in ?_)
      refine ret1 rfl rfl ?_
      first | exact ⟨_, rfl, S1.like0, by rw [scoreF, if_pos (by omega)]; rfl⟩ | exact ⟨_, rfl, S1.like0, by rw [← score_eq _ _ _ (by omega), show max (n : Int) (m : Int) = (m : Int) by omega]⟩ | exact ⟨_, rfl, S1.like0, by rw [← score_eq _ _ _ (by omega), show max (n : Int) (m : Int) = (n : Int) by omega]⟩
  ·
    refine T_skip ?_
    refine hK3 _ _ ?_
    refine T_seq fun K9 hK9 => ?_
    refine T_seq fun K10 hK10 => ?_
    refine T_region ?_
    refine L_y (y_move rfl) rfl ?_
    refine L_y (y_eql rfl rfl) rfl ?_
    refine L_nil ?_
    refine hK10 _ _ ?_
    refine T_cond rfl (fun h15 => ?_) (fun h15 => ?_)
    ·
      refine T_seq fun K11 hK11 => ?_
      refine T_region ?_
      refine L_y (y_assign rfl) rfl ?_
      refine L_nil ?_
      refine hK11 _ _ ?_
      refine T_ret ?_
      repeat (first | with_reducible refine up_then ?_ | with_reducible refine up_in ?_)
      refine ret1 rfl rfl ?_
      first | exact ⟨_, rfl, S0.like0, by rw [scoreF, if_pos (by omega)]; rfl⟩ | exact ⟨_, rfl, S0.like0, by rw [← score_eq _ _ _ (by omega), show max (n : Int) (m : Int) = (m : Int) by omega]⟩ | exact ⟨_, rfl, S0.like0, by rw [← score_eq _ _ _ (by omega), show max (n : Int) (m : Int) = (n : Int) by omega]⟩
    ·
      refine T_skip ?_
      refine hK9 _ _ ?_
      refine T_seq fun K12 hK12 => ?_
      refine T_region ?_
      refine L_y (y_move rfl) rfl ?_
      refine L_y (y_move rfl) rfl ?_
      refine L_o (o_call Try.func12 rfl rfl (rcommon A B n cc m dd la lb w0 (S0.rd ha) (S0.rd hb) hn hm) rfl rfl ?_)
      rintro e2 w2 ⟨v2, rfl, l2, rfl⟩
      refine ⟨_, rfl, ?_⟩
      have S2 := S0.like l2
      have hcl := (comT_le (cuts la) (cuts lb)).1
      rw [cuts_sum] at hcl
      refine L_y (y_mul rfl rfl (i64w (by omega))) rfl ?_
      refine L_y (y_move rfl) rfl ?_
      refine L_y (y_quo rfl rfl (by omega) (quoI (by omega) (by omega))) rfl ?_
      refine L_y (y_assign rfl) rfl ?_
      refine L_nil ?_
      refine hK12 _ _ ?_
      refine T_ret ?_
      repeat (first | with_reducible refine up_then ?_ | with_reducible refine up_in ?_)
      refine ret1 rfl rfl ?_
      first | exact ⟨_, rfl, S2.like0, by rw [scoreF, if_pos (by omega)]; rfl⟩ | exact ⟨_, rfl, S2.like0, by rw [← score_eq _ _ _ (by omega), show max (n : Int) (m : Int) = (m : Int) by omega]⟩ | exact ⟨_, rfl, S2.like0, by rw [← score_eq _ _ _ (by omega), show max (n : Int) (m : Int) = (n : Int) by omega]⟩
end Go.Proofs.Ytaknmlajhedfhaa


/-
  The law AlikeScores.
-/
namespace Go.Proofs.Ytaknmlajhedfhaa
open Go.RowKit Zk Zx
set_option linter.unusedVariables false
set_option linter.unusedSimpArgs false

end Go.Proofs.Ytaknmlajhedfhaa


/-
  Appends onto a row of the call's own, where the old slice is still read afterwards. General; nothing here names a program.
-/
namespace Go.Proofs.Ytaknmlajhedfhaa.Zx
open Go.RowKit Zk
set_option linter.unusedVariables false
set_option linter.unusedSimpArgs false
section
variable {P : Program} {t e : TypeId} {z : Value} {size bytes : Nat}
variable {N : Nat} {Q : Post} {K : Env → World → Prop} {env : Env} {w0 w : World} {M : Nat → Prop} {rs : List Res} {d : Tmp} {ty : TypeId} {pos : String} {after : Array Edge} {g : Option (Nat × Bool)}
theorem T_label {l : Nat} {c : Exit → Env → World → Prop} (h : c .normal env w) : T P N (.label l) c env w := fun a ha => wp_label ⟨env, ha, h⟩
/-- A scope through which nothing jumps. -/
theorem T_scope {c : Code} (hng : ∀ l e w, Q (.goto l) e w → False) (h : T P N c Q env w) : T P N (.scope c) Q env w := fun a ha =>
  wp_scope_straight (Code.wp_mono (by
    intro e a w h
    cases e with
    | goto l =>
      obtain ⟨e', _, h2⟩ := h
      exact (hng _ _ _ h2).elim
    | normal => exact h
    | exit i => exact h
    | ret => exact h
    | panic c => exact h
    | outgrown => exact h) (h a ha))
end
end Go.Proofs.Ytaknmlajhedfhaa.Zx


/-
  What two texts have in common: plain laws.
-/
namespace Go.Proofs.Ytaknmlajhedfhaa
open Go.RowKit Zk Zx
set_option linter.unusedVariables false
theorem score_most (a b : List UInt8) (n m : Nat) (h1 : a.length = n) (h2 : b.length = m) (hn : n ≤ 1099511627776) (hm : m ≤ 1099511627776) : (scoreF (comT (cuts a) (cuts b)) n m : Int) ≤ mostF n m := by
  rw [mostF_of n m hn hm]
  have h3 := comT_le (cuts a) (cuts b)
  rw [cuts_sum, cuts_sum, h1, h2] at h3
  unfold scoreF
  split
  · omega
  · exact Int.ofNat_le.2 (Nat.div_le_div_right (Nat.mul_le_mul_left _ (by omega)))
end Go.Proofs.Ytaknmlajhedfhaa


/-
  The law AlikeEven.
-/
namespace Go.Proofs.Ytaknmlajhedfhaa
open Go.RowKit Zk Zx
set_option linter.unusedVariables false
set_option linter.unusedSimpArgs false

end Go.Proofs.Ytaknmlajhedfhaa


/-
  The pieces of a text, as they are met and as they are sorted: plain laws.
-/
namespace Go.Proofs.Ytaknmlajhedfhaa
open Go.RowKit Zk Zx Go.Maps Go.WideShapes
set_option linter.unusedVariables false
/-- What was met: each piece that is no longer left, once. -/
def VIS (L : List (List UInt8)) (left : Lit → Bool) (ys : List PC) : Prop := (ys.map PC.t).Nodup ∧ (∀ x ∈ ys, x.t ∈ L ∧ x.n = L.count x.t) ∧ ∀ t ∈ L, (t ∈ ys.map PC.t ↔ left (.string t) = false)
theorem CM.has_of {D : DU} {L : List (List UInt8)} (h : CM D L) {t : List UInt8} (ht : t ∈ L) : Maps.has D (.string t) = true := by
  obtain ⟨es, rfl, hn, h1, h2⟩ := h
  obtain ⟨p, hp, hk⟩ := h2 t ht
  rw [Maps.has_eq]
  exact List.any_eq_true.2 ⟨p, hp, by rw [hk]; exact WideAt.sameKey_self trivial⟩
theorem VIS.start {D : DU} {L : List (List UInt8)} (h : CM D L) : VIS L (Maps.has D) [] :=
  ⟨List.nodup_nil, (fun x hx => by cases hx), fun t ht => ⟨(fun h2 => by cases h2), fun h2 => by rw [h.has_of ht] at h2; cases h2⟩⟩
theorem sorted_eq : ∀ a b : List (List UInt8), a.Pairwise (fun x y => bl x y = true) → b.Pairwise (fun x y => bl x y = true) → (∀ t, t ∈ a ↔ t ∈ b) → a = b
  | [], [], _, _, _ => rfl
  | [], y :: b, _, _, h => absurd ((h y).2 List.mem_cons_self) (by simp)
  | x :: a, [], _, _, h => absurd ((h x).1 List.mem_cons_self) (by simp)
  | x :: a, y :: b, ha, hb, h => by
    rw [List.pairwise_cons] at ha hb
    have e : x = y := by
      apply Classical.byContradiction
      intro hne
      have h1 : x ∈ b := by rcases List.mem_cons.1 ((h x).1 List.mem_cons_self) with h2 | h2; exact (hne h2).elim; exact h2
      have h2 : y ∈ a := by rcases List.mem_cons.1 ((h y).2 List.mem_cons_self) with h2 | h2; exact (hne h2.symm).elim; exact h2
      have h3 := bl_trans _ _ _ (ha.1 y h2) (hb.1 x h1)
      rw [bl_irr] at h3
      cases h3
    subst e
    rw [sorted_eq a b ha.2 hb.2 fun t => ⟨fun ht => ?_, fun ht => ?_⟩]
    · rcases List.mem_cons.1 ((h t).1 (List.mem_cons_of_mem _ ht)) with h2 | h2
      · subst h2
        have := ha.1 t ht
        rw [bl_irr] at this
        cases this
      · exact h2
    · rcases List.mem_cons.1 ((h t).2 (List.mem_cons_of_mem _ ht)) with h2 | h2
      · subst h2
        have := hb.1 t ht
        rw [bl_irr] at this
        cases this
      · exact h2
theorem PS.eq {xs zs : List PC} {L : List (List UInt8)} (h1 : PS xs L) (h2 : PS zs L) : xs = zs := by
  have e := sorted_eq _ _ h1.1 h2.1 fun t => (h1.mem t).trans (h2.mem t).symm
  have key : ∀ ws : List PC, PS ws L → ws = (ws.map PC.t).map fun t => ⟨t, L.count t⟩ := fun ws h => by
    rw [List.map_map]
    have : ∀ x ∈ ws, ((fun t => (⟨t, L.count t⟩ : PC)) ∘ PC.t) x = id x := fun x hx => by
      show (⟨x.t, L.count x.t⟩ : PC) = x
      rw [← (h.2.1 x hx).2]
    rw [List.map_congr_left this, List.map_id]
  rw [key xs h1, key zs h2, e]
/-- Sorted, what was met is the list in order. -/
theorem VIS.sorted {L : List (List UInt8)} {left : Lit → Bool} {ys zs : List PC} (h : VIS L left ys) (hl : ∀ kl, left kl = false) (hp : zs.Perm ys) (hs : ∀ i j (hi : i < zs.length) (hj : j < zs.length), i < j → bl zs[j].t zs[i].t = false) : PS zs L := by
  have hnd : (zs.map PC.t).Nodup := ((hp.map PC.t).nodup_iff).2 h.1
  refine ⟨?_, fun x hx => h.2.1 x (hp.mem_iff.1 hx), fun t ht => ?_⟩
  · rw [List.pairwise_map, List.pairwise_iff_getElem]
    intro i j hi hj hij
    refine bl_total _ _ (hs i j hi hj hij) fun e => ?_
    have := List.pairwise_iff_getElem.1 hnd i j (by simpa using hi) (by simpa using hj) hij
    rw [List.getElem_map, List.getElem_map] at this
    exact this e.symm
  · have := (h.2.2 t ht).2 (hl _)
    exact (hp.map PC.t).mem_iff.2 this
end Go.Proofs.Ytaknmlajhedfhaa


/-
  Walks that know the world to the letter: blocks at the end and draws, nothing else. General; nothing here names a program.
-/
namespace Go.Proofs.Ytaknmlajhedfhaa.Zx
open Go.RowKit Zk Go.Sort
set_option linter.unusedVariables false
set_option linter.unusedSimpArgs false
section
variable {P : Program} {N : Nat} {Q : Post} {env : Env} {w w0 : World} {M : Nat → Prop} {rs : List Res} {K : Env → World → Prop} {d : Tmp} {ty : TypeId} {pos : String} {after : Array Edge} {g : Option (Nat × Bool)}
/-- Blocks at the end and draws, nothing else. -/
def Ex (w w' : World) : Prop := ∃ q os, w' = grow (w.drewN q) os
theorem Ex.refl (w : World) : Ex w w := ⟨0, #[], by rw [grow_empty]; rfl⟩
theorem Ex.trans {a b c : World} (h : Ex a b) (k : Ex b c) : Ex a c := by
  obtain ⟨q, os, rfl⟩ := h
  obtain ⟨q2, os2, rfl⟩ := k
  refine ⟨q + q2, os ++ os2, ?_⟩
  have e : (grow (a.drewN q) os).drewN q2 = grow (a.drewN (q + q2)) os := by
    unfold World.drewN grow
    simp [Nat.add_assoc]
  rw [e, grow_grow]
theorem Ex.alloc (w : World) (o : Obj) : Ex w (w.alloc o) := ⟨0, #[o], by rw [alloc_eq_grow]; rfl⟩
theorem Ex.drew (w : World) : Ex w w.drew := ⟨1, #[], by rw [grow_empty]; rfl⟩
theorem T_drawnLE {id : Nat} {l : List Oper} (order : List (Nat × Bool)) (hm : P.follows .mixedOrders = true) (hB : (Region.noSelect l.toArray && ordB l.toArray l.toArray.size (Array.replicate l.toArray.size false) order) = true)
    (h : ∀ w1, Like w w1 → Ex w w1 → DL P N l.toArray Q (Like w1) order env w1) : T P N (.region id l.toArray true) Q env w := fun a ha => by
  simp only [Bool.and_eq_true] at hB
  exact wp_region_held hm (h _ (Like.drew w) (Ex.drew w) hB.1 (Like.refl _) a ha _ _ hB.2)
theorem o_boxE {el : TypeId} {x : Operand} {vs : Array Value} (hx : ev env x = some (.agg vs)) (S : St w0 M rs w) (hd : Nat.blt d N = true)
    (h : ∀ b w', w0.heap.size ≤ b → St w0 M (rs ++ [blk b el vs]) w' → Ex w w' → K ((d, .pointer (some ⟨b, 0, none⟩)) :: env) w') :
    O P N Q ⟨some d, .box el x, ty, pos, after, g⟩ env w K := fun a ha => by
  unfold Oper.wp execOp
  simp only [Instr.box, ha.eval hx, Sem.run_bind, newVar, newRow, Sem.run_pure, run_newObj_alloc, Value.cells, Result.andThen_ok]
  refine ⟨_, ha.put d _ hd, h _ _ S.size (S.new (like_alloc w _) _ (Blk.new w el _) fun i hi => ?_) (Ex.alloc w _)⟩
  have hi' : i = w.heap.size := hi
  subst hi'
  exact ⟨Nat.le_refl _, by simp⟩
theorem o_bslLE {t e : TypeId} {z : Value} {size bytes len : Nat} {parts : Array (Nat × Operand)} {us : List Value} (vs : List Value) (TE : Elem P t e z size bytes) (hz : ∀ W, (zeroValue e).run P W = .ok z W) (S : St w0 M rs w) (hp : evl env (parts.toList.map (·.2)) = some us)
    (hi : parts.toList.map (·.1) = List.range' 0 parts.toList.length) (hlp : parts.toList.length = len) (hus : us.all (fun v => Nat.beq v.cells.size size) = true) (hvs : us.flatMap (fun v => v.cells.toList) = vs)
    (hl : Nat.ble (len * size) 16777216 = true) (h0 : Nat.blt 0 (len * size) = true) (hd : Nat.blt d N = true)
    (h : ∀ b w', Like w w' → St w0 M (rs ++ [row e size (some ⟨b, 0, none⟩) len len vs]) w' → Ex w w' → K ((d, .slice (some ⟨b, 0, none⟩) len len) :: env) w') :
    O P N Q ⟨some d, .buildSlice t len parts, ty, pos, after, g⟩ env w K := fun a ha => by
  have hpe : (parts.map fun (i, x) => (i, a.eval x)).toList = idx 0 us := by
    rw [← evp_map ha parts.toList (idx 0 us) (evp_idx env parts.toList us 0 hi hp)]
    simp
  have hul : us.length = len := by
    have h1 := evl_map ha _ _ hp
    rw [← h1]
    simpa using hlp
  have husz : ∀ v ∈ us, v.cells.size = size := fun v hv => by
    have := List.all_eq_true.1 hus v hv
    simpa using this
  have hvl : vs.length = len * size := by
    rw [← hvs, ← hul]
    clear hvs hus hp hpe hul
    induction us with
    | nil => simp
    | cons u us ih => simp [husz u (by simp), ih (fun v hv => husz v (by simp [hv])), Nat.succ_mul, Nat.add_comm]
  obtain ⟨i, hi, hz', hsize, hby⟩ := info_parts TE.hi
  have hsz : (P.info? e).map (·.size) = some size := by rw [hi]; simp [hsize]
  have hl' : ¬ len * size > 2 ^ 24 := by have : len * size ≤ 16777216 := by simpa using hl
                                         omega
  have h0' : ¬ len * size = 0 := by have : 0 < len * size := by simpa using h0
                                    omega
  have hlen : len ≤ maxLen := by
    have h1 : len * 1 ≤ len * size := Nat.mul_le_mul_left _ TE.hsz
    unfold maxLen
    omega
  have hfill : Instr.fill (fun i => some (i * size, size)) ((Array.range (len * size)).map (z.cells[· % z.cells.size]!)) (idx 0 us) = some vs.toArray := by
    have := fill_all size us 0 [] ((Array.range (len * size)).map (z.cells[· % z.cells.size]!)).toList husz (by simp) (by simp [hul])
    simp only [List.nil_append, hvs] at this
    exact this
  have hrun : (Instr.buildSlice t len (parts.map fun (i, x) => (i, a.eval x))).run P w = .ok (.slice (some ⟨w.heap.size, 0, none⟩) len len) (w.alloc (.cells vs.toArray e)) := by
    simp only [Instr.buildSlice, Sem.run_bind, run_underlying TE.ht, Result.andThen_ok, sizeOf_run hsz, if_neg hl', if_neg h0', hz, Sem.run_pure, hpe, hfill, newRow, run_newObj_alloc]
  unfold Oper.wp execOp
  simp only [Sem.run_bind, hrun, Result.andThen_ok, Sem.run_pure]
  refine ⟨_, ha.put d _ hd, h _ _ (like_alloc w _) (S.new (like_alloc w _) _ (World.ownsRow_lit w vs.toArray len (Nat.zero_le _) hlen (by simpa using hvl)) fun i hi => ?_) (Ex.alloc w _)⟩
  change (Value.slice (some ⟨w.heap.size, 0, none⟩) len len).ownBlock = some i at hi
  simp only [Value.ownBlock, Option.some.injEq] at hi
  subst hi
  exact ⟨Nat.le_refl _, by simp⟩
end
end Go.Proofs.Ytaknmlajhedfhaa.Zx


/-
  Many blocks as one piece; two pieces as one, apart from each other; slices with a bound. General; nothing here names a program.
-/
namespace Go.Proofs.Ytaknmlajhedfhaa.Zx
open Go.RowKit Zk
set_option linter.unusedVariables false
set_option linter.unusedSimpArgs false
section
variable {w0 w w' : World} {M : Nat → Prop} {rs : List Res}
end
section
variable {P : Program} {S : World → Prop} {N : Nat} {Q : Post} {K : Env → World → Prop} {env : Env} {w0 w : World} {M : Nat → Prop} {rs : List Res} {dst : Option Tmp} {d : Tmp} {ty : TypeId} {pos : String} {after : Array Edge} {g : Option (Nat × Bool)}
end
end Go.Proofs.Ytaknmlajhedfhaa.Zx


/-
  The comparison that the rows are sorted by.
-/
namespace Go.Proofs.Ytaknmlajhedfhaa
open Go.RowKit Zk Zx Go.Sort
set_option linter.unusedVariables false
set_option linter.unusedSimpArgs false

/-- A row of the table. -/
structure RW where
  a : Nat
  b : Nat
  s : Nat
def rwf (x : RW) : List Value := [.int .i64 (x.a : Int), .int .i64 (x.b : Int), .int .i64 (x.s : Int)]
theorem rwf_len (x : RW) : (rwf x).length = 3 := rfl
def cI (a b : Int) : Int := if a < b then -1 else if b < a then 1 else 0
def orL : List Int → Int
  | [] => 0
  | x :: r => if x ≠ 0 then x else orL r
def cmpR (x y : RW) : Int := orL [cI y.s x.s, cI x.a y.a, cI x.b y.b]
theorem orL_hit (l : List Int) (k : Nat) (x : Int) (h : orL l = orL (l.drop k)) (hx : l[k]? = some x) (hn : x ≠ 0) : orL l = x := by
  obtain ⟨hk, he⟩ := List.getElem?_eq_some_iff.1 hx
  rw [h, List.drop_eq_getElem_cons hk, he, orL, if_pos hn]
theorem orL_go (l : List Int) (k : Nat) (x : Int) (h : orL l = orL (l.drop k)) (hx : l[k]? = some x) (hn : ¬ x ≠ 0) : orL l = orL (l.drop (k + 1)) := by
  obtain ⟨hk, he⟩ := List.getElem?_eq_some_iff.1 hx
  rw [h, List.drop_eq_getElem_cons hk, he, orL, if_neg hn]


set_option maxRecDepth 100000 in
theorem isnan (a : Int) (w0 : World)  :
    Calls Try.prog 33 #[.int .i64 a] w0 fun e w' => ∃ u, e = .returned u ∧ Like w0 w' ∧ w' = w0 ∧ u = .bool false := by
  refine enter1 (env := [(0, .int .i64 a)]) [.int .i64 a] Try.func33 rfl Try.ntmps33 rfl rfl ?_
  have S0 := St.start w0 noM
  refine T_seq fun K1 hK1 => ?_
  refine T_region ?_
  refine L_y (y_assign rfl) rfl ?_
  refine L_nil ?_
  refine hK1 _ _ ?_
  refine T_seq fun K2 hK2 => ?_
  refine T_region ?_
  refine L_y (y_move rfl) rfl ?_
  refine L_y (y_move rfl) rfl ?_
  refine L_y (y_neq rfl rfl) rfl ?_
  refine L_y (y_assign rfl) rfl ?_
  refine L_nil ?_
  refine hK2 _ _ ?_
  refine T_ret ?_
  repeat (first | with_reducible refine up_then ?_ | with_reducible refine up_in ?_)
  refine ret1 rfl rfl ?_
  exact ⟨_, rfl, Like.refl _, rfl, by simp⟩


set_option maxRecDepth 100000 in
theorem cmpI (a b : Int) (w0 : World)  :
    Calls Try.prog 28 #[.int .i64 a, .int .i64 b] w0 fun e w' => ∃ u, e = .returned u ∧ Like w0 w' ∧ w' = w0 ∧ u = .int .i64 (cI a b) := by
  refine enter1 (env := [(0, .int .i64 a), (1, .int .i64 b)]) [.int .i64 a, .int .i64 b] Try.func28 rfl Try.ntmps28 rfl rfl ?_
  have S0 := St.start w0 noM
  refine T_seq fun K1 hK1 => ?_
  refine T_region ?_
  refine L_y (y_assign rfl) rfl ?_
  refine L_nil ?_
  refine hK1 _ _ ?_
  refine T_seq fun K2 hK2 => ?_
  refine T_region ?_
  refine L_y (y_move rfl) rfl ?_
  refine L_o (o_call Try.func33 rfl rfl (isnan _ w0) rfl rfl ?_)
  rintro e1 w1 ⟨v1, rfl, l1, hw1, rfl⟩
  refine ⟨_, rfl, ?_⟩
  have S1 := S0.like l1
  refine L_y (y_assign rfl) rfl ?_
  refine L_nil ?_
  refine hK2 _ _ ?_
  refine T_seq fun K3 hK3 => ?_
  refine T_region ?_
  refine L_y (y_move rfl) rfl ?_
  refine L_o (o_call Try.func33 rfl rfl (isnan _ w1) rfl rfl ?_)
  rintro e2 w2 ⟨v2, rfl, l2, hw2, rfl⟩
  refine ⟨_, rfl, ?_⟩
  have S2 := S1.like l2
  refine L_y (y_assign rfl) rfl ?_
  refine L_nil ?_
  refine hK3 _ _ ?_
  refine T_seq fun K4 hK4 => ?_
  refine T_seq fun K5 hK5 => ?_
  refine T_region ?_
  refine L_y (y_move rfl) rfl ?_
  refine L_nil ?_
  refine hK5 _ _ ?_
  refine T_condB rfl (fun h11 => ?_) (fun h11 => ?_)
  ·
    cases h11
  ·
    refine T_skip ?_
    refine hK4 _ _ ?_
    refine T_seq fun K6 hK6 => ?_
    refine T_seq fun K7 hK7 => ?_
    refine T_region ?_
    refine L_y (y_move rfl) rfl ?_
    refine L_nil ?_
    refine hK7 _ _ ?_
    refine T_condB rfl (fun h13 => ?_) (fun h13 => ?_)
    ·
      cases h13
    ·
      refine T_skip ?_
      refine hK6 _ _ ?_
      refine T_seq fun K8 hK8 => ?_
      refine T_seq fun K9 hK9 => ?_
      refine T_region ?_
      refine L_y (y_move rfl) rfl ?_
      refine L_y (y_move rfl) rfl ?_
      refine L_y (y_lss rfl rfl) rfl ?_
      refine L_nil ?_
      refine hK9 _ _ ?_
      refine T_cond rfl (fun h16 => ?_) (fun h16 => ?_)
      ·
        refine T_seq fun K10 hK10 => ?_
        refine T_region ?_
        refine L_y (y_assign rfl) rfl ?_
        refine L_nil ?_
        refine hK10 _ _ ?_
        refine T_ret ?_
        repeat (first | with_reducible refine up_then ?_ | with_reducible refine up_in ?_)
        refine ret1 rfl rfl ?_
        exact ⟨_, rfl, S2.like0, by rw [hw2, hw1], by unfold cI; first | rw [if_pos (by assumption)] | rw [if_neg (by omega), if_pos (by assumption)] | rw [if_neg (by omega), if_neg (by omega)]⟩
      ·
        refine T_skip ?_
        refine hK8 _ _ ?_
        refine T_seq fun K11 hK11 => ?_
        refine T_seq fun K12 hK12 => ?_
        refine T_region ?_
        refine L_y (y_move rfl) rfl ?_
        refine L_y (y_move rfl) rfl ?_
        refine L_y (y_gtr rfl rfl) rfl ?_
        refine L_nil ?_
        refine hK12 _ _ ?_
        refine T_cond rfl (fun h19 => ?_) (fun h19 => ?_)
        ·
          refine T_seq fun K13 hK13 => ?_
          refine T_region ?_
          refine L_y (y_assign rfl) rfl ?_
          refine L_nil ?_
          refine hK13 _ _ ?_
          refine T_ret ?_
          repeat (first | with_reducible refine up_then ?_ | with_reducible refine up_in ?_)
          refine ret1 rfl rfl ?_
          exact ⟨_, rfl, S2.like0, by rw [hw2, hw1], by unfold cI; first | rw [if_pos (by assumption)] | rw [if_neg (by omega), if_pos (by assumption)] | rw [if_neg (by omega), if_neg (by omega)]⟩
        ·
          refine T_skip ?_
          refine hK11 _ _ ?_
          refine T_seq fun K14 hK14 => ?_
          refine T_region ?_
          refine L_y (y_assign rfl) rfl ?_
          refine L_nil ?_
          refine hK14 _ _ ?_
          refine T_ret ?_
          repeat (first | with_reducible refine up_then ?_ | with_reducible refine up_in ?_)
          refine ret1 rfl rfl ?_
          exact ⟨_, rfl, S2.like0, by rw [hw2, hw1], by unfold cI; first | rw [if_pos (by assumption)] | rw [if_neg (by omega), if_pos (by assumption)] | rw [if_neg (by omega), if_neg (by omega)]⟩


set_option maxRecDepth 100000 in
theorem cmpOr (A : Option Addr) (n c : Nat) (l : List Int) (w0 : World) (hr : Rs w0 1 A n c (iL l)) :
    Calls Try.prog 27 #[.slice A n c] w0 fun e w' => ∃ u, e = .returned u ∧ Like w0 w' ∧ w' = w0 ∧ u = .int .i64 (orL l) := by
  refine enter1 (env := [(0, .slice A n c)]) [.slice A n c] Try.func27 rfl Try.ntmps27 rfl rfl ?_
  have hln : l.length = n := by (have := hr.len; simp [iL] at this; omega)
  have hcap := hr.cap
  have hmx := hr.max
  have S0 := St.start w0 noM
  refine T_seq fun K1 hK1 => ?_
  refine T_region ?_
  refine L_y (y_assign rfl) rfl ?_
  refine L_nil ?_
  refine hK1 _ _ ?_
  refine T_seq fun K2 hK2 => ?_
  refine T_region ?_
  refine L_y (y_assign rfl) rfl ?_
  refine L_nil ?_
  refine hK2 _ _ ?_
  refine T_seq fun K3 hK3 => ?_
  refine T_seq fun K4 hK4 => ?_
  refine T_region ?_
  refine L_y (y_move rfl) rfl ?_
  refine L_y (y_len Try.underlying63 rfl) rfl ?_
  refine L_y (y_move rfl) rfl ?_
  refine L_nil ?_
  refine hK4 _ _ ?_
  refine T_block ?_
  refine T_loop1 [(3, _), (6, _), (7, _)] (fun (k : Nat) => [(8, .int .i64 (k : Int))]) (fun (k : Nat) => n - k) (fun (k : Nat) (w : World) => (k ≤ n ∧ orL l = orL (l.drop k)) ∧ w = w0) 0 (Sub.cons rfl (by first | rfl | exact congrArg (Value.int _) (by omega)) (Sub.nil _)) (Sub.cons rfl rfl (Sub.cons rfl rfl (Sub.cons rfl rfl (Sub.nil _)))) ?_ ?_
  ·
    exact ⟨⟨by omega, rfl⟩, rfl⟩
  ·
    intro k w1 hrel
    obtain ⟨⟨hk, hor⟩, hw⟩ := hrel
    refine T_seq fun K5 hK5 => ?_
    refine T_region ?_
    refine L_y (y_lss rfl rfl) rfl ?_
    refine L_nil ?_
    refine hK5 _ _ ?_
    refine T_seq fun K6 hK6 => ?_
    refine T_cond rfl (fun h9 => ?_) (fun h9 => ?_)
    ·
      obtain ⟨x, hx⟩ : ∃ x, l[k]? = some x := ⟨_, List.getElem?_eq_getElem (by omega)⟩
      refine T_skip ?_
      refine hK6 _ _ ?_
      refine T_seq fun K7 hK7 => ?_
      refine T_block ?_
      refine T_seq fun K8 hK8 => ?_
      refine T_region ?_
      refine L_y (y_idx Try.underlying63 sz3 rfl rfl (hw ▸ hr) inferInstance (by omega)) rfl ?_
      refine L_y (y_ldr Try.underlying3 rfl rfl (hw ▸ hr) (show (iL l)[k]? = some (Value.int .i64 x) by unfold iL; rw [List.getElem?_map, hx]; rfl)) rfl ?_
      refine L_y (y_assign rfl) rfl ?_
      refine L_nil ?_
      refine hK8 _ _ ?_
      refine T_seq fun K9 hK9 => ?_
      refine T_region ?_
      refine L_y (y_move rfl) rfl ?_
      refine L_y (y_move rfl) rfl ?_
      refine L_y (y_neq rfl rfl) rfl ?_
      refine L_nil ?_
      refine hK9 _ _ ?_
      refine T_cond rfl (fun h14 => ?_) (fun h14 => ?_)
      ·
        refine T_seq fun K10 hK10 => ?_
        refine T_region ?_
        refine L_y (y_move rfl) rfl ?_
        refine L_y (y_assign rfl) rfl ?_
        refine L_nil ?_
        refine hK10 _ _ ?_
        refine T_ret ?_
        repeat (first | with_reducible refine up_then ?_ | with_reducible refine up_in ?_)
        refine ret1 rfl rfl ?_
        first | exact ⟨_, rfl, hw ▸ Like.refl _, hw, by rw [orL_hit l k x hor hx h14]⟩ | exact ⟨_, rfl, hw ▸ Like.refl _, hw, by rw [hor, List.drop_of_length_le (by omega)]; rfl⟩
      ·
        refine T_skip ?_
        refine hK7 _ _ ?_
        refine T_region ?_
        refine L_y (y_add rfl rfl (i64w (by omega))) rfl ?_
        refine L_y (y_move rfl) rfl ?_
        refine L_nil ?_
        refine ⟨k + 1, by omega, ⟨⟨by omega, orL_go l k x hor hx h14⟩, hw⟩, ?_⟩
        exact (Sub.cons rfl (by first | rfl | exact congrArg (Value.int _) (by omega)) (Sub.cons rfl rfl (Sub.cons rfl rfl (Sub.cons rfl rfl (Sub.nil _)))))
    ·
      have hkn : k = n := by omega
      refine T_exit ?_
      refine hK3 _ _ ?_
      refine T_seq fun K11 hK11 => ?_
      refine T_region ?_
      refine L_y (y_move rfl) rfl ?_
      refine L_y (y_assign rfl) rfl ?_
      refine L_nil ?_
      refine hK11 _ _ ?_
      refine T_ret ?_
      repeat (first | with_reducible refine up_then ?_ | with_reducible refine up_in ?_)
      refine ret1 rfl rfl ?_
      first | exact ⟨_, rfl, hw ▸ Like.refl _, hw, by rw [orL_hit l k x hor hx h14]⟩ | exact ⟨_, rfl, hw ▸ Like.refl _, hw, by rw [hor, List.drop_of_length_le (by omega)]; rfl⟩


set_option maxRecDepth 100000 in
theorem cmpRow (x y : RW) (w0 : World)  :
    Calls Try.prog 26 #[.agg (rwf x).toArray, .agg (rwf y).toArray] w0 fun e w' => ∃ u, e = .returned u ∧ Ex w0 w' ∧ u = .int .i64 (cmpR x y) := by
  refine enter1 (env := [(0, .agg (rwf x).toArray), (1, .agg (rwf y).toArray)]) [.agg (rwf x).toArray, .agg (rwf y).toArray] Try.func26 rfl Try.ntmps26 rfl rfl ?_
  have S0 := St.start w0 noM
  refine T_seq fun K1 hK1 => ?_
  refine T_region ?_
  refine L_o (o_boxE rfl S0 rfl fun b1 w1 hb1 S1 x1 => ?_)
  refine L_o (o_boxE rfl S1 rfl fun b2 w2 hb2 S2 x2 => ?_)
  refine L_y (y_assign rfl) rfl ?_
  refine L_nil ?_
  refine hK1 _ _ ?_
  refine T_seq fun K2 hK2 => ?_
  refine T_drawnLE [(0, true), (1, true), (2, true), (3, true), (5, true), (6, true), (7, true), (8, true), (10, true), (11, true), (12, true), (13, true), (4, false), (9, false), (14, false), (15, false), (16, false), (17, true)] hmix (by kernel_rfl) fun w3 l3 x3 => ?_
  have S3 := S2.like l3
  refine DL_y rfl (y_fieldA 2 Try.underlying43 rfl sz3 rfl rfl rfl) rfl ?_
  refine DL_y rfl (y_ldc Try.underlying3 rfl rfl (((S3.blk 1 rfl).cell _).trans (by rfl))) rfl ?_
  refine DL_y rfl (y_fieldA 2 Try.underlying43 rfl sz3 rfl rfl rfl) rfl ?_
  refine DL_y rfl (y_ldc Try.underlying3 rfl rfl (((S3.blk 0 rfl).cell _).trans (by rfl))) rfl ?_
  refine DL_y rfl (y_fieldA 0 Try.underlying43 rfl sz3 rfl rfl rfl) rfl ?_
  refine DL_y rfl (y_ldc Try.underlying3 rfl rfl (((S3.blk 0 rfl).cell _).trans (by rfl))) rfl ?_
  refine DL_y rfl (y_fieldA 0 Try.underlying43 rfl sz3 rfl rfl rfl) rfl ?_
  refine DL_y rfl (y_ldc Try.underlying3 rfl rfl (((S3.blk 1 rfl).cell _).trans (by rfl))) rfl ?_
  refine DL_y rfl (y_fieldA 1 Try.underlying43 rfl sz3 rfl rfl rfl) rfl ?_
  refine DL_y rfl (y_ldc Try.underlying3 rfl rfl (((S3.blk 0 rfl).cell _).trans (by rfl))) rfl ?_
  refine DL_y rfl (y_fieldA 1 Try.underlying43 rfl sz3 rfl rfl rfl) rfl ?_
  refine DL_y rfl (y_ldc Try.underlying3 rfl rfl (((S3.blk 1 rfl).cell _).trans (by rfl))) rfl ?_
  refine DL_o rfl (o_call Try.func28 rfl rfl (cmpI y.s x.s w3) rfl rfl ?_)
  rintro e4 w4 ⟨v4, rfl, l4, hw4, rfl⟩
  refine ⟨_, rfl, l4, ?_⟩
  have S4 := S3.like l4
  have q4 := l4
  refine DL_o rfl (o_call Try.func28 rfl rfl (cmpI x.a y.a w4) rfl rfl ?_)
  rintro e5 w5 ⟨v5, rfl, l5, hw5, rfl⟩
  refine ⟨_, rfl, (Like.trans q4 l5), ?_⟩
  have S5 := S4.like l5
  have q5 := (Like.trans q4 l5)
  refine DL_o rfl (o_call Try.func28 rfl rfl (cmpI x.b y.b w5) rfl rfl ?_)
  rintro e6 w6 ⟨v6, rfl, l6, hw6, rfl⟩
  refine ⟨_, rfl, (Like.trans q5 l6), ?_⟩
  have S6 := S5.like l6
  have q6 := (Like.trans q5 l6)
  refine DL_o rfl (o_bslLE [_, _, _] te63 zz3 S6 rfl rfl rfl rfl rfl rfl rfl rfl fun b7 w7 l7 S7 x7 => ?_)
  have q7 := (Like.trans q6 l7)
  refine ⟨q7, ?_⟩
  refine DL_o rfl (o_call Try.func27 rfl rfl (cmpOr _ _ _ [cI y.s x.s, cI x.a y.a, cI x.b y.b] w7 (S7.row 2 rfl)) rfl rfl ?_)
  rintro e8 w8 ⟨v8, rfl, l8, hw8, rfl⟩
  refine ⟨_, rfl, (Like.trans q7 l8), ?_⟩
  have S8 := S7.like l8
  have q8 := (Like.trans q7 l8)
  refine DL_y rfl (y_assign rfl) rfl ?_
  refine DL_nil ?_
  refine hK2 _ _ ?_
  refine T_ret ?_
  repeat (first | with_reducible refine up_then ?_ | with_reducible refine up_in ?_)
  refine ret1 rfl rfl ?_
  exact ⟨_, rfl, (by rw [hw6, hw5, hw4] at x7; rw [hw8]; exact x1.trans (x2.trans (x3.trans x7))), rfl⟩
end Go.Proofs.Ytaknmlajhedfhaa


/-
  What the library's sort leaves behind, as a row of the call's own. General; nothing here names a program.
-/
namespace Go.Proofs.Ytaknmlajhedfhaa.Zx
open Go.RowKit Zk Go.Sort
set_option linter.unusedVariables false
set_option linter.unusedSimpArgs false
set_option linter.unusedSectionVars false
section
variable {α : Type} [Inhabited α]
theorem fm_get {f : α → List Value} {k : Nat} (hk : ∀ x, (f x).length = k) (k0 : 0 < k) : ∀ (l : List α) (t : Nat), (l.flatMap f)[t]? = (l[t / k]?).bind fun x => (f x)[t % k]?
  | [], t => by simp
  | x :: l, t => by
    rw [List.flatMap_cons]
    rcases Nat.lt_or_ge t k with h | h
    · rw [List.getElem?_append_left (by rw [hk]; exact h), Nat.div_eq_of_lt h, Nat.mod_eq_of_lt h]
      rfl
    · obtain ⟨s, rfl⟩ : ∃ s, t = k + s := ⟨t - k, by omega⟩
      rw [List.getElem?_append_right (by rw [hk]; omega), hk, Nat.add_sub_cancel_left, fm_get hk k0 l s, Nat.add_div_left _ k0, Nat.add_mod_left]
      rfl
theorem flat_flatMap {enc : α → List Value} {k : Nat} (hk : ∀ x, (enc x).length = k) (k0 : 0 < k) (d : Array α) : (flatK enc k d).toList = d.toList.flatMap enc := by
  apply List.ext_getElem?
  intro t
  rw [fm_get hk k0, Array.getElem?_toList, Array.getElem?_toList]
  unfold flatK
  rw [Array.getElem?_map]
  rcases Nat.lt_or_ge t (d.size * k) with h | h
  · have hd : t / k < d.size := (Nat.div_lt_iff_lt_mul k0).2 h
    have hm : t % k < (enc d[t / k]).length := by rw [hk]; exact Nat.mod_lt _ k0
    have e1 : (Array.range (d.size * k))[t]? = some t := by rw [Array.getElem?_eq_getElem (by simpa using h)]; simp
    rw [e1, Option.map_some, Array.getElem?_eq_getElem hd, Option.bind_some, getElem!_pos d (t / k) hd, getElem!_pos (enc d[t / k]) (t % k) hm, List.getElem?_eq_getElem hm]
  · have hd : d.size ≤ t / k := (Nat.le_div_iff_mul_le k0).2 h
    rw [Array.getElem?_eq_none (by simpa using h), Array.getElem?_eq_none hd]
    rfl
theorem own_cells {w : World} {e k b n c : Nat} {xs : List Value} (h : w.ownsRow 0 e k (.slice (some ⟨b, 0, none⟩) n c) n xs) : ∃ cur, Blk w b e cur ∧ n ≤ c ∧ c ≤ maxLen ∧ cur.size = c * k ∧ cur.toList.take (n * k) = xs := by
  rcases h.2 with ⟨h1, _⟩ | ⟨g, cap, cur, h1, _, hg, hnc, hcm, hcs, hx⟩
  · cases h1
  · cases h1
    exact ⟨cur, hg, hnc, hcm, hcs, hx⟩
theorem own_holds {w : World} {e k b n c : Nat} {enc : α → List Value} (hk : ∀ x, (enc x).length = k) (k0 : 0 < k) {d : Array α} (hd : d.size = n) (h : w.ownsRow 0 e k (.slice (some ⟨b, 0, none⟩) n c) n (d.toList.flatMap enc)) :
    HoldsK enc k w b 0 d ∧ b < w.heap.size := by
  obtain ⟨cur, hB, hnc, hcm, hcs, hx⟩ := own_cells h
  refine ⟨fun j hj => ⟨?_, ?_⟩, hB.lt⟩
  · rw [size_flatK] at hj
    have hf := flat_flatMap hk k0 d
    rw [Nat.zero_add, hB.cell]
    have e1 : cur[j]? = (cur.toList.take (n * k))[j]? := by rw [List.getElem?_take, if_pos (by rw [← hd]; exact hj), Array.getElem?_toList]
    have hj2 : j < (flatK enc k d).size := by rw [size_flatK]; exact hj
    rw [e1, hx, ← hf, Array.getElem?_toList, Array.getElem?_eq_getElem hj2, getElem!_pos (flatK enc k d) j hj2]
    rfl
  · rw [Nat.zero_add]; exact hB.frozen j
theorem own_sorted {w : World} {e k b n c : Nat} {enc : α → List Value} (hk : ∀ x, (enc x).length = k) (k0 : 0 < k) {xs : List Value} (h : w.ownsRow 0 e k (.slice (some ⟨b, 0, none⟩) n c) n xs) {d' : Array α} (hd : d'.size = n) (m : Nat) (os : Array Obj) :
    w.grownBy (sortWorldK enc k w b 0 m d' os) (some b) ∧ (sortWorldK enc k w b 0 m d' os).ownsRow 0 e k (.slice (some ⟨b, 0, none⟩) n c) n (d'.toList.flatMap enc) := by
  obtain ⟨cur, hB, hnc, hcm, hcs, hx⟩ := own_cells h
  have hlt := hB.lt
  have hf := flat_flatMap hk k0 d'
  have hsz : (putRowK enc k (Sort.ahead w m) b 0 d').heap.size = w.heap.size := by simp [putRowK]
  have hheap : ∀ i, i < w.heap.size → (sortWorldK enc k w b 0 m d' os).heap[i]? = (w.heap.modify b (onCells (putCells id 0 (flatK enc k d'))))[i]? := fun i hi => by
    unfold sortWorldK
    rw [heap_grow_old _ _ (by rw [hsz]; exact hi)]
    rfl
  have hblk : (sortWorldK enc k w b 0 m d' os).heap[b]? = some (.cells (putCells id 0 (flatK enc k d') cur) e (0, 0)) := by
    rw [hheap b hlt, Array.getElem?_modify, if_pos rfl]
    have hB' : w.heap[b]? = some (.cells cur e (0, 0)) := hB
    rw [hB']
    rfl
  refine ⟨⟨rfl, rfl, rfl, ?_, fun i hi hne => ?_⟩, ?_, .inr ⟨b, c, _, rfl, Nat.zero_le _, hblk, hnc, hcm, ?_, ?_⟩⟩
  · unfold sortWorldK
    rw [size_grow, hsz]
    omega
  · rw [hheap i hi, Array.getElem?_modify, if_neg (fun e => hne (by rw [e]))]
  · rw [← hf, Array.length_toList, size_flatK, hd]
  · unfold putCells
    rw [Array.size_mapIdx, hcs]
  · apply List.ext_getElem?
    intro t
    rw [← hf, List.getElem?_take, Array.getElem?_toList (xs := flatK enc k d')]
    rcases Nat.lt_or_ge t (n * k) with ht | ht
    · have hc : n * k ≤ c * k := Nat.mul_le_mul_right _ hnc
      have h1 : t < cur.size := by omega
      have h2 : t < (flatK enc k d').size := by rw [size_flatK, hd]; exact ht
      rw [if_pos ht, Array.getElem?_toList]
      unfold putCells
      rw [Array.getElem?_mapIdx, Array.getElem?_eq_getElem h1, Option.map_some, if_pos ⟨Nat.zero_le _, by omega⟩, Nat.sub_zero, getElem!_pos (flatK enc k d') t h2, Array.getElem?_eq_getElem h2]
      rfl
    · rw [if_neg (by omega), Array.getElem?_eq_none (by rw [size_flatK, hd]; exact ht)]
end
end Go.Proofs.Ytaknmlajhedfhaa.Zx


/-
  The library's sort of the rows; their order.
-/
namespace Go.Proofs
open Go.Shelf Go.RowKit Go.Lib Go.Sort
def Ytaknmlajhedfhaa.sortR_ren : Go.Shelf.Ren := ⟨fun | 6 => 25 | 15 => 30 | 14 => 32 | 28 => 42 | 29 => 43 | 20 => 45 | 21 => 46 | 22 => 47 | 23 => 48 | 24 => 49 | 25 => 50 | 26 => 51 | 27 => 52 | 46 => 58 | 47 => 54 | 48 => 55 | 49 => 59 | 50 => 60 | 57 => 62 | n => n, fun | 22 => 38 | 24 => 43 | 25 => 58 | 3 => 3 | 39 => 61 | 0 => 0 | 53 => 74 | 55 => 76 | 4 => 4 | 46 => 67 | 45 => 66 | 50 => 71 | 5 => 5 | 9 => 9 | 66 => 82 | 70 => 86 | 76 => 90 | 77 => 91 | n => n, fun | n => n⟩
theorem Ytaknmlajhedfhaa.sortR : Go.Proofs.SlLaysF0.n6 Try.prog Ytaknmlajhedfhaa.sortR_ren := {
  mixed := by kernel_rfl,
  f6 := ⟨Try.f25.name, by decide, Try.func25.trans (congrArg some (by kernel_rfl))⟩,
  f14 := ⟨Try.f32.name, by decide, Try.func32.trans (congrArg some (by kernel_rfl))⟩,
  f15 := Try.func30.trans (congrArg some (by kernel_rfl)),
  f20 := ⟨Try.f45.name, by decide, Try.func45.trans (congrArg some (by kernel_rfl))⟩,
  f21 := ⟨Try.f46.name, by decide, Try.func46.trans (congrArg some (by kernel_rfl))⟩,
  f22 := ⟨Try.f47.name, by decide, Try.func47.trans (congrArg some (by kernel_rfl))⟩,
  f23 := ⟨Try.f48.name, by decide, Try.func48.trans (congrArg some (by kernel_rfl))⟩,
  f24 := ⟨Try.f49.name, by decide, Try.func49.trans (congrArg some (by kernel_rfl))⟩,
  f25 := ⟨Try.f50.name, by decide, Try.func50.trans (congrArg some (by kernel_rfl))⟩,
  f26 := ⟨Try.f51.name, by decide, Try.func51.trans (congrArg some (by kernel_rfl))⟩,
  f27 := ⟨Try.f52.name, by decide, Try.func52.trans (congrArg some (by kernel_rfl))⟩,
  f28 := Try.func42.trans (congrArg some (by kernel_rfl)),
  f29 := Try.func43.trans (congrArg some (by kernel_rfl)),
  f46 := ⟨Try.f58.name, by decide, Try.func58.trans (congrArg some (by kernel_rfl))⟩,
  f47 := Try.func54.trans (congrArg some (by kernel_rfl)),
  f48 := Try.func55.trans (congrArg some (by kernel_rfl)),
  f49 := ⟨Try.f59.name, by decide, Try.func59.trans (congrArg some (by kernel_rfl))⟩,
  f50 := ⟨Try.f60.name, by decide, Try.func60.trans (congrArg some (by kernel_rfl))⟩,
  f57 := ⟨Try.f62.name, by decide, Try.func62.trans (congrArg some (by kernel_rfl))⟩,
  t0 := Try.underlying0,
  a0 := Try.isAgg0,
  z0 := Try.sizeOf0,
  v0 := Try.zeroValue0,
  t3 := Try.underlying3,
  a3 := Try.isAgg3,
  z3 := Try.sizeOf3,
  v3 := Try.zeroValue3,
  t4 := Try.underlying4,
  a4 := Try.isAgg4,
  z4 := Try.sizeOf4,
  v4 := Try.zeroValue4,
  t5 := Try.underlying5,
  a5 := Try.isAgg5,
  z5 := Try.sizeOf5,
  v5 := Try.zeroValue5,
  t9 := Try.underlying9,
  a9 := Try.isAgg9,
  z9 := Try.sizeOf9,
  v9 := Try.zeroValue9,
  t22 := Try.underlying38,
  a22 := Try.isAgg38,
  z22 := Try.sizeOf38,
  v22 := Try.zeroValue38,
  t25 := Try.underlying58,
  a25 := Try.isAgg58,
  z25 := Try.sizeOf58,
  v25 := Try.zeroValue58,
  t39 := Try.underlying61,
  a39 := Try.isAgg61,
  z39 := Try.sizeOf61,
  v39 := Try.zeroValue61,
  t45 := Try.underlying66,
  a45 := Try.isAgg66,
  z45 := Try.sizeOf66,
  v45 := Try.zeroValue66,
  t46 := Try.underlying67,
  a46 := Try.isAgg67,
  z46 := Try.sizeOf67,
  v46 := Try.zeroValue67,
  t50 := Try.underlying71,
  a50 := Try.isAgg71,
  z50 := Try.sizeOf71,
  v50 := Try.zeroValue71,
  t53 := Try.underlying74,
  a53 := Try.isAgg74,
  z53 := Try.sizeOf74,
  v53 := Try.zeroValue74,
  t55 := Try.underlying76,
  a55 := Try.isAgg76,
  z55 := Try.sizeOf76,
  v55 := Try.zeroValue76,
  t66 := Try.underlying82,
  a66 := Try.isAgg82,
  z66 := Try.sizeOf82,
  v66 := Try.zeroValue82,
  t70 := Try.underlying86,
  a70 := Try.isAgg86,
  z70 := Try.sizeOf86,
  v70 := Try.zeroValue86,
  t76 := Try.underlying90,
  a76 := Try.isAgg90,
  z76 := Try.sizeOf90,
  v76 := Try.zeroValue90,
  t77 := Try.underlying91,
  a77 := Try.isAgg91,
  z77 := Try.sizeOf91,
  v77 := Try.zeroValue91 }
end Go.Proofs
namespace Go.Proofs.Ytaknmlajhedfhaa
open Go.Sort
open Go.RowKit Zk Zx
set_option linter.unusedVariables false
set_option linter.unusedSimpArgs false

theorem rwf_one (x : RW) : ∀ v ∈ rwf x, v.oneCell' = true := fun v hv => by
  simp only [rwf, List.mem_cons, List.not_mem_nil, or_false] at hv
  rcases hv with rfl | rfl | rfl <;> rfl
/-- x before y. -/
def ltR (x y : RW) : Bool := decide (cmpR x y < 0)
theorem ltR_iff (x y : RW) : ltR x y = true ↔ (y.s < x.s ∨ (x.s = y.s ∧ (x.a < y.a ∨ (x.a = y.a ∧ x.b < y.b)))) := by
  unfold ltR
  rw [decide_eq_true_iff]
  unfold cmpR orL orL orL orL cI
  constructor
  · intro h
    repeat' split at h
    all_goals omega
  · intro h
    repeat' split
    all_goals omega
instance : Inhabited RW := ⟨⟨0, 0, 0⟩⟩
theorem ltR_irr (x : RW) : ltR x x = false := by
  cases h : ltR x x
  · rfl
  · rw [ltR_iff] at h; omega
theorem ltR_trans {x y z : RW} (h1 : ltR x y = true) (h2 : ltR y z = true) : ltR x z = true := by
  rw [ltR_iff] at *; omega
theorem ltR_false (x y : RW) : ltR x y = false ↔ ¬ (y.s < x.s ∨ (x.s = y.s ∧ (x.a < y.a ∨ (x.a = y.a ∧ x.b < y.b)))) := by
  rw [← ltR_iff, Bool.not_eq_true]
theorem ltR_total {x y : RW} (h1 : ltR x y = false) (h2 : ltR y x = false) : x = y := by
  rw [ltR_false] at *
  cases x; cases y
  simp only [RW.mk.injEq] at *
  omega
theorem swoR : SWO (ltOf cmpR) where
  irrefl x := ltR_irr x
  trans x y z h1 h2 := ltR_trans h1 h2
  ntrans x y z h1 h2 := by
    have h1' : ltR x y = false := h1
    have h2' : ltR y z = false := h2
    show ltR x z = false
    rw [ltR_false] at *
    omega
theorem cmpLays26 (blk off size : Nat) (w : World) : CmpLays Try.prog 26 #[] rwf 3 cmpR blk off size w :=
  fun _ _ _ _ x y => (cmpRow x y _).mono fun e w' ⟨u, h1, h2, h3⟩ => by subst h3; exact ⟨h1, h2⟩
/-- The library's sort, of rows. -/
theorem sortRw (b n c : Nat) (ys : List RW) (w0 : World) (hn : ys.length = n) (h : w0.ownsRow 0 43 3 (.slice (some ⟨b, 0, none⟩) n c) n (ys.flatMap rwf)) (hsz : n < 4611686018427387904) :
    Calls Try.prog 25 #[.slice (some ⟨b, 0, none⟩) n c, .func (.func 26) #[] #[]] w0 fun e w' => ∃ u, e = .returned u ∧ ∃ zs : List RW, zs.Perm ys ∧ (∀ i j (hi : i < zs.length) (hj : j < zs.length), i < j → ltR zs[j] zs[i] = false) ∧
      Turned w0 w' (row 43 3 (some ⟨b, 0, none⟩) n c (ys.flatMap rwf)) (row 43 3 (some ⟨b, 0, none⟩) n c (zs.flatMap rwf)) := by
  have eg : ∀ args w, (callFunc 26 args).run Try.prog w = .ok (.enter 26 args) w := enters_of Try.func26 (by kernel_rfl) rfl
  obtain ⟨hH, hb⟩ := own_holds (enc := rwf) (k := 3) (d := ys.toArray) (fun _ => rfl) (by decide) (by simpa using hn) h
  have hcon := AnyQ.slices_SortFunc Ytaknmlajhedfhaa.sortR 3 Try.isAgg43 Try.sizeOf43 rwf (fun _ => rfl) rwf_one cmpR swoR 26 #[] b 0 c ys.toArray w0 eg (cmpLays26 b 0 _ w0) hH hb (by simpa using (by omega : ys.length < 4611686018427387904))
  have e1 : ys.toArray.size = n := by simpa using hn
  rw [e1] at hcon
  refine hcon.mono fun e w' ⟨he, d', m, os, hp, hs, hw⟩ => ⟨_, he, d'.toList, ?_, fun i j hi hj hij => ?_, ?_⟩
  · have h3 := hp.2.2
    have h4 : d'.size = n := by rw [hp.1]; exact e1
    rw [show (d'.extract 0 n) = d' by rw [← h4]; simp, show ys.toArray.extract 0 n = ys.toArray by rw [← e1]; simp] at h3
    exact h3
  · have h4 : d'.size = n := by rw [hp.1]; exact e1
    have h5 := hs i j (Nat.zero_le _) hij (by simpa [h4] using hj)
    rw [getElem!_pos d' i (by simpa using hi), getElem!_pos d' j (by simpa using hj)] at h5
    exact h5
  · subst hw
    obtain ⟨hg, ho⟩ := own_sorted (enc := rwf) (k := 3) (fun _ => rfl) (by decide) h (d' := d') (by rw [hp.1]; exact e1) m os
    exact ⟨hg.os, hg.tape, hg.output, hg.size, fun i hi hne => hg.block i hi (fun e => hne (by injection e with e; rw [e]; rfl)), ho, fun i hi => .inl hi⟩
/-- The same, whatever the slice. -/
theorem sortRA (A : Option Addr) (n c : Nat) (ys : List RW) (w0 : World) (hn : ys.length = n) (h : w0.ownsRow 0 43 3 (.slice A n c) n (ys.flatMap rwf)) (hsz : n < 4611686018427387904) :
    Calls Try.prog 25 #[.slice A n c, .func (.func 26) #[] #[]] w0 fun e w' => ∃ u, e = .returned u ∧ ∃ zs : List RW, zs.Perm ys ∧ (∀ i j (hi : i < zs.length) (hj : j < zs.length), i < j → ltR zs[j] zs[i] = false) ∧
      Turned w0 w' (row 43 3 A n c (ys.flatMap rwf)) (row 43 3 A n c (zs.flatMap rwf)) := by
  rcases h.2 with ⟨h1, h2⟩ | ⟨b, cap, cur, h1, _⟩
  · cases h1
    have e0 : ys = [] := List.eq_nil_of_length_eq_zero (by omega)
    subst e0
    exact (AnyF.slices_SortFunc_none Ytaknmlajhedfhaa.sortR none 0 (.func (.func 26) #[] #[]) w0).mono fun e w' ⟨he, hw⟩ => ⟨_, he, [], .refl _, (fun i j hi => by cases hi), by subst hw; exact Turned.refl h⟩
  · cases h1
    exact sortRw b n c ys w0 hn h hsz
/-- What is in order and the same up to order is the same. -/
theorem rsorted_eq : ∀ (xs ys : List RW), xs.Perm ys → (xs.Pairwise fun x y => ltR y x = false) → (ys.Pairwise fun x y => ltR y x = false) → xs = ys
  | [], ys, h, _, _ => (List.nil_perm.1 h).symm
  | x :: xs, [], h, _, _ => absurd h.length_eq (by simp)
  | x :: xs, y :: ys, h, hx, hy => by
    have e : x = y := by
      by_cases e : x = y
      · exact e
      · have h1 : y ∈ xs := (List.mem_cons.1 (h.mem_iff.2 List.mem_cons_self)).resolve_left fun k => e k.symm
        have h2 : x ∈ ys := (List.mem_cons.1 (h.mem_iff.1 List.mem_cons_self)).resolve_left e
        exact ltR_total ((List.pairwise_cons.1 hy).1 x h2) ((List.pairwise_cons.1 hx).1 y h1)
    subst e
    rw [rsorted_eq xs ys (h.cons_inv) (List.pairwise_cons.1 hx).2 (List.pairwise_cons.1 hy).2]
theorem pw_of (zs : List RW) (h : ∀ i j (hi : i < zs.length) (hj : j < zs.length), i < j → ltR zs[j] zs[i] = false) : zs.Pairwise fun x y => ltR y x = false := by
  rw [List.pairwise_iff_getElem]
  exact h
end Go.Proofs.Ytaknmlajhedfhaa


/-
  Regions that draw their order and make two variables in either order. General; nothing here names a program.
-/
namespace Go.Proofs.Ytaknmlajhedfhaa.Zx
open Go.RowKit Zk
set_option linter.unusedVariables false
set_option linter.unusedSimpArgs false

theorem St.perm {w0 w : World} {M : Nat → Prop} {rs rs' : List Res} (S : St w0 M rs w) (h : rs.Perm rs') : St w0 M rs' w :=
  ⟨S.os, S.tape, S.output, S.size, S.old, fun r hr => S.res r (h.mem_iff.2 hr), (h.pairwise_iff (by intro a b hab i hi hj; exact hab i hj hi)).1 S.apart⟩
section
variable {P : Program} {N : Nat} {Q : Post} {env : Env} {w w0 : World} {M : Nat → Prop} {rs : List Res} {S : World → Prop} {ops : Array Oper} {listed : Array Bool} {fuel : Nat}
end
end Go.Proofs.Ytaknmlajhedfhaa.Zx


/-
  Rows of elements of many cells: an element stored whole, a tail cleared, a row cut. General; nothing here names a program.
-/
namespace Go.Proofs.Ytaknmlajhedfhaa.Zx
open Go.RowKit Zk
set_option linter.unusedVariables false
set_option linter.unusedSimpArgs false
section
variable {P : Program} {N : Nat} {Q : Post} {env : Env} {w w0 : World} {M : Nat → Prop} {rs : List Res} {K : Env → World → Prop} {ty : TypeId} {pos : String} {after : Array Edge} {g : Option (Nat × Bool)}
end
end Go.Proofs.Ytaknmlajhedfhaa.Zx


/-
  Maps whose keys are bytes in arrays; families of pieces; a choice of pieces. General; nothing here names a program.
-/
namespace Go.Proofs.Ytaknmlajhedfhaa.Zx
open Go.RowKit Zk
set_option linter.unusedVariables false
set_option linter.unusedSimpArgs false
section
variable {w w0 : World} {M : Nat → Prop} {rs : List Res}
/-- Many pieces as one. -/
def fam (L : List Res) : Res where
  dom i := ∃ r ∈ L, r.dom i
  holds w := (∀ r ∈ L, r.holds w) ∧ L.Pairwise fun (r s : Res) => ∀ i, r.dom i → ¬ s.dom i
  stable w w' h hh := ⟨fun r hr => r.stable w w' (fun i hi => h i ⟨r, hr, hi⟩) (hh.1 r hr), hh.2⟩
theorem St.fam0 (S : St w0 M rs w) : St w0 M (rs ++ [fam []]) w := by
  refine ⟨S.os, S.tape, S.output, S.size, S.old, fun r hr => ?_, ?_⟩
  · rcases List.mem_append.1 hr with hr | hr
    · exact S.res r hr
    · obtain rfl := List.mem_singleton.1 hr
      exact ⟨⟨fun r hr => (List.not_mem_nil hr).elim, List.Pairwise.nil⟩, fun i ⟨r, hr, _⟩ => (List.not_mem_nil hr).elim⟩
  · rw [List.pairwise_append]
    exact ⟨S.apart, List.pairwise_singleton _ _, fun a _ b hb i _ hi => by
      obtain rfl := List.mem_singleton.1 hb
      obtain ⟨r, hr, _⟩ := hi
      cases hr⟩
theorem St.famIn {L1 L2 : List Res} {r : Res} (S : St w0 M (rs ++ [fam (L1 ++ L2), r]) w) : St w0 M (rs ++ [fam (L1 ++ r :: L2)]) w := by
  have hap := S.apart
  rw [List.pairwise_append] at hap
  obtain ⟨a1, a2, a3⟩ := hap
  have hfr := (List.pairwise_cons.1 a2).1 r (by simp)
  have hf := S.res (fam (L1 ++ L2)) (by simp)
  have hr := S.res r (by simp)
  refine ⟨S.os, S.tape, S.output, S.size, S.old, fun q hq => ?_, ?_⟩
  · rcases List.mem_append.1 hq with hq | hq
    · exact S.res q (by simp [hq])
    · obtain rfl := List.mem_singleton.1 hq
      refine ⟨⟨fun q hq => ?_, ?_⟩, fun i ⟨q, hq, hi⟩ => ?_⟩
      · rcases List.mem_append.1 hq with h | h
        · exact hf.1.1 q (by simp [h])
        · rcases List.mem_cons.1 h with rfl | h
          · exact hr.1
          · exact hf.1.1 q (by simp [h])
      · have h2 := hf.1.2
        rw [List.pairwise_append] at h2 ⊢
        refine ⟨h2.1, List.pairwise_cons.2 ⟨fun q hq i hi hqi => hfr i ⟨q, by simp [hq], hqi⟩ hi, h2.2.1⟩, fun a ha b hb i hi hbi => ?_⟩
        rcases List.mem_cons.1 hb with rfl | hb
        · exact hfr i ⟨a, by simp [ha], hi⟩ hbi
        · exact h2.2.2 a ha b hb i hi hbi
      · rcases List.mem_append.1 hq with h | h
        · exact hf.2 i ⟨q, by simp [h], hi⟩
        · rcases List.mem_cons.1 h with rfl | h
          · exact hr.2 i hi
          · exact hf.2 i ⟨q, by simp [h], hi⟩
  · rw [List.pairwise_append]
    refine ⟨a1, List.pairwise_singleton _ _, fun a ha b hb i hi hbi => ?_⟩
    obtain rfl := List.mem_singleton.1 hb
    obtain ⟨q, hq, hqi⟩ := hbi
    rcases List.mem_append.1 hq with h | h
    · exact a3 a ha (fam (L1 ++ L2)) (by simp) i hi ⟨q, by simp [h], hqi⟩
    · rcases List.mem_cons.1 h with rfl | h
      · exact a3 a ha q (by simp) i hi hqi
      · exact a3 a ha (fam (L1 ++ L2)) (by simp) i hi ⟨q, by simp [h], hqi⟩
theorem St.famOut {L1 L2 : List Res} {r : Res} (S : St w0 M (rs ++ [fam (L1 ++ r :: L2)]) w) : St w0 M (rs ++ [fam (L1 ++ L2), r]) w := by
  have hap := S.apart
  rw [List.pairwise_append] at hap
  obtain ⟨a1, _, a3⟩ := hap
  have hf := S.res (fam (L1 ++ r :: L2)) (by simp)
  have hp := hf.1.2
  rw [List.pairwise_append, List.pairwise_cons] at hp
  have hsub : ∀ q, q ∈ L1 ++ L2 → q ∈ L1 ++ r :: L2 := fun q hq => by
    rcases List.mem_append.1 hq with h | h
    · simp [h]
    · simp [h]
  have hfr : ∀ i, (fam (L1 ++ L2)).dom i → ¬ r.dom i := fun i ⟨q, hq, hqi⟩ hri => by
    rcases List.mem_append.1 hq with h | h
    · exact hp.2.2 q h r (by simp) i hqi hri
    · exact hp.2.1.1 q h i hri hqi
  refine ⟨S.os, S.tape, S.output, S.size, S.old, fun q hq => ?_, ?_⟩
  · rcases List.mem_append.1 hq with hq | hq
    · exact S.res q (by simp [hq])
    · rcases List.mem_cons.1 hq with rfl | hq
      · refine ⟨⟨fun q hq => hf.1.1 q (hsub q hq), ?_⟩, fun i ⟨q, hq, hi⟩ => hf.2 i ⟨q, hsub q hq, hi⟩⟩
        rw [List.pairwise_append]
        exact ⟨hp.1, hp.2.1.2, fun a ha b hb => hp.2.2 a ha b (by simp [hb])⟩
      · obtain rfl := List.mem_singleton.1 hq
        exact ⟨hf.1.1 q (by simp), fun i hi => hf.2 i ⟨q, by simp, hi⟩⟩
  · rw [List.pairwise_append]
    refine ⟨a1, List.pairwise_cons.2 ⟨fun b hb => by rw [List.mem_singleton.1 hb]; exact hfr, List.pairwise_singleton _ _⟩, fun a ha b hb i hi hbi => ?_⟩
    rcases List.mem_cons.1 hb with rfl | hb
    · obtain ⟨q, hq, hqi⟩ := hbi
      exact a3 a ha (fam (L1 ++ r :: L2)) (by simp) i hi ⟨q, hsub q hq, hqi⟩
    · rw [List.mem_singleton.1 hb] at hbi
      exact a3 a ha (fam (L1 ++ r :: L2)) (by simp) i hi ⟨r, by simp, hbi⟩
end
section
variable {P : Program}
end
section
variable {P : Program} {N : Nat} {Q : Post} {env : Env} {w w0 : World} {M : Nat → Prop} {rs : List Res} {K : Env → World → Prop} {d : Tmp} {ty : TypeId} {pos : String} {after : Array Edge} {g : Option (Nat × Bool)} {dst : Option Tmp}
end
end Go.Proofs.Ytaknmlajhedfhaa.Zx


/-
  A law's arguments, opened: slices of elements of many cells. General; nothing here names a program.
-/
namespace Go.Proofs.Ytaknmlajhedfhaa.Zx
open Go.ChangeShapes Go.WideShapes Go.ChangeAt Go.RowKit Go.Deep Zk
set_option linter.unusedVariables false
section
variable {H : Type} {enc : TypeId × Value → H} {P : Program} {w : World} {base : Nat} {spare : Nat → Bool} {held : Bool}
end
section
variable {P : Program} {env : Env} {w : World} {dst : Option Tmp} {ty : TypeId} {pos : String} {after : Array Edge} {g : Option (Nat × Bool)}
end
end Go.Proofs.Ytaknmlajhedfhaa.Zx


/-
  Families: a piece taken out and put in, anywhere; rows that stay as they are. General; nothing here names a program.
-/
namespace Go.Proofs.Ytaknmlajhedfhaa.Zx
open Go.RowKit Zk
set_option linter.unusedVariables false
set_option linter.unusedSimpArgs false
section
variable {w w0 : World} {M : Nat → Prop} {rs : List Res}
theorem split_at {α : Type} {l : List α} {k : Nat} {x : α} (h : l[k]? = some x) : ∃ a b, l = a ++ x :: b ∧ ∀ y, l.set k y = a ++ y :: b := by
  obtain ⟨h1, h2⟩ := List.getElem?_eq_some_iff.1 h
  refine ⟨l.take k, l.drop (k + 1), ?_, fun y => ?_⟩
  · rw [← h2, List.getElem_cons_drop, List.take_append_drop]
  · rw [List.set_eq_take_append_cons_drop, if_pos h1]
theorem mid_perm {α : Type} (a b : List α) (x : α) : (a ++ x :: b).Perm (a ++ b ++ [x]) :=
  List.perm_middle.trans ((List.perm_append_comm (l₁ := [x]) (l₂ := a ++ b)))
theorem St.famInAt {L1 L2 : List Res} {r : Res} (S : St w0 M (rs ++ [r]) w) (k : Nat) (hk : rs[k]? = some (fam (L1 ++ L2))) : St w0 M (rs.set k (fam (L1 ++ r :: L2))) w := by
  obtain ⟨a, b, h1, h2⟩ := split_at hk
  rw [h2]
  subst h1
  have hp := (mid_perm a b (fam (L1 ++ L2))).append_right [r]
  have S1 : St w0 M ((a ++ b) ++ [fam (L1 ++ L2), r]) w := S.perm (by simpa using hp)
  exact S1.famIn.perm (mid_perm a b _).symm
end
section
variable {P : Program} {env : Env} {w : World} {dst : Option Tmp} {ty : TypeId} {pos : String} {after : Array Edge} {g : Option (Nat × Bool)}
end
end Go.Proofs.Ytaknmlajhedfhaa.Zx


/-
  The table: plain laws; the maps that are known.
-/
namespace Go.Proofs.Ytaknmlajhedfhaa
open Go.RowKit Zk Zx
set_option linter.unusedVariables false
set_option linter.unusedSimpArgs false

theorem part_getD {w : World} {ps : List Part} (h : ∀ p ∈ ps, p.ok w) (k : Nat) : (ps.getD k p0).ok w := by
  rw [List.getD_eq_getElem?_getD]
  cases hk : ps[k]? with
  | none => exact Rs.nil w 1
  | some p => exact h p (List.mem_of_getElem? hk)
def scf (p q : Part) : Nat := scoreF (comT (cuts p.l) (cuts q.l)) p.n q.n
def sc (ps qs : List Part) (t : Int) (i k : Nat) : Option RW := if t ≤ (scf (ps.getD i p0) (qs.getD k p0) : Int) then some ⟨i, k, scf (ps.getD i p0) (qs.getD k p0)⟩ else none
def rowP (ps qs : List Part) (t : Int) (i k : Nat) : List RW := (List.range k).filterMap (sc ps qs t i)
/-- The pairs that are alike, as they are met. -/
def prs (ps qs : List Part) (t : Int) (i k : Nat) : List RW := ((List.range i).flatMap fun j => rowP ps qs t j qs.length) ++ rowP ps qs t i k
theorem prs_hit {ps qs : List Part} {t : Int} {i k : Nat} (h : t ≤ (scf (ps.getD i p0) (qs.getD k p0) : Int)) : prs ps qs t i (k + 1) = prs ps qs t i k ++ [⟨i, k, scf (ps.getD i p0) (qs.getD k p0)⟩] := by
  unfold prs rowP
  rw [List.range_succ, List.filterMap_append, List.filterMap_cons, List.filterMap_nil, sc, if_pos h, List.append_assoc]
theorem prs_miss {ps qs : List Part} {t : Int} {i k : Nat} (h : (scf (ps.getD i p0) (qs.getD k p0) : Int) < t) : prs ps qs t i (k + 1) = prs ps qs t i k := by
  unfold prs rowP
  rw [List.range_succ, List.filterMap_append, List.filterMap_cons, List.filterMap_nil, sc, if_neg (by omega), List.append_nil]
theorem prs_next {ps qs : List Part} {t : Int} {i : Nat} : prs ps qs t (i + 1) 0 = prs ps qs t i qs.length := by
  unfold prs
  rw [List.range_succ, List.flatMap_append]
  simp [rowP]
theorem row_mem {ps qs : List Part} {t : Int} {i k : Nat} {x : RW} (h : x ∈ rowP ps qs t i k) : x.a = i ∧ x.b < k := by
  unfold rowP at h
  obtain ⟨j, hj, he⟩ := List.mem_filterMap.1 h
  unfold sc at he
  split at he
  · cases he
    exact ⟨rfl, List.mem_range.1 hj⟩
  · cases he
theorem prs_mem {ps qs : List Part} {t : Int} {i k : Nat} {x : RW} (h : x ∈ prs ps qs t i k) : x.a < i ∨ (x.a = i ∧ x.b < k) := by
  unfold prs at h
  rcases List.mem_append.1 h with h | h
  · obtain ⟨j, hj, hx⟩ := List.mem_flatMap.1 h
    have := List.mem_range.1 hj
    have := row_mem hx
    omega
  · exact .inr (row_mem h)
theorem row_len (ps qs : List Part) (t : Int) (i k : Nat) : (rowP ps qs t i k).length ≤ k := by
  have := List.length_filterMap_le (sc ps qs t i) (List.range k)
  rw [List.length_range] at this
  exact this
theorem sum_le_mul (f : Nat → Nat) (m : Nat) (h : ∀ j, f j ≤ m) : ∀ i, ((List.range i).map f).sum ≤ i * m
  | 0 => by simp
  | i + 1 => by
    rw [List.range_succ, List.map_append, List.sum_append]
    have h1 := sum_le_mul f m h i
    have h2 := h i
    simp only [List.map_cons, List.map_nil, List.sum_cons, List.sum_nil]
    rw [Nat.succ_mul]
    omega
theorem prs_len {ps qs : List Part} {t : Int} {i k : Nat} (hi : i ≤ 8) (hq : qs.length ≤ 8) (hk : k ≤ 8) : (prs ps qs t i k).length ≤ 80 := by
  unfold prs
  rw [List.length_append, List.length_flatMap]
  have h1 := sum_le_mul (fun j => (rowP ps qs t j qs.length).length) 8 (fun j => by have := row_len ps qs t j qs.length; omega) i
  have h2 := row_len ps qs t i k
  have h1 : _ ≤ i * 8 := h1
  omega
/-- A list of rows as the table has them. -/
def TB (xs ys : List RW) : Prop := xs.Perm ys ∧ xs.Pairwise fun x y => ltR y x = false
theorem TB.eq {xs ys zs : List RW} (h : TB xs zs) (k : TB ys zs) : xs = ys := rsorted_eq xs ys (h.1.trans k.1.symm) h.2 k.2
theorem TB.nil : TB [] [] := ⟨.refl _, .nil⟩
theorem TB.ins {xs zs : List RW} {x : RW} {j : Nat} (h : TB xs zs) (hj : j ≤ xs.length) (hlow : ∀ y, 0 < j → xs[j - 1]? = some y → ¬ y.s < x.s) (hhi : ∀ i y, j ≤ i → xs[i]? = some y → y.s < x.s) (hlex : ∀ y ∈ zs, y.a < x.a ∨ (y.a = x.a ∧ y.b < x.b)) :
    TB (xs.take j ++ [x] ++ xs.drop j) (zs ++ [x]) := by
  have hge : ∀ i y, i < j → xs[i]? = some y → x.s ≤ y.s := fun i y hi hy => by
    obtain ⟨z, hz⟩ : ∃ z, xs[j - 1]? = some z := ⟨_, List.getElem?_eq_getElem (by omega)⟩
    have h1 := hlow z (by omega) hz
    rcases Nat.lt_or_eq_of_le (by omega : i ≤ j - 1) with h2 | h2
    · obtain ⟨e1, e2⟩ := List.getElem?_eq_some_iff.1 hy
      obtain ⟨e3, e4⟩ := List.getElem?_eq_some_iff.1 hz
      have h3 := List.pairwise_iff_getElem.1 h.2 i (j - 1) e1 e3 h2
      rw [e2, e4, ltR_false] at h3
      omega
    · subst h2
      rw [hy] at hz
      cases hz
      omega
  refine ⟨?_, ?_⟩
  · have h1 : (xs.take j ++ [x] ++ xs.drop j).Perm (xs.take j ++ xs.drop j ++ [x]) := by
      rw [List.append_assoc, List.append_assoc]
      exact List.Perm.append_left _ List.perm_append_comm
    rw [List.take_append_drop] at h1
    exact h1.trans (h.1.append_right _)
  · have h2 := h.2
    rw [← List.take_append_drop j xs, List.pairwise_append] at h2
    rw [List.append_assoc, List.pairwise_append]
    refine ⟨h2.1, ?_, fun a ha b hb => ?_⟩
    · rw [List.singleton_append, List.pairwise_cons]
      refine ⟨fun b hb => ?_, h2.2.1⟩
      obtain ⟨i, hi, he⟩ := List.getElem_of_mem hb
      have h3 := hhi (j + i) b (by omega) (by rw [← List.getElem?_drop, List.getElem?_eq_getElem hi, he])
      rw [ltR_false]
      omega
    · rcases List.mem_cons.1 hb with rfl | hb
      · obtain ⟨i, hi, he⟩ := List.getElem_of_mem ha
        rw [List.length_take] at hi
        have h3 := hge i a (by omega) (by rw [← he, List.getElem_take]; exact List.getElem?_eq_getElem (by omega))
        have h4 := hlex a (h.1.mem_iff.1 (List.mem_of_mem_take ha))
        rw [ltR_false]
        omega
      · exact h2.2.2 a ha b hb
/-! maps that were made -/
structure MP where
  b : Nat
  k : Nat
  D : DU
  l : List UInt8
def mR (x : MP) : Res := mapR Try.prog 9 3 x.b x.k x.D
def mV (o : Option Nat) : Value := .map o
/-- Of each text whose map is known. -/
def KN (ks : List (Option Nat)) (Lk : List MP) (qs : List Part) : Prop := ks.length = qs.length ∧ (∀ j b, ks[j]? = some (some b) → ∃ x ∈ Lk, x.b = b ∧ x.l = (qs.getD j p0).l) ∧ ∀ x ∈ Lk, CM x.D (cuts x.l)
theorem KN.start (qs : List Part) : KN (List.replicate qs.length none) [] qs := ⟨by simp, fun j b h => by rw [List.getElem?_replicate] at h; split at h <;> simp at h, fun x hx => by cases hx⟩
theorem KN.put {ks : List (Option Nat)} {Lk : List MP} {qs : List Part} (h : KN ks Lk qs) {k : Nat} {x : MP} (hk : k < qs.length) (hl : x.l = (qs.getD k p0).l) (hc : CM x.D (cuts x.l)) : KN (ks.set k (some x.b)) (Lk ++ [x]) qs := by
  refine ⟨by rw [List.length_set]; exact h.1, fun j b hj => ?_, fun y hy => ?_⟩
  · rw [List.getElem?_set] at hj
    split at hj
    · rename_i e
      subst e
      split at hj
      · cases hj
        exact ⟨x, by simp, rfl, hl⟩
      · cases hj
    · obtain ⟨y, h1, h2⟩ := h.2.1 j b hj
      exact ⟨y, by simp [h1], h2⟩
  · rcases List.mem_append.1 hy with hy | hy
    · exact h.2.2 y hy
    · obtain rfl := List.mem_singleton.1 hy
      exact hc
section
variable {w w0 : World} {M : Nat → Prop} {r1 r2 r3 r : Res}
theorem fam1 (S : St w0 M [r1, r2, r3, r] w) : St w0 M [r1, r2, r3, fam [r]] w := by
  have S1 := S.fam0
  have S2 := S1.perm (rs' := [r1, r2, r3, fam [], r]) (List.Perm.append_left [r1, r2, r3] (List.perm_append_comm (l₁ := [r]) (l₂ := [fam []])))
  exact St.famIn (rs := [r1, r2, r3]) (L1 := []) (L2 := []) S2
theorem unfam1 (S : St w0 M [r1, r2, r3, fam [r]] w) : St w0 M [r1, r2, r3, r] w :=
  (St.famOut (rs := [r1, r2, r3]) (L1 := []) (L2 := []) S).drop (.cons_cons _ (.cons_cons _ (.cons_cons _ (.cons _ (.refl _)))))
end
theorem y_meqn {P : Program} {S : World → Prop} {env : Env} {dst : Option Tmp} {ty : TypeId} {pos : String} {after : Array Edge} {g : Option (Nat × Bool)} {x : Operand} {t k e u : TypeId} {p : Option Nat} (ht : P.underlying t = some (.map k e)) (hx : ev env x = some (.map p)) : Y P S env ⟨dst, .binOp .eql t x (.const (.map none)) u, ty, pos, after, g⟩ (.bool p.isNone) := fun N a w ha _ => by
  have hy : a.eval (.const (.map none)) = .map none := rfl
  have h1 : (Op.equal t (.map p) (.map none)).run P w = .ok p.isNone w := by
    have h2 : ∀ d, (Op.equalIn (d + 1) t (.map p) (.map none)).run P w = .ok p.isNone w := fun d => by cases p <;> simp [Op.equalIn, run_underlying ht]
    exact h2 9999
  simp only [execOp, ha.eval hx, hy, eqGuard, binOp, Bool.not_true, Bool.false_eq_true, if_false, ite_self,  Sem.run_bind, Sem.run_pure, Result.andThen_ok, h1]
end Go.Proofs.Ytaknmlajhedfhaa


/-
  The program: Table.
-/
namespace Go.Proofs.Ytaknmlajhedfhaa
open Go.RowKit Zk Zx
set_option linter.unusedVariables false
set_option linter.unusedSimpArgs false

theorem scf_le {ps qs : List Part} {i k : Nat} (h1 : (ps.getD i p0).l.length = (ps.getD i p0).n) (h2 : (qs.getD k p0).l.length = (qs.getD k p0).n) : scf (ps.getD i p0) (qs.getD k p0) ≤ 1000 := by
  have h3 := comT_le (cuts (ps.getD i p0).l) (cuts (qs.getD k p0).l)
  rw [cuts_sum, cuts_sum] at h3
  unfold scf scoreF
  split
  · omega
  · exact Nat.div_le_of_le_mul (by rw [Nat.mul_comm]; exact Nat.mul_le_mul_right _ (by omega))


set_option maxRecDepth 100000 in
theorem table (A B : Option Addr) (n ca m cb : Nat) (ps qs : List Part) (t0 t : Int) (w0 : World) (hps : Rs w0 1 A n ca (ps.map pv)) (hok : ∀ p ∈ ps, p.ok w0) (hqs : Rs w0 1 B m cb (qs.map pv)) (hqk : ∀ p ∈ qs, p.ok w0) (hn : n ≤ 8) (hm : m ≤ 8) (hlp : ∀ i, i < ps.length → (ps.getD i p0).n ≤ 400) (hlq : ∀ i, i < qs.length → (qs.getD i p0).n ≤ 400) (ht : t = max t0 1) :
    Calls Try.prog 16 #[.slice A n ca, .slice B m cb, .int .i64 t0] w0 fun e w' => ∃ u, e = .returned u ∧ Like w0 w' ∧ ∃ A m c xs, u = .slice A m c ∧ w'.ownsRow w0.heap.size 43 3 (.slice A m c) m (xs.flatMap rwf) ∧ TB xs (prs ps qs t ps.length 0) := by
  refine enter1 (env := [(0, .slice A n ca), (1, .slice B m cb), (2, .int .i64 t0)]) [.slice A n ca, .slice B m cb, .int .i64 t0] Try.func16 rfl Try.ntmps16 rfl rfl ?_
  have hnl : ps.length = n := by have := hps.len; simpa using this
  have hml : qs.length = m := by have := hqs.len; simpa using this
  subst hnl; subst hml; have S0 := St.start w0 noM
  refine T_seq fun K1 hK1 => ?_
  refine T_region ?_
  refine L_y (y_assign rfl) rfl ?_
  refine L_nil ?_
  refine hK1 _ _ ?_
  refine T_seq fun K2 hK2 => ?_
  refine T_region ?_
  refine L_y (y_move rfl) rfl ?_
  refine L_y (y_max rfl rfl) rfl ?_
  refine L_y (y_assign rfl) rfl ?_
  refine L_nil ?_
  refine hK2 _ _ ?_
  refine T_seq fun K3 hK3 => ?_
  refine T_region ?_
  refine L_y (y_move rfl) rfl ?_
  refine L_y (y_len Try.underlying36 rfl) rfl ?_
  refine L_o (o_make te55 rfl S0 rfl rfl inferInstance inferInstance rfl (by omega) (by omega) (by omega) fun b1 w1 S1 => ?_)
  refine L_y (y_assign rfl) rfl ?_
  refine L_nil ?_
  refine hK3 _ _ ?_
  refine T_seq fun K4 hK4 => ?_
  refine T_region ?_
  have S2 := S1.nilrow 43 3
  refine L_y (y_assign rfl) rfl ?_
  refine L_nil ?_
  refine hK4 _ _ ?_
  refine T_seq fun K5 hK5 => ?_
  refine T_seq fun K6 hK6 => ?_
  refine T_region ?_
  refine L_y (y_move rfl) rfl ?_
  refine L_y (y_len Try.underlying36 rfl) rfl ?_
  refine L_y (y_move rfl) rfl ?_
  refine L_nil ?_
  refine hK6 _ _ ?_
  refine T_block ?_
  refine T_loop5 [(1, _), (2, _), (7, _), (20, _), (21, _)] (fun (i : Nat) (A1 : Option Addr) (c1 : Nat) (ks : List (Option Nat)) (Lk : List MP) => [(8, .slice A1 (prs ps qs t i 0).length c1), (22, .int .i64 (i : Int))]) (fun (i : Nat) (A1 : Option Addr) (c1 : Nat) (ks : List (Option Nat)) (Lk : List MP) => ps.length - i) (fun (i : Nat) (A1 : Option Addr) (c1 : Nat) (ks : List (Option Nat)) (Lk : List MP) (w : World) => (i ≤ ps.length ∧ KN ks Lk qs) ∧ St w0 noM [row 48 1 (some (⟨b1, 0, none⟩ : Addr)) qs.length qs.length (ks.map mV), row 43 3 A1 (prs ps qs t i 0).length c1 ((prs ps qs t i 0).flatMap rwf), fam (Lk.map mR)] w) 0 none 0 (List.replicate qs.length none) [] (Sub.cons rfl (by first | rfl | exact congrArg (Value.int _) (by omega)) (Sub.cons rfl (by first | rfl | exact congrArg (Value.int _) (by omega)) (Sub.nil _))) (Sub.cons rfl rfl (Sub.cons rfl rfl (Sub.cons rfl rfl (Sub.cons rfl rfl (Sub.cons rfl rfl (Sub.nil _)))))) ?_ ?_
  ·
    exact ⟨⟨by omega, KN.start qs⟩, S2.fam0.cast (by rw [List.map_replicate]; rfl)⟩
  ·
    intro i A1 c1 ks Lk w3 hrel
    obtain ⟨⟨hi, hkn⟩, S3⟩ := hrel
    refine T_seq fun K7 hK7 => ?_
    refine T_region ?_
    refine L_y (y_lss rfl rfl) rfl ?_
    refine L_nil ?_
    refine hK7 _ _ ?_
    refine T_seq fun K8 hK8 => ?_
    refine T_cond rfl (fun h23 => ?_) (fun h23 => ?_)
    ·
      have hpo := part_getD hok i
      have hpl := hpo.lenb
      have hps4 := hlp i (by omega)
      refine T_skip ?_
      refine hK8 _ _ ?_
      refine T_seq fun K9 hK9 => ?_
      refine T_block ?_
      refine T_seq fun K10 hK10 => ?_
      refine T_region ?_
      refine L_y (y_move rfl) rfl ?_
      refine L_y (y_idx Try.underlying36 sz22 rfl rfl (by first | exact S3.rd hps | exact S3.rd hqs | exact S3.fix 2 rfl) inferInstance (by omega)) rfl ?_
      refine L_y (y_ldg p0 Try.underlying22 rfl rfl (by first | exact S3.rd hps | exact S3.rd hqs | exact S3.fix 2 rfl) (by omega)) rfl ?_
      refine L_y (y_assign rfl) rfl ?_
      refine L_y (y_assign rfl) rfl ?_
      refine L_nil ?_
      refine hK10 _ _ ?_
      refine T_scope (fun _ _ _ h => h) ?_
      refine T_seq fun K11 hK11 => ?_
      refine T_region ?_
      refine L_y (y_assign rfl) rfl ?_
      refine L_nil ?_
      refine hK11 _ _ ?_
      refine T_seq fun K12 hK12 => ?_
      refine T_label ?_
      refine hK12 _ _ ?_
      refine T_seq fun K13 hK13 => ?_
      refine T_region ?_
      refine L_y (y_move rfl) rfl ?_
      refine L_y (y_len Try.underlying36 rfl) rfl ?_
      refine L_y (y_move rfl) rfl ?_
      refine L_nil ?_
      refine hK13 _ _ ?_
      refine T_block ?_
      refine T_loop6 [(1, _), (2, _), (7, _), (9, _), (10, _), (20, _), (21, _), (22, _), (27, _), (28, _)] (fun (k : Nat) (A1 : Option Addr) (c1 : Nat) (ks : List (Option Nat)) (Lk : List MP) (o : Option MP) => [(8, .slice A1 (prs ps qs t i k).length c1), (11, .map (o.map MP.b)), (29, .int .i64 (k : Int))]) (fun (k : Nat) (A1 : Option Addr) (c1 : Nat) (ks : List (Option Nat)) (Lk : List MP) (o : Option MP) => qs.length - k) (fun (k : Nat) (A1 : Option Addr) (c1 : Nat) (ks : List (Option Nat)) (Lk : List MP) (o : Option MP) (w : World) => ((k ≤ qs.length ∧ KN ks Lk qs) ∧ ∀ x, o = some x → x.l = (ps.getD i p0).l ∧ CM x.D (cuts x.l)) ∧ St w0 noM [row 48 1 (some (⟨b1, 0, none⟩ : Addr)) qs.length qs.length (ks.map mV), row 43 3 A1 (prs ps qs t i k).length c1 ((prs ps qs t i k).flatMap rwf), fam (Lk.map mR), fam (o.toList.map mR)] w) 0 A1 c1 ks Lk none (Sub.cons rfl (by first | rfl | exact congrArg (Value.int _) (by omega)) (Sub.cons rfl (by first | rfl | exact congrArg (Value.int _) (by omega)) (Sub.cons rfl (by first | rfl | exact congrArg (Value.int _) (by omega)) (Sub.nil _)))) (Sub.cons rfl rfl (Sub.cons rfl rfl (Sub.cons rfl rfl (Sub.cons rfl rfl (Sub.cons rfl rfl (Sub.cons rfl rfl (Sub.cons rfl rfl (Sub.cons rfl rfl (Sub.cons rfl rfl (Sub.cons rfl rfl (Sub.nil _))))))))))) ?_ ?_
      ·
        exact ⟨⟨⟨by omega, hkn⟩, fun x hx => by cases hx⟩, S3.fam0⟩
      ·
        intro k A1 c1 ks Lk o w4 hrel
        obtain ⟨⟨⟨hk, hkn⟩, how⟩, S4⟩ := hrel
        refine T_seq fun K14 hK14 => ?_
        refine T_region ?_
        refine L_y (y_lss rfl rfl) rfl ?_
        refine L_nil ?_
        refine hK14 _ _ ?_
        refine T_seq fun K15 hK15 => ?_
        refine T_cond rfl (fun h30 => ?_) (fun h30 => ?_)
        ·
          have hqo := part_getD hqk k
          have hql := hqo.lenb
          have hqs4 := hlq k (by omega)
          have hsm := score_most _ _ _ _ hpl hql (by omega) (by omega)
          have hpn := prs_len (ps := ps) (qs := qs) (t := t) (i := i) (k := k) (by omega) (by omega) (by omega)
          have hsl := scf_le (ps := ps) (qs := qs) (i := i) (k := k) hpl hql
          refine T_skip ?_
          refine hK15 _ _ ?_
          refine T_seq fun K16 hK16 => ?_
          refine T_block ?_
          refine T_seq fun K17 hK17 => ?_
          refine T_region ?_
          refine L_y (y_move rfl) rfl ?_
          refine L_y (y_idx Try.underlying36 sz22 rfl rfl (by first | exact S4.rd hps | exact S4.rd hqs | exact S4.fix 2 rfl | exact S4.fix 3 rfl) inferInstance (by omega)) rfl ?_
          refine L_y (y_ldg p0 Try.underlying22 rfl rfl (by first | exact S4.rd hps | exact S4.rd hqs | exact S4.fix 2 rfl | exact S4.fix 3 rfl) (by omega)) rfl ?_
          refine L_y (y_assign rfl) rfl ?_
          refine L_y (y_assign rfl) rfl ?_
          refine L_nil ?_
          refine hK17 _ _ ?_
          refine T_seq fun K18 hK18 => ?_
          refine T_seq fun K19 hK19 => ?_
          refine T_region ?_
          refine L_y (y_move rfl) rfl ?_
          refine L_y (y_len Try.underlying22 rfl) rfl ?_
          refine L_y (y_move rfl) rfl ?_
          refine L_y (y_len Try.underlying22 rfl) rfl ?_
          refine L_o (o_call Try.func10 rfl rfl (mostX _ _ w4) rfl rfl ?_)
          rintro e5 w5 ⟨v5, rfl, l5, rfl⟩
          refine ⟨_, rfl, ?_⟩
          have S5 := S4.like l5
          refine L_y (y_move rfl) rfl ?_
          refine L_y (y_lss rfl rfl) rfl ?_
          refine L_nil ?_
          refine hK19 _ _ ?_
          refine T_cond rfl (fun h40 => ?_) (fun h40 => ?_)
          ·
            refine T_exit ?_
            refine hK16 _ _ ?_
            refine T_region ?_
            refine L_y (y_add rfl rfl (i64w (by omega))) rfl ?_
            refine L_y (y_move rfl) rfl ?_
            refine L_nil ?_
            have hms := prs_miss (ps := ps) (qs := qs) (t := t) (i := i) (k := k) (by unfold scf; have := hsm; omega)
            refine ⟨k + 1, A1, c1, ks, Lk, o, by omega, ⟨⟨⟨by omega, hkn⟩, how⟩, by rw [hms]; exact S5⟩, ?_⟩
            exact (Sub.cons rfl (by first | rfl | (rw [hms, List.length_append]; rfl) | (rw [hms]; done)) (Sub.cons rfl (by first | rfl | exact congrArg (Value.int _) (by omega)) (Sub.cons rfl (by first | rfl | exact congrArg (Value.int _) (by omega)) (Sub.cons rfl rfl (Sub.cons rfl rfl (Sub.cons rfl rfl (Sub.cons rfl rfl (Sub.cons rfl rfl (Sub.cons rfl rfl (Sub.cons rfl rfl (Sub.cons rfl rfl (Sub.cons rfl rfl (Sub.cons rfl rfl (Sub.nil _))))))))))))))
          ·
            refine T_skip ?_
            refine hK18 _ _ ?_
            refine T_seq fun K20 hK20 => ?_
            refine T_seq fun K21 hK21 => ?_
            refine T_region ?_
            refine L_y (y_move rfl) rfl ?_
            refine L_y (y_meqn Try.underlying48 rfl) rfl ?_
            refine L_nil ?_
            refine hK21 _ _ ?_
            refine T_condB rfl (fun h42 => ?_) (fun h42 => ?_)
            ·
              obtain rfl : o = none := by cases o with | none => rfl | some x => cases h42
              refine T_region ?_
              refine L_y (y_move rfl) rfl ?_
              refine L_o (o_call Try.func20 rfl rfl (counts _ _ _ (ps.getD i p0).l w5 (S5.rd (part_getD hok i)) (by omega)) rfl rfl ?_)
              rintro e6 w6 ⟨v6, rfl, l6, b6, D6, k6, rfl, hb6, hh6, hc6, hk6⟩
              refine ⟨_, rfl, ?_⟩
              have S6 := S5.new l6 _ hh6 (mapR_new hb6 hh6)
              have S6a := S6.drop (rs' := [_, _, _, _]) (.cons_cons _ (.cons_cons _ (.cons_cons _ (.cons _ (.refl _)))))
              obtain ⟨x, hx⟩ : ∃ x : MP, x = ⟨b6, k6, D6, (ps.getD i p0).l⟩ := ⟨_, rfl⟩
              have hxb : b6 = x.b := by rw [hx]
              have hxk : k6 = x.k := by rw [hx]
              have hxD : D6 = x.D := by rw [hx]
              have hxl : x.l = (ps.getD i p0).l := by rw [hx]
              subst hxb; subst hxk; subst hxD; clear hx
              refine L_y (y_assign rfl) rfl ?_
              refine L_nil ?_
              refine hK20 _ _ ?_
              refine T_seq fun K22 hK22 => ?_
              refine T_seq fun K23 hK23 => ?_
              obtain ⟨kv, hkv⟩ : ∃ kv, ks[k]? = some kv := ⟨_, List.getElem?_eq_getElem (by rw [hkn.1]; omega)⟩
              refine T_region ?_
              refine L_y (y_move rfl) rfl ?_
              refine L_y (y_move rfl) rfl ?_
              refine L_y (y_idx Try.underlying55 sz48 rfl rfl (S6a.row 0 rfl) inferInstance (by omega)) rfl ?_
              refine L_y (y_ldr Try.underlying48 rfl rfl (S6a.row 0 rfl) (show (ks.map mV)[k]? = some (mV kv) by rw [List.getElem?_map, hkv]; rfl)) rfl ?_
              refine L_y (y_meqn Try.underlying48 rfl) rfl ?_
              refine L_nil ?_
              refine hK23 _ _ ?_
              refine T_condB rfl (fun h49 => ?_) (fun h49 => ?_)
              ·
                refine T_region ?_
                refine L_y (y_move rfl) rfl ?_
                refine L_y (y_move rfl) rfl ?_
                refine L_y (y_move rfl) rfl ?_
                refine L_o (o_call Try.func20 rfl rfl (counts _ _ _ (qs.getD k p0).l w6 (S6a.rd (part_getD hqk k)) (by omega)) rfl rfl ?_)
                rintro e7 w7 ⟨v7, rfl, l7, b7, D7, k7, rfl, hb7, hh7, hc7, hk7⟩
                refine ⟨_, rfl, ?_⟩
                have S7 := S6a.new l7 _ hh7 (mapR_new hb7 hh7)
                have S7a := St.famInAt (L1 := Lk.map mR) (L2 := []) (rs := [_, _, _, _]) S7 2 (by rw [List.append_nil]; rfl)
                obtain ⟨y, hy⟩ : ∃ y : MP, y = ⟨b7, k7, D7, (qs.getD k p0).l⟩ := ⟨_, rfl⟩
                have hyb : b7 = y.b := by rw [hy]
                have hyk : k7 = y.k := by rw [hy]
                have hyD : D7 = y.D := by rw [hy]
                have hyl : y.l = (qs.getD k p0).l := by rw [hy]
                subst hyb; subst hyk; subst hyD; clear hy
                refine L_y (y_idx Try.underlying55 sz48 rfl rfl (S7a.row 0 rfl) inferInstance (by omega)) rfl ?_
                refine L_o (o_strow S7a 0 rfl rfl rfl rfl sz48 (by omega) fun w8 S8 => ?_)
                refine L_nil ?_
                refine hK22 _ _ ?_
                refine T_seq fun K24 hK24 => ?_
                have hkn2 := hkn.put (x := y) (k := k) (by omega) hyl (by rw [hyl]; assumption)
                have S8b := S8.cast (rs' := [row 48 1 (some (⟨b1, 0, none⟩ : Addr)) qs.length qs.length ((ks.set k (some y.b)).map mV), _, fam ((Lk ++ [y]).map mR), mapR Try.prog 9 3 x.b x.k x.D]) (by rw [List.map_append, List.map_set]; rfl)
                obtain ⟨ks2, hks2⟩ : ∃ ks2, ks2 = ks.set k (some y.b) := ⟨_, rfl⟩
                obtain ⟨Lk2, hLk2⟩ : ∃ Lk2, Lk2 = Lk ++ [y] := ⟨_, rfl⟩
                rw [← hks2, ← hLk2] at S8b hkn2
                have hkv : ks2[k]? = some (some y.b) := by rw [hks2, List.getElem?_set, if_pos rfl, if_pos (by rw [hkn.1]; omega)]
                have hyL : y ∈ Lk2 := by rw [hLk2]; simp
                refine T_region ?_
                refine L_y (y_move rfl) rfl ?_
                refine L_y (y_move rfl) rfl ?_
                refine L_y (y_move rfl) rfl ?_
                refine L_y (y_idx Try.underlying55 sz48 rfl rfl (S8b.row 0 rfl) inferInstance (by omega)) rfl ?_
                refine L_y (y_ldr Try.underlying48 rfl rfl (S8b.row 0 rfl) (show (ks2.map mV)[k]? = some (mV (some y.b)) by rw [List.getElem?_map, hkv]; rfl)) rfl ?_
                refine L_o (o_call Try.func19 rfl rfl (common x.b x.k y.b y.k x.D y.D (cuts (ps.getD i p0).l) (cuts (qs.getD k p0).l) w8 (S8b.get 3 rfl) (by first | assumption | (rw [← hxl]; assumption)) ((S8b.get 2 rfl).1 _ (List.mem_map.2 ⟨y, hyL, rfl⟩)) (by rw [← hyl]; exact hkn2.2.2 y hyL) (fun e => St.apart_ S8b 2 3 rfl rfl rfl y.b ⟨mR y, List.mem_map.2 ⟨y, hyL, rfl⟩, rfl⟩ (by rw [← e]; rfl)) (by rw [cuts_sum]; omega)) rfl rfl ?_)
                rintro e9 w9 ⟨v9, rfl, T9, rfl⟩
                refine ⟨_, rfl, ?_⟩
                have S9 := S8b.turn 3 rfl T9
                refine L_y (y_move rfl) rfl ?_
                refine L_y (y_len Try.underlying22 rfl) rfl ?_
                refine L_y (y_move rfl) rfl ?_
                refine L_y (y_len Try.underlying22 rfl) rfl ?_
                refine L_o (o_call Try.func18 rfl rfl (score _ _ _ (comT (cuts (ps.getD i p0).l) (cuts (qs.getD k p0).l)) (ps.getD i p0).n (qs.getD k p0).n w9 rfl rfl rfl (by have := (comT_le (cuts (ps.getD i p0).l) (cuts (qs.getD k p0).l)).1; rw [cuts_sum] at this; omega) (by omega) (by omega)) rfl rfl ?_)
                rintro e10 w10 ⟨v10, rfl, l10, rfl⟩
                refine ⟨_, rfl, ?_⟩
                have S10 := S9.like l10
                refine L_y (y_assign rfl) rfl ?_
                refine L_nil ?_
                refine hK24 _ _ ?_
                refine T_seq fun K25 hK25 => ?_
                refine T_region ?_
                refine L_y (y_move rfl) rfl ?_
                refine L_y (y_move rfl) rfl ?_
                refine L_y (y_geq rfl rfl) rfl ?_
                refine L_nil ?_
                refine hK25 _ _ ?_
                refine T_cond rfl (fun h68 => ?_) (fun h68 => ?_)
                ·
                  refine T_region ?_
                  refine L_y (y_move rfl) rfl ?_
                  refine L_y (y_move rfl) rfl ?_
                  refine L_y (y_move rfl) rfl ?_
                  refine L_y (y_move rfl) rfl ?_
                  refine L_y (y_build rfl (show _ = some #[Value.int .i64 (i : Int), Value.int .i64 (k : Int), Value.int .i64 (scf (ps.getD i p0) (qs.getD k p0) : Int)] by kernel_rfl)) rfl ?_
                  refine L_o (o_bsl [_, _, _] te38 zz43 S10 rfl rfl rfl rfl rfl rfl rfl rfl fun b11 w11 S11 => ?_)
                  refine L_o (o_app te38 S11 1 rfl rfl rfl (by first | exact S11.rd hps | exact S11.rd hqs | exact S11.fix 2 rfl | exact S11.row 4 rfl) (fun u hu => by simp at hu; rcases hu with rfl | rfl | rfl <;> rfl) rfl (by omega) (by omega) fun A12 c12 w12 S12 => ?_)
                  have S12d := S12.drop (rs' := [_, _, _, _]) (.cons_cons _ (.cons_cons _ (.cons_cons _ (.cons_cons _ (.cons _ (.refl _))))))
                  refine L_y (y_assign rfl) rfl ?_
                  refine L_nil ?_
                  refine hK16 _ _ ?_
                  refine T_region ?_
                  refine L_y (y_add rfl rfl (i64w (by omega))) rfl ?_
                  refine L_y (y_move rfl) rfl ?_
                  refine L_nil ?_
                  have hms := prs_hit (ps := ps) (qs := qs) (t := t) (i := i) (k := k) (by rw [ht]; exact h68)
                  have S90 := S12d.rowc 1 rfl (n' := (prs ps qs t i (k + 1)).length) (xs' := (prs ps qs t i (k + 1)).flatMap rwf) (by rw [hms, List.length_append]; rfl) (by rw [hms, List.flatMap_append]; rfl)
                  have S91 := fam1 S90
                  refine ⟨k + 1, _, _, ks2, Lk2, some x, by omega, ⟨⟨⟨by omega, hkn2⟩, fun z hz => by cases hz; exact ⟨hxl, by first | exact hcx | (rw [hxl]; assumption)⟩⟩, S91⟩, ?_⟩
                  exact (Sub.cons rfl (by first | rfl | (rw [hms, List.length_append]; rfl) | (rw [hms]; done)) (Sub.cons rfl (by first | rfl | exact congrArg (Value.int _) (by omega)) (Sub.cons rfl (by first | rfl | exact congrArg (Value.int _) (by omega)) (Sub.cons rfl rfl (Sub.cons rfl rfl (Sub.cons rfl rfl (Sub.cons rfl rfl (Sub.cons rfl rfl (Sub.cons rfl rfl (Sub.cons rfl rfl (Sub.cons rfl rfl (Sub.cons rfl rfl (Sub.cons rfl rfl (Sub.nil _))))))))))))))
                ·
                  refine T_skip ?_
                  refine hK16 _ _ ?_
                  refine T_region ?_
                  refine L_y (y_add rfl rfl (i64w (by omega))) rfl ?_
                  refine L_y (y_move rfl) rfl ?_
                  refine L_nil ?_
                  have hms := prs_miss (ps := ps) (qs := qs) (t := t) (i := i) (k := k) (by unfold scf; omega)
                  have S91 := fam1 S10
                  refine ⟨k + 1, A1, c1, ks2, Lk2, some x, by omega, ⟨⟨⟨by omega, hkn2⟩, fun z hz => by cases hz; exact ⟨hxl, by first | exact hcx | (rw [hxl]; assumption)⟩⟩, by rw [hms]; exact S91⟩, ?_⟩
                  exact (Sub.cons rfl (by first | rfl | (rw [hms, List.length_append]; rfl) | (rw [hms]; done)) (Sub.cons rfl (by first | rfl | exact congrArg (Value.int _) (by omega)) (Sub.cons rfl (by first | rfl | exact congrArg (Value.int _) (by omega)) (Sub.cons rfl rfl (Sub.cons rfl rfl (Sub.cons rfl rfl (Sub.cons rfl rfl (Sub.cons rfl rfl (Sub.cons rfl rfl (Sub.cons rfl rfl (Sub.cons rfl rfl (Sub.cons rfl rfl (Sub.cons rfl rfl (Sub.nil _))))))))))))))
              ·
                obtain ⟨bk, hbk⟩ : ∃ bk, kv = some bk := by cases kv with | none => cases h49 | some bk => exact ⟨bk, rfl⟩
                subst hbk
                obtain ⟨y, hyL, hyb, hyl⟩ := hkn.2.1 k bk hkv
                subst hyb
                obtain ⟨ks2, hks2⟩ : ∃ ks2, ks2 = ks := ⟨_, rfl⟩
                obtain ⟨Lk2, hLk2⟩ : ∃ Lk2, Lk2 = Lk := ⟨_, rfl⟩
                have hkn2 := hkn
                rw [← hks2] at S6a hkn2 hkv
                rw [← hLk2] at S6a hkn2 hyL
                refine T_skip ?_
                refine hK22 _ _ ?_
                refine T_seq fun K26 hK26 => ?_
                refine T_region ?_
                refine L_y (y_move rfl) rfl ?_
                refine L_y (y_move rfl) rfl ?_
                refine L_y (y_move rfl) rfl ?_
                refine L_y (y_idx Try.underlying55 sz48 rfl rfl (S6a.row 0 rfl) inferInstance (by omega)) rfl ?_
                refine L_y (y_ldr Try.underlying48 rfl rfl (S6a.row 0 rfl) (show (ks2.map mV)[k]? = some (mV (some y.b)) by rw [List.getElem?_map, hkv]; rfl)) rfl ?_
                refine L_o (o_call Try.func19 rfl rfl (common x.b x.k y.b y.k x.D y.D (cuts (ps.getD i p0).l) (cuts (qs.getD k p0).l) w6 (S6a.get 3 rfl) (by first | assumption | (rw [← hxl]; assumption)) ((S6a.get 2 rfl).1 _ (List.mem_map.2 ⟨y, hyL, rfl⟩)) (by rw [← hyl]; exact hkn2.2.2 y hyL) (fun e => St.apart_ S6a 2 3 rfl rfl rfl y.b ⟨mR y, List.mem_map.2 ⟨y, hyL, rfl⟩, rfl⟩ (by rw [← e]; rfl)) (by rw [cuts_sum]; omega)) rfl rfl ?_)
                rintro e13 w13 ⟨v13, rfl, T13, rfl⟩
                refine ⟨_, rfl, ?_⟩
                have S13 := S6a.turn 3 rfl T13
                refine L_y (y_move rfl) rfl ?_
                refine L_y (y_len Try.underlying22 rfl) rfl ?_
                refine L_y (y_move rfl) rfl ?_
                refine L_y (y_len Try.underlying22 rfl) rfl ?_
                refine L_o (o_call Try.func18 rfl rfl (score _ _ _ (comT (cuts (ps.getD i p0).l) (cuts (qs.getD k p0).l)) (ps.getD i p0).n (qs.getD k p0).n w13 rfl rfl rfl (by have := (comT_le (cuts (ps.getD i p0).l) (cuts (qs.getD k p0).l)).1; rw [cuts_sum] at this; omega) (by omega) (by omega)) rfl rfl ?_)
                rintro e14 w14 ⟨v14, rfl, l14, rfl⟩
                refine ⟨_, rfl, ?_⟩
                have S14 := S13.like l14
                refine L_y (y_assign rfl) rfl ?_
                refine L_nil ?_
                refine hK26 _ _ ?_
                refine T_seq fun K27 hK27 => ?_
                refine T_region ?_
                refine L_y (y_move rfl) rfl ?_
                refine L_y (y_move rfl) rfl ?_
                refine L_y (y_geq rfl rfl) rfl ?_
                refine L_nil ?_
                refine hK27 _ _ ?_
                refine T_cond rfl (fun h68 => ?_) (fun h68 => ?_)
                ·
                  refine T_region ?_
                  refine L_y (y_move rfl) rfl ?_
                  refine L_y (y_move rfl) rfl ?_
                  refine L_y (y_move rfl) rfl ?_
                  refine L_y (y_move rfl) rfl ?_
                  refine L_y (y_build rfl (show _ = some #[Value.int .i64 (i : Int), Value.int .i64 (k : Int), Value.int .i64 (scf (ps.getD i p0) (qs.getD k p0) : Int)] by kernel_rfl)) rfl ?_
                  refine L_o (o_bsl [_, _, _] te38 zz43 S14 rfl rfl rfl rfl rfl rfl rfl rfl fun b15 w15 S15 => ?_)
                  refine L_o (o_app te38 S15 1 rfl rfl rfl (by first | exact S15.rd hps | exact S15.rd hqs | exact S15.fix 2 rfl | exact S15.row 4 rfl) (fun u hu => by simp at hu; rcases hu with rfl | rfl | rfl <;> rfl) rfl (by omega) (by omega) fun A16 c16 w16 S16 => ?_)
                  have S16d := S16.drop (rs' := [_, _, _, _]) (.cons_cons _ (.cons_cons _ (.cons_cons _ (.cons_cons _ (.cons _ (.refl _))))))
                  refine L_y (y_assign rfl) rfl ?_
                  refine L_nil ?_
                  refine hK16 _ _ ?_
                  refine T_region ?_
                  refine L_y (y_add rfl rfl (i64w (by omega))) rfl ?_
                  refine L_y (y_move rfl) rfl ?_
                  refine L_nil ?_
                  have hms := prs_hit (ps := ps) (qs := qs) (t := t) (i := i) (k := k) (by rw [ht]; exact h68)
                  have S90 := S16d.rowc 1 rfl (n' := (prs ps qs t i (k + 1)).length) (xs' := (prs ps qs t i (k + 1)).flatMap rwf) (by rw [hms, List.length_append]; rfl) (by rw [hms, List.flatMap_append]; rfl)
                  have S91 := fam1 S90
                  refine ⟨k + 1, _, _, ks2, Lk2, some x, by omega, ⟨⟨⟨by omega, hkn2⟩, fun z hz => by cases hz; exact ⟨hxl, by first | exact hcx | (rw [hxl]; assumption)⟩⟩, S91⟩, ?_⟩
                  exact (Sub.cons rfl (by first | rfl | (rw [hms, List.length_append]; rfl) | (rw [hms]; done)) (Sub.cons rfl (by first | rfl | exact congrArg (Value.int _) (by omega)) (Sub.cons rfl (by first | rfl | exact congrArg (Value.int _) (by omega)) (Sub.cons rfl rfl (Sub.cons rfl rfl (Sub.cons rfl rfl (Sub.cons rfl rfl (Sub.cons rfl rfl (Sub.cons rfl rfl (Sub.cons rfl rfl (Sub.cons rfl rfl (Sub.cons rfl rfl (Sub.cons rfl rfl (Sub.nil _))))))))))))))
                ·
                  refine T_skip ?_
                  refine hK16 _ _ ?_
                  refine T_region ?_
                  refine L_y (y_add rfl rfl (i64w (by omega))) rfl ?_
                  refine L_y (y_move rfl) rfl ?_
                  refine L_nil ?_
                  have hms := prs_miss (ps := ps) (qs := qs) (t := t) (i := i) (k := k) (by unfold scf; omega)
                  have S91 := fam1 S14
                  refine ⟨k + 1, A1, c1, ks2, Lk2, some x, by omega, ⟨⟨⟨by omega, hkn2⟩, fun z hz => by cases hz; exact ⟨hxl, by first | exact hcx | (rw [hxl]; assumption)⟩⟩, by rw [hms]; exact S91⟩, ?_⟩
                  exact (Sub.cons rfl (by first | rfl | (rw [hms, List.length_append]; rfl) | (rw [hms]; done)) (Sub.cons rfl (by first | rfl | exact congrArg (Value.int _) (by omega)) (Sub.cons rfl (by first | rfl | exact congrArg (Value.int _) (by omega)) (Sub.cons rfl rfl (Sub.cons rfl rfl (Sub.cons rfl rfl (Sub.cons rfl rfl (Sub.cons rfl rfl (Sub.cons rfl rfl (Sub.cons rfl rfl (Sub.cons rfl rfl (Sub.cons rfl rfl (Sub.cons rfl rfl (Sub.nil _))))))))))))))
            ·
              obtain ⟨x, rfl⟩ : ∃ x, o = some x := by cases o with | none => cases h42 | some x => exact ⟨x, rfl⟩
              obtain ⟨hxl, hcx⟩ := how x rfl
              have S5a := unfam1 S5
              refine T_skip ?_
              refine hK20 _ _ ?_
              refine T_seq fun K28 hK28 => ?_
              refine T_seq fun K29 hK29 => ?_
              obtain ⟨kv, hkv⟩ : ∃ kv, ks[k]? = some kv := ⟨_, List.getElem?_eq_getElem (by rw [hkn.1]; omega)⟩
              refine T_region ?_
              refine L_y (y_move rfl) rfl ?_
              refine L_y (y_move rfl) rfl ?_
              refine L_y (y_idx Try.underlying55 sz48 rfl rfl (S5a.row 0 rfl) inferInstance (by omega)) rfl ?_
              refine L_y (y_ldr Try.underlying48 rfl rfl (S5a.row 0 rfl) (show (ks.map mV)[k]? = some (mV kv) by rw [List.getElem?_map, hkv]; rfl)) rfl ?_
              refine L_y (y_meqn Try.underlying48 rfl) rfl ?_
              refine L_nil ?_
              refine hK29 _ _ ?_
              refine T_condB rfl (fun h49 => ?_) (fun h49 => ?_)
              ·
                refine T_region ?_
                refine L_y (y_move rfl) rfl ?_
                refine L_y (y_move rfl) rfl ?_
                refine L_y (y_move rfl) rfl ?_
                refine L_o (o_call Try.func20 rfl rfl (counts _ _ _ (qs.getD k p0).l w5 (S5a.rd (part_getD hqk k)) (by omega)) rfl rfl ?_)
                rintro e17 w17 ⟨v17, rfl, l17, b17, D17, k17, rfl, hb17, hh17, hc17, hk17⟩
                refine ⟨_, rfl, ?_⟩
                have S17 := S5a.new l17 _ hh17 (mapR_new hb17 hh17)
                have S17a := St.famInAt (L1 := Lk.map mR) (L2 := []) (rs := [_, _, _, _]) S17 2 (by rw [List.append_nil]; rfl)
                obtain ⟨y, hy⟩ : ∃ y : MP, y = ⟨b17, k17, D17, (qs.getD k p0).l⟩ := ⟨_, rfl⟩
                have hyb : b17 = y.b := by rw [hy]
                have hyk : k17 = y.k := by rw [hy]
                have hyD : D17 = y.D := by rw [hy]
                have hyl : y.l = (qs.getD k p0).l := by rw [hy]
                subst hyb; subst hyk; subst hyD; clear hy
                refine L_y (y_idx Try.underlying55 sz48 rfl rfl (S17a.row 0 rfl) inferInstance (by omega)) rfl ?_
                refine L_o (o_strow S17a 0 rfl rfl rfl rfl sz48 (by omega) fun w18 S18 => ?_)
                refine L_nil ?_
                refine hK28 _ _ ?_
                refine T_seq fun K30 hK30 => ?_
                have hkn2 := hkn.put (x := y) (k := k) (by omega) hyl (by rw [hyl]; assumption)
                have S18b := S18.cast (rs' := [row 48 1 (some (⟨b1, 0, none⟩ : Addr)) qs.length qs.length ((ks.set k (some y.b)).map mV), _, fam ((Lk ++ [y]).map mR), mapR Try.prog 9 3 x.b x.k x.D]) (by rw [List.map_append, List.map_set]; rfl)
                obtain ⟨ks2, hks2⟩ : ∃ ks2, ks2 = ks.set k (some y.b) := ⟨_, rfl⟩
                obtain ⟨Lk2, hLk2⟩ : ∃ Lk2, Lk2 = Lk ++ [y] := ⟨_, rfl⟩
                rw [← hks2, ← hLk2] at S18b hkn2
                have hkv : ks2[k]? = some (some y.b) := by rw [hks2, List.getElem?_set, if_pos rfl, if_pos (by rw [hkn.1]; omega)]
                have hyL : y ∈ Lk2 := by rw [hLk2]; simp
                refine T_region ?_
                refine L_y (y_move rfl) rfl ?_
                refine L_y (y_move rfl) rfl ?_
                refine L_y (y_move rfl) rfl ?_
                refine L_y (y_idx Try.underlying55 sz48 rfl rfl (S18b.row 0 rfl) inferInstance (by omega)) rfl ?_
                refine L_y (y_ldr Try.underlying48 rfl rfl (S18b.row 0 rfl) (show (ks2.map mV)[k]? = some (mV (some y.b)) by rw [List.getElem?_map, hkv]; rfl)) rfl ?_
                refine L_o (o_call Try.func19 rfl rfl (common x.b x.k y.b y.k x.D y.D (cuts (ps.getD i p0).l) (cuts (qs.getD k p0).l) w18 (S18b.get 3 rfl) (by first | assumption | (rw [← hxl]; assumption)) ((S18b.get 2 rfl).1 _ (List.mem_map.2 ⟨y, hyL, rfl⟩)) (by rw [← hyl]; exact hkn2.2.2 y hyL) (fun e => St.apart_ S18b 2 3 rfl rfl rfl y.b ⟨mR y, List.mem_map.2 ⟨y, hyL, rfl⟩, rfl⟩ (by rw [← e]; rfl)) (by rw [cuts_sum]; omega)) rfl rfl ?_)
                rintro e19 w19 ⟨v19, rfl, T19, rfl⟩
                refine ⟨_, rfl, ?_⟩
                have S19 := S18b.turn 3 rfl T19
                refine L_y (y_move rfl) rfl ?_
                refine L_y (y_len Try.underlying22 rfl) rfl ?_
                refine L_y (y_move rfl) rfl ?_
                refine L_y (y_len Try.underlying22 rfl) rfl ?_
                refine L_o (o_call Try.func18 rfl rfl (score _ _ _ (comT (cuts (ps.getD i p0).l) (cuts (qs.getD k p0).l)) (ps.getD i p0).n (qs.getD k p0).n w19 rfl rfl rfl (by have := (comT_le (cuts (ps.getD i p0).l) (cuts (qs.getD k p0).l)).1; rw [cuts_sum] at this; omega) (by omega) (by omega)) rfl rfl ?_)
                rintro e20 w20 ⟨v20, rfl, l20, rfl⟩
                refine ⟨_, rfl, ?_⟩
                have S20 := S19.like l20
                refine L_y (y_assign rfl) rfl ?_
                refine L_nil ?_
                refine hK30 _ _ ?_
                refine T_seq fun K31 hK31 => ?_
                refine T_region ?_
                refine L_y (y_move rfl) rfl ?_
                refine L_y (y_move rfl) rfl ?_
                refine L_y (y_geq rfl rfl) rfl ?_
                refine L_nil ?_
                refine hK31 _ _ ?_
                refine T_cond rfl (fun h68 => ?_) (fun h68 => ?_)
                ·
                  refine T_region ?_
                  refine L_y (y_move rfl) rfl ?_
                  refine L_y (y_move rfl) rfl ?_
                  refine L_y (y_move rfl) rfl ?_
                  refine L_y (y_move rfl) rfl ?_
                  refine L_y (y_build rfl (show _ = some #[Value.int .i64 (i : Int), Value.int .i64 (k : Int), Value.int .i64 (scf (ps.getD i p0) (qs.getD k p0) : Int)] by kernel_rfl)) rfl ?_
                  refine L_o (o_bsl [_, _, _] te38 zz43 S20 rfl rfl rfl rfl rfl rfl rfl rfl fun b21 w21 S21 => ?_)
                  refine L_o (o_app te38 S21 1 rfl rfl rfl (by first | exact S21.rd hps | exact S21.rd hqs | exact S21.fix 2 rfl | exact S21.row 4 rfl) (fun u hu => by simp at hu; rcases hu with rfl | rfl | rfl <;> rfl) rfl (by omega) (by omega) fun A22 c22 w22 S22 => ?_)
                  have S22d := S22.drop (rs' := [_, _, _, _]) (.cons_cons _ (.cons_cons _ (.cons_cons _ (.cons_cons _ (.cons _ (.refl _))))))
                  refine L_y (y_assign rfl) rfl ?_
                  refine L_nil ?_
                  refine hK16 _ _ ?_
                  refine T_region ?_
                  refine L_y (y_add rfl rfl (i64w (by omega))) rfl ?_
                  refine L_y (y_move rfl) rfl ?_
                  refine L_nil ?_
                  have hms := prs_hit (ps := ps) (qs := qs) (t := t) (i := i) (k := k) (by rw [ht]; exact h68)
                  have S90 := S22d.rowc 1 rfl (n' := (prs ps qs t i (k + 1)).length) (xs' := (prs ps qs t i (k + 1)).flatMap rwf) (by rw [hms, List.length_append]; rfl) (by rw [hms, List.flatMap_append]; rfl)
                  have S91 := fam1 S90
                  refine ⟨k + 1, _, _, ks2, Lk2, some x, by omega, ⟨⟨⟨by omega, hkn2⟩, fun z hz => by cases hz; exact ⟨hxl, by first | exact hcx | (rw [hxl]; assumption)⟩⟩, S91⟩, ?_⟩
                  exact (Sub.cons rfl (by first | rfl | (rw [hms, List.length_append]; rfl) | (rw [hms]; done)) (Sub.cons rfl (by first | rfl | exact congrArg (Value.int _) (by omega)) (Sub.cons rfl (by first | rfl | exact congrArg (Value.int _) (by omega)) (Sub.cons rfl rfl (Sub.cons rfl rfl (Sub.cons rfl rfl (Sub.cons rfl rfl (Sub.cons rfl rfl (Sub.cons rfl rfl (Sub.cons rfl rfl (Sub.cons rfl rfl (Sub.cons rfl rfl (Sub.cons rfl rfl (Sub.nil _))))))))))))))
                ·
                  refine T_skip ?_
                  refine hK16 _ _ ?_
                  refine T_region ?_
                  refine L_y (y_add rfl rfl (i64w (by omega))) rfl ?_
                  refine L_y (y_move rfl) rfl ?_
                  refine L_nil ?_
                  have hms := prs_miss (ps := ps) (qs := qs) (t := t) (i := i) (k := k) (by unfold scf; omega)
                  have S91 := fam1 S20
                  refine ⟨k + 1, A1, c1, ks2, Lk2, some x, by omega, ⟨⟨⟨by omega, hkn2⟩, fun z hz => by cases hz; exact ⟨hxl, by first | exact hcx | (rw [hxl]; assumption)⟩⟩, by rw [hms]; exact S91⟩, ?_⟩
                  exact (Sub.cons rfl (by first | rfl | (rw [hms, List.length_append]; rfl) | (rw [hms]; done)) (Sub.cons rfl (by first | rfl | exact congrArg (Value.int _) (by omega)) (Sub.cons rfl (by first | rfl | exact congrArg (Value.int _) (by omega)) (Sub.cons rfl rfl (Sub.cons rfl rfl (Sub.cons rfl rfl (Sub.cons rfl rfl (Sub.cons rfl rfl (Sub.cons rfl rfl (Sub.cons rfl rfl (Sub.cons rfl rfl (Sub.cons rfl rfl (Sub.cons rfl rfl (Sub.nil _))))))))))))))
              ·
                obtain ⟨bk, hbk⟩ : ∃ bk, kv = some bk := by cases kv with | none => cases h49 | some bk => exact ⟨bk, rfl⟩
                subst hbk
                obtain ⟨y, hyL, hyb, hyl⟩ := hkn.2.1 k bk hkv
                subst hyb
                obtain ⟨ks2, hks2⟩ : ∃ ks2, ks2 = ks := ⟨_, rfl⟩
                obtain ⟨Lk2, hLk2⟩ : ∃ Lk2, Lk2 = Lk := ⟨_, rfl⟩
                have hkn2 := hkn
                rw [← hks2] at S5a hkn2 hkv
                rw [← hLk2] at S5a hkn2 hyL
                refine T_skip ?_
                refine hK28 _ _ ?_
                refine T_seq fun K32 hK32 => ?_
                refine T_region ?_
                refine L_y (y_move rfl) rfl ?_
                refine L_y (y_move rfl) rfl ?_
                refine L_y (y_move rfl) rfl ?_
                refine L_y (y_idx Try.underlying55 sz48 rfl rfl (S5a.row 0 rfl) inferInstance (by omega)) rfl ?_
                refine L_y (y_ldr Try.underlying48 rfl rfl (S5a.row 0 rfl) (show (ks2.map mV)[k]? = some (mV (some y.b)) by rw [List.getElem?_map, hkv]; rfl)) rfl ?_
                refine L_o (o_call Try.func19 rfl rfl (common x.b x.k y.b y.k x.D y.D (cuts (ps.getD i p0).l) (cuts (qs.getD k p0).l) w5 (S5a.get 3 rfl) (by first | assumption | (rw [← hxl]; assumption)) ((S5a.get 2 rfl).1 _ (List.mem_map.2 ⟨y, hyL, rfl⟩)) (by rw [← hyl]; exact hkn2.2.2 y hyL) (fun e => St.apart_ S5a 2 3 rfl rfl rfl y.b ⟨mR y, List.mem_map.2 ⟨y, hyL, rfl⟩, rfl⟩ (by rw [← e]; rfl)) (by rw [cuts_sum]; omega)) rfl rfl ?_)
                rintro e23 w23 ⟨v23, rfl, T23, rfl⟩
                refine ⟨_, rfl, ?_⟩
                have S23 := S5a.turn 3 rfl T23
                refine L_y (y_move rfl) rfl ?_
                refine L_y (y_len Try.underlying22 rfl) rfl ?_
                refine L_y (y_move rfl) rfl ?_
                refine L_y (y_len Try.underlying22 rfl) rfl ?_
                refine L_o (o_call Try.func18 rfl rfl (score _ _ _ (comT (cuts (ps.getD i p0).l) (cuts (qs.getD k p0).l)) (ps.getD i p0).n (qs.getD k p0).n w23 rfl rfl rfl (by have := (comT_le (cuts (ps.getD i p0).l) (cuts (qs.getD k p0).l)).1; rw [cuts_sum] at this; omega) (by omega) (by omega)) rfl rfl ?_)
                rintro e24 w24 ⟨v24, rfl, l24, rfl⟩
                refine ⟨_, rfl, ?_⟩
                have S24 := S23.like l24
                refine L_y (y_assign rfl) rfl ?_
                refine L_nil ?_
                refine hK32 _ _ ?_
                refine T_seq fun K33 hK33 => ?_
                refine T_region ?_
                refine L_y (y_move rfl) rfl ?_
                refine L_y (y_move rfl) rfl ?_
                refine L_y (y_geq rfl rfl) rfl ?_
                refine L_nil ?_
                refine hK33 _ _ ?_
                refine T_cond rfl (fun h68 => ?_) (fun h68 => ?_)
                ·
                  refine T_region ?_
                  refine L_y (y_move rfl) rfl ?_
                  refine L_y (y_move rfl) rfl ?_
                  refine L_y (y_move rfl) rfl ?_
                  refine L_y (y_move rfl) rfl ?_
                  refine L_y (y_build rfl (show _ = some #[Value.int .i64 (i : Int), Value.int .i64 (k : Int), Value.int .i64 (scf (ps.getD i p0) (qs.getD k p0) : Int)] by kernel_rfl)) rfl ?_
                  refine L_o (o_bsl [_, _, _] te38 zz43 S24 rfl rfl rfl rfl rfl rfl rfl rfl fun b25 w25 S25 => ?_)
                  refine L_o (o_app te38 S25 1 rfl rfl rfl (by first | exact S25.rd hps | exact S25.rd hqs | exact S25.fix 2 rfl | exact S25.row 4 rfl) (fun u hu => by simp at hu; rcases hu with rfl | rfl | rfl <;> rfl) rfl (by omega) (by omega) fun A26 c26 w26 S26 => ?_)
                  have S26d := S26.drop (rs' := [_, _, _, _]) (.cons_cons _ (.cons_cons _ (.cons_cons _ (.cons_cons _ (.cons _ (.refl _))))))
                  refine L_y (y_assign rfl) rfl ?_
                  refine L_nil ?_
                  refine hK16 _ _ ?_
                  refine T_region ?_
                  refine L_y (y_add rfl rfl (i64w (by omega))) rfl ?_
                  refine L_y (y_move rfl) rfl ?_
                  refine L_nil ?_
                  have hms := prs_hit (ps := ps) (qs := qs) (t := t) (i := i) (k := k) (by rw [ht]; exact h68)
                  have S90 := S26d.rowc 1 rfl (n' := (prs ps qs t i (k + 1)).length) (xs' := (prs ps qs t i (k + 1)).flatMap rwf) (by rw [hms, List.length_append]; rfl) (by rw [hms, List.flatMap_append]; rfl)
                  have S91 := fam1 S90
                  refine ⟨k + 1, _, _, ks2, Lk2, some x, by omega, ⟨⟨⟨by omega, hkn2⟩, fun z hz => by cases hz; exact ⟨hxl, by first | exact hcx | (rw [hxl]; assumption)⟩⟩, S91⟩, ?_⟩
                  exact (Sub.cons rfl (by first | rfl | (rw [hms, List.length_append]; rfl) | (rw [hms]; done)) (Sub.cons rfl (by first | rfl | exact congrArg (Value.int _) (by omega)) (Sub.cons rfl (by first | rfl | exact congrArg (Value.int _) (by omega)) (Sub.cons rfl rfl (Sub.cons rfl rfl (Sub.cons rfl rfl (Sub.cons rfl rfl (Sub.cons rfl rfl (Sub.cons rfl rfl (Sub.cons rfl rfl (Sub.cons rfl rfl (Sub.cons rfl rfl (Sub.cons rfl rfl (Sub.nil _))))))))))))))
                ·
                  refine T_skip ?_
                  refine hK16 _ _ ?_
                  refine T_region ?_
                  refine L_y (y_add rfl rfl (i64w (by omega))) rfl ?_
                  refine L_y (y_move rfl) rfl ?_
                  refine L_nil ?_
                  have hms := prs_miss (ps := ps) (qs := qs) (t := t) (i := i) (k := k) (by unfold scf; omega)
                  have S91 := fam1 S24
                  refine ⟨k + 1, A1, c1, ks2, Lk2, some x, by omega, ⟨⟨⟨by omega, hkn2⟩, fun z hz => by cases hz; exact ⟨hxl, by first | exact hcx | (rw [hxl]; assumption)⟩⟩, by rw [hms]; exact S91⟩, ?_⟩
                  exact (Sub.cons rfl (by first | rfl | (rw [hms, List.length_append]; rfl) | (rw [hms]; done)) (Sub.cons rfl (by first | rfl | exact congrArg (Value.int _) (by omega)) (Sub.cons rfl (by first | rfl | exact congrArg (Value.int _) (by omega)) (Sub.cons rfl rfl (Sub.cons rfl rfl (Sub.cons rfl rfl (Sub.cons rfl rfl (Sub.cons rfl rfl (Sub.cons rfl rfl (Sub.cons rfl rfl (Sub.cons rfl rfl (Sub.cons rfl rfl (Sub.cons rfl rfl (Sub.nil _))))))))))))))
        ·
          refine T_exit ?_
          refine hK9 _ _ ?_
          refine T_region ?_
          refine L_y (y_add rfl rfl (i64w (by omega))) rfl ?_
          refine L_y (y_move rfl) rfl ?_
          refine L_nil ?_
          have S90 := S4.drop (rs' := [_, _, _]) (.cons_cons _ (.cons_cons _ (.cons_cons _ (.cons _ (.refl _)))))
          have hkq : k = qs.length := by omega
          subst hkq
          refine ⟨i + 1, A1, c1, ks, Lk, by omega, ⟨⟨by omega, hkn⟩, by rw [prs_next]; exact S90⟩, ?_⟩
          exact (Sub.cons rfl (by rw [prs_next]) (Sub.cons rfl (by first | rfl | exact congrArg (Value.int _) (by omega)) (Sub.cons rfl rfl (Sub.cons rfl rfl (Sub.cons rfl rfl (Sub.cons rfl rfl (Sub.cons rfl rfl (Sub.nil _))))))))
    ·
      refine T_exit ?_
      refine hK5 _ _ ?_
      refine T_seq fun K34 hK34 => ?_
      refine T_region ?_
      refine L_y (y_move rfl) rfl ?_
      refine L_o (o_call Try.func25 rfl rfl (sortRA A1 _ c1 (prs ps qs t i 0) w3 rfl (S3.get 1 rfl) (by have := prs_len (ps := ps) (qs := qs) (t := t) (i := i) (k := 0) (by omega) (by omega) (by omega); omega)) rfl rfl ?_)
      rintro e27 w27 ⟨v27, rfl, zs, hp, hs, T27⟩
      refine ⟨_, rfl, ?_⟩
      have S27 := S3.turn 1 rfl T27
      refine L_nil ?_
      refine hK34 _ _ ?_
      refine T_seq fun K35 hK35 => ?_
      refine T_region ?_
      refine L_y (y_move rfl) rfl ?_
      refine L_y (y_assign rfl) rfl ?_
      refine L_nil ?_
      refine hK35 _ _ ?_
      refine T_ret ?_
      repeat (first | with_reducible refine up_then ?_ | with_reducible refine up_in ?_)
      refine ret1 rfl rfl ?_
      have hie : i = ps.length := by omega
      exact ⟨_, rfl, S27.like0, _, _, _, zs, rfl, by exact S27.own 1 rfl, by rw [← hie]; exact ⟨hp, pw_of zs hs⟩⟩
end Go.Proofs.Ytaknmlajhedfhaa
