/-
  The document: Common, Score.
-/
import Derived.Test.YtaknmlajhedfhaaH
namespace Go.Proofs.Ytaknmlajhedfhaa
open Go.RowKit Zk Zx
set_option linter.unusedVariables false
set_option linter.unusedSimpArgs false

theorem take_sum_step {α : Type} (f : α → Nat) : ∀ (l : List α) (i : Nat) (x : α), l[i]? = some x → ((l.take (i + 1)).map f).sum = ((l.take i).map f).sum + f x := fun l i x h => by
  rw [List.take_add_one, h, List.map_append, List.sum_append]
  simp
theorem take_sum_le {α : Type} (f : α → Nat) (l : List α) (i : Nat) : ((l.take i).map f).sum ≤ (l.map f).sum := by
  have e : (l.map f).sum = ((l.take i).map f).sum + ((l.drop i).map f).sum := by rw [← List.sum_append, ← List.map_append, List.take_append_drop]
  omega
def rowsS (xs ys : List PC) (k : Nat) : Nat := ((xs.take k).map fun x => rowS x ys).sum
theorem rowsS_step {xs ys : List PC} {k : Nat} {x : PC} (h : xs[k]? = some x) : rowsS xs ys (k + 1) = rowsS xs ys k + rowS x ys := take_sum_step (fun x => rowS x ys) xs k x h
theorem rowsS_le (xs ys : List PC) (k : Nat) : rowsS xs ys k ≤ rowsS xs ys xs.length := by
  unfold rowsS
  rw [List.take_length]
  exact take_sum_le _ _ _
theorem rowS_step {ys : List PC} {j : Nat} {y : PC} (x : PC) (h : ys[j]? = some y) : rowS x (ys.take (j + 1)) = rowS x (ys.take j) + if y.t = x.t then min x.n y.n * x.t.length else 0 := take_sum_step (fun y : PC => if y.t = x.t then min x.n y.n * x.t.length else 0) ys j y h
theorem rowS_le (x : PC) (ys : List PC) (j : Nat) : rowS x (ys.take j) ≤ rowS x ys := take_sum_le _ _ _
theorem pcs_len (xs : List PC) : (xs.flatMap pcf).length = xs.length * 2 := by
  rw [List.length_flatMap]
  simp only [pcf_len]
  induction xs with
  | nil => rfl
  | cons x xs ih => simp only [List.map_cons, List.sum_cons, List.length_cons, ih]; omega
theorem minmul2 (a b c z : Nat) (hc : c = min a b) (h : min a b * z ≤ 4398046511104) : IntKind.i64.wrap ((c : Int) * (z : Int)) = ((min a b * z : Nat) : Int) := by
  rw [hc, ← Int.natCast_mul]
  exact i64w (by omega)


set_option maxRecDepth 100000 in
theorem rcommon (A B : Option Addr) (n cc m dd : Nat) (la lb : List UInt8) (w0 : World) (ha : Rs w0 1 A n cc (bL la)) (hb : Rs w0 1 B m dd (bL lb)) (hn : n ≤ 4398046511104) (hm : m ≤ 4398046511104) :
    Calls Try.prog 12 #[.slice A n cc, .slice B m dd] w0 fun e w' => ∃ u, e = .returned u ∧ Like w0 w' ∧ u = .int .i64 (comT (cuts la) (cuts lb) : Int) := by
  refine enter1 (env := [(0, .slice A n cc), (1, .slice B m dd)]) [.slice A n cc, .slice B m dd] Try.func12 rfl Try.ntmps12 rfl rfl ?_
  have hla := ha.lenb; have hlb := hb.lenb; have S0 := St.start w0 noM
  refine T_seq fun K1 hK1 => ?_
  refine T_region ?_
  refine L_y (y_assign rfl) rfl ?_
  refine L_nil ?_
  refine hK1 _ _ ?_
  refine T_seq fun K2 hK2 => ?_
  refine T_region ?_
  refine L_y (y_move rfl) rfl ?_
  refine L_o (o_call Try.func14 rfl rfl (rpieces A n cc la w0 (S0.rd ha) (by omega)) rfl rfl ?_)
  rintro e1 w1 ⟨v1, rfl, l1, PA, pm, pc, xs, rfl, O1, hpx⟩
  refine ⟨_, rfl, ?_⟩
  have S1 := S0.adopt l1 O1
  have hpm : pm = xs.length := by have := (S1.row 0 rfl).len; rw [pcs_len] at this; omega
  subst hpm
  refine L_y (y_move rfl) rfl ?_
  refine L_o (o_call Try.func14 rfl rfl (rpieces B m dd lb w1 (S1.rd hb) (by omega)) rfl rfl ?_)
  rintro e2 w2 ⟨v2, rfl, l2, QA, qm, qc, ys, rfl, O2, hpy⟩
  refine ⟨_, rfl, ?_⟩
  have S2 := S1.adopt l2 O2
  have hqm : qm = ys.length := by have := (S2.row 1 rfl).len; rw [pcs_len] at this; omega
  subst hqm
  have hall : rowsS xs ys xs.length ≤ n := by have h1 := all_com hpx hpy; have h2 := (comT_le (cuts la) (cuts lb)).1; rw [cuts_sum] at h2; unfold rowsS; rw [List.take_length, h1]; omega
  refine L_y (y_assign rfl) rfl ?_
  refine L_y (y_assign rfl) rfl ?_
  refine L_nil ?_
  refine hK2 _ _ ?_
  refine T_seq fun K3 hK3 => ?_
  refine T_region ?_
  refine L_y (y_assign rfl) rfl ?_
  refine L_nil ?_
  refine hK3 _ _ ?_
  refine T_seq fun K4 hK4 => ?_
  refine T_seq fun K5 hK5 => ?_
  refine T_region ?_
  refine L_y (y_assign rfl) rfl ?_
  refine L_nil ?_
  refine hK5 _ _ ?_
  refine T_block ?_
  refine T_loop1 [(5, _), (6, _)] (fun (k : Nat) => [(7, .int .i64 (rowsS xs ys k : Int)), (8, .int .i64 (k : Int))]) (fun (k : Nat) => xs.length - k) (fun (k : Nat) (w : World) => k ≤ xs.length ∧ St w0 noM [row 34 2 PA xs.length pc (xs.flatMap pcf), row 34 2 QA ys.length qc (ys.flatMap pcf)] w) 0 (Sub.cons rfl (by first | rfl | exact congrArg (Value.int _) (by omega)) (Sub.cons rfl (by first | rfl | exact congrArg (Value.int _) (by omega)) (Sub.nil _))) (Sub.cons rfl rfl (Sub.cons rfl rfl (Sub.nil _))) ?_ ?_
  ·
    exact ⟨by omega, S2⟩
  ·
    intro k w3 hrel
    obtain ⟨hk, S3⟩ := hrel
    refine T_seq fun K6 hK6 => ?_
    refine T_seq fun K7 hK7 => ?_
    refine T_region ?_
    refine L_y (y_move rfl) rfl ?_
    refine L_y (y_move rfl) rfl ?_
    refine L_y (y_len Try.underlying30 rfl) rfl ?_
    refine L_y (y_lss rfl rfl) rfl ?_
    refine L_nil ?_
    refine hK7 _ _ ?_
    refine T_cond rfl (fun h18 => ?_) (fun h18 => ?_)
    ·
      obtain ⟨x, hx⟩ : ∃ x, xs[k]? = some x := ⟨_, List.getElem?_eq_getElem (by omega)⟩
      have hpg := pc_get xs k x hx
      have hrs := rowsS_step (ys := ys) hx
      have hr1 := rowsS_le xs ys (k + 1)
      have hxc := (S3.row 0 rfl).cap
      have hxm := (S3.row 0 rfl).max
      refine T_skip ?_
      refine hK6 _ _ ?_
      refine T_seq fun K8 hK8 => ?_
      refine T_block ?_
      refine T_seq fun K9 hK9 => ?_
      refine T_region ?_
      refine L_y (y_assign rfl) rfl ?_
      refine L_nil ?_
      refine hK9 _ _ ?_
      refine T_block ?_
      refine T_loop1 [(5, _), (6, _), (8, _)] (fun (j : Nat) => [(7, .int .i64 ((rowsS xs ys k + rowS x (ys.take j) : Nat) : Int)), (9, .int .i64 (j : Int))]) (fun (j : Nat) => ys.length - j) (fun (j : Nat) (w : World) => j ≤ ys.length ∧ St w0 noM [row 34 2 PA xs.length pc (xs.flatMap pcf), row 34 2 QA ys.length qc (ys.flatMap pcf)] w) 0 (Sub.cons rfl (by first | rfl | exact congrArg (Value.int _) (by omega)) (Sub.cons rfl (by first | rfl | exact congrArg (Value.int _) (by omega)) (Sub.nil _))) (Sub.cons rfl rfl (Sub.cons rfl rfl (Sub.cons rfl rfl (Sub.nil _)))) ?_ ?_
      ·
        exact ⟨by omega, S3⟩
      ·
        intro j w4 hrel
        obtain ⟨hj, S4⟩ := hrel
        refine T_seq fun K10 hK10 => ?_
        refine T_seq fun K11 hK11 => ?_
        refine T_region ?_
        refine L_y (y_move rfl) rfl ?_
        refine L_y (y_move rfl) rfl ?_
        refine L_y (y_len Try.underlying30 rfl) rfl ?_
        refine L_y (y_lss rfl rfl) rfl ?_
        refine L_nil ?_
        refine hK11 _ _ ?_
        refine T_cond rfl (fun h24 => ?_) (fun h24 => ?_)
        ·
          obtain ⟨y, hy⟩ : ∃ y, ys[j]? = some y := ⟨_, List.getElem?_eq_getElem (by omega)⟩
          have hqg := pc_get ys j y hy
          have hstep := rowS_step x hy
          have hrl := rowS_le x ys (j + 1)
          have hyc := (S4.row 1 rfl).cap
          have hym := (S4.row 1 rfl).max
          refine T_skip ?_
          refine hK10 _ _ ?_
          refine T_seq fun K12 hK12 => ?_
          refine T_block ?_
          refine T_seq fun K13 hK13 => ?_
          refine T_seq fun K14 hK14 => ?_
          refine T_drawnL [(0, true), (1, true), (2, true), (3, true), (4, true), (5, true), (6, true), (7, true), (8, true), (9, true), (10, true)] hmix (by kernel_rfl) fun w5 l5 => ?_
          have S5 := S4.like l5
          refine DL_y rfl (y_move rfl) rfl ?_
          refine DL_y rfl (y_move rfl) rfl ?_
          refine DL_y rfl (y_idx Try.underlying30 sz34 rfl rfl (S5.row 0 rfl) inferInstance (by omega)) rfl ?_
          refine DL_y rfl (y_fieldR 0 Try.underlying34 rfl sz9 rfl rfl (S5.row 0 rfl) (by omega) rfl) rfl ?_
          refine DL_y rfl (y_ldf Try.underlying9 rfl rfl (S5.row 0 rfl) (by omega) hpg.1) rfl ?_
          refine DL_y rfl (y_move rfl) rfl ?_
          refine DL_y rfl (y_move rfl) rfl ?_
          refine DL_y rfl (y_idx Try.underlying30 sz34 rfl rfl (S5.row 1 rfl) inferInstance (by omega)) rfl ?_
          refine DL_y rfl (y_fieldR 0 Try.underlying34 rfl sz9 rfl rfl (S5.row 1 rfl) (by omega) rfl) rfl ?_
          refine DL_y rfl (y_ldf Try.underlying9 rfl rfl (S5.row 1 rfl) (by omega) hqg.1) rfl ?_
          refine DL_y rfl (y_sneq rfl rfl) rfl ?_
          refine DL_nil ?_
          refine hK14 _ _ ?_
          refine T_cond rfl (fun h37 => ?_) (fun h37 => ?_)
          ·
            refine T_exit ?_
            refine hK12 _ _ ?_
            refine T_region ?_
            refine L_y (y_move rfl) rfl ?_
            refine L_y (y_add rfl rfl (i64w (by omega))) rfl ?_
            refine L_y (y_assign rfl) rfl ?_
            refine L_nil ?_
            refine ⟨j + 1, by omega, ⟨by omega, S5⟩, ?_⟩
            exact (Sub.cons rfl (congrArg (Value.int _) (by first | omega | (have hne : y.t ≠ x.t := (fun e => h37 (by rw [e])); rw [if_neg hne] at hstep; omega))) (Sub.cons rfl (by first | rfl | exact congrArg (Value.int _) (by omega)) (Sub.cons rfl rfl (Sub.cons rfl rfl (Sub.cons rfl rfl (Sub.nil _))))))
          ·
            have hyx : y.t = x.t := (str_inj (by first | exact h37 | exact Classical.byContradiction h37)).symm
            rw [if_pos hyx] at hstep
            refine T_skip ?_
            refine hK13 _ _ ?_
            refine T_seq fun K15 hK15 => ?_
            refine T_region ?_
            refine L_y (y_move rfl) rfl ?_
            refine L_y (y_move rfl) rfl ?_
            refine L_y (y_idx Try.underlying30 sz34 rfl rfl (S5.row 0 rfl) inferInstance (by omega)) rfl ?_
            refine L_y (y_fieldR 1 Try.underlying34 rfl sz3 rfl rfl (S5.row 0 rfl) (by omega) rfl) rfl ?_
            refine L_y (y_ldf Try.underlying3 rfl rfl (S5.row 0 rfl) (by omega) hpg.2) rfl ?_
            refine L_y (y_assign rfl) rfl ?_
            refine L_nil ?_
            refine hK15 _ _ ?_
            refine T_seq fun K16 hK16 => ?_
            refine T_seq fun K17 hK17 => ?_
            refine T_region ?_
            refine L_y (y_move rfl) rfl ?_
            refine L_y (y_move rfl) rfl ?_
            refine L_y (y_idx Try.underlying30 sz34 rfl rfl (S5.row 1 rfl) inferInstance (by omega)) rfl ?_
            refine L_y (y_fieldR 1 Try.underlying34 rfl sz3 rfl rfl (S5.row 1 rfl) (by omega) rfl) rfl ?_
            refine L_y (y_ldf Try.underlying3 rfl rfl (S5.row 1 rfl) (by omega) hqg.2) rfl ?_
            refine L_y (y_move rfl) rfl ?_
            refine L_y (y_lss rfl rfl) rfl ?_
            refine L_nil ?_
            refine hK17 _ _ ?_
            refine T_cond rfl (fun h49 => ?_) (fun h49 => ?_)
            ·
              refine T_region ?_
              refine L_y (y_move rfl) rfl ?_
              refine L_y (y_move rfl) rfl ?_
              refine L_y (y_idx Try.underlying30 sz34 rfl rfl (S5.row 1 rfl) inferInstance (by omega)) rfl ?_
              refine L_y (y_fieldR 1 Try.underlying34 rfl sz3 rfl rfl (S5.row 1 rfl) (by omega) rfl) rfl ?_
              refine L_y (y_ldf Try.underlying3 rfl rfl (S5.row 1 rfl) (by omega) hqg.2) rfl ?_
              refine L_y (y_assign rfl) rfl ?_
              refine L_nil ?_
              refine hK16 _ _ ?_
              refine T_region ?_
              refine L_y (y_move rfl) rfl ?_
              refine L_y (y_move rfl) rfl ?_
              refine L_y (y_move rfl) rfl ?_
              refine L_y (y_move rfl) rfl ?_
              refine L_y (y_idx Try.underlying30 sz34 rfl rfl (S5.row 0 rfl) inferInstance (by omega)) rfl ?_
              refine L_y (y_fieldR 0 Try.underlying34 rfl sz9 rfl rfl (S5.row 0 rfl) (by omega) rfl) rfl ?_
              refine L_y (y_ldf Try.underlying9 rfl rfl (S5.row 0 rfl) (by omega) hpg.1) rfl ?_
              refine L_y (y_lens Try.underlying9 rfl) rfl ?_
              refine L_y (y_mul rfl rfl (minmul2 x.n y.n _ x.t.length (by omega) (by omega))) rfl ?_
              refine L_y (y_add rfl rfl (i64w (by omega))) rfl ?_
              refine L_y (y_assign rfl) rfl ?_
              refine L_nil ?_
              refine hK12 _ _ ?_
              refine T_region ?_
              refine L_y (y_move rfl) rfl ?_
              refine L_y (y_add rfl rfl (i64w (by omega))) rfl ?_
              refine L_y (y_assign rfl) rfl ?_
              refine L_nil ?_
              refine ⟨j + 1, by omega, ⟨by omega, S5⟩, ?_⟩
              exact (Sub.cons rfl (congrArg (Value.int _) (by first | omega | (have hne : y.t ≠ x.t := (fun e => h37 (by rw [e])); rw [if_neg hne] at hstep; omega))) (Sub.cons rfl (by first | rfl | exact congrArg (Value.int _) (by omega)) (Sub.cons rfl rfl (Sub.cons rfl rfl (Sub.cons rfl rfl (Sub.nil _))))))
            ·
              refine T_skip ?_
              refine hK16 _ _ ?_
              refine T_region ?_
              refine L_y (y_move rfl) rfl ?_
              refine L_y (y_move rfl) rfl ?_
              refine L_y (y_move rfl) rfl ?_
              refine L_y (y_move rfl) rfl ?_
              refine L_y (y_idx Try.underlying30 sz34 rfl rfl (S5.row 0 rfl) inferInstance (by omega)) rfl ?_
              refine L_y (y_fieldR 0 Try.underlying34 rfl sz9 rfl rfl (S5.row 0 rfl) (by omega) rfl) rfl ?_
              refine L_y (y_ldf Try.underlying9 rfl rfl (S5.row 0 rfl) (by omega) hpg.1) rfl ?_
              refine L_y (y_lens Try.underlying9 rfl) rfl ?_
              refine L_y (y_mul rfl rfl (minmul2 x.n y.n _ x.t.length (by omega) (by omega))) rfl ?_
              refine L_y (y_add rfl rfl (i64w (by omega))) rfl ?_
              refine L_y (y_assign rfl) rfl ?_
              refine L_nil ?_
              refine hK12 _ _ ?_
              refine T_region ?_
              refine L_y (y_move rfl) rfl ?_
              refine L_y (y_add rfl rfl (i64w (by omega))) rfl ?_
              refine L_y (y_assign rfl) rfl ?_
              refine L_nil ?_
              refine ⟨j + 1, by omega, ⟨by omega, S5⟩, ?_⟩
              exact (Sub.cons rfl (congrArg (Value.int _) (by first | omega | (have hne : y.t ≠ x.t := (fun e => h37 (by rw [e])); rw [if_neg hne] at hstep; omega))) (Sub.cons rfl (by first | rfl | exact congrArg (Value.int _) (by omega)) (Sub.cons rfl rfl (Sub.cons rfl rfl (Sub.cons rfl rfl (Sub.nil _))))))
        ·
          have hje : j = ys.length := by omega
          refine T_exit ?_
          refine hK8 _ _ ?_
          refine T_region ?_
          refine L_y (y_move rfl) rfl ?_
          refine L_y (y_add rfl rfl (i64w (by omega))) rfl ?_
          refine L_y (y_assign rfl) rfl ?_
          refine L_nil ?_
          refine ⟨k + 1, by omega, ⟨by omega, S4⟩, ?_⟩
          exact (Sub.cons rfl (congrArg (Value.int _) (by rw [rowsS_step hx, hje, List.take_length])) (Sub.cons rfl (by first | rfl | exact congrArg (Value.int _) (by omega)) (Sub.cons rfl rfl (Sub.cons rfl rfl (Sub.nil _)))))
    ·
      have hke : k = xs.length := by omega
      refine T_exit ?_
      refine hK4 _ _ ?_
      refine T_seq fun K18 hK18 => ?_
      refine T_region ?_
      refine L_y (y_move rfl) rfl ?_
      refine L_y (y_assign rfl) rfl ?_
      refine L_nil ?_
      refine hK18 _ _ ?_
      refine T_ret ?_
      repeat (first | with_reducible refine up_then ?_ | with_reducible refine up_in ?_)
      refine ret1 rfl rfl ?_
      exact ⟨_, rfl, S3.like0, by rw [hke, ← all_com hpx hpy, rowsS, List.take_length]⟩


set_option maxRecDepth 100000 in
theorem rscore (A B : Option Addr) (n cc m dd : Nat) (la lb : List UInt8) (w0 : World) (ha : Rs w0 1 A n cc (bL la)) (hb : Rs w0 1 B m dd (bL lb)) (hn : n ≤ 4398046511104) (hm : m ≤ 4398046511104) :
    Calls Try.prog 9 #[.slice A n cc, .slice B m dd] w0 fun e w' => ∃ u, e = .returned u ∧ Like w0 w' ∧ u = .int .i64 (scoreF (comT (cuts la) (cuts lb)) n m : Int) := by
  refine enter1 (env := [(0, .slice A n cc), (1, .slice B m dd)]) [.slice A n cc, .slice B m dd] Try.func9 rfl Try.ntmps9 rfl rfl ?_
  have hla := ha.lenb; have hlb := hb.lenb; have S0 := St.start w0 noM
  refine T_seq fun K1 hK1 => ?_
  refine T_region ?_
  refine L_y (y_assign rfl) rfl ?_
  refine L_nil ?_
  refine hK1 _ _ ?_
  refine T_seq fun K2 hK2 => ?_
  refine T_region ?_
  refine L_y (y_move rfl) rfl ?_
  refine L_y (y_len Try.underlying22 rfl) rfl ?_
  refine L_y (y_assign rfl) rfl ?_
  refine L_nil ?_
  refine hK2 _ _ ?_
  refine T_seq fun K3 hK3 => ?_
  refine T_seq fun K4 hK4 => ?_
  refine T_region ?_
  refine L_y (y_move rfl) rfl ?_
  refine L_y (y_len Try.underlying22 rfl) rfl ?_
  refine L_y (y_move rfl) rfl ?_
  refine L_y (y_gtr rfl rfl) rfl ?_
  refine L_nil ?_
  refine hK4 _ _ ?_
  refine T_cond rfl (fun h11 => ?_) (fun h11 => ?_)
  ·
    refine T_region ?_
    refine L_y (y_move rfl) rfl ?_
    refine L_y (y_len Try.underlying22 rfl) rfl ?_
    refine L_y (y_assign rfl) rfl ?_
    refine L_nil ?_
    refine hK3 _ _ ?_
    refine T_seq fun K5 hK5 => ?_
    refine T_seq fun K6 hK6 => ?_
    refine T_region ?_
    refine L_y (y_move rfl) rfl ?_
    refine L_y (y_eql rfl rfl) rfl ?_
    refine L_nil ?_
    refine hK6 _ _ ?_
    refine T_cond rfl (fun h15 => ?_) (fun h15 => ?_)
    ·
      refine T_seq fun K7 hK7 => ?_
      refine T_region ?_
      refine L_y (y_assign rfl) rfl ?_
      refine L_nil ?_
      refine hK7 _ _ ?_
      refine T_ret ?_
      repeat (first | with_reducible refine up_then ?_ | with_reducible refine up_in ?_)
      refine ret1 rfl rfl ?_
      first | exact ⟨_, rfl, S0.like0, by rw [scoreF, if_pos (by omega)]; rfl⟩ | exact ⟨_, rfl, S0.like0, by rw [← score_eq _ _ _ (by omega), show max (n : Int) (m : Int) = (m : Int) by omega]⟩ | exact ⟨_, rfl, S0.like0, by rw [← score_eq _ _ _ (by omega), show max (n : Int) (m : Int) = (n : Int) by omega]⟩
    ·
      refine T_skip ?_
      refine hK5 _ _ ?_
      refine T_seq fun K8 hK8 => ?_
      refine T_region ?_
      refine L_y (y_move rfl) rfl ?_
      refine L_y (y_move rfl) rfl ?_
      refine L_o (o_call Try.func12 rfl rfl (rcommon A B n cc m dd la lb w0 (S0.rd ha) (S0.rd hb) hn hm) rfl rfl ?_)
      rintro e1 w1 ⟨v1, rfl, l1, rfl⟩
      refine ⟨_, rfl, ?_⟩
      have S1 := S0.like l1
      have hcl := (comT_le (cuts la) (cuts lb)).1
      rw [cuts_sum] at hcl
      refine L_y (y_mul rfl rfl (i64w (by omega))) rfl ?_
      refine L_y (y_move rfl) rfl ?_
      refine L_y (y_quo rfl rfl (by omega) (quoI (by omega) (by omega))) rfl ?_
      refine L_y (y_assign rfl) rfl ?_
      refine L_nil ?_
      refine hK8 _ _ ?_
      refine T_ret ?_
      repeat (first | with_reducible refine up_then ?_ | with_reducible refine up_in ?_)
      refine ret1 rfl rfl ?_
      first | exact ⟨_, rfl, S1.like0, by rw [scoreF, if_pos (by omega)]; rfl⟩ | exact ⟨_, rfl, S1.like0, by rw [← score_eq _ _ _ (by omega), show max (n : Int) (m : Int) = (m : Int) by omega]⟩ | exact ⟨_, rfl, S1.like0, by rw [← score_eq _ _ _ (by omega), show max (n : Int) (m : Int) = (n : Int) by omega]⟩
  ·
    refine T_skip ?_
    refine hK3 _ _ ?_
    refine T_seq fun K9 hK9 => ?_
    refine T_seq fun K10 hK10 => ?_
    refine T_region ?_
    refine L_y (y_move rfl) rfl ?_
    refine L_y (y_eql rfl rfl) rfl ?_
    refine L_nil ?_
    refine hK10 _ _ ?_
    refine T_cond rfl (fun h15 => ?_) (fun h15 => ?_)
    ·
      refine T_seq fun K11 hK11 => ?_
      refine T_region ?_
      refine L_y (y_assign rfl) rfl ?_
      refine L_nil ?_
      refine hK11 _ _ ?_
      refine T_ret ?_
      repeat (first | with_reducible refine up_then ?_ | with_reducible refine up_in ?_)
      refine ret1 rfl rfl ?_
      first | exact ⟨_, rfl, S0.like0, by rw [scoreF, if_pos (by omega)]; rfl⟩ | exact ⟨_, rfl, S0.like0, by rw [← score_eq _ _ _ (by omega), show max (n : Int) (m : Int) = (m : Int) by omega]⟩ | exact ⟨_, rfl, S0.like0, by rw [← score_eq _ _ _ (by omega), show max (n : Int) (m : Int) = (n : Int) by omega]⟩
    ·
      refine T_skip ?_
      refine hK9 _ _ ?_
      refine T_seq fun K12 hK12 => ?_
      refine T_region ?_
      refine L_y (y_move rfl) rfl ?_
      refine L_y (y_move rfl) rfl ?_
      refine L_o (o_call Try.func12 rfl rfl (rcommon A B n cc m dd la lb w0 (S0.rd ha) (S0.rd hb) hn hm) rfl rfl ?_)
      rintro e2 w2 ⟨v2, rfl, l2, rfl⟩
      refine ⟨_, rfl, ?_⟩
      have S2 := S0.like l2
      have hcl := (comT_le (cuts la) (cuts lb)).1
      rw [cuts_sum] at hcl
      refine L_y (y_mul rfl rfl (i64w (by omega))) rfl ?_
      refine L_y (y_move rfl) rfl ?_
      refine L_y (y_quo rfl rfl (by omega) (quoI (by omega) (by omega))) rfl ?_
      refine L_y (y_assign rfl) rfl ?_
      refine L_nil ?_
      refine hK12 _ _ ?_
      refine T_ret ?_
      repeat (first | with_reducible refine up_then ?_ | with_reducible refine up_in ?_)
      refine ret1 rfl rfl ?_
      first | exact ⟨_, rfl, S2.like0, by rw [scoreF, if_pos (by omega)]; rfl⟩ | exact ⟨_, rfl, S2.like0, by rw [← score_eq _ _ _ (by omega), show max (n : Int) (m : Int) = (m : Int) by omega]⟩ | exact ⟨_, rfl, S2.like0, by rw [← score_eq _ _ _ (by omega), show max (n : Int) (m : Int) = (n : Int) by omega]⟩
end Go.Proofs.Ytaknmlajhedfhaa
