import Derived.Test.YtaknmlajhedfhaaMgTables2

/-
  The document: Table.
-/
namespace Go.Proofs.Ytaknmlajhedfhaa
open Go.RowKit Zk Zx
set_option linter.unusedVariables false
set_option linter.unusedSimpArgs false

theorem rw_get : ∀ (xs : List RW) (i : Nat) (x : RW), xs[i]? = some x → (xs.flatMap rwf)[i * 3]? = some (Value.int .i64 (x.a : Int)) ∧ (xs.flatMap rwf)[i * 3 + 1]? = some (Value.int .i64 (x.b : Int)) ∧ (xs.flatMap rwf)[i * 3 + 2]? = some (Value.int .i64 (x.s : Int))
  | [], i, x, h => by cases h
  | y :: xs, 0, x, h => by
    obtain rfl : y = x := by simpa using h
    exact ⟨rfl, rfl, rfl⟩
  | y :: xs, i + 1, x, h => by
    have := rw_get xs i x (by simpa using h)
    rw [List.flatMap_cons, show (i + 1) * 3 = i * 3 + 1 + 1 + 1 by omega]
    exact this
theorem rw_take : ∀ (xs : List RW) (i : Nat), (xs.flatMap rwf).take (i * 3) = (xs.take i).flatMap rwf
  | _, 0 => by simp
  | [], i + 1 => by simp
  | y :: xs, i + 1 => by
    rw [List.flatMap_cons, List.take_succ_cons, List.flatMap_cons, ← rw_take xs i, show (i + 1) * 3 = i * 3 + 1 + 1 + 1 by omega]
    rfl
theorem rw_drop : ∀ (xs : List RW) (i : Nat), (xs.flatMap rwf).drop (i * 3) = (xs.drop i).flatMap rwf
  | _, 0 => by simp
  | [], i + 1 => by simp
  | y :: xs, i + 1 => by
    rw [List.flatMap_cons, List.drop_succ_cons, ← rw_drop xs i, show (i + 1) * 3 = i * 3 + 1 + 1 + 1 by omega]
    rfl
theorem rw_one (xs : List RW) : ∀ u ∈ xs.flatMap rwf, u.oneCell' = true := fun u hu => by
  obtain ⟨x, _, hx⟩ := List.mem_flatMap.1 hu
  exact rwf_one x u hx
theorem rw_len (xs : List RW) : (xs.flatMap rwf).length = xs.length * 3 := by
  rw [List.length_flatMap]
  simp only [rwf_len]
  induction xs with
  | nil => rfl
  | cons x xs ih => simp only [List.map_cons, List.sum_cons, List.length_cons, ih]; omega
theorem rw_ins (xs : List RW) (j n a b s : Nat) (hi : j ≤ xs.length) (hn : xs.length = n) : [] ++ ((xs.flatMap rwf).drop (0 * 3)).take ((j - 0) * 3) ++ [Value.int .i64 (a : Int), Value.int .i64 (b : Int), Value.int .i64 (s : Int)] ++ ((xs.flatMap rwf).drop (j * 3)).take ((n - j) * 3) = (xs.take j ++ [(⟨a, b, s⟩ : RW)] ++ xs.drop j).flatMap rwf := by
  have e1 : ((xs.flatMap rwf).drop (0 * 3)).take ((j - 0) * 3) = (xs.take j).flatMap rwf := by rw [Nat.zero_mul, List.drop_zero, Nat.sub_zero, rw_take]
  have e2 : ((xs.flatMap rwf).drop (j * 3)).take ((n - j) * 3) = (xs.drop j).flatMap rwf := by rw [rw_drop, rw_take, List.take_of_length_le (by rw [List.length_drop]; omega)]
  rw [e1, e2, List.nil_append, List.flatMap_append, List.flatMap_append]
  rfl


set_option maxRecDepth 100000 in
theorem rtable (A B : Option Addr) (n ca m cb : Nat) (ps qs : List Part) (t0 t : Int) (w0 : World) (hps : Rs w0 1 A n ca (ps.map pv)) (hok : ∀ p ∈ ps, p.ok w0) (hqs : Rs w0 1 B m cb (qs.map pv)) (hqk : ∀ p ∈ qs, p.ok w0) (hn : n ≤ 8) (hm : m ≤ 8) (hlp : ∀ i, i < ps.length → (ps.getD i p0).n ≤ 400) (hlq : ∀ i, i < qs.length → (qs.getD i p0).n ≤ 400) (ht : t = max t0 1) :
    Calls Try.prog 17 #[.slice A n ca, .slice B m cb, .int .i64 t0] w0 fun e w' => ∃ u, e = .returned u ∧ Like w0 w' ∧ ∃ A m c xs, u = .slice A m c ∧ w'.ownsRow w0.heap.size 44 3 (.slice A m c) m (xs.flatMap rwf) ∧ TB xs (prs ps qs t ps.length 0) := by
  refine enter1 (env := [(0, .slice A n ca), (1, .slice B m cb), (2, .int .i64 t0)]) [.slice A n ca, .slice B m cb, .int .i64 t0] Try.func17 rfl Try.ntmps17 rfl rfl ?_
  have hnl : ps.length = n := by have := hps.len; simpa using this
  have hml : qs.length = m := by have := hqs.len; simpa using this
  subst hnl; subst hml; have S0 := St.start w0 noM
  refine T_seq fun K1 hK1 => ?_
  refine T_region ?_
  refine L_y (y_assign rfl) rfl ?_
  refine L_nil ?_
  refine hK1 _ _ ?_
  refine T_seq fun K2 hK2 => ?_
  refine T_seq fun K3 hK3 => ?_
  refine T_region ?_
  refine L_y (y_move rfl) rfl ?_
  refine L_y (y_lss rfl rfl) rfl ?_
  refine L_nil ?_
  refine hK3 _ _ ?_
  refine T_cond rfl (fun h14 => ?_) (fun h14 => ?_)
  ·
    refine T_region ?_
    refine L_y (y_assign rfl) rfl ?_
    refine L_nil ?_
    refine hK2 _ _ ?_
    refine T_seq fun K4 hK4 => ?_
    refine T_region ?_
    refine L_y (y_assign rfl) rfl ?_
    refine L_nil ?_
    refine hK4 _ _ ?_
    refine T_seq fun K5 hK5 => ?_
    refine T_seq fun K6 hK6 => ?_
    refine T_region ?_
    refine L_y (y_assign rfl) rfl ?_
    refine L_nil ?_
    refine hK6 _ _ ?_
    refine T_block ?_
    refine T_loop4 [(0, _), (1, _), (2, _)] (fun (i : Nat) (A1 : Option Addr) (c1 : Nat) (xs : List RW) => [(7, .slice A1 xs.length c1), (8, .int .i64 (i : Int))]) (fun (i : Nat) (A1 : Option Addr) (c1 : Nat) (xs : List RW) => ps.length - i) (fun (i : Nat) (A1 : Option Addr) (c1 : Nat) (xs : List RW) (w : World) => (i ≤ ps.length ∧ TB xs (prs ps qs t i 0)) ∧ St w0 noM [row 44 3 A1 xs.length c1 (xs.flatMap rwf)] w) 0 none 0 [] (Sub.cons rfl (by first | rfl | exact congrArg (Value.int _) (by omega)) (Sub.cons rfl (by first | rfl | exact congrArg (Value.int _) (by omega)) (Sub.nil _))) (Sub.cons rfl rfl (Sub.cons rfl rfl (Sub.cons rfl rfl (Sub.nil _)))) ?_ ?_
    ·
      have S80 := S0.nilrow 44 3
      exact ⟨⟨by omega, TB.nil⟩, S80⟩
    ·
      intro i A1 c1 xs w1 hrel
      obtain ⟨⟨hi, htb⟩, S1⟩ := hrel
      refine T_seq fun K7 hK7 => ?_
      refine T_seq fun K8 hK8 => ?_
      refine T_region ?_
      refine L_y (y_move rfl) rfl ?_
      refine L_y (y_move rfl) rfl ?_
      refine L_y (y_len Try.underlying36 rfl) rfl ?_
      refine L_y (y_lss rfl rfl) rfl ?_
      refine L_nil ?_
      refine hK8 _ _ ?_
      refine T_cond rfl (fun h18 => ?_) (fun h18 => ?_)
      ·
        have hpo := part_getD hok i
        have hpl := hpo.lenb
        have hps4 := hlp i (by omega)
        refine T_skip ?_
        refine hK7 _ _ ?_
        refine T_seq fun K9 hK9 => ?_
        refine T_block ?_
        refine T_seq fun K10 hK10 => ?_
        refine T_region ?_
        refine L_y (y_assign rfl) rfl ?_
        refine L_nil ?_
        refine hK10 _ _ ?_
        refine T_block ?_
        refine T_loop4 [(0, _), (1, _), (2, _), (8, _)] (fun (k : Nat) (A1 : Option Addr) (c1 : Nat) (xs : List RW) => [(7, .slice A1 xs.length c1), (9, .int .i64 (k : Int))]) (fun (k : Nat) (A1 : Option Addr) (c1 : Nat) (xs : List RW) => qs.length - k) (fun (k : Nat) (A1 : Option Addr) (c1 : Nat) (xs : List RW) (w : World) => (k ≤ qs.length ∧ TB xs (prs ps qs t i k)) ∧ St w0 noM [row 44 3 A1 xs.length c1 (xs.flatMap rwf)] w) 0 A1 c1 xs (Sub.cons rfl (by first | rfl | exact congrArg (Value.int _) (by omega)) (Sub.cons rfl (by first | rfl | exact congrArg (Value.int _) (by omega)) (Sub.nil _))) (Sub.cons rfl rfl (Sub.cons rfl rfl (Sub.cons rfl rfl (Sub.cons rfl rfl (Sub.nil _))))) ?_ ?_
        ·
          exact ⟨⟨by omega, htb⟩, S1⟩
        ·
          intro k A1 c1 xs w2 hrel
          obtain ⟨⟨hk, htb⟩, S2⟩ := hrel
          refine T_seq fun K11 hK11 => ?_
          refine T_seq fun K12 hK12 => ?_
          refine T_region ?_
          refine L_y (y_move rfl) rfl ?_
          refine L_y (y_move rfl) rfl ?_
          refine L_y (y_len Try.underlying36 rfl) rfl ?_
          refine L_y (y_lss rfl rfl) rfl ?_
          refine L_nil ?_
          refine hK12 _ _ ?_
          refine T_cond rfl (fun h24 => ?_) (fun h24 => ?_)
          ·
            have hqo := part_getD hqk k
            have hql := hqo.lenb
            have hqs4 := hlq k (by omega)
            have hsl := scf_le (ps := ps) (qs := qs) (i := i) (k := k) hpl hql
            refine T_skip ?_
            refine hK11 _ _ ?_
            refine T_seq fun K13 hK13 => ?_
            refine T_block ?_
            refine T_seq fun K14 hK14 => ?_
            refine T_tail 8 hmix (by kernel_rfl) fun w3 l3 K15 hK15 => ?_
            have S3 := S2.like l3
            refine HL_y (y_move rfl) rfl ?_
            refine HL_y (y_move rfl) rfl ?_
            refine HL_y (y_idx Try.underlying36 sz22 rfl rfl (by first | exact S3.rd hps | exact S3.rd hqs | exact S3.row 0 rfl) inferInstance (by omega)) rfl ?_
            refine HL_y (y_ldg p0 Try.underlying22 rfl rfl (by first | exact S3.rd hps | exact S3.rd hqs | exact S3.row 0 rfl) (by omega)) rfl ?_
            refine HL_y (y_move rfl) rfl ?_
            refine HL_y (y_move rfl) rfl ?_
            refine HL_y (y_idx Try.underlying36 sz22 rfl rfl (by first | exact S3.rd hps | exact S3.rd hqs | exact S3.row 0 rfl) inferInstance (by omega)) rfl ?_
            refine HL_y (y_ldg p0 Try.underlying22 rfl rfl (by first | exact S3.rd hps | exact S3.rd hqs | exact S3.row 0 rfl) (by omega)) rfl ?_
            refine HL_nil ?_
            refine hK15 _ ?_
            refine L_o (o_call Try.func9 rfl rfl (rscore _ _ _ _ _ _ (ps.getD i p0).l (qs.getD k p0).l w3 (S3.rd hpo) (S3.rd hqo) (by omega) (by omega)) rfl rfl ?_)
            rintro e4 w4 ⟨v4, rfl, l4, rfl⟩
            refine ⟨_, rfl, ?_⟩
            have S4 := S3.like l4
            refine L_y (y_assign rfl) rfl ?_
            refine L_nil ?_
            refine hK14 _ _ ?_
            refine T_seq fun K16 hK16 => ?_
            refine T_seq fun K17 hK17 => ?_
            refine T_region ?_
            refine L_y (y_move rfl) rfl ?_
            refine L_y (y_move rfl) rfl ?_
            refine L_y (y_lss rfl rfl) rfl ?_
            refine L_nil ?_
            refine hK17 _ _ ?_
            refine T_cond rfl (fun h38 => ?_) (fun h38 => ?_)
            ·
              refine T_exit ?_
              refine hK13 _ _ ?_
              refine T_region ?_
              refine L_y (y_move rfl) rfl ?_
              refine L_y (y_add rfl rfl (i64w (by omega))) rfl ?_
              refine L_y (y_assign rfl) rfl ?_
              refine L_nil ?_
              have hms := prs_miss (ps := ps) (qs := qs) (t := t) (i := i) (k := k) (by unfold scf; omega)
              refine ⟨k + 1, A1, c1, xs, by omega, ⟨⟨by omega, by rw [hms]; exact htb⟩, S4⟩, ?_⟩
              exact (Sub.cons rfl (by first | rfl | (rw [hlen]; rfl) | (rw [hlen]; congr 1; omega)) (Sub.cons rfl (by first | rfl | exact congrArg (Value.int _) (by omega)) (Sub.cons rfl rfl (Sub.cons rfl rfl (Sub.cons rfl rfl (Sub.cons rfl rfl (Sub.nil _)))))))
            ·
              refine T_skip ?_
              refine hK16 _ _ ?_
              refine T_seq fun K18 hK18 => ?_
              refine T_region ?_
              refine L_y (y_move rfl) rfl ?_
              refine L_y (y_len Try.underlying40 rfl) rfl ?_
              refine L_y (y_assign rfl) rfl ?_
              refine L_nil ?_
              refine hK18 _ _ ?_
              refine T_seq fun K19 hK19 => ?_
              refine T_block ?_
              refine T_loop1 [(0, _), (1, _), (2, _), (7, _), (8, _), (9, _), (10, _)] (fun (j : Nat) => [(11, .int .i64 (j : Int))]) (fun (j : Nat) => j) (fun (j : Nat) (w : World) => (j ≤ xs.length ∧ ∀ i2 y, j ≤ i2 → xs[i2]? = some y → y.s < (⟨i, k, scf (ps.getD i p0) (qs.getD k p0)⟩ : RW).s) ∧ St w0 noM [row 44 3 A1 xs.length c1 (xs.flatMap rwf)] w) xs.length (Sub.cons rfl (by first | rfl | exact congrArg (Value.int _) (by omega)) (Sub.nil _)) (Sub.cons rfl rfl (Sub.cons rfl rfl (Sub.cons rfl rfl (Sub.cons rfl rfl (Sub.cons rfl rfl (Sub.cons rfl rfl (Sub.cons rfl rfl (Sub.nil _)))))))) ?_ ?_
              ·
                exact ⟨⟨by omega, fun i2 y h1 hy => by have := (List.getElem?_eq_some_iff.1 hy).1; omega⟩, S4⟩
              ·
                intro j w5 hrel
                obtain ⟨⟨hj, hhi⟩, S5⟩ := hrel
                refine T_seq fun K20 hK20 => ?_
                refine T_seq fun K21 hK21 => ?_
                refine T_region ?_
                refine L_y (y_move rfl) rfl ?_
                refine L_y (y_gtr rfl rfl) rfl ?_
                refine L_y (y_move rfl) rfl ?_
                refine L_split 43 rfl (fun h43 => ?_) (fun h43 => ?_)
                ·
                  obtain ⟨y, hy⟩ : ∃ y, xs[j - 1]? = some y := ⟨_, List.getElem?_eq_getElem (by omega)⟩
                  have hpg := rw_get xs (j - 1) y hy
                  have hcp := (S5.row 0 rfl).cap
                  have hmx := (S5.row 0 rfl).max
                  refine L_gyes rfl rfl ?_
                  refine L_y (y_move rfl) rfl ?_
                  refine L_gyes rfl rfl ?_
                  refine L_y (y_move rfl) rfl ?_
                  refine L_gyes rfl rfl ?_
                  refine L_y (y_sub rfl rfl (i64w (by omega))) rfl ?_
                  refine L_gyes rfl rfl ?_
                  refine L_y (y_idx Try.underlying40 sz44 rfl rfl (S5.row 0 rfl) (Nt.mk (by omega) : Nt _ (j - 1)) (by omega)) rfl ?_
                  refine L_gyes rfl rfl ?_
                  refine L_y (y_fieldR 2 Try.underlying44 rfl sz3 rfl rfl (S5.row 0 rfl) (by omega) rfl) rfl ?_
                  refine L_gyes rfl rfl ?_
                  refine L_y (y_ldf Try.underlying3 rfl rfl (S5.row 0 rfl) (by omega) hpg.2.2) rfl ?_
                  refine L_gyes rfl rfl ?_
                  refine L_y (y_move rfl) rfl ?_
                  refine L_gyes rfl rfl ?_
                  refine L_y (y_lss rfl rfl) rfl ?_
                  refine L_y ((by first | exact y_pickT rfl rfl | exact y_pickF rfl rfl)) rfl ?_
                  refine L_nil ?_
                  refine hK21 _ _ ?_
                  refine T_cond rfl (fun h52 => ?_) (fun h52 => ?_)
                  ·
                    refine T_skip ?_
                    refine hK20 _ _ ?_
                    refine T_block ?_
                    refine T_region ?_
                    refine L_y (y_move rfl) rfl ?_
                    refine L_y (y_sub rfl rfl (i64w (by omega))) rfl ?_
                    refine L_y (y_assign rfl) rfl ?_
                    refine L_nil ?_
                    refine ⟨j - 1, by omega, ⟨⟨by omega, fun i2 z h1 hz => by rcases Nat.lt_or_ge i2 j with h2 | h2; (have e : i2 = j - 1 := by omega); subst e; rw [hy] at hz; cases hz; (show y.s < scf (ps.getD i p0) (qs.getD k p0)); unfold scf; omega; exact hhi i2 z h2 hz⟩, S5⟩, ?_⟩
                    exact (Sub.cons rfl (by first | rfl | exact congrArg (Value.int _) (by omega)) (Sub.cons rfl rfl (Sub.cons rfl rfl (Sub.cons rfl rfl (Sub.cons rfl rfl (Sub.cons rfl rfl (Sub.cons rfl rfl (Sub.cons rfl rfl (Sub.nil _)))))))))
                  ·
                    refine T_exit ?_
                    refine hK19 _ _ ?_
                    refine T_seq fun K22 hK22 => ?_
                    refine T_region ?_
                    have S7 := S5.nilrow 44 3
                    refine L_y (y_assign rfl) rfl ?_
                    refine L_nil ?_
                    refine hK22 _ _ ?_
                    refine T_seq fun K23 hK23 => ?_
                    have hcp := (S7.row 0 rfl).cap
                    have hxl := htb.1.length_eq
                    have hpn := prs_len (ps := ps) (qs := qs) (t := t) (i := i) (k := k) (by omega) (by omega) (by omega)
                    have hlow : ∀ z, 0 < j → xs[j - 1]? = some z → ¬ z.s < (⟨i, k, scf (ps.getD i p0) (qs.getD k p0)⟩ : RW).s := fun z _ hz => by rw [hy] at hz; cases hz; show ¬ y.s < scf (ps.getD i p0) (qs.getD k p0); unfold scf; omega
                    refine T_region ?_
                    refine L_y (y_move rfl) rfl ?_
                    refine L_y (y_move rfl) rfl ?_
                    refine L_y (y_move rfl) rfl ?_
                    refine L_y (y_sliceH Try.underlying40 sz44 rfl rfl inferInstance (by omega)) rfl ?_
                    refine L_o (o_app te40 S7 1 rfl rfl rfl ((S7.row 0 rfl).cut (l := 0) (u := j) (Nat.zero_le _) (by omega)) (fun u hu => rw_one _ _ (List.mem_of_mem_drop (List.mem_of_mem_take hu))) rfl (by omega) (by omega) fun A8 c8 w8 S8 => ?_)
                    refine L_y (y_assign rfl) rfl ?_
                    refine L_nil ?_
                    refine hK23 _ _ ?_
                    refine T_seq fun K24 hK24 => ?_
                    refine T_region ?_
                    refine L_y (y_move rfl) rfl ?_
                    refine L_y (y_move rfl) rfl ?_
                    refine L_y (y_move rfl) rfl ?_
                    refine L_y (y_move rfl) rfl ?_
                    refine L_y (y_build rfl (show _ = some #[Value.int .i64 (i : Int), Value.int .i64 (k : Int), Value.int .i64 (scf (ps.getD i p0) (qs.getD k p0) : Int)] by kernel_rfl)) rfl ?_
                    refine L_o (o_bsl [_, _, _] te40 zz44 S8 rfl rfl rfl rfl rfl rfl rfl rfl fun b9 w9 S9 => ?_)
                    refine L_o (o_app te40 S9 1 rfl rfl rfl (by first | exact S9.rd hps | exact S9.rd hqs | exact S9.row 0 rfl | exact S9.row 1 rfl | exact S9.row 2 rfl) (fun u hu => rw_one [⟨i, k, scf (ps.getD i p0) (qs.getD k p0)⟩] u hu) rfl (by omega) (by omega) fun A10 c10 w10 S10 => ?_)
                    have S10d := S10.drop (rs' := [_, _]) (.cons_cons _ (.cons_cons _ (.cons _ (.refl _))))
                    refine L_y (y_assign rfl) rfl ?_
                    refine L_nil ?_
                    refine hK24 _ _ ?_
                    refine T_region ?_
                    refine L_y (y_move rfl) rfl ?_
                    refine L_y (y_move rfl) rfl ?_
                    refine L_y (y_move rfl) rfl ?_
                    refine L_y (y_sliceL Try.underlying40 sz44 rfl rfl inferInstance (by omega)) rfl ?_
                    refine L_o (o_app te40 S10d 1 rfl rfl rfl ((S10d.row 0 rfl).cut (l := j) (u := xs.length) (by omega) (Nat.le_refl _)) (fun u hu => rw_one _ _ (List.mem_of_mem_drop (List.mem_of_mem_take hu))) rfl (by omega) (by omega) fun A11 c11 w11 S11 => ?_)
                    refine L_y (y_assign rfl) rfl ?_
                    refine L_nil ?_
                    refine hK13 _ _ ?_
                    refine T_region ?_
                    refine L_y (y_move rfl) rfl ?_
                    refine L_y (y_add rfl rfl (i64w (by omega))) rfl ?_
                    refine L_y (y_assign rfl) rfl ?_
                    refine L_nil ?_
                    have hms := prs_hit (ps := ps) (qs := qs) (t := t) (i := i) (k := k) (by unfold scf; omega)
                    have htb2 := htb.ins hj hlow hhi (fun y hy => prs_mem hy)
                    have hlen : (xs.take j ++ [(⟨i, k, scf (ps.getD i p0) (qs.getD k p0)⟩ : RW)] ++ xs.drop j : List RW).length = xs.length + 1 := by simp; omega
                    have S9 := S11.rowc 1 rfl (n' := (xs.take j ++ [(⟨i, k, scf (ps.getD i p0) (qs.getD k p0)⟩ : RW)] ++ xs.drop j : List RW).length) (xs' := (xs.take j ++ [(⟨i, k, scf (ps.getD i p0) (qs.getD k p0)⟩ : RW)] ++ xs.drop j : List RW).flatMap rwf) (by rw [hlen]; omega) (rw_ins xs j _ _ _ _ (by omega) rfl)
                    have S10 := S9.drop (.cons _ (.refl _))
                    refine ⟨k + 1, _, _, (xs.take j ++ [(⟨i, k, scf (ps.getD i p0) (qs.getD k p0)⟩ : RW)] ++ xs.drop j : List RW), by omega, ⟨⟨by omega, by rw [hms]; exact htb2⟩, S10⟩, ?_⟩
                    exact (Sub.cons rfl (by first | rfl | (rw [hlen]; rfl) | (rw [hlen]; congr 1; omega)) (Sub.cons rfl (by first | rfl | exact congrArg (Value.int _) (by omega)) (Sub.cons rfl rfl (Sub.cons rfl rfl (Sub.cons rfl rfl (Sub.cons rfl rfl (Sub.nil _)))))))
                ·
                  refine L_gno rfl rfl rfl ?_
                  refine L_gno rfl rfl rfl ?_
                  refine L_gno rfl rfl rfl ?_
                  refine L_gno rfl rfl rfl ?_
                  refine L_gno rfl rfl rfl ?_
                  refine L_gno rfl rfl rfl ?_
                  refine L_gno rfl rfl rfl ?_
                  refine L_gno rfl rfl rfl ?_
                  refine L_y ((by first | exact y_pickT rfl rfl | exact y_pickF rfl rfl)) rfl ?_
                  refine L_nil ?_
                  refine hK21 _ _ ?_
                  refine T_false rfl ?_
                  refine T_exit ?_
                  refine hK19 _ _ ?_
                  refine T_seq fun K25 hK25 => ?_
                  refine T_region ?_
                  have S12 := S5.nilrow 44 3
                  refine L_y (y_assign rfl) rfl ?_
                  refine L_nil ?_
                  refine hK25 _ _ ?_
                  refine T_seq fun K26 hK26 => ?_
                  have hcp := (S12.row 0 rfl).cap
                  have hxl := htb.1.length_eq
                  have hpn := prs_len (ps := ps) (qs := qs) (t := t) (i := i) (k := k) (by omega) (by omega) (by omega)
                  have hlow : ∀ z, 0 < j → xs[j - 1]? = some z → ¬ z.s < (⟨i, k, scf (ps.getD i p0) (qs.getD k p0)⟩ : RW).s := fun z h0 _ => by omega
                  refine T_region ?_
                  refine L_y (y_move rfl) rfl ?_
                  refine L_y (y_move rfl) rfl ?_
                  refine L_y (y_move rfl) rfl ?_
                  refine L_y (y_sliceH Try.underlying40 sz44 rfl rfl inferInstance (by omega)) rfl ?_
                  refine L_o (o_app te40 S12 1 rfl rfl rfl ((S12.row 0 rfl).cut (l := 0) (u := j) (Nat.zero_le _) (by omega)) (fun u hu => rw_one _ _ (List.mem_of_mem_drop (List.mem_of_mem_take hu))) rfl (by omega) (by omega) fun A13 c13 w13 S13 => ?_)
                  refine L_y (y_assign rfl) rfl ?_
                  refine L_nil ?_
                  refine hK26 _ _ ?_
                  refine T_seq fun K27 hK27 => ?_
                  refine T_region ?_
                  refine L_y (y_move rfl) rfl ?_
                  refine L_y (y_move rfl) rfl ?_
                  refine L_y (y_move rfl) rfl ?_
                  refine L_y (y_move rfl) rfl ?_
                  refine L_y (y_build rfl (show _ = some #[Value.int .i64 (i : Int), Value.int .i64 (k : Int), Value.int .i64 (scf (ps.getD i p0) (qs.getD k p0) : Int)] by kernel_rfl)) rfl ?_
                  refine L_o (o_bsl [_, _, _] te40 zz44 S13 rfl rfl rfl rfl rfl rfl rfl rfl fun b14 w14 S14 => ?_)
                  refine L_o (o_app te40 S14 1 rfl rfl rfl (by first | exact S14.rd hps | exact S14.rd hqs | exact S14.row 0 rfl | exact S14.row 1 rfl | exact S14.row 2 rfl) (fun u hu => rw_one [⟨i, k, scf (ps.getD i p0) (qs.getD k p0)⟩] u hu) rfl (by omega) (by omega) fun A15 c15 w15 S15 => ?_)
                  have S15d := S15.drop (rs' := [_, _]) (.cons_cons _ (.cons_cons _ (.cons _ (.refl _))))
                  refine L_y (y_assign rfl) rfl ?_
                  refine L_nil ?_
                  refine hK27 _ _ ?_
                  refine T_region ?_
                  refine L_y (y_move rfl) rfl ?_
                  refine L_y (y_move rfl) rfl ?_
                  refine L_y (y_move rfl) rfl ?_
                  refine L_y (y_sliceL Try.underlying40 sz44 rfl rfl inferInstance (by omega)) rfl ?_
                  refine L_o (o_app te40 S15d 1 rfl rfl rfl ((S15d.row 0 rfl).cut (l := j) (u := xs.length) (by omega) (Nat.le_refl _)) (fun u hu => rw_one _ _ (List.mem_of_mem_drop (List.mem_of_mem_take hu))) rfl (by omega) (by omega) fun A16 c16 w16 S16 => ?_)
                  refine L_y (y_assign rfl) rfl ?_
                  refine L_nil ?_
                  refine hK13 _ _ ?_
                  refine T_region ?_
                  refine L_y (y_move rfl) rfl ?_
                  refine L_y (y_add rfl rfl (i64w (by omega))) rfl ?_
                  refine L_y (y_assign rfl) rfl ?_
                  refine L_nil ?_
                  have hms := prs_hit (ps := ps) (qs := qs) (t := t) (i := i) (k := k) (by unfold scf; omega)
                  have htb2 := htb.ins hj hlow hhi (fun y hy => prs_mem hy)
                  have hlen : (xs.take j ++ [(⟨i, k, scf (ps.getD i p0) (qs.getD k p0)⟩ : RW)] ++ xs.drop j : List RW).length = xs.length + 1 := by simp; omega
                  have S9 := S16.rowc 1 rfl (n' := (xs.take j ++ [(⟨i, k, scf (ps.getD i p0) (qs.getD k p0)⟩ : RW)] ++ xs.drop j : List RW).length) (xs' := (xs.take j ++ [(⟨i, k, scf (ps.getD i p0) (qs.getD k p0)⟩ : RW)] ++ xs.drop j : List RW).flatMap rwf) (by rw [hlen]; omega) (rw_ins xs j _ _ _ _ (by omega) rfl)
                  have S10 := S9.drop (.cons _ (.refl _))
                  refine ⟨k + 1, _, _, (xs.take j ++ [(⟨i, k, scf (ps.getD i p0) (qs.getD k p0)⟩ : RW)] ++ xs.drop j : List RW), by omega, ⟨⟨by omega, by rw [hms]; exact htb2⟩, S10⟩, ?_⟩
                  exact (Sub.cons rfl (by first | rfl | (rw [hlen]; rfl) | (rw [hlen]; congr 1; omega)) (Sub.cons rfl (by first | rfl | exact congrArg (Value.int _) (by omega)) (Sub.cons rfl rfl (Sub.cons rfl rfl (Sub.cons rfl rfl (Sub.cons rfl rfl (Sub.nil _)))))))
          ·
            refine T_exit ?_
            refine hK9 _ _ ?_
            refine T_region ?_
            refine L_y (y_move rfl) rfl ?_
            refine L_y (y_add rfl rfl (i64w (by omega))) rfl ?_
            refine L_y (y_assign rfl) rfl ?_
            refine L_nil ?_
            have hkq : k = qs.length := by omega
            subst hkq
            refine ⟨i + 1, A1, c1, xs, by omega, ⟨⟨by omega, by rw [prs_next]; exact htb⟩, S2⟩, ?_⟩
            exact (Sub.cons rfl (by first | rfl | exact congrArg (Value.int _) (by omega)) (Sub.cons rfl (by first | rfl | exact congrArg (Value.int _) (by omega)) (Sub.cons rfl rfl (Sub.cons rfl rfl (Sub.cons rfl rfl (Sub.nil _))))))
      ·
        refine T_exit ?_
        refine hK5 _ _ ?_
        refine T_seq fun K28 hK28 => ?_
        refine T_region ?_
        refine L_y (y_move rfl) rfl ?_
        refine L_y (y_assign rfl) rfl ?_
        refine L_nil ?_
        refine hK28 _ _ ?_
        refine T_ret ?_
        repeat (first | with_reducible refine up_then ?_ | with_reducible refine up_in ?_)
        refine ret1 rfl rfl ?_
        have hie : i = ps.length := by omega
        exact ⟨_, rfl, S1.like0, _, _, _, xs, rfl, by exact S1.own 0 rfl, by rw [← hie]; exact htb⟩
  ·
    refine T_skip ?_
    refine hK2 _ _ ?_
    refine T_seq fun K29 hK29 => ?_
    refine T_region ?_
    refine L_y (y_assign rfl) rfl ?_
    refine L_nil ?_
    refine hK29 _ _ ?_
    refine T_seq fun K30 hK30 => ?_
    refine T_seq fun K31 hK31 => ?_
    refine T_region ?_
    refine L_y (y_assign rfl) rfl ?_
    refine L_nil ?_
    refine hK31 _ _ ?_
    refine T_block ?_
    refine T_loop4 [(0, _), (1, _), (2, _)] (fun (i : Nat) (A1 : Option Addr) (c1 : Nat) (xs : List RW) => [(7, .slice A1 xs.length c1), (8, .int .i64 (i : Int))]) (fun (i : Nat) (A1 : Option Addr) (c1 : Nat) (xs : List RW) => ps.length - i) (fun (i : Nat) (A1 : Option Addr) (c1 : Nat) (xs : List RW) (w : World) => (i ≤ ps.length ∧ TB xs (prs ps qs t i 0)) ∧ St w0 noM [row 44 3 A1 xs.length c1 (xs.flatMap rwf)] w) 0 none 0 [] (Sub.cons rfl (by first | rfl | exact congrArg (Value.int _) (by omega)) (Sub.cons rfl (by first | rfl | exact congrArg (Value.int _) (by omega)) (Sub.nil _))) (Sub.cons rfl rfl (Sub.cons rfl rfl (Sub.cons rfl rfl (Sub.nil _)))) ?_ ?_
    ·
      have S80 := S0.nilrow 44 3
      exact ⟨⟨by omega, TB.nil⟩, S80⟩
    ·
      intro i A1 c1 xs w17 hrel
      obtain ⟨⟨hi, htb⟩, S17⟩ := hrel
      refine T_seq fun K32 hK32 => ?_
      refine T_seq fun K33 hK33 => ?_
      refine T_region ?_
      refine L_y (y_move rfl) rfl ?_
      refine L_y (y_move rfl) rfl ?_
      refine L_y (y_len Try.underlying36 rfl) rfl ?_
      refine L_y (y_lss rfl rfl) rfl ?_
      refine L_nil ?_
      refine hK33 _ _ ?_
      refine T_cond rfl (fun h18 => ?_) (fun h18 => ?_)
      ·
        have hpo := part_getD hok i
        have hpl := hpo.lenb
        have hps4 := hlp i (by omega)
        refine T_skip ?_
        refine hK32 _ _ ?_
        refine T_seq fun K34 hK34 => ?_
        refine T_block ?_
        refine T_seq fun K35 hK35 => ?_
        refine T_region ?_
        refine L_y (y_assign rfl) rfl ?_
        refine L_nil ?_
        refine hK35 _ _ ?_
        refine T_block ?_
        refine T_loop4 [(0, _), (1, _), (2, _), (8, _)] (fun (k : Nat) (A1 : Option Addr) (c1 : Nat) (xs : List RW) => [(7, .slice A1 xs.length c1), (9, .int .i64 (k : Int))]) (fun (k : Nat) (A1 : Option Addr) (c1 : Nat) (xs : List RW) => qs.length - k) (fun (k : Nat) (A1 : Option Addr) (c1 : Nat) (xs : List RW) (w : World) => (k ≤ qs.length ∧ TB xs (prs ps qs t i k)) ∧ St w0 noM [row 44 3 A1 xs.length c1 (xs.flatMap rwf)] w) 0 A1 c1 xs (Sub.cons rfl (by first | rfl | exact congrArg (Value.int _) (by omega)) (Sub.cons rfl (by first | rfl | exact congrArg (Value.int _) (by omega)) (Sub.nil _))) (Sub.cons rfl rfl (Sub.cons rfl rfl (Sub.cons rfl rfl (Sub.cons rfl rfl (Sub.nil _))))) ?_ ?_
        ·
          exact ⟨⟨by omega, htb⟩, S17⟩
        ·
          intro k A1 c1 xs w18 hrel
          obtain ⟨⟨hk, htb⟩, S18⟩ := hrel
          refine T_seq fun K36 hK36 => ?_
          refine T_seq fun K37 hK37 => ?_
          refine T_region ?_
          refine L_y (y_move rfl) rfl ?_
          refine L_y (y_move rfl) rfl ?_
          refine L_y (y_len Try.underlying36 rfl) rfl ?_
          refine L_y (y_lss rfl rfl) rfl ?_
          refine L_nil ?_
          refine hK37 _ _ ?_
          refine T_cond rfl (fun h24 => ?_) (fun h24 => ?_)
          ·
            have hqo := part_getD hqk k
            have hql := hqo.lenb
            have hqs4 := hlq k (by omega)
            have hsl := scf_le (ps := ps) (qs := qs) (i := i) (k := k) hpl hql
            refine T_skip ?_
            refine hK36 _ _ ?_
            refine T_seq fun K38 hK38 => ?_
            refine T_block ?_
            refine T_seq fun K39 hK39 => ?_
            refine T_tail 8 hmix (by kernel_rfl) fun w19 l19 K40 hK40 => ?_
            have S19 := S18.like l19
            refine HL_y (y_move rfl) rfl ?_
            refine HL_y (y_move rfl) rfl ?_
            refine HL_y (y_idx Try.underlying36 sz22 rfl rfl (by first | exact S19.rd hps | exact S19.rd hqs | exact S19.row 0 rfl) inferInstance (by omega)) rfl ?_
            refine HL_y (y_ldg p0 Try.underlying22 rfl rfl (by first | exact S19.rd hps | exact S19.rd hqs | exact S19.row 0 rfl) (by omega)) rfl ?_
            refine HL_y (y_move rfl) rfl ?_
            refine HL_y (y_move rfl) rfl ?_
            refine HL_y (y_idx Try.underlying36 sz22 rfl rfl (by first | exact S19.rd hps | exact S19.rd hqs | exact S19.row 0 rfl) inferInstance (by omega)) rfl ?_
            refine HL_y (y_ldg p0 Try.underlying22 rfl rfl (by first | exact S19.rd hps | exact S19.rd hqs | exact S19.row 0 rfl) (by omega)) rfl ?_
            refine HL_nil ?_
            refine hK40 _ ?_
            refine L_o (o_call Try.func9 rfl rfl (rscore _ _ _ _ _ _ (ps.getD i p0).l (qs.getD k p0).l w19 (S19.rd hpo) (S19.rd hqo) (by omega) (by omega)) rfl rfl ?_)
            rintro e20 w20 ⟨v20, rfl, l20, rfl⟩
            refine ⟨_, rfl, ?_⟩
            have S20 := S19.like l20
            refine L_y (y_assign rfl) rfl ?_
            refine L_nil ?_
            refine hK39 _ _ ?_
            refine T_seq fun K41 hK41 => ?_
            refine T_seq fun K42 hK42 => ?_
            refine T_region ?_
            refine L_y (y_move rfl) rfl ?_
            refine L_y (y_move rfl) rfl ?_
            refine L_y (y_lss rfl rfl) rfl ?_
            refine L_nil ?_
            refine hK42 _ _ ?_
            refine T_cond rfl (fun h38 => ?_) (fun h38 => ?_)
            ·
              refine T_exit ?_
              refine hK38 _ _ ?_
              refine T_region ?_
              refine L_y (y_move rfl) rfl ?_
              refine L_y (y_add rfl rfl (i64w (by omega))) rfl ?_
              refine L_y (y_assign rfl) rfl ?_
              refine L_nil ?_
              have hms := prs_miss (ps := ps) (qs := qs) (t := t) (i := i) (k := k) (by unfold scf; omega)
              refine ⟨k + 1, A1, c1, xs, by omega, ⟨⟨by omega, by rw [hms]; exact htb⟩, S20⟩, ?_⟩
              exact (Sub.cons rfl (by first | rfl | (rw [hlen]; rfl) | (rw [hlen]; congr 1; omega)) (Sub.cons rfl (by first | rfl | exact congrArg (Value.int _) (by omega)) (Sub.cons rfl rfl (Sub.cons rfl rfl (Sub.cons rfl rfl (Sub.cons rfl rfl (Sub.nil _)))))))
            ·
              refine T_skip ?_
              refine hK41 _ _ ?_
              refine T_seq fun K43 hK43 => ?_
              refine T_region ?_
              refine L_y (y_move rfl) rfl ?_
              refine L_y (y_len Try.underlying40 rfl) rfl ?_
              refine L_y (y_assign rfl) rfl ?_
              refine L_nil ?_
              refine hK43 _ _ ?_
              refine T_seq fun K44 hK44 => ?_
              refine T_block ?_
              refine T_loop1 [(0, _), (1, _), (2, _), (7, _), (8, _), (9, _), (10, _)] (fun (j : Nat) => [(11, .int .i64 (j : Int))]) (fun (j : Nat) => j) (fun (j : Nat) (w : World) => (j ≤ xs.length ∧ ∀ i2 y, j ≤ i2 → xs[i2]? = some y → y.s < (⟨i, k, scf (ps.getD i p0) (qs.getD k p0)⟩ : RW).s) ∧ St w0 noM [row 44 3 A1 xs.length c1 (xs.flatMap rwf)] w) xs.length (Sub.cons rfl (by first | rfl | exact congrArg (Value.int _) (by omega)) (Sub.nil _)) (Sub.cons rfl rfl (Sub.cons rfl rfl (Sub.cons rfl rfl (Sub.cons rfl rfl (Sub.cons rfl rfl (Sub.cons rfl rfl (Sub.cons rfl rfl (Sub.nil _)))))))) ?_ ?_
              ·
                exact ⟨⟨by omega, fun i2 y h1 hy => by have := (List.getElem?_eq_some_iff.1 hy).1; omega⟩, S20⟩
              ·
                intro j w21 hrel
                obtain ⟨⟨hj, hhi⟩, S21⟩ := hrel
                refine T_seq fun K45 hK45 => ?_
                refine T_seq fun K46 hK46 => ?_
                refine T_region ?_
                refine L_y (y_move rfl) rfl ?_
                refine L_y (y_gtr rfl rfl) rfl ?_
                refine L_y (y_move rfl) rfl ?_
                refine L_split 43 rfl (fun h43 => ?_) (fun h43 => ?_)
                ·
                  obtain ⟨y, hy⟩ : ∃ y, xs[j - 1]? = some y := ⟨_, List.getElem?_eq_getElem (by omega)⟩
                  have hpg := rw_get xs (j - 1) y hy
                  have hcp := (S21.row 0 rfl).cap
                  have hmx := (S21.row 0 rfl).max
                  refine L_gyes rfl rfl ?_
                  refine L_y (y_move rfl) rfl ?_
                  refine L_gyes rfl rfl ?_
                  refine L_y (y_move rfl) rfl ?_
                  refine L_gyes rfl rfl ?_
                  refine L_y (y_sub rfl rfl (i64w (by omega))) rfl ?_
                  refine L_gyes rfl rfl ?_
                  refine L_y (y_idx Try.underlying40 sz44 rfl rfl (S21.row 0 rfl) (Nt.mk (by omega) : Nt _ (j - 1)) (by omega)) rfl ?_
                  refine L_gyes rfl rfl ?_
                  refine L_y (y_fieldR 2 Try.underlying44 rfl sz3 rfl rfl (S21.row 0 rfl) (by omega) rfl) rfl ?_
                  refine L_gyes rfl rfl ?_
                  refine L_y (y_ldf Try.underlying3 rfl rfl (S21.row 0 rfl) (by omega) hpg.2.2) rfl ?_
                  refine L_gyes rfl rfl ?_
                  refine L_y (y_move rfl) rfl ?_
                  refine L_gyes rfl rfl ?_
                  refine L_y (y_lss rfl rfl) rfl ?_
                  refine L_y ((by first | exact y_pickT rfl rfl | exact y_pickF rfl rfl)) rfl ?_
                  refine L_nil ?_
                  refine hK46 _ _ ?_
                  refine T_cond rfl (fun h52 => ?_) (fun h52 => ?_)
                  ·
                    refine T_skip ?_
                    refine hK45 _ _ ?_
                    refine T_block ?_
                    refine T_region ?_
                    refine L_y (y_move rfl) rfl ?_
                    refine L_y (y_sub rfl rfl (i64w (by omega))) rfl ?_
                    refine L_y (y_assign rfl) rfl ?_
                    refine L_nil ?_
                    refine ⟨j - 1, by omega, ⟨⟨by omega, fun i2 z h1 hz => by rcases Nat.lt_or_ge i2 j with h2 | h2; (have e : i2 = j - 1 := by omega); subst e; rw [hy] at hz; cases hz; (show y.s < scf (ps.getD i p0) (qs.getD k p0)); unfold scf; omega; exact hhi i2 z h2 hz⟩, S21⟩, ?_⟩
                    exact (Sub.cons rfl (by first | rfl | exact congrArg (Value.int _) (by omega)) (Sub.cons rfl rfl (Sub.cons rfl rfl (Sub.cons rfl rfl (Sub.cons rfl rfl (Sub.cons rfl rfl (Sub.cons rfl rfl (Sub.cons rfl rfl (Sub.nil _)))))))))
                  ·
                    refine T_exit ?_
                    refine hK44 _ _ ?_
                    refine T_seq fun K47 hK47 => ?_
                    refine T_region ?_
                    have S23 := S21.nilrow 44 3
                    refine L_y (y_assign rfl) rfl ?_
                    refine L_nil ?_
                    refine hK47 _ _ ?_
                    refine T_seq fun K48 hK48 => ?_
                    have hcp := (S23.row 0 rfl).cap
                    have hxl := htb.1.length_eq
                    have hpn := prs_len (ps := ps) (qs := qs) (t := t) (i := i) (k := k) (by omega) (by omega) (by omega)
                    have hlow : ∀ z, 0 < j → xs[j - 1]? = some z → ¬ z.s < (⟨i, k, scf (ps.getD i p0) (qs.getD k p0)⟩ : RW).s := fun z _ hz => by rw [hy] at hz; cases hz; show ¬ y.s < scf (ps.getD i p0) (qs.getD k p0); unfold scf; omega
                    refine T_region ?_
                    refine L_y (y_move rfl) rfl ?_
                    refine L_y (y_move rfl) rfl ?_
                    refine L_y (y_move rfl) rfl ?_
                    refine L_y (y_sliceH Try.underlying40 sz44 rfl rfl inferInstance (by omega)) rfl ?_
                    refine L_o (o_app te40 S23 1 rfl rfl rfl ((S23.row 0 rfl).cut (l := 0) (u := j) (Nat.zero_le _) (by omega)) (fun u hu => rw_one _ _ (List.mem_of_mem_drop (List.mem_of_mem_take hu))) rfl (by omega) (by omega) fun A24 c24 w24 S24 => ?_)
                    refine L_y (y_assign rfl) rfl ?_
                    refine L_nil ?_
                    refine hK48 _ _ ?_
                    refine T_seq fun K49 hK49 => ?_
                    refine T_region ?_
                    refine L_y (y_move rfl) rfl ?_
                    refine L_y (y_move rfl) rfl ?_
                    refine L_y (y_move rfl) rfl ?_
                    refine L_y (y_move rfl) rfl ?_
                    refine L_y (y_build rfl (show _ = some #[Value.int .i64 (i : Int), Value.int .i64 (k : Int), Value.int .i64 (scf (ps.getD i p0) (qs.getD k p0) : Int)] by kernel_rfl)) rfl ?_
                    refine L_o (o_bsl [_, _, _] te40 zz44 S24 rfl rfl rfl rfl rfl rfl rfl rfl fun b25 w25 S25 => ?_)
                    refine L_o (o_app te40 S25 1 rfl rfl rfl (by first | exact S25.rd hps | exact S25.rd hqs | exact S25.row 0 rfl | exact S25.row 1 rfl | exact S25.row 2 rfl) (fun u hu => rw_one [⟨i, k, scf (ps.getD i p0) (qs.getD k p0)⟩] u hu) rfl (by omega) (by omega) fun A26 c26 w26 S26 => ?_)
                    have S26d := S26.drop (rs' := [_, _]) (.cons_cons _ (.cons_cons _ (.cons _ (.refl _))))
                    refine L_y (y_assign rfl) rfl ?_
                    refine L_nil ?_
                    refine hK49 _ _ ?_
                    refine T_region ?_
                    refine L_y (y_move rfl) rfl ?_
                    refine L_y (y_move rfl) rfl ?_
                    refine L_y (y_move rfl) rfl ?_
                    refine L_y (y_sliceL Try.underlying40 sz44 rfl rfl inferInstance (by omega)) rfl ?_
                    refine L_o (o_app te40 S26d 1 rfl rfl rfl ((S26d.row 0 rfl).cut (l := j) (u := xs.length) (by omega) (Nat.le_refl _)) (fun u hu => rw_one _ _ (List.mem_of_mem_drop (List.mem_of_mem_take hu))) rfl (by omega) (by omega) fun A27 c27 w27 S27 => ?_)
                    refine L_y (y_assign rfl) rfl ?_
                    refine L_nil ?_
                    refine hK38 _ _ ?_
                    refine T_region ?_
                    refine L_y (y_move rfl) rfl ?_
                    refine L_y (y_add rfl rfl (i64w (by omega))) rfl ?_
                    refine L_y (y_assign rfl) rfl ?_
                    refine L_nil ?_
                    have hms := prs_hit (ps := ps) (qs := qs) (t := t) (i := i) (k := k) (by unfold scf; omega)
                    have htb2 := htb.ins hj hlow hhi (fun y hy => prs_mem hy)
                    have hlen : (xs.take j ++ [(⟨i, k, scf (ps.getD i p0) (qs.getD k p0)⟩ : RW)] ++ xs.drop j : List RW).length = xs.length + 1 := by simp; omega
                    have S9 := S27.rowc 1 rfl (n' := (xs.take j ++ [(⟨i, k, scf (ps.getD i p0) (qs.getD k p0)⟩ : RW)] ++ xs.drop j : List RW).length) (xs' := (xs.take j ++ [(⟨i, k, scf (ps.getD i p0) (qs.getD k p0)⟩ : RW)] ++ xs.drop j : List RW).flatMap rwf) (by rw [hlen]; omega) (rw_ins xs j _ _ _ _ (by omega) rfl)
                    have S10 := S9.drop (.cons _ (.refl _))
                    refine ⟨k + 1, _, _, (xs.take j ++ [(⟨i, k, scf (ps.getD i p0) (qs.getD k p0)⟩ : RW)] ++ xs.drop j : List RW), by omega, ⟨⟨by omega, by rw [hms]; exact htb2⟩, S10⟩, ?_⟩
                    exact (Sub.cons rfl (by first | rfl | (rw [hlen]; rfl) | (rw [hlen]; congr 1; omega)) (Sub.cons rfl (by first | rfl | exact congrArg (Value.int _) (by omega)) (Sub.cons rfl rfl (Sub.cons rfl rfl (Sub.cons rfl rfl (Sub.cons rfl rfl (Sub.nil _)))))))
                ·
                  refine L_gno rfl rfl rfl ?_
                  refine L_gno rfl rfl rfl ?_
                  refine L_gno rfl rfl rfl ?_
                  refine L_gno rfl rfl rfl ?_
                  refine L_gno rfl rfl rfl ?_
                  refine L_gno rfl rfl rfl ?_
                  refine L_gno rfl rfl rfl ?_
                  refine L_gno rfl rfl rfl ?_
                  refine L_y ((by first | exact y_pickT rfl rfl | exact y_pickF rfl rfl)) rfl ?_
                  refine L_nil ?_
                  refine hK46 _ _ ?_
                  refine T_false rfl ?_
                  refine T_exit ?_
                  refine hK44 _ _ ?_
                  refine T_seq fun K50 hK50 => ?_
                  refine T_region ?_
                  have S28 := S21.nilrow 44 3
                  refine L_y (y_assign rfl) rfl ?_
                  refine L_nil ?_
                  refine hK50 _ _ ?_
                  refine T_seq fun K51 hK51 => ?_
                  have hcp := (S28.row 0 rfl).cap
                  have hxl := htb.1.length_eq
                  have hpn := prs_len (ps := ps) (qs := qs) (t := t) (i := i) (k := k) (by omega) (by omega) (by omega)
                  have hlow : ∀ z, 0 < j → xs[j - 1]? = some z → ¬ z.s < (⟨i, k, scf (ps.getD i p0) (qs.getD k p0)⟩ : RW).s := fun z h0 _ => by omega
                  refine T_region ?_
                  refine L_y (y_move rfl) rfl ?_
                  refine L_y (y_move rfl) rfl ?_
                  refine L_y (y_move rfl) rfl ?_
                  refine L_y (y_sliceH Try.underlying40 sz44 rfl rfl inferInstance (by omega)) rfl ?_
                  refine L_o (o_app te40 S28 1 rfl rfl rfl ((S28.row 0 rfl).cut (l := 0) (u := j) (Nat.zero_le _) (by omega)) (fun u hu => rw_one _ _ (List.mem_of_mem_drop (List.mem_of_mem_take hu))) rfl (by omega) (by omega) fun A29 c29 w29 S29 => ?_)
                  refine L_y (y_assign rfl) rfl ?_
                  refine L_nil ?_
                  refine hK51 _ _ ?_
                  refine T_seq fun K52 hK52 => ?_
                  refine T_region ?_
                  refine L_y (y_move rfl) rfl ?_
                  refine L_y (y_move rfl) rfl ?_
                  refine L_y (y_move rfl) rfl ?_
                  refine L_y (y_move rfl) rfl ?_
                  refine L_y (y_build rfl (show _ = some #[Value.int .i64 (i : Int), Value.int .i64 (k : Int), Value.int .i64 (scf (ps.getD i p0) (qs.getD k p0) : Int)] by kernel_rfl)) rfl ?_
                  refine L_o (o_bsl [_, _, _] te40 zz44 S29 rfl rfl rfl rfl rfl rfl rfl rfl fun b30 w30 S30 => ?_)
                  refine L_o (o_app te40 S30 1 rfl rfl rfl (by first | exact S30.rd hps | exact S30.rd hqs | exact S30.row 0 rfl | exact S30.row 1 rfl | exact S30.row 2 rfl) (fun u hu => rw_one [⟨i, k, scf (ps.getD i p0) (qs.getD k p0)⟩] u hu) rfl (by omega) (by omega) fun A31 c31 w31 S31 => ?_)
                  have S31d := S31.drop (rs' := [_, _]) (.cons_cons _ (.cons_cons _ (.cons _ (.refl _))))
                  refine L_y (y_assign rfl) rfl ?_
                  refine L_nil ?_
                  refine hK52 _ _ ?_
                  refine T_region ?_
                  refine L_y (y_move rfl) rfl ?_
                  refine L_y (y_move rfl) rfl ?_
                  refine L_y (y_move rfl) rfl ?_
                  refine L_y (y_sliceL Try.underlying40 sz44 rfl rfl inferInstance (by omega)) rfl ?_
                  refine L_o (o_app te40 S31d 1 rfl rfl rfl ((S31d.row 0 rfl).cut (l := j) (u := xs.length) (by omega) (Nat.le_refl _)) (fun u hu => rw_one _ _ (List.mem_of_mem_drop (List.mem_of_mem_take hu))) rfl (by omega) (by omega) fun A32 c32 w32 S32 => ?_)
                  refine L_y (y_assign rfl) rfl ?_
                  refine L_nil ?_
                  refine hK38 _ _ ?_
                  refine T_region ?_
                  refine L_y (y_move rfl) rfl ?_
                  refine L_y (y_add rfl rfl (i64w (by omega))) rfl ?_
                  refine L_y (y_assign rfl) rfl ?_
                  refine L_nil ?_
                  have hms := prs_hit (ps := ps) (qs := qs) (t := t) (i := i) (k := k) (by unfold scf; omega)
                  have htb2 := htb.ins hj hlow hhi (fun y hy => prs_mem hy)
                  have hlen : (xs.take j ++ [(⟨i, k, scf (ps.getD i p0) (qs.getD k p0)⟩ : RW)] ++ xs.drop j : List RW).length = xs.length + 1 := by simp; omega
                  have S9 := S32.rowc 1 rfl (n' := (xs.take j ++ [(⟨i, k, scf (ps.getD i p0) (qs.getD k p0)⟩ : RW)] ++ xs.drop j : List RW).length) (xs' := (xs.take j ++ [(⟨i, k, scf (ps.getD i p0) (qs.getD k p0)⟩ : RW)] ++ xs.drop j : List RW).flatMap rwf) (by rw [hlen]; omega) (rw_ins xs j _ _ _ _ (by omega) rfl)
                  have S10 := S9.drop (.cons _ (.refl _))
                  refine ⟨k + 1, _, _, (xs.take j ++ [(⟨i, k, scf (ps.getD i p0) (qs.getD k p0)⟩ : RW)] ++ xs.drop j : List RW), by omega, ⟨⟨by omega, by rw [hms]; exact htb2⟩, S10⟩, ?_⟩
                  exact (Sub.cons rfl (by first | rfl | (rw [hlen]; rfl) | (rw [hlen]; congr 1; omega)) (Sub.cons rfl (by first | rfl | exact congrArg (Value.int _) (by omega)) (Sub.cons rfl rfl (Sub.cons rfl rfl (Sub.cons rfl rfl (Sub.cons rfl rfl (Sub.nil _)))))))
          ·
            refine T_exit ?_
            refine hK34 _ _ ?_
            refine T_region ?_
            refine L_y (y_move rfl) rfl ?_
            refine L_y (y_add rfl rfl (i64w (by omega))) rfl ?_
            refine L_y (y_assign rfl) rfl ?_
            refine L_nil ?_
            have hkq : k = qs.length := by omega
            subst hkq
            refine ⟨i + 1, A1, c1, xs, by omega, ⟨⟨by omega, by rw [prs_next]; exact htb⟩, S18⟩, ?_⟩
            exact (Sub.cons rfl (by first | rfl | exact congrArg (Value.int _) (by omega)) (Sub.cons rfl (by first | rfl | exact congrArg (Value.int _) (by omega)) (Sub.cons rfl rfl (Sub.cons rfl rfl (Sub.cons rfl rfl (Sub.nil _))))))
      ·
        refine T_exit ?_
        refine hK30 _ _ ?_
        refine T_seq fun K53 hK53 => ?_
        refine T_region ?_
        refine L_y (y_move rfl) rfl ?_
        refine L_y (y_assign rfl) rfl ?_
        refine L_nil ?_
        refine hK53 _ _ ?_
        refine T_ret ?_
        repeat (first | with_reducible refine up_then ?_ | with_reducible refine up_in ?_)
        refine ret1 rfl rfl ?_
        have hie : i = ps.length := by omega
        exact ⟨_, rfl, S17.like0, _, _, _, xs, rfl, by exact S17.own 0 rfl, by rw [← hie]; exact htb⟩
end Go.Proofs.Ytaknmlajhedfhaa


/-
  The law AlikeTables.
-/
namespace Go.Proofs.Ytaknmlajhedfhaa
open Go.RowKit Zk Zx
set_option linter.unusedVariables false
set_option linter.unusedSimpArgs false

set_option maxRecDepth 100000 in
theorem longs (A : Option Addr) (n ca : Nat) (ps : List Part) (w0 : World) (hps : Rs w0 1 A n ca (ps.map pv)) (hok : ∀ p ∈ ps, p.ok w0) :
    Calls Try.prog 15 #[.slice A n ca] w0 fun e w' => ∃ u, e = .returned u ∧ Like w0 w' ∧ ∃ b, u = .bool b ∧ (b = false → ∀ i, i < ps.length → (ps.getD i p0).n ≤ 400) := by
  refine enter1 (env := [(0, .slice A n ca)]) [.slice A n ca] Try.func15 rfl Try.ntmps15 rfl rfl ?_
  have hnl : ps.length = n := by have := hps.len; simpa using this
  have hcap := hps.cap
  have hmx := hps.max
  subst hnl; have S0 := St.start w0 noM
  refine T_seq fun K1 hK1 => ?_
  refine T_region ?_
  refine L_y (y_assign rfl) rfl ?_
  refine L_nil ?_
  refine hK1 _ _ ?_
  refine T_seq fun K2 hK2 => ?_
  refine T_seq fun K3 hK3 => ?_
  refine T_region ?_
  refine L_y (y_assign rfl) rfl ?_
  refine L_nil ?_
  refine hK3 _ _ ?_
  refine T_block ?_
  refine T_loop1 [(0, _)] (fun (k : Nat) => [(3, .int .i64 (k : Int))]) (fun (k : Nat) => ps.length - k) (fun (k : Nat) (w : World) => (k ≤ ps.length ∧ ∀ i, i < k → (ps.getD i p0).n ≤ 400) ∧ St w0 noM [] w) 0 (Sub.cons rfl (by first | rfl | exact congrArg (Value.int _) (by omega)) (Sub.nil _)) (Sub.cons rfl rfl (Sub.nil _)) ?_ ?_
  ·
    exact ⟨⟨by omega, fun i hi => by omega⟩, S0⟩
  ·
    intro k w1 hrel
    obtain ⟨⟨hk, hlow⟩, S1⟩ := hrel
    refine T_seq fun K4 hK4 => ?_
    refine T_seq fun K5 hK5 => ?_
    refine T_region ?_
    refine L_y (y_move rfl) rfl ?_
    refine L_y (y_move rfl) rfl ?_
    refine L_y (y_len Try.underlying36 rfl) rfl ?_
    refine L_y (y_lss rfl rfl) rfl ?_
    refine L_nil ?_
    refine hK5 _ _ ?_
    refine T_cond rfl (fun h7 => ?_) (fun h7 => ?_)
    ·
      refine T_skip ?_
      refine hK4 _ _ ?_
      refine T_seq fun K6 hK6 => ?_
      refine T_block ?_
      refine T_seq fun K7 hK7 => ?_
      refine T_region ?_
      refine L_y (y_move rfl) rfl ?_
      refine L_y (y_move rfl) rfl ?_
      refine L_y (y_idx Try.underlying36 sz22 rfl rfl (by first | exact S1.rd hps) inferInstance (by omega)) rfl ?_
      refine L_y (y_ldg p0 Try.underlying22 rfl rfl (by first | exact S1.rd hps) (by omega)) rfl ?_
      refine L_y (y_len Try.underlying22 rfl) rfl ?_
      refine L_y (y_gtr rfl rfl) rfl ?_
      refine L_nil ?_
      refine hK7 _ _ ?_
      refine T_cond rfl (fun h15 => ?_) (fun h15 => ?_)
      ·
        refine T_seq fun K8 hK8 => ?_
        refine T_region ?_
        refine L_y (y_assign rfl) rfl ?_
        refine L_nil ?_
        refine hK8 _ _ ?_
        refine T_ret ?_
        repeat (first | with_reducible refine up_then ?_ | with_reducible refine up_in ?_)
        refine ret1 rfl rfl ?_
        first | exact ⟨_, rfl, S1.like0, _, rfl, fun h => Bool.noConfusion h⟩ | exact ⟨_, rfl, S1.like0, _, rfl, fun _ i hi => hlow i (by omega)⟩
      ·
        refine T_skip ?_
        refine hK6 _ _ ?_
        refine T_region ?_
        refine L_y (y_move rfl) rfl ?_
        refine L_y (y_add rfl rfl (i64w (by omega))) rfl ?_
        refine L_y (y_assign rfl) rfl ?_
        refine L_nil ?_
        refine ⟨k + 1, by omega, ⟨⟨by omega, fun i hi => by rcases Nat.lt_or_eq_of_le (Nat.le_of_lt_succ hi) with h | h; exact hlow i h; subst h; omega⟩, S1⟩, ?_⟩
        exact (Sub.cons rfl (by first | rfl | exact congrArg (Value.int _) (by omega)) (Sub.cons rfl rfl (Sub.nil _)))
    ·
      refine T_exit ?_
      refine hK2 _ _ ?_
      refine T_seq fun K9 hK9 => ?_
      refine T_region ?_
      refine L_y (y_assign rfl) rfl ?_
      refine L_nil ?_
      refine hK9 _ _ ?_
      refine T_ret ?_
      repeat (first | with_reducible refine up_then ?_ | with_reducible refine up_in ?_)
      refine ret1 rfl rfl ?_
      first | exact ⟨_, rfl, S1.like0, _, rfl, fun h => Bool.noConfusion h⟩ | exact ⟨_, rfl, S1.like0, _, rfl, fun _ i hi => hlow i (by omega)⟩


set_option maxRecDepth 100000 in
theorem tables (A B : Option Addr) (n ca m cb : Nat) (ps qs : List Part) (t0 : Int) (w0 : World) (hps : Rs w0 1 A n ca (ps.map pv)) (hok : ∀ p ∈ ps, p.ok w0) (hqs : Rs w0 1 B m cb (qs.map pv)) (hqk : ∀ p ∈ qs, p.ok w0) :
    Calls Try.prog 6 #[.slice A n ca, .slice B m cb, .int .i64 t0] w0 fun e w' => ∃ u, e = .returned u ∧ Like w0 w' ∧ u = .bool true := by
  refine enter1 (env := [(0, .slice A n ca), (1, .slice B m cb), (2, .int .i64 t0)]) [.slice A n ca, .slice B m cb, .int .i64 t0] Try.func6 rfl Try.ntmps6 rfl rfl ?_
  have S0 := St.start w0 noM
  refine T_seq fun K1 hK1 => ?_
  refine T_region ?_
  refine L_y (y_assign rfl) rfl ?_
  refine L_nil ?_
  refine hK1 _ _ ?_
  refine T_seq fun K2 hK2 => ?_
  refine T_seq fun K3 hK3 => ?_
  refine T_region ?_
  refine L_y (y_move rfl) rfl ?_
  refine L_y (y_len Try.underlying36 rfl) rfl ?_
  refine L_y (y_gtr rfl rfl) rfl ?_
  refine L_y (y_move rfl) rfl ?_
  refine L_split 13 rfl (fun h13 => ?_) (fun h13 => ?_)
  ·
    refine L_gno rfl rfl rfl ?_
    refine L_gno rfl rfl rfl ?_
    refine L_gno rfl rfl rfl ?_
    refine L_y ((by first | exact y_pickT rfl rfl | exact y_pickF rfl rfl)) rfl ?_
    refine L_y (y_move rfl) rfl ?_
    refine L_gno rfl rfl rfl ?_
    refine L_gno rfl rfl rfl ?_
    refine L_y ((by first | exact y_pickT rfl rfl | exact y_pickF rfl rfl)) rfl ?_
    refine L_y (y_move rfl) rfl ?_
    refine L_gno rfl rfl rfl ?_
    refine L_gno rfl rfl rfl ?_
    refine L_y ((by first | exact y_pickT rfl rfl | exact y_pickF rfl rfl)) rfl ?_
    refine L_nil ?_
    refine hK3 _ _ ?_
    refine T_true rfl ?_
    refine T_seq fun K4 hK4 => ?_
    refine T_region ?_
    refine L_o (o_call Try.func7 rfl rfl (works w0) rfl rfl ?_)
    rintro e2 w2 ⟨v2, rfl, l2, rfl⟩
    refine ⟨_, rfl, ?_⟩
    have S2 := S0.like l2
    refine L_y (y_assign rfl) rfl ?_
    refine L_nil ?_
    refine hK4 _ _ ?_
    refine T_ret ?_
    repeat (first | with_reducible refine up_then ?_ | with_reducible refine up_in ?_)
    refine ret1 rfl rfl ?_
    exact ⟨_, rfl, S2.like0, rfl⟩
  ·
    refine L_gyes rfl rfl ?_
    refine L_y (y_move rfl) rfl ?_
    refine L_gyes rfl rfl ?_
    refine L_y (y_len Try.underlying36 rfl) rfl ?_
    refine L_gyes rfl rfl ?_
    refine L_y (y_gtr rfl rfl) rfl ?_
    refine L_y ((by first | exact y_pickT rfl rfl | exact y_pickF rfl rfl)) rfl ?_
    refine L_y (y_move rfl) rfl ?_
    refine L_split 18 rfl (fun h18 => ?_) (fun h18 => ?_)
    ·
      refine L_gno rfl rfl rfl ?_
      refine L_gno rfl rfl rfl ?_
      refine L_y ((by first | exact y_pickT rfl rfl | exact y_pickF rfl rfl)) rfl ?_
      refine L_y (y_move rfl) rfl ?_
      refine L_gno rfl rfl rfl ?_
      refine L_gno rfl rfl rfl ?_
      refine L_y ((by first | exact y_pickT rfl rfl | exact y_pickF rfl rfl)) rfl ?_
      refine L_nil ?_
      refine hK3 _ _ ?_
      refine T_true rfl ?_
      refine T_seq fun K5 hK5 => ?_
      refine T_region ?_
      refine L_o (o_call Try.func7 rfl rfl (works w0) rfl rfl ?_)
      rintro e4 w4 ⟨v4, rfl, l4, rfl⟩
      refine ⟨_, rfl, ?_⟩
      have S4 := S0.like l4
      refine L_y (y_assign rfl) rfl ?_
      refine L_nil ?_
      refine hK5 _ _ ?_
      refine T_ret ?_
      repeat (first | with_reducible refine up_then ?_ | with_reducible refine up_in ?_)
      refine ret1 rfl rfl ?_
      exact ⟨_, rfl, S4.like0, rfl⟩
    ·
      refine L_gyes rfl rfl ?_
      refine L_y (y_move rfl) rfl ?_
      refine L_gyes rfl rfl ?_
      refine L_o (o_call Try.func15 rfl rfl (longs A _ ca ps w0 (S0.rd hps) (fun p hp => S0.rd (hok p hp))) rfl rfl ?_)
      rintro e5 w5 ⟨v5, rfl, l5, b5, rfl, hl3⟩
      refine ⟨_, rfl, ?_⟩
      have S5 := S0.like l5
      refine L_y ((by first | exact y_pickT rfl rfl | exact y_pickF rfl rfl)) rfl ?_
      refine L_y (y_move rfl) rfl ?_
      refine L_splitB 22 rfl (fun h22 => ?_) (fun h22 => ?_)
      ·
        refine L_gno rfl rfl rfl ?_
        refine L_gno rfl rfl rfl ?_
        refine L_y ((by first | exact y_pickT rfl rfl | exact y_pickF rfl rfl)) rfl ?_
        refine L_nil ?_
        refine hK3 _ _ ?_
        refine T_true rfl ?_
        refine T_seq fun K6 hK6 => ?_
        refine T_region ?_
        refine L_o (o_call Try.func7 rfl rfl (works w5) rfl rfl ?_)
        rintro e7 w7 ⟨v7, rfl, l7, rfl⟩
        refine ⟨_, rfl, ?_⟩
        have S7 := S5.like l7
        refine L_y (y_assign rfl) rfl ?_
        refine L_nil ?_
        refine hK6 _ _ ?_
        refine T_ret ?_
        repeat (first | with_reducible refine up_then ?_ | with_reducible refine up_in ?_)
        refine ret1 rfl rfl ?_
        exact ⟨_, rfl, S7.like0, rfl⟩
      ·
        refine L_gyes rfl rfl ?_
        refine L_y (y_move rfl) rfl ?_
        refine L_gyes rfl rfl ?_
        refine L_o (o_call Try.func15 rfl rfl (longs B _ cb qs w5 (S5.rd hqs) (fun p hp => S5.rd (hqk p hp))) rfl rfl ?_)
        rintro e8 w8 ⟨v8, rfl, l8, b8, rfl, hl4⟩
        refine ⟨_, rfl, ?_⟩
        have S8 := S5.like l8
        refine L_y ((by first | exact y_pickT rfl rfl | exact y_pickF rfl rfl)) rfl ?_
        refine L_nil ?_
        refine hK3 _ _ ?_
        refine T_condB rfl (fun h25 => ?_) (fun h25 => ?_)
        ·
          refine T_seq fun K7 hK7 => ?_
          refine T_region ?_
          refine L_o (o_call Try.func7 rfl rfl (works w8) rfl rfl ?_)
          rintro e9 w9 ⟨v9, rfl, l9, rfl⟩
          refine ⟨_, rfl, ?_⟩
          have S9 := S8.like l9
          refine L_y (y_assign rfl) rfl ?_
          refine L_nil ?_
          refine hK7 _ _ ?_
          refine T_ret ?_
          repeat (first | with_reducible refine up_then ?_ | with_reducible refine up_in ?_)
          refine ret1 rfl rfl ?_
          exact ⟨_, rfl, S9.like0, rfl⟩
        ·
          refine T_skip ?_
          refine hK2 _ _ ?_
          refine T_seq fun K8 hK8 => ?_
          refine T_region ?_
          refine L_y (y_move rfl) rfl ?_
          refine L_y (y_move rfl) rfl ?_
          refine L_y (y_move rfl) rfl ?_
          refine L_o (o_call Try.func16 rfl rfl (table A B _ ca _ cb ps qs t0 (max t0 1) w8 (S8.rd hps) (fun p hp => S8.rd (hok p hp)) (S8.rd hqs) (fun p hp => S8.rd (hqk p hp)) (by omega) (by omega) (hl3 h22) (hl4 h25) rfl) rfl rfl ?_)
          rintro e10 w10 ⟨v10, rfl, l10, AX, mX, cX, xs, rfl, O10, hps1⟩
          refine ⟨_, rfl, ?_⟩
          have S10 := S8.adopt l10 O10
          have hxn : mX = xs.length := by have := (S10.row 0 rfl).len; rw [rw_len] at this; omega
          refine L_y (y_assign rfl) rfl ?_
          refine L_nil ?_
          refine hK8 _ _ ?_
          refine T_seq fun K9 hK9 => ?_
          refine T_region ?_
          refine L_y (y_move rfl) rfl ?_
          refine L_y (y_move rfl) rfl ?_
          refine L_y (y_move rfl) rfl ?_
          refine L_o (o_call Try.func17 rfl rfl (rtable A B _ ca _ cb ps qs t0 (max t0 1) w10 (S10.rd hps) (fun p hp => S10.rd (hok p hp)) (S10.rd hqs) (fun p hp => S10.rd (hqk p hp)) (by omega) (by omega) (hl3 h22) (hl4 h25) rfl) rfl rfl ?_)
          rintro e11 w11 ⟨v11, rfl, l11, AY, mY, cY, ys, rfl, O11, hps2⟩
          refine ⟨_, rfl, ?_⟩
          have S11 := S10.adopt l11 O11
          have hxy := TB.eq hps1 hps2
          subst hxy
          have hyn : mY = xs.length := by have := (S11.row 1 rfl).len; rw [rw_len] at this; omega
          have hcx := (S11.row 0 rfl).cap
          have hmx := (S11.row 0 rfl).max
          refine L_y (y_assign rfl) rfl ?_
          refine L_nil ?_
          refine hK9 _ _ ?_
          refine T_seq fun K10 hK10 => ?_
          refine T_seq fun K11 hK11 => ?_
          refine T_region ?_
          refine L_y (y_move rfl) rfl ?_
          refine L_y (y_len Try.underlying38 rfl) rfl ?_
          refine L_y (y_move rfl) rfl ?_
          refine L_y (y_len Try.underlying40 rfl) rfl ?_
          refine L_y (y_neq rfl rfl) rfl ?_
          refine L_nil ?_
          refine hK11 _ _ ?_
          refine T_cond rfl (fun h39 => ?_) (fun h39 => ?_)
          ·
            exact absurd h39 (by omega)
          ·
            refine T_skip ?_
            refine hK10 _ _ ?_
            refine T_seq fun K12 hK12 => ?_
            refine T_seq fun K13 hK13 => ?_
            refine T_region ?_
            refine L_y (y_assign rfl) rfl ?_
            refine L_nil ?_
            refine hK13 _ _ ?_
            refine T_block ?_
            refine T_loop1 [(7, _), (8, _)] (fun (k : Nat) => [(9, .int .i64 (k : Int))]) (fun (k : Nat) => mX - k) (fun (k : Nat) (w : World) => k ≤ mX ∧ St w0 noM [row 43 3 AX mX cX (xs.flatMap rwf), row 44 3 AY mY cY (xs.flatMap rwf)] w) 0 (Sub.cons rfl (by first | rfl | exact congrArg (Value.int _) (by omega)) (Sub.nil _)) (Sub.cons rfl rfl (Sub.cons rfl rfl (Sub.nil _))) ?_ ?_
            ·
              exact ⟨Nat.zero_le _, S11⟩
            ·
              intro k w12 hrel
              obtain ⟨hk, S12⟩ := hrel
              refine T_seq fun K14 hK14 => ?_
              refine T_seq fun K15 hK15 => ?_
              refine T_region ?_
              refine L_y (y_move rfl) rfl ?_
              refine L_y (y_move rfl) rfl ?_
              refine L_y (y_len Try.underlying38 rfl) rfl ?_
              refine L_y (y_lss rfl rfl) rfl ?_
              refine L_nil ?_
              refine hK15 _ _ ?_
              refine T_cond rfl (fun h43 => ?_) (fun h43 => ?_)
              ·
                obtain ⟨x, hx⟩ : ∃ x, xs[k]? = some x := ⟨_, List.getElem?_eq_getElem (by omega)⟩
                have hpg := rw_get xs k x hx
                refine T_skip ?_
                refine hK14 _ _ ?_
                refine T_seq fun K16 hK16 => ?_
                refine T_block ?_
                refine T_seq fun K17 hK17 => ?_
                refine T_drawnL [(0, true), (1, true), (2, true), (3, true), (4, true), (5, true), (6, true), (7, true), (8, true), (9, true), (10, true), (11, true), (12, true), (13, true), (14, true), (15, true), (16, true), (17, true), (18, true), (19, true), (20, true), (21, true), (22, true), (23, true), (24, true), (25, true), (26, true), (27, true), (28, true), (29, true), (30, true), (31, true), (32, true), (33, true), (34, true), (35, true), (36, true)] hmix (by kernel_rfl) fun w13 l13 => ?_
                have S13 := S12.like l13
                refine DL_y rfl (y_move rfl) rfl ?_
                refine DL_y rfl (y_move rfl) rfl ?_
                refine DL_y rfl (y_idx Try.underlying38 sz43 rfl rfl (S13.row 0 rfl) inferInstance (by omega)) rfl ?_
                refine DL_y rfl (y_fieldR 0 Try.underlying43 rfl sz3 rfl rfl (S13.row 0 rfl) (by omega) rfl) rfl ?_
                refine DL_y rfl (y_ldf Try.underlying3 rfl rfl (S13.row 0 rfl) (by omega) hpg.1) rfl ?_
                refine DL_y rfl (y_move rfl) rfl ?_
                refine DL_y rfl (y_move rfl) rfl ?_
                refine DL_y rfl (y_idx Try.underlying40 sz44 rfl rfl (S13.row 1 rfl) inferInstance (by omega)) rfl ?_
                refine DL_y rfl (y_fieldR 0 Try.underlying44 rfl sz3 rfl rfl (S13.row 1 rfl) (by omega) rfl) rfl ?_
                refine DL_y rfl (y_ldf Try.underlying3 rfl rfl (S13.row 1 rfl) (by omega) hpg.1) rfl ?_
                refine DL_y rfl (y_neq rfl rfl) rfl ?_
                refine DL_y rfl (y_move rfl) rfl ?_
                refine DL_split 57 rfl (fun h57 => ?_) (fun h57 => ?_)
                ·
                  exact absurd rfl h57
                ·
                  refine DL_gyes rfl rfl rfl (y_move rfl) rfl ?_
                  refine DL_gyes rfl rfl rfl (y_move rfl) rfl ?_
                  refine DL_gyes rfl rfl rfl (y_idx Try.underlying38 sz43 rfl rfl (S13.row 0 rfl) inferInstance (by omega)) rfl ?_
                  refine DL_gyes rfl rfl rfl (y_fieldR 1 Try.underlying43 rfl sz3 rfl rfl (S13.row 0 rfl) (by omega) rfl) rfl ?_
                  refine DL_gyes rfl rfl rfl (y_ldf Try.underlying3 rfl rfl (S13.row 0 rfl) (by omega) hpg.2.1) rfl ?_
                  refine DL_gyes rfl rfl rfl (y_move rfl) rfl ?_
                  refine DL_gyes rfl rfl rfl (y_move rfl) rfl ?_
                  refine DL_gyes rfl rfl rfl (y_idx Try.underlying40 sz44 rfl rfl (S13.row 1 rfl) inferInstance (by omega)) rfl ?_
                  refine DL_gyes rfl rfl rfl (y_fieldR 1 Try.underlying44 rfl sz3 rfl rfl (S13.row 1 rfl) (by omega) rfl) rfl ?_
                  refine DL_gyes rfl rfl rfl (y_ldf Try.underlying3 rfl rfl (S13.row 1 rfl) (by omega) hpg.2.1) rfl ?_
                  refine DL_gyes rfl rfl rfl (y_neq rfl rfl) rfl ?_
                  refine DL_y rfl ((by first | exact y_pickT rfl rfl | exact y_pickF rfl rfl)) rfl ?_
                  refine DL_y rfl (y_move rfl) rfl ?_
                  refine DL_split 70 rfl (fun h70 => ?_) (fun h70 => ?_)
                  ·
                    exact absurd rfl h70
                  ·
                    refine DL_gyes rfl rfl rfl (y_move rfl) rfl ?_
                    refine DL_gyes rfl rfl rfl (y_move rfl) rfl ?_
                    refine DL_gyes rfl rfl rfl (y_idx Try.underlying38 sz43 rfl rfl (S13.row 0 rfl) inferInstance (by omega)) rfl ?_
                    refine DL_gyes rfl rfl rfl (y_fieldR 2 Try.underlying43 rfl sz3 rfl rfl (S13.row 0 rfl) (by omega) rfl) rfl ?_
                    refine DL_gyes rfl rfl rfl (y_ldf Try.underlying3 rfl rfl (S13.row 0 rfl) (by omega) hpg.2.2) rfl ?_
                    refine DL_gyes rfl rfl rfl (y_move rfl) rfl ?_
                    refine DL_gyes rfl rfl rfl (y_move rfl) rfl ?_
                    refine DL_gyes rfl rfl rfl (y_idx Try.underlying40 sz44 rfl rfl (S13.row 1 rfl) inferInstance (by omega)) rfl ?_
                    refine DL_gyes rfl rfl rfl (y_fieldR 2 Try.underlying44 rfl sz3 rfl rfl (S13.row 1 rfl) (by omega) rfl) rfl ?_
                    refine DL_gyes rfl rfl rfl (y_ldf Try.underlying3 rfl rfl (S13.row 1 rfl) (by omega) hpg.2.2) rfl ?_
                    refine DL_gyes rfl rfl rfl (y_neq rfl rfl) rfl ?_
                    refine DL_y rfl ((by first | exact y_pickT rfl rfl | exact y_pickF rfl rfl)) rfl ?_
                    refine DL_nil ?_
                    refine hK17 _ _ ?_
                    refine T_cond rfl (fun h82 => ?_) (fun h82 => ?_)
                    ·
                      exact absurd rfl h82
                    ·
                      refine T_skip ?_
                      refine hK16 _ _ ?_
                      refine T_region ?_
                      refine L_y (y_move rfl) rfl ?_
                      refine L_y (y_add rfl rfl (i64w (by omega))) rfl ?_
                      refine L_y (y_assign rfl) rfl ?_
                      refine L_nil ?_
                      refine ⟨k + 1, by omega, ⟨by omega, S13⟩, ?_⟩
                      exact (Sub.cons rfl (by first | rfl | exact congrArg (Value.int _) (by omega)) (Sub.cons rfl rfl (Sub.cons rfl rfl (Sub.nil _))))
              ·
                refine T_exit ?_
                refine hK12 _ _ ?_
                refine T_seq fun K18 hK18 => ?_
                refine T_region ?_
                refine L_o (o_call Try.func7 rfl rfl (works w12) rfl rfl ?_)
                rintro e14 w14 ⟨v14, rfl, l14, rfl⟩
                refine ⟨_, rfl, ?_⟩
                have S14 := S12.like l14
                refine L_y (y_assign rfl) rfl ?_
                refine L_nil ?_
                refine hK18 _ _ ?_
                refine T_ret ?_
                repeat (first | with_reducible refine up_then ?_ | with_reducible refine up_in ?_)
                refine ret1 rfl rfl ?_
                exact ⟨_, rfl, S14.like0, rfl⟩


theorem tables_law (A B : Option Addr) (n ca m cb : Nat) (ps qs : List Part) (t : Int) (w0 : World) (hps : Rs w0 1 A n ca (ps.map pv)) (hok : ∀ p ∈ ps, p.ok w0) (hqs : Rs w0 1 B m cb (qs.map pv)) (hqk : ∀ p ∈ qs, p.ok w0) :
    Calls Try.prog 6 #[.slice A n ca, .slice B m cb, .int .i64 t] w0 fun e w' => e = .returned (.bool true) ∧ Below w0.heap.size w0 w' :=
  (tables A B n ca m cb ps qs t w0 hps hok hqs hqk).mono fun e w' ⟨u, h1, h2, h3⟩ => by subst h3; exact ⟨h1, h2⟩
end Go.Proofs.Ytaknmlajhedfhaa
