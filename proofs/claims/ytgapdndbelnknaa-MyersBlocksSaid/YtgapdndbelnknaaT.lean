/-
  Hunks.
-/
import Derived.Test.YtgapdndbelnknaaS
namespace Go.Proofs.Ytgapdndbelnknaa
open Go.RowKit Zk Zx
set_option linter.unusedVariables false
set_option linter.unusedSimpArgs false

/-- What stands between the pairs. -/
structure HK where
  a : Int
  an : Int
  b : Int
  bn : Int
def hl (h : HK) : List Int := [h.a, h.an, h.b, h.bn]
def hf (h : HK) : List Value := iL (hl h)
def hunksF : Int → Int → List (Nat × Nat) → List HK
  | _, _, [] => []
  | i, k, p :: r => (if i < (p.1 : Int) ∨ k < (p.2 : Int) then [⟨i, (p.1 : Int) - i, k, (p.2 : Int) - k⟩] else []) ++ hunksF ((p.1 : Int) + 1) ((p.2 : Int) + 1) r
theorem hf_len (xs : List HK) : (xs.flatMap hf).length = xs.length * 4 := by
  induction xs with
  | nil => rfl
  | cons x xs ih => rw [List.flatMap_cons, List.length_append, ih, List.length_cons]; simp only [hf, hl, length_iL, List.length_cons, List.length_nil]; omega
theorem hf_one (xs : List HK) : ∀ u ∈ xs.flatMap hf, u.oneCell' = true := fun u hu => by
  obtain ⟨p, _, hp⟩ := List.mem_flatMap.1 hu
  exact iL_one _ u hp
theorem hf_n {w : World} {A : Option Addr} {n c : Nat} {xs : List HK} (h : Rs w 4 A n c (xs.flatMap hf)) : n = xs.length := by
  have := h.len
  rw [hf_len] at this
  omega
theorem drop_pair {l : List (Nat × Nat)} {i : Nat} {x : Nat × Nat} (h : l[i]? = some x) : l.drop i = x :: l.drop (i + 1) := by
  obtain ⟨h1, h2⟩ := List.getElem?_eq_some_iff.1 h
  rw [← h2]
  exact List.drop_eq_getElem_cons h1
theorem hunks_at {l : List (Nat × Nat)} {j : Nat} {p : Nat × Nat} (h : l[j]? = some p) (i k : Int) : hunksF i k (l.drop j) = (if i < (p.1 : Int) ∨ k < (p.2 : Int) then [⟨i, (p.1 : Int) - i, k, (p.2 : Int) - k⟩] else []) ++ hunksF ((p.1 : Int) + 1) ((p.2 : Int) + 1) (l.drop (j + 1)) := by
  rw [drop_pair h, hunksF]
theorem fieldsHunk : FieldsI Try.prog [{ name := "A", type := 3, offset := 0, embedded := false, tag := "", pkgPath := "", byteOffset := 0 }, { name := "An", type := 3, offset := 1, embedded := false, tag := "", pkgPath := "", byteOffset := 8 }, { name := "B", type := 3, offset := 2, embedded := false, tag := "", pkgPath := "", byteOffset := 16 }, { name := "Bn", type := 3, offset := 3, embedded := false, tag := "", pkgPath := "", byteOffset := 24 }] 0 :=
  ⟨by decide, rfl, Try.underlying3, by decide, rfl, Try.underlying3, by decide, rfl, Try.underlying3, by decide, rfl, Try.underlying3, trivial⟩


set_option maxRecDepth 100000 in
theorem rsameh (A B : Option Addr) (n c m d : Nat) (xs : List HK) (w0 : World) (hx : Rs w0 4 A n c (xs.flatMap hf)) (hy : Rs w0 4 B m d (xs.flatMap hf)) :
    Calls Try.prog 17 #[.slice A n c, .slice B m d] w0 fun e w' => ∃ u, e = .returned u ∧ Like w0 w' ∧ u = .bool true := by
  refine enter1 (env := [(0, .slice A n c), (1, .slice B m d)]) [.slice A n c, .slice B m d] Try.func17 rfl Try.ntmps17 rfl rfl ?_
  have hn := hf_n hx; have hm := hf_n hy; have hcap := hx.cap; have hmax := hx.max; have S0 := St.start w0 noM
  refine T_seq fun K1 hK1 => ?_
  refine T_region ?_
  refine L_y (y_assign rfl) rfl ?_
  refine L_nil ?_
  refine hK1 _ _ ?_
  refine T_seq fun K2 hK2 => ?_
  refine T_seq fun K3 hK3 => ?_
  refine T_region ?_
  refine L_y (y_move rfl) rfl ?_
  refine L_y (y_len Try.underlying38 rfl) rfl ?_
  refine L_y (y_move rfl) rfl ?_
  refine L_y (y_len Try.underlying38 rfl) rfl ?_
  refine L_y (y_neq rfl rfl) rfl ?_
  refine L_nil ?_
  refine hK3 _ _ ?_
  refine T_cond rfl (fun h10 => ?_) (fun h10 => ?_)
  ·
    exact absurd h10 (by omega)
  ·
    refine T_skip ?_
    refine hK2 _ _ ?_
    refine T_seq fun K4 hK4 => ?_
    refine T_seq fun K5 hK5 => ?_
    refine T_region ?_
    refine L_y (y_assign rfl) rfl ?_
    refine L_nil ?_
    refine hK5 _ _ ?_
    refine T_block ?_
    refine T_loop1 [(0, _), (1, _)] (fun (k : Nat) => [(5, .int .i64 (k : Int))]) (fun (k : Nat) => n - k) (fun (k : Nat) (w : World) => k ≤ n ∧ St w0 noM [] w) 0 (Sub.cons rfl (by first | rfl | exact congrArg (Value.int _) (by omega)) (Sub.nil _)) (Sub.cons rfl rfl (Sub.cons rfl rfl (Sub.nil _))) ?_ ?_
    ·
      exact ⟨Nat.zero_le _, S0⟩
    ·
      intro k w1 hrel
      obtain ⟨hk, S1⟩ := hrel
      refine T_seq fun K6 hK6 => ?_
      refine T_seq fun K7 hK7 => ?_
      refine T_region ?_
      refine L_y (y_move rfl) rfl ?_
      refine L_y (y_move rfl) rfl ?_
      refine L_y (y_len Try.underlying38 rfl) rfl ?_
      refine L_y (y_lss rfl rfl) rfl ?_
      refine L_nil ?_
      refine hK7 _ _ ?_
      refine T_cond rfl (fun h14 => ?_) (fun h14 => ?_)
      ·
        obtain ⟨p, hp⟩ : ∃ p, xs[k]? = some p := ⟨_, List.getElem?_eq_getElem (by omega)⟩
        refine T_skip ?_
        refine hK6 _ _ ?_
        refine T_seq fun K8 hK8 => ?_
        refine T_block ?_
        refine T_seq fun K9 hK9 => ?_
        refine T_drawnL [(0, true), (1, true), (2, true), (3, true), (4, true), (5, true), (6, true), (7, true), (8, true)] hmix (by kernel_rfl) fun w2 l2 => ?_
        have S2 := S1.like l2
        refine DL_y rfl (y_move rfl) rfl ?_
        refine DL_y rfl (y_move rfl) rfl ?_
        refine DL_y rfl (y_idx Try.underlying38 sz52 rfl rfl (S2.rd hx) inferInstance (by omega)) rfl ?_
        refine DL_y rfl (y_ldp (f := hf) (fun _ => rfl) Try.underlying52 rfl sz52 rfl (S2.rd hx) (by omega) hp) rfl ?_
        refine DL_y rfl (y_move rfl) rfl ?_
        refine DL_y rfl (y_move rfl) rfl ?_
        refine DL_y rfl (y_idx Try.underlying38 sz52 rfl rfl (S2.rd hy) inferInstance (by omega)) rfl ?_
        refine DL_y rfl (y_ldp (f := hf) (fun _ => rfl) Try.underlying52 rfl sz52 rfl (S2.rd hy) (by omega) hp) rfl ?_
        refine DL_y rfl (y_neI (xs := hl p) (ys := hl p) Try.underlying52 (by kernel_rfl) (by kernel_rfl) fieldsHunk rfl rfl rfl rfl) rfl ?_
        refine DL_nil ?_
        refine hK9 _ _ ?_
        refine T_cond rfl (fun h25 => ?_) (fun h25 => ?_)
        ·
          exact absurd rfl h25
        ·
          refine T_skip ?_
          refine hK8 _ _ ?_
          refine T_region ?_
          refine L_y (y_move rfl) rfl ?_
          refine L_y (y_add rfl rfl (i64w (by omega))) rfl ?_
          refine L_y (y_assign rfl) rfl ?_
          refine L_nil ?_
          refine ⟨k + 1, by omega, ⟨by omega, S2⟩, ?_⟩
          exact (Sub.cons rfl (by first | rfl | exact congrArg (Value.int _) (by omega)) (Sub.cons rfl rfl (Sub.cons rfl rfl (Sub.nil _))))
      ·
        refine T_exit ?_
        refine hK4 _ _ ?_
        refine T_seq fun K10 hK10 => ?_
        refine T_region ?_
        refine L_y (y_assign rfl) rfl ?_
        refine L_nil ?_
        refine hK10 _ _ ?_
        refine T_ret ?_
        repeat (first | with_reducible refine up_then ?_ | with_reducible refine up_in ?_)
        refine ret1 rfl rfl ?_
        exact ⟨_, rfl, S1.like0, rfl⟩


set_option maxRecDepth 100000 in
theorem rhunks (n m : Nat) (A : Option Addr) (t c : Nat) (xs : List (Nat × Nat)) (w0 : World) (hx : Rs w0 2 A t c (xs.flatMap pf)) (hn : n ≤ 4096) (hm : m ≤ 4096) (ht4 : t ≤ 4096) (hbd : ∀ p ∈ xs ++ [(n, m)], p.1 ≤ 4096 ∧ p.2 ≤ 4096) :
    Calls Try.prog 18 #[.int .i64 (n : Int), .int .i64 (m : Int), .slice A t c] w0 fun e w' => ∃ u, e = .returned u ∧ Like w0 w' ∧ ∃ A c q, u = .slice A q c ∧ w'.ownsRow w0.heap.size 52 4 (.slice A q c) q ((hunksF 0 0 (xs ++ [(n, m)])).flatMap hf) := by
  refine enter1 (env := [(0, .int .i64 (n : Int)), (1, .int .i64 (m : Int)), (2, .slice A t c)]) [.int .i64 (n : Int), .int .i64 (m : Int), .slice A t c] Try.func18 rfl Try.ntmps18 rfl rfl ?_
  have ht := pf_n hx; have hcap := hx.cap; have hmax := hx.max; have S0 := St.start w0 noM
  refine T_seq fun K1 hK1 => ?_
  refine T_region ?_
  refine L_y (y_assign rfl) rfl ?_
  refine L_nil ?_
  refine hK1 _ _ ?_
  refine T_seq fun K2 hK2 => ?_
  refine T_region ?_
  have S1 := S0.nilrow 36 2
  refine L_y (y_assign rfl) rfl ?_
  refine L_nil ?_
  refine hK2 _ _ ?_
  refine T_seq fun K3 hK3 => ?_
  refine T_region ?_
  refine L_y (y_move rfl) rfl ?_
  refine L_y (y_move rfl) rfl ?_
  refine L_o (o_app te25 S1 0 rfl rfl rfl (S1.rd hx) (pf_one xs) rfl (by omega) (by omega) fun A2 c2 w2 S2 => ?_)
  refine L_y (y_assign rfl) rfl ?_
  refine L_nil ?_
  refine hK3 _ _ ?_
  refine T_seq fun K4 hK4 => ?_
  refine T_region ?_
  refine L_y (y_move rfl) rfl ?_
  refine L_y (y_move rfl) rfl ?_
  refine L_y (y_move rfl) rfl ?_
  refine L_y (y_build rfl (show _ = some #[Value.int .i64 (n : Int), Value.int .i64 (m : Int)] by kernel_rfl)) rfl ?_
  refine L_o (o_bsl [_, _] te25 zz36 S2 rfl rfl rfl rfl rfl rfl rfl rfl fun b3 w3 S3 => ?_)
  refine L_o (o_app te25 S3 0 rfl rfl rfl (by first | exact S3.row 0 rfl | exact S3.row 1 rfl) (fun u hu => pf_one [(n, m)] u hu) rfl (by omega) (by omega) fun A4 c4 w4 S4 => ?_)
  have S4d := S4.drop (rs' := [_]) (.cons_cons _ (.cons _ (.refl _)))
  refine L_y (y_assign rfl) rfl ?_
  refine L_nil ?_
  refine hK4 _ _ ?_
  refine T_seq fun K5 hK5 => ?_
  have S80 := S4d.rowc 0 rfl (n' := 0 + t + 1) (xs' := (xs ++ [(n, m)]).flatMap pf) rfl (by rw [List.flatMap_append]; rfl)
  have hpn : (xs ++ [(n, m)]).length = t + 1 := by rw [List.length_append]; simp only [List.length_cons, List.length_nil]; omega
  refine T_region ?_
  have S5 := S80.nilrow 52 4
  refine L_y (y_assign rfl) rfl ?_
  refine L_nil ?_
  refine hK5 _ _ ?_
  refine T_seq fun K6 hK6 => ?_
  refine T_region ?_
  refine L_y (y_assign rfl) rfl ?_
  refine L_y (y_assign rfl) rfl ?_
  refine L_nil ?_
  refine hK6 _ _ ?_
  refine T_seq fun K7 hK7 => ?_
  refine T_seq fun K8 hK8 => ?_
  refine T_region ?_
  refine L_y (y_assign rfl) rfl ?_
  refine L_nil ?_
  refine hK8 _ _ ?_
  refine T_block ?_
  refine T_loop6 [(7, _)] (fun (k : Nat) (a : Int) (b : Int) (A1 : Option Addr) (c1 : Nat) (hs : List HK) => [(8, .slice A1 hs.length c1), (9, .int .i64 a), (10, .int .i64 b), (11, .int .i64 (k : Int))]) (fun (k : Nat) (a : Int) (b : Int) (A1 : Option Addr) (c1 : Nat) (hs : List HK) => 0 + t + 1 - k) (fun (k : Nat) (a : Int) (b : Int) (A1 : Option Addr) (c1 : Nat) (hs : List HK) (w : World) => (k ≤ 0 + t + 1 ∧ 0 ≤ a ∧ a ≤ 4097 ∧ 0 ≤ b ∧ b ≤ 4097 ∧ hs.length ≤ k ∧ hs ++ hunksF a b ((xs ++ [(n, m)]).drop k) = hunksF 0 0 (xs ++ [(n, m)])) ∧ St w0 noM [row 36 2 A4 (0 + t + 1) c4 ((xs ++ [(n, m)]).flatMap pf), row 52 4 A1 hs.length c1 (hs.flatMap hf)] w) 0 0 0 none 0 [] (Sub.cons rfl (by first | rfl | exact congrArg (Value.int _) (by omega)) (Sub.cons rfl (by first | rfl | exact congrArg (Value.int _) (by omega)) (Sub.cons rfl (by first | rfl | exact congrArg (Value.int _) (by omega)) (Sub.cons rfl (by first | rfl | exact congrArg (Value.int _) (by omega)) (Sub.nil _))))) (Sub.cons rfl rfl (Sub.nil _)) ?_ ?_
  ·
    exact ⟨⟨Nat.zero_le _, by omega, by omega, by omega, by omega, Nat.le_refl _, rfl⟩, S5⟩
  ·
    intro k a b A1 c1 hs w6 hrel
    obtain ⟨⟨hk, ha0, ha1, hb0, hb1, hhl, hhs⟩, S6⟩ := hrel
    refine T_seq fun K9 hK9 => ?_
    refine T_seq fun K10 hK10 => ?_
    refine T_region ?_
    refine L_y (y_move rfl) rfl ?_
    refine L_y (y_move rfl) rfl ?_
    refine L_y (y_len Try.underlying25 rfl) rfl ?_
    refine L_y (y_lss rfl rfl) rfl ?_
    refine L_nil ?_
    refine hK10 _ _ ?_
    refine T_cond rfl (fun h24 => ?_) (fun h24 => ?_)
    ·
      obtain ⟨p, hp⟩ : ∃ p, (xs ++ [(n, m)])[k]? = some p := ⟨_, List.getElem?_eq_getElem (by omega)⟩
      have hpg := pf_get (xs ++ [(n, m)]) k p hp
      obtain ⟨hp1, hp2⟩ := hbd p (List.mem_of_getElem? hp)
      refine T_skip ?_
      refine hK9 _ _ ?_
      refine T_seq fun K11 hK11 => ?_
      refine T_block ?_
      refine T_seq fun K12 hK12 => ?_
      refine T_seq fun K13 hK13 => ?_
      refine T_region ?_
      refine L_y (y_move rfl) rfl ?_
      refine L_y (y_move rfl) rfl ?_
      refine L_y (y_idx Try.underlying25 sz36 rfl rfl (S6.row 0 rfl) inferInstance (by omega)) rfl ?_
      refine L_y (y_fieldR 0 Try.underlying36 rfl sz3 rfl rfl (S6.row 0 rfl) (by omega) rfl) rfl ?_
      refine L_y (y_ldf Try.underlying3 rfl rfl (S6.row 0 rfl) (by omega) hpg.1) rfl ?_
      refine L_y (y_move rfl) rfl ?_
      refine L_y (y_gtr rfl rfl) rfl ?_
      refine L_y (y_move rfl) rfl ?_
      refine L_split 34 rfl (fun h34 => ?_) (fun h34 => ?_)
      ·
        refine L_gno rfl rfl rfl ?_
        refine L_gno rfl rfl rfl ?_
        refine L_gno rfl rfl rfl ?_
        refine L_gno rfl rfl rfl ?_
        refine L_gno rfl rfl rfl ?_
        refine L_gno rfl rfl rfl ?_
        refine L_gno rfl rfl rfl ?_
        refine L_y ((by first | exact y_pickT rfl rfl | exact y_pickF rfl rfl)) rfl ?_
        refine L_nil ?_
        refine hK13 _ _ ?_
        refine T_true rfl ?_
        refine T_zed [0, 1, 2, 3, 4, 5, 6, 7, 8, 9, 10, 11, 12, 13, 14, 15, 16, 17, 18] 19 [(0, 1), (1, 1), (2, 1), (3, 1), (4, 1), (5, 1), (6, 1), (7, 1), (8, 1), (9, 1), (10, 1), (11, 1), (12, 1), (13, 1), (14, 1), (15, 1), (16, 1), (17, 1), (18, 2), (19, 3), (20, 3)] hmix (by kernel_rfl) fun w8 l8 => ?_
        have S8 := S6.like l8
        refine ZA_B (Like w8) (Like.refl _) ?_
        refine ZB_y rfl (y_move rfl) rfl ?_
        refine ZB_y rfl (y_move rfl) rfl ?_
        refine ZB_y rfl (y_move rfl) rfl ?_
        refine ZB_y rfl (y_move rfl) rfl ?_
        refine ZB_y rfl (y_idx Try.underlying25 sz36 rfl rfl (S8.row 0 rfl) inferInstance (by omega)) rfl ?_
        refine ZB_y rfl (y_fieldR 0 Try.underlying36 rfl sz3 rfl rfl (S8.row 0 rfl) (by omega) rfl) rfl ?_
        refine ZB_y rfl (y_ldf Try.underlying3 rfl rfl (S8.row 0 rfl) (by omega) hpg.1) rfl ?_
        refine ZB_y rfl (y_move rfl) rfl ?_
        refine ZB_y rfl (y_sub rfl rfl (i64w (by omega))) rfl ?_
        refine ZB_y rfl (y_move rfl) rfl ?_
        refine ZB_y rfl (y_move rfl) rfl ?_
        refine ZB_y rfl (y_move rfl) rfl ?_
        refine ZB_y rfl (y_idx Try.underlying25 sz36 rfl rfl (S8.row 0 rfl) inferInstance (by omega)) rfl ?_
        refine ZB_y rfl (y_fieldR 1 Try.underlying36 rfl sz3 rfl rfl (S8.row 0 rfl) (by omega) rfl) rfl ?_
        refine ZB_y rfl (y_ldf Try.underlying3 rfl rfl (S8.row 0 rfl) (by omega) hpg.2) rfl ?_
        refine ZB_y rfl (y_move rfl) rfl ?_
        refine ZB_y rfl (y_sub rfl rfl (i64w (by omega))) rfl ?_
        refine ZB_y rfl (y_build rfl (show _ = some #[Value.int .i64 a, Value.int .i64 ((p.1 : Int) - a), Value.int .i64 b, Value.int .i64 ((p.2 : Int) - b)] by kernel_rfl)) rfl ?_
        refine ZB_o rfl (o_bslL [_, _, _, _] te38 zz52 S8 rfl rfl rfl rfl rfl rfl rfl rfl fun b9 w9 l9 S9 => ?_)
        have q9 := l9
        refine ⟨q9, ?_⟩
        refine ZB_c rfl (o_app te38 S9 1 rfl rfl rfl (by first | exact S9.row 0 rfl | exact S9.row 1 rfl | exact S9.row 2 rfl) (fun u hu => hf_one [⟨a, (p.1 : Int) - a, b, (p.2 : Int) - b⟩] u hu) rfl (by omega) (by omega) fun A10 c10 w10 S10 => ?_)
        have S10d := S10.drop (rs' := [_, _]) (.cons_cons _ (.cons_cons _ (.cons _ (.refl _))))
        refine ZA_oy rfl (y_assign rfl) rfl ?_
        refine ZA_nil ?_
        refine hK12 _ _ ?_
        refine T_seq fun K14 hK14 => ?_
        refine T_region ?_
        refine L_y (y_move rfl) rfl ?_
        refine L_y (y_move rfl) rfl ?_
        refine L_y (y_idx Try.underlying25 sz36 rfl rfl (S10d.row 0 rfl) inferInstance (by omega)) rfl ?_
        refine L_y (y_fieldR 0 Try.underlying36 rfl sz3 rfl rfl (S10d.row 0 rfl) (by omega) rfl) rfl ?_
        refine L_y (y_ldf Try.underlying3 rfl rfl (S10d.row 0 rfl) (by omega) hpg.1) rfl ?_
        refine L_y (y_add rfl rfl (i64w (by omega))) rfl ?_
        refine L_y (y_assign rfl) rfl ?_
        refine L_nil ?_
        refine hK14 _ _ ?_
        refine T_region ?_
        refine L_y (y_move rfl) rfl ?_
        refine L_y (y_move rfl) rfl ?_
        refine L_y (y_idx Try.underlying25 sz36 rfl rfl (S10d.row 0 rfl) inferInstance (by omega)) rfl ?_
        refine L_y (y_fieldR 1 Try.underlying36 rfl sz3 rfl rfl (S10d.row 0 rfl) (by omega) rfl) rfl ?_
        refine L_y (y_ldf Try.underlying3 rfl rfl (S10d.row 0 rfl) (by omega) hpg.2) rfl ?_
        refine L_y (y_add rfl rfl (i64w (by omega))) rfl ?_
        refine L_y (y_assign rfl) rfl ?_
        refine L_nil ?_
        refine hK11 _ _ ?_
        refine T_region ?_
        refine L_y (y_move rfl) rfl ?_
        refine L_y (y_add rfl rfl (i64w (by omega))) rfl ?_
        refine L_y (y_assign rfl) rfl ?_
        refine L_nil ?_
        have hat := hunks_at hp a b
        rw [if_pos (by omega)] at hat
        have S91 := S10d.rowc 1 rfl (n' := (hs ++ [⟨a, (p.1 : Int) - a, b, (p.2 : Int) - b⟩] : List HK).length) (xs' := (hs ++ [⟨a, (p.1 : Int) - a, b, (p.2 : Int) - b⟩] : List HK).flatMap hf) (by simp) (by rw [List.flatMap_append])
        refine ⟨k + 1, (p.1 : Int) + 1, (p.2 : Int) + 1, _, _, hs ++ [(⟨a, (p.1 : Int) - a, b, (p.2 : Int) - b⟩ : HK)], by omega, ⟨⟨by omega, by omega, by omega, by omega, by omega, by rw [List.length_append]; simp only [List.length_cons, List.length_nil]; omega, by rw [← hhs, hat, List.append_assoc]⟩, S91⟩, ?_⟩
        exact (Sub.cons rfl (by first | rfl | (rw [List.length_append]; rfl)) (Sub.cons rfl (by first | rfl | exact congrArg (Value.int _) (by omega)) (Sub.cons rfl (by first | rfl | exact congrArg (Value.int _) (by omega)) (Sub.cons rfl (by first | rfl | exact congrArg (Value.int _) (by omega)) (Sub.cons rfl rfl (Sub.nil _))))))
      ·
        refine L_gyes rfl rfl ?_
        refine L_y (y_move rfl) rfl ?_
        refine L_gyes rfl rfl ?_
        refine L_y (y_move rfl) rfl ?_
        refine L_gyes rfl rfl ?_
        refine L_y (y_idx Try.underlying25 sz36 rfl rfl (S6.row 0 rfl) inferInstance (by omega)) rfl ?_
        refine L_gyes rfl rfl ?_
        refine L_y (y_fieldR 1 Try.underlying36 rfl sz3 rfl rfl (S6.row 0 rfl) (by omega) rfl) rfl ?_
        refine L_gyes rfl rfl ?_
        refine L_y (y_ldf Try.underlying3 rfl rfl (S6.row 0 rfl) (by omega) hpg.2) rfl ?_
        refine L_gyes rfl rfl ?_
        refine L_y (y_move rfl) rfl ?_
        refine L_gyes rfl rfl ?_
        refine L_y (y_gtr rfl rfl) rfl ?_
        refine L_y ((by first | exact y_pickT rfl rfl | exact y_pickF rfl rfl)) rfl ?_
        refine L_nil ?_
        refine hK13 _ _ ?_
        refine T_cond rfl (fun h42 => ?_) (fun h42 => ?_)
        ·
          refine T_zed [0, 1, 2, 3, 4, 5, 6, 7, 8, 9, 10, 11, 12, 13, 14, 15, 16, 17, 18] 19 [(0, 1), (1, 1), (2, 1), (3, 1), (4, 1), (5, 1), (6, 1), (7, 1), (8, 1), (9, 1), (10, 1), (11, 1), (12, 1), (13, 1), (14, 1), (15, 1), (16, 1), (17, 1), (18, 2), (19, 3), (20, 3)] hmix (by kernel_rfl) fun w11 l11 => ?_
          have S11 := S6.like l11
          refine ZA_B (Like w11) (Like.refl _) ?_
          refine ZB_y rfl (y_move rfl) rfl ?_
          refine ZB_y rfl (y_move rfl) rfl ?_
          refine ZB_y rfl (y_move rfl) rfl ?_
          refine ZB_y rfl (y_move rfl) rfl ?_
          refine ZB_y rfl (y_idx Try.underlying25 sz36 rfl rfl (S11.row 0 rfl) inferInstance (by omega)) rfl ?_
          refine ZB_y rfl (y_fieldR 0 Try.underlying36 rfl sz3 rfl rfl (S11.row 0 rfl) (by omega) rfl) rfl ?_
          refine ZB_y rfl (y_ldf Try.underlying3 rfl rfl (S11.row 0 rfl) (by omega) hpg.1) rfl ?_
          refine ZB_y rfl (y_move rfl) rfl ?_
          refine ZB_y rfl (y_sub rfl rfl (i64w (by omega))) rfl ?_
          refine ZB_y rfl (y_move rfl) rfl ?_
          refine ZB_y rfl (y_move rfl) rfl ?_
          refine ZB_y rfl (y_move rfl) rfl ?_
          refine ZB_y rfl (y_idx Try.underlying25 sz36 rfl rfl (S11.row 0 rfl) inferInstance (by omega)) rfl ?_
          refine ZB_y rfl (y_fieldR 1 Try.underlying36 rfl sz3 rfl rfl (S11.row 0 rfl) (by omega) rfl) rfl ?_
          refine ZB_y rfl (y_ldf Try.underlying3 rfl rfl (S11.row 0 rfl) (by omega) hpg.2) rfl ?_
          refine ZB_y rfl (y_move rfl) rfl ?_
          refine ZB_y rfl (y_sub rfl rfl (i64w (by omega))) rfl ?_
          refine ZB_y rfl (y_build rfl (show _ = some #[Value.int .i64 a, Value.int .i64 ((p.1 : Int) - a), Value.int .i64 b, Value.int .i64 ((p.2 : Int) - b)] by kernel_rfl)) rfl ?_
          refine ZB_o rfl (o_bslL [_, _, _, _] te38 zz52 S11 rfl rfl rfl rfl rfl rfl rfl rfl fun b12 w12 l12 S12 => ?_)
          have q12 := l12
          refine ⟨q12, ?_⟩
          refine ZB_c rfl (o_app te38 S12 1 rfl rfl rfl (by first | exact S12.row 0 rfl | exact S12.row 1 rfl | exact S12.row 2 rfl) (fun u hu => hf_one [⟨a, (p.1 : Int) - a, b, (p.2 : Int) - b⟩] u hu) rfl (by omega) (by omega) fun A13 c13 w13 S13 => ?_)
          have S13d := S13.drop (rs' := [_, _]) (.cons_cons _ (.cons_cons _ (.cons _ (.refl _))))
          refine ZA_oy rfl (y_assign rfl) rfl ?_
          refine ZA_nil ?_
          refine hK12 _ _ ?_
          refine T_seq fun K15 hK15 => ?_
          refine T_region ?_
          refine L_y (y_move rfl) rfl ?_
          refine L_y (y_move rfl) rfl ?_
          refine L_y (y_idx Try.underlying25 sz36 rfl rfl (S13d.row 0 rfl) inferInstance (by omega)) rfl ?_
          refine L_y (y_fieldR 0 Try.underlying36 rfl sz3 rfl rfl (S13d.row 0 rfl) (by omega) rfl) rfl ?_
          refine L_y (y_ldf Try.underlying3 rfl rfl (S13d.row 0 rfl) (by omega) hpg.1) rfl ?_
          refine L_y (y_add rfl rfl (i64w (by omega))) rfl ?_
          refine L_y (y_assign rfl) rfl ?_
          refine L_nil ?_
          refine hK15 _ _ ?_
          refine T_region ?_
          refine L_y (y_move rfl) rfl ?_
          refine L_y (y_move rfl) rfl ?_
          refine L_y (y_idx Try.underlying25 sz36 rfl rfl (S13d.row 0 rfl) inferInstance (by omega)) rfl ?_
          refine L_y (y_fieldR 1 Try.underlying36 rfl sz3 rfl rfl (S13d.row 0 rfl) (by omega) rfl) rfl ?_
          refine L_y (y_ldf Try.underlying3 rfl rfl (S13d.row 0 rfl) (by omega) hpg.2) rfl ?_
          refine L_y (y_add rfl rfl (i64w (by omega))) rfl ?_
          refine L_y (y_assign rfl) rfl ?_
          refine L_nil ?_
          refine hK11 _ _ ?_
          refine T_region ?_
          refine L_y (y_move rfl) rfl ?_
          refine L_y (y_add rfl rfl (i64w (by omega))) rfl ?_
          refine L_y (y_assign rfl) rfl ?_
          refine L_nil ?_
          have hat := hunks_at hp a b
          rw [if_pos (by omega)] at hat
          have S91 := S13d.rowc 1 rfl (n' := (hs ++ [⟨a, (p.1 : Int) - a, b, (p.2 : Int) - b⟩] : List HK).length) (xs' := (hs ++ [⟨a, (p.1 : Int) - a, b, (p.2 : Int) - b⟩] : List HK).flatMap hf) (by simp) (by rw [List.flatMap_append])
          refine ⟨k + 1, (p.1 : Int) + 1, (p.2 : Int) + 1, _, _, hs ++ [(⟨a, (p.1 : Int) - a, b, (p.2 : Int) - b⟩ : HK)], by omega, ⟨⟨by omega, by omega, by omega, by omega, by omega, by rw [List.length_append]; simp only [List.length_cons, List.length_nil]; omega, by rw [← hhs, hat, List.append_assoc]⟩, S91⟩, ?_⟩
          exact (Sub.cons rfl (by first | rfl | (rw [List.length_append]; rfl)) (Sub.cons rfl (by first | rfl | exact congrArg (Value.int _) (by omega)) (Sub.cons rfl (by first | rfl | exact congrArg (Value.int _) (by omega)) (Sub.cons rfl (by first | rfl | exact congrArg (Value.int _) (by omega)) (Sub.cons rfl rfl (Sub.nil _))))))
        ·
          refine T_skip ?_
          refine hK12 _ _ ?_
          refine T_seq fun K16 hK16 => ?_
          refine T_region ?_
          refine L_y (y_move rfl) rfl ?_
          refine L_y (y_move rfl) rfl ?_
          refine L_y (y_idx Try.underlying25 sz36 rfl rfl (S6.row 0 rfl) inferInstance (by omega)) rfl ?_
          refine L_y (y_fieldR 0 Try.underlying36 rfl sz3 rfl rfl (S6.row 0 rfl) (by omega) rfl) rfl ?_
          refine L_y (y_ldf Try.underlying3 rfl rfl (S6.row 0 rfl) (by omega) hpg.1) rfl ?_
          refine L_y (y_add rfl rfl (i64w (by omega))) rfl ?_
          refine L_y (y_assign rfl) rfl ?_
          refine L_nil ?_
          refine hK16 _ _ ?_
          refine T_region ?_
          refine L_y (y_move rfl) rfl ?_
          refine L_y (y_move rfl) rfl ?_
          refine L_y (y_idx Try.underlying25 sz36 rfl rfl (S6.row 0 rfl) inferInstance (by omega)) rfl ?_
          refine L_y (y_fieldR 1 Try.underlying36 rfl sz3 rfl rfl (S6.row 0 rfl) (by omega) rfl) rfl ?_
          refine L_y (y_ldf Try.underlying3 rfl rfl (S6.row 0 rfl) (by omega) hpg.2) rfl ?_
          refine L_y (y_add rfl rfl (i64w (by omega))) rfl ?_
          refine L_y (y_assign rfl) rfl ?_
          refine L_nil ?_
          refine hK11 _ _ ?_
          refine T_region ?_
          refine L_y (y_move rfl) rfl ?_
          refine L_y (y_add rfl rfl (i64w (by omega))) rfl ?_
          refine L_y (y_assign rfl) rfl ?_
          refine L_nil ?_
          have hat := hunks_at hp a b
          rw [if_neg (by omega), List.nil_append] at hat
          refine ⟨k + 1, (p.1 : Int) + 1, (p.2 : Int) + 1, A1, c1, hs, by omega, ⟨⟨by omega, by omega, by omega, by omega, by omega, by omega, by rw [← hhs, hat]⟩, S6⟩, ?_⟩
          exact (Sub.cons rfl (by first | rfl | (rw [List.length_append]; rfl)) (Sub.cons rfl (by first | rfl | exact congrArg (Value.int _) (by omega)) (Sub.cons rfl (by first | rfl | exact congrArg (Value.int _) (by omega)) (Sub.cons rfl (by first | rfl | exact congrArg (Value.int _) (by omega)) (Sub.cons rfl rfl (Sub.nil _))))))
    ·
      refine T_exit ?_
      refine hK7 _ _ ?_
      refine T_seq fun K17 hK17 => ?_
      refine T_region ?_
      refine L_y (y_move rfl) rfl ?_
      refine L_y (y_assign rfl) rfl ?_
      refine L_nil ?_
      refine hK17 _ _ ?_
      refine T_ret ?_
      repeat (first | with_reducible refine up_then ?_ | with_reducible refine up_in ?_)
      refine ret1 rfl rfl ?_
      have he : hs = hunksF 0 0 (xs ++ [(n, m)]) := by rw [← hhs, List.drop_eq_nil_of_le (by omega), hunksF, List.append_nil]
      exact ⟨_, rfl, S6.like0, _, _, _, rfl, by rw [← he]; exact S6.own 1 rfl⟩
end Go.Proofs.Ytgapdndbelnknaa
